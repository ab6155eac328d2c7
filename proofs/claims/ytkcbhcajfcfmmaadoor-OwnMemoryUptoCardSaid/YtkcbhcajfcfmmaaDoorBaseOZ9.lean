/- What the laws OwnMemory need, part 9. -/
import Derived.Test.YtkcbhcajfcfmmaaDoorBaseOZ1
import Derived.Test.YtkcbhcajfcfmmaaDoorBaseOZ2
import Derived.Test.YtkcbhcajfcfmmaaDoorBaseOZ4
import Derived.Test.YtkcbhcajfcfmmaaDoorBaseOZ8
import Derived.Test.YtkcbhcajfcfmmaaDoorProg
import Derived.Test.YtkcbhcajfcfmmaaDoorRows
import Derived.Laws.Bits64b
namespace Go.Proofs.YtkcbhcajfcfmmaaDoor
attribute [local irreducible] Region.wanted
set_option linter.unusedVariables false
set_option maxRecDepth 100000
set_option maxHeartbeats 8000000
def A6(c:List Int)(n:Nat):List Int:=((List.range n).filter fun s=>decide (0<AF c s)).map fun (s:Nat)=>(s:Int)
def I5(c:List Int)(s:Int):Int:=if s= -1 then 0 else AF c s.toNat
theorem Ap(c:List Int)(n:Nat)(s:Int):s∈A6 c n↔0≤s∧s<n∧0<AF c s.toNat:=by
 unfold A6
 simp only [List.mem_map,List.mem_filter,List.mem_range,decide_eq_true_eq]
 constructor
 ·rintro ⟨a,⟨h1,h2⟩,rfl⟩;exact ⟨by omega,by omega,by simpa using h2⟩
 intro ⟨h1,h2,h3⟩;exact ⟨s.toNat,⟨by omega,h3⟩,by omega⟩
theorem Et(c:List Int)(n:Nat):(A6 c n).Nodup:=by
 unfold A6
 rw [List.nodup_iff_pairwise_ne,List.pairwise_map]
 refine List.Pairwise.imp ?_ (List.Pairwise.filter _ List.nodup_range)
 intro a b h e
 exact h (by omega)
theorem Kt(c:List Int)(n:Nat):D0 (EK c n) (-1::A6 c n):=by
 refine ⟨?_,List.nodup_cons.2 ⟨fun h=>by have:=(Ap c n _).1 h;omega,Et c n⟩⟩
 unfold EK A6
 simp [List.map_map,Function.comp_def]
theorem Ng(c:List Int)(n:Nat):∀x∈EK c n,x.1=isum (I5 c) x.2:=by
 intro x hx
 rcases List.mem_cons.1 hx with rfl|hx
 ·simp [isum,I5]
 obtain ⟨s,_,rfl⟩:=List.mem_map.1 hx
 simp only [isum,List.map_cons,List.map_nil,List.sum_cons,List.sum_nil,I5]
 rw [if_neg (by omega)];simp
theorem GK(c:Nat→Nat):∀k,k≤16→nx c k*2^(16-k)=sm (fun i=>c i*2^(15-i)) k
 | 0,_=>by simp [nx,sm]
 | k+1,h=>by
   have ih:=GK c k (by omega)
   rw [sm,←ih,nx,Nat.add_mul,show 16-k=(16-(k+1))+1 by omega,show 16-(k+1)=15-k by omega,Nat.pow_succ]
   rw [Nat.mul_comm 2 (nx c k),Nat.mul_assoc,Nat.mul_comm 2 (2^(15-k))]
theorem GT(a b:Nat→Nat):∀k,sm (fun i=>a i+b i) k=sm a k+sm b k
 | 0=>rfl
 | k+1=>by simp only [sm];rw [GT a b k];omega
theorem C0{a b:Nat→Nat}:∀k,(∀i,i<k→a i=b i)→sm a k=sm b k
 | 0,_=>rfl
 | k+1,h=>by simp only [sm];rw [C0 k fun i hi=>h i (by omega),h k (by omega)]
def DX(l:Nat):Nat:=if 1≤l then 2^(16-l) else 0
theorem LZ(l:Nat)(h:l≤16):sm (fun i=>(if l=i+1 then 1 else 0)*2^(15-i)) 16=DX l:=by
 have:∀l,l<17→sm (fun i=>(if l=i+1 then 1 else 0)*2^(15-i)) 16=DX l:=by decide
 exact this l (by omega)
theorem Hh(f:Int→Nat)(hf:∀s,f s≤16):∀n,sm (fun i=>(A5 f n (i+1)).length*2^(15-i)) 16=AT (fun s:Nat=>DX (f (s:Int))) (List.range n)
 | 0=>by simp [A5,AT];decide
 | n+1=>by
   rw [List.range_succ,Ck,←Hh f hf n]
   have:AT (fun s:Nat=>DX (f (s:Int))) [n]=DX (f (n:Int)):=by simp [AT]
   rw [this,←LZ _ (hf _),←GT]
   refine C0 16 fun i hi=>?_
   rw [DT,←Nat.add_mul]
   by_cases h:f (n:Int)=i+1
   ·rw [if_pos h,if_pos h,List.length_append];rfl
   rw [if_neg h,if_neg h];rfl
theorem Df{α β:Type}(g:α→β)(f:β→Nat)(l:List α):AT f (l.map g)=AT (fun x=>f (g x)) l:=by
 unfold AT;rw [List.map_map];rfl
theorem KV{α β:Type}(g:α→β)(f:β→Int)(l:List α):isum f (l.map g)=isum (fun x=>f (g x)) l:=by
 unfold isum;rw [List.map_map];rfl
theorem G5{α:Type}(p:α→Bool)(f:α→Nat)(l:List α)(h:∀x∈l,p x=false→f x=0):AT f (l.filter p)=AT f l:=by
 induction l with
 | nil=>rfl
 | cons x l ih=>
   have ih:=ih fun y hy=>h y (by simp [hy])
   rw [List.filter_cons]
   by_cases hp:p x=true
   ·rw [if_pos hp,AV,AV,ih]
   rw [if_neg hp,AV,ih,h x (by simp) (by simpa using hp),Nat.zero_add]
theorem G0{α:Type}(p:α→Bool)(f:α→Int)(l:List α)(h:∀x∈l,p x=false→f x=0):isum f (l.filter p)=isum f l:=by
 induction l with
 | nil=>rfl
 | cons x l ih=>
   have ih:=ih fun y hy=>h y (by simp [hy])
   rw [List.filter_cons]
   by_cases hp:p x=true
   ·rw [if_pos hp,A8,A8,ih]
   rw [if_neg hp,A8,ih,h x (by simp) (by simpa using hp),Int.zero_add]
def Cj(c:List Int)(n:Nat)(l:Int→Nat):Int:=isum (fun s:Nat=>AF c s*(l (s:Int):Nat)) (List.range n)
structure Fa(c:List Int)(n:Nat)(l:Int→Nat):Prop where
 top:∀s∈A6 c n,1≤l s∧l s≤16
 kraft:AT (fun s=>2^(16-l s)) (A6 c n)<2^16
theorem Ff(c:List Int)(n:Nat)(l:Int→Nat)(h0:∀i,i<n→0≤AF c i):isum (fun s=>I5 c s*(l s:Nat)) (A6 c n)=Cj c n l:=by
 unfold A6 Cj
 rw [KV,Bw _ (fun s:Nat=>AF c s*(l (s:Int):Nat)) _ fun s _=>?_]
 ·refine G0 _ _ _ fun x hx hp=>?_
  have:=h0 x (List.mem_range.1 hx)
  have h1:¬0<AF c x:=by simpa using hp
  rw [show AF c x=0 by omega,Int.zero_mul]
 unfold I5;rw [if_neg (by omega)];simp
theorem Kb{c:List Int}{n:Nat}{R:List Pk}(hn:n≤256)(h0:∀i,i<n→0≤AF c i)(hR:BK (EK c n) 16 R)(f:Int→Nat)(hf:f=By (R.take (2*(EK c n).length-2))):
 (∀s,f s≤16)∧(∀s,s∉A6 c n→0≤s→f s=0)∧Fa c n f∧(∀l,Fa c n l→Cj c n f≤Cj c n l)∧(∀a b,a∈A6 c n→b∈A6 c n→AF c b.toNat<AF c a.toNat→f a≤f b):=by
 have hS:=Kt c n
 have hlen:=hS.len
 have hpl:(A6 c n).length≤n:=by
  unfold A6
  have:=List.length_filter_le (fun s=>decide (0<AF c s)) (List.range n)
  simp at this⊢;exact this
 have hw0:∀s∈(-1::A6 c n),0≤I5 c s:=fun s hs=>by
  rcases List.mem_cons.1 hs with rfl|hs
  ·simp [I5]
  have:=(Ap c n s).1 hs
  unfold I5;rw [if_neg (by omega)];omega
 obtain ⟨_,b1,b2,b3,b4,b5⟩:=JI hS (I5 c) (Ng c n) hw0 (by simp) (by simp;omega) hR
 rw [←hlen,←hf] at b1 b2 b3 b4 b5
 have hpos:∀s∈A6 c n,1≤f s:=fun s hs=>JX b3 (List.mem_cons_of_mem _ hs) (List.mem_cons_self (a:= -1)) (by have:=(Ap c n s).1 hs;omega)
 rw [AV] at b3
 have hone:1≤2^(16-f (-1)):=Nat.one_le_two_pow
 refine ⟨b1,fun s hs hs0=>b2 s (by simp only [List.mem_cons,not_or];exact ⟨by omega,hs⟩),⟨fun s hs=>⟨hpos s hs,b1 s⟩,by omega⟩,fun l hl=>?_,fun a b ha hb hab=>?_⟩
 ·have hb4:=b4 (fun s=>if s= -1 then 16 else l s) (fun s hs=>by
   show (if s= -1 then 16 else l s)≤16
   rcases List.mem_cons.1 hs with rfl|hs
   ·simp
   ·have:=(Ap c n s).1 hs
    rw [if_neg (by omega)];exact (hl.top s hs).2) (by
   rw [AV]
   have:=hl.kraft
   have e:AT (fun s=>2^(16-(if s= -1 then 16 else l s))) (A6 c n)=AT (fun s=>2^(16-l s)) (A6 c n):=BI _ _ _ fun s hs=>by
    have:=(Ap c n s).1 hs
    rw [if_neg (by omega)]
   rw [e];simp;simp at this;omega)
  rw [A8,A8] at hb4
  have z:∀x:Int,I5 c (-1)*x=0:=fun x=>by simp [I5]
  rw [z,z,Ff c n f h0] at hb4
  have e:isum (fun s=>I5 c s*((if s= -1 then 16 else l s:Nat):Int)) (A6 c n)=isum (fun s=>I5 c s*(l s:Nat)) (A6 c n):=Bw _ _ _ fun s hs=>by
   have:=(Ap c n s).1 hs
   rw [if_neg (by omega)]
  rw [e,Ff c n l h0] at hb4
  omega
 have h1:=(Ap c n a).1 ha
 have h2:=(Ap c n b).1 hb
 exact b5 a b (List.mem_cons_of_mem _ hb) (by unfold I5;rw [if_neg (by omega),if_neg (by omega)];exact hab)
theorem Eq{a b:Nat→Nat}:∀k,(∀i,i<k→a i=b i)→nx a k=nx b k
 | 0,_=>rfl
 | k+1,h=>by rw [nx,nx,Eq k fun i hi=>h i (by omega),h k (by omega)]
theorem Fc{a b:Nat→Nat}:∀k,(∀i,i<k→a i=b i)→ED a k=ED b k
 | 0,_=>rfl
 | k+1,h=>by rw [ED,ED,Fc k fun i hi=>h i (by omega),h k (by omega),Eq k fun i hi=>h i (by omega)]
theorem Kg(l:Nat)(h:l≤16):sm (fun i=>if l=i+1 then 1 else 0) 16=if 1≤l then 1 else 0:=by
 have:∀l,l<17→sm (fun i=>if l=i+1 then 1 else 0) 16=if 1≤l then 1 else 0:=by decide
 exact this l (by omega)
theorem Hg(f:Int→Nat)(hf:∀s,f s≤16):∀n,sm (fun i=>(A5 f n (i+1)).length) 16=AT (fun s:Nat=>if 1≤f (s:Int) then 1 else 0) (List.range n)
 | 0=>by simp [A5,AT];decide
 | n+1=>by
   rw [List.range_succ,Ck,←Hg f hf n]
   have:AT (fun s:Nat=>if 1≤f (s:Int) then 1 else 0) [n]=if 1≤f (n:Int) then 1 else 0:=by simp [AT]
   rw [this,←Kg _ (hf _),←GT]
   refine C0 16 fun i hi=>?_
   rw [DT]
   by_cases h:f (n:Int)=i+1
   ·rw [if_pos h,if_pos h,List.length_append];rfl
   rw [if_neg h,if_neg h];rfl
theorem C7(f:Int→Nat)(n:Nat):∀k,(BS f n k).length=sm (fun i=>(A5 f n (i+1)).length) k
 | 0=>rfl
 | k+1=>by rw [BW,List.length_append,C7 f n k,sm]
theorem D9(f:Int→Nat)(n k:Nat)(s:Int):s∈A5 f n k↔0≤s∧s<n∧f s=k:=by
 unfold A5
 simp only [List.mem_map,List.mem_filter,List.mem_range,decide_eq_true_eq]
 constructor
 ·rintro ⟨a,⟨h1,h2⟩,rfl⟩;exact ⟨by omega,by omega,h2⟩
 intro ⟨h1,h2,h3⟩;exact ⟨s.toNat,⟨by omega,by rw [Int.toNat_of_nonneg h1];exact h3⟩,by omega⟩
theorem Ho(f:Int→Nat)(n k:Nat):(A5 f n k).Nodup:=by
 unfold A5
 rw [List.nodup_iff_pairwise_ne,List.pairwise_map]
 refine List.Pairwise.imp ?_ (List.Pairwise.filter _ List.nodup_range)
 intro a b h e
 exact h (by omega)
theorem DU(f:Int→Nat)(n:Nat)(s:Int):∀k,s∈BS f n k↔0≤s∧s<n∧1≤f s∧f s≤k
 | 0=>by simp [BS];intro _ _ _;omega
 | k+1=>by
   rw [BW,List.mem_append,DU f n s k,D9]
   constructor
   ·rintro (h|h)<;>omega
   intro h
   by_cases e:f s=k+1
   ·right;omega
   left;omega
theorem Do(f:Int→Nat)(n:Nat):∀k,(BS f n k).Nodup
 | 0=>by simp [BS]
 | k+1=>by
   rw [BW,List.nodup_append]
   refine ⟨Do f n k,Ho f n (k+1),fun a ha b hb e=>?_⟩
   subst e
   have h1:=(DU f n a k).1 ha
   have h2:=(D9 f n (k+1) a).1 hb
   omega
theorem F8(f:Int→Nat)(n:Nat):∀k,∀x∈(BS f n k).zip (ED (fun i=>(A5 f n (i+1)).length) k),x.2.1=f x.1
 | 0,x,h=>by simp [BS] at h
 | k+1,x,h=>by
   rw [BW,ED,List.zip_append (by rw [C7,Cs])] at h
   rcases List.mem_append.1 h with h|h
   ·exact F8 f n k x h
   have h1:=(List.of_mem_zip (a:=x.1) (b:=x.2) h)
   obtain ⟨j,_,e⟩:=List.mem_map.1 h1.2
   have h2:=(D9 f n (k+1) x.1).1 h1.1
   rw [h2.2.2,←e]
def lw(L:List (Int×Nat×Nat))(s:Int):Nat:=match symW L s with
 | some x=>x.1
 | none=>0
theorem I6{C S:List Int}(h:sm (cc C) 16=S.length):(Cn C S).map (·.1)=S:=by
 unfold Cn
 exact List.map_fst_zip (by rw [Cs,h];exact Nat.le_refl _)
theorem Lr{C S:List Int}(h:sm (cc C) 16=S.length):(Cn C S).map (·.2)=ED (cc C) 16:=by
 unfold Cn
 exact List.map_snd_zip (by rw [Cs,h];exact Nat.le_refl _)
theorem IN{C S:List Int}(h:A7 C S=0){x:Int×Nat×Nat}(hx:x∈Cn C S):symW (Cn C S) x.1=some x.2∧lw (Cn C S) x.1=x.2.1:=by
 have:=(Ht h).symW hx
 exact ⟨this,by unfold lw;rw [this]⟩
theorem L1{C S:List Int}(h:A7 C S=0){s:Int}(hs:s∈S):∃x∈Cn C S,x.1=s:=by
 have h2:=(Bf h).2.1
 rw [←I6 h2] at hs
 obtain ⟨x,hx,e⟩:=List.mem_map.1 hs
 exact ⟨x,hx,e⟩
theorem Ka{C S:List Int}(h:A7 C S=0)(s:Int):(s∈S→1≤lw (Cn C S) s∧lw (Cn C S) s≤16)∧(s∉S→lw (Cn C S) s=0):=by
 constructor
 ·intro hs
  obtain ⟨x,hx,rfl⟩:=L1 h hs
  rw [(IN h hx).2]
  have:=(Ht h).long x hx
  omega
 intro hs
 unfold lw
 cases e:symW (Cn C S) s with
 | none=>rfl
 | some y=>exact absurd (Gb C S _ (Hl e)).1 hs
theorem IO{c C S:List Int}{n:Nat}{f:Int→Nat}(hn:n≤256)(h16:∀s,f s≤16)(hz:∀s,s∉A6 c n→0≤s→f s=0)(hl:Fa c n f)(hC:∀i,i<16→AF C i=((A5 f n (i+1)).length:Nat))(hS:S=BS f n 16):
 A7 C S=0∧(∀s:Int,0≤s→s<n→lw (Cn C S) s=f s)∧S.length=(A6 c n).length∧(∀s,s∈S↔s∈A6 c n):=by
 have hcc:∀i,i<16→cc C i=(A5 f n (i+1)).length:=fun i hi=>by unfold cc;rw [hC i hi];simp
 have hmem:∀s,s∈S↔s∈A6 c n:=fun s=>by
  rw [hS,DU]
  constructor
  ·intro h
   by_cases hp:s∈A6 c n
   ·exact hp
   have:=hz s hp h.1;omega
  intro h
  have h1:=(Ap c n s).1 h
  have h2:=hl.top s h
  exact ⟨h1.1,h1.2.1,h2.1,h2.2⟩
 have hsm:sm (cc C) 16=S.length:=by rw [hS,C7,C0 16 hcc]
 have hlen:S.length=(A6 c n).length:=by
  rw [hS,C7,Hg f h16]
  unfold A6
  rw [List.length_map,←Ke]
  refine BI _ _ _ fun s hs=>?_
  by_cases hp:(s:Int)∈A6 c n
  ·have h1:=(Ap c n s).1 hp
   rw [if_pos (hl.top _ hp).1,if_pos (by simpa using h1.2.2)]
  have h1:¬0<AF c s:=fun h=>hp ((Ap c n s).2 ⟨by omega,by simp at hs;omega,by simpa using h⟩)
  rw [if_neg (by rw [hz _ hp (by omega)];omega),if_neg (by simpa using h1)]
 have hpl:(A6 c n).length≤n:=by
  unfold A6
  have:=List.length_filter_le (fun s=>decide (0<AF c s)) (List.range n)
  simp at this⊢;exact this
 have hnx:nx (cc C) 16<65536:=by
  have h1:=GK (fun i=>(A5 f n (i+1)).length) 16 (by omega)
  rw [Hh f h16] at h1
  rw [Eq 16 hcc]
  have h2:AT (fun s:Nat=>DX (f (s:Int))) (List.range n)=AT (fun s=>2^(16-f s)) (A6 c n):=by
   unfold A6
   rw [Df,←G5 (fun s=>decide (0<AF c s)) (fun s:Nat=>DX (f (s:Int))) (List.range n) fun s hs hp=>?_]
   ·refine BI _ _ _ fun s hs=>?_
    have h3:=List.mem_filter.1 hs
    have hp:(s:Int)∈A6 c n:=(Ap c n s).2 ⟨by omega,by have:=h3.1;simp at this;omega,by simpa using h3.2⟩
    unfold DX;rw [if_pos (hl.top _ hp).1]
   have hp2:(s:Int)∉A6 c n:=fun h=>by have:=((Ap c n s).1 h).2.2;simp at this hp;omega
   unfold DX;rw [hz _ hp2 (by omega)];rfl
  rw [h2] at h1
  have:=hl.kraft
  simp at h1 this
  omega
 have htab:A7 C S=0:=by
  refine Ln ((Bs C).2 ⟨fun k hk=>?_,by omega⟩) hsm (fun s hs=>?_) (by rw [hS];exact Do f n 16) ((D7 _).2 hnx)
  ·have:=C6 f n (k+1)
   rw [hC k hk];omega
  have:=(Ap c n s).1 ((hmem s).1 hs);omega
 refine ⟨htab,fun s h0 h1=>?_,hlen,hmem⟩
 by_cases hs:s∈S
 ·obtain ⟨x,hx,rfl⟩:=L1 htab hs
  rw [(IN htab hx).2]
  refine F8 f n 16 x ?_
  unfold Cn at hx
  rw [hS,Fc 16 hcc] at hx
  exact hx
 rw [(Ka htab s).2 hs,hz s (fun h=>hs ((hmem s).2 h)) h0]
theorem G6{α:Type}[DecidableEq α](f:α→Nat):∀(A B:List α),A.Nodup→(∀a∈A,a∈B)→AT f A≤AT f B
 | [],B,_,_=>by simp [AT]
 | a::A,B,hn,h=>by
   obtain ⟨h1,h2⟩:=List.nodup_cons.1 hn
   have p:=List.perm_cons_erase (h a (by simp))
   rw [Ja f p,AV,AV]
   have:=G6 f A (B.erase a) h2 fun x hx=>(List.mem_erase_of_ne (fun e=>h1 (by rw [←e];exact hx))).2 (h x (by simp [hx]))
   omega
theorem In(c:Nat→Nat):∀k,k≤16→AT (fun x=>2^(16-x.1)) (ED c k)=nx c k*2^(16-k)
 | 0,_=>by simp [ED,AT,nx]
 | k+1,h=>by
   rw [GK c (k+1) h,sm,←GK c k (by omega),←In c k (by omega),ED,Ck,Df]
   refine congrArg (_+ ·) ?_
   have:∀m,AT (fun _:Nat=>2^(16-(k+1))) (List.range m)=m*2^(15-k):=fun m=>by
    have:=Dg (fun _:Nat=>1) (2^(15-k)) (List.range m)
    simp only [Nat.one_mul] at this
    rw [show 16-(k+1)=15-k by omega,this,DP,List.length_range]
   exact this (c k)
theorem Jq{C S:List Int}(h:A7 C S=0)(c:List Int)(n:Nat)(hall:∀s∈A6 c n,s∈S):Fa c n (lw (Cn C S)):=by
 obtain ⟨h1,h2,h3,h4,h5,h6⟩:=Bf h
 refine ⟨fun s hs=>(Ka h s).1 (hall s hs),?_⟩
 have a1:=G6 (fun s=>2^(16-lw (Cn C S) s)) (A6 c n) S (Et c n) hall
 have a2:AT (fun s=>2^(16-lw (Cn C S) s)) S=AT (fun x=>2^(16-x.2.1)) (Cn C S):=by
  have e1:=Df (fun x:Int×Nat×Nat=>x.1) (fun s=>2^(16-lw (Cn C S) s)) (Cn C S)
  rw [I6 h2] at e1
  rw [e1]
  exact BI _ _ _ fun x hx=>by rw [(IN h hx).2]
 have a3:AT (fun x:Int×Nat×Nat=>2^(16-x.2.1)) (Cn C S)=AT (fun x=>2^(16-x.1)) (ED (cc C) 16):=by
  rw [←Lr h2,Df]
 have a4:=In (cc C) 16 (Nat.le_refl _)
 have a5:=(D7 _).1 h6
 simp at a4
 have:(2:Nat)^16=65536:=by decide
 omega
end Go.Proofs.YtkcbhcajfcfmmaaDoor
namespace Go.Proofs.YtkcbhcajfcfmmaaDoor
attribute [local irreducible] Region.wanted
open Go.RowKit
set_option linter.unusedVariables false
set_option maxRecDepth 100000
set_option maxHeartbeats 8000000
structure Mk(c:List Int)(n:Nat)(C S:List Int):Prop where
 len:Ag C 16
 ok:A7 C S=0
 mem:∀s,s∈S↔s∈A6 c n
 slen:S.length=(A6 c n).length
 best:∀l,Fa c n l→Cj c n (lw (Cn C S))≤Cj c n l
 order:∀a b,a∈A6 c n→b∈A6 c n→AF c b.toNat<AF c a.toNat→lw (Cn C S) a≤lw (Cn C S) b
 lens:Fa c n (lw (Cn C S))
theorem Gm(c:List Int)(n:Nat)(f g:Int→Nat)(h:∀s:Int,0≤s→s<n→f s=g s):Cj c n f=Cj c n g:=by
 unfold Cj
 refine Bw _ _ _ fun s hs=>?_
 rw [h s (by omega) (by have:=List.mem_range.1 hs;omega)]
theorem NU{c:List Int}(h:bE c=0):c.length≤256∧∀i,i<c.length→0≤AF c i∧AF c i≤9999:=by
 unfold bE at h
 by_cases h1:256<c.length
 ·rw [if_pos h1] at h;cases h
 rw [if_neg h1] at h
 by_cases h2:DH c 0 9999=true
 ·exact ⟨by omega,(D1 c 0 9999).1 h2⟩
 rw [if_neg h2] at h;cases h
theorem JZ(w0:World)(c:List Int)(ad:Option Addr)(n cap:Nat)(hv:Sl w0 1 (.slice ad n cap) n (c.map (Value.int .i64)))(hn:n≤9223372036854775807)(hok:bE c=0):
 Calls Tryd.prog 12 #[.slice ad n cap] w0 fun e w=>∃(C S:List Int) (ao:Option Addr) (co:Nat),Mk c n C S∧e= .returned (.tuple #[tv C (.slice ao S.length co), .int .i64 0])∧St w0 w [own 3 1 ao S.length co (S.map (Value.int .i64))]:=by
 refine (Kc w0 c ad n cap hv hn hok).mono ?_
 rintro e w ⟨f,R,C,S,ao,co,hR,hf,hC,hCi,hSy,rfl,hS⟩
 have hcl:c.length=n:=by have:=hv.1;simpa using this
 obtain ⟨b1,b2⟩:=NU hok
 rw [hcl] at b1 b2
 obtain ⟨m1,m2,m3,m4,m5⟩:=Kb b1 (fun i hi=>(b2 i hi).1) hR f hf
 obtain ⟨t1,t2,t3,t4⟩:=IO b1 m1 m2 m3 hCi hSy
 have hin:∀s∈A6 c n,0≤s∧s<n:=fun s hs=>by have:=(Ap c n s).1 hs;exact ⟨this.1,this.2.1⟩
 have hcost:Cj c n (lw (Cn C S))=Cj c n f:=Gm _ _ _ _ t2
 refine ⟨C,S,ao,co,⟨hC,t1,t4,t3,fun l hl=>by rw [hcost];exact m4 l hl,fun a b ha hb h=>?_,Jq t1 c n fun s hs=>(t4 s).2 hs⟩,rfl,hS⟩
 rw [t2 a (hin a ha).1 (hin a ha).2,t2 b (hin b hb).1 (hin b hb).2]
 exact m5 a b ha hb h
theorem H5(w:World):(Instr.build 28 #[]).run Tryd.prog w= .ok (tv (List.replicate 16 0) (.slice none 0 0)) w:=by kernel_rfl
theorem Kd(w0:World)(c:List Int)(ad:Option Addr)(n cap:Nat)(hv:Sl w0 1 (.slice ad n cap) n (c.map (Value.int .i64)))(hn:n≤9223372036854775807)(hbad:bE c≠0):
 Calls Tryd.prog 12 #[.slice ad n cap] w0 fun e w=>e= .returned (.tuple #[tv (List.replicate 16 0) (.slice none 0 0), .int .i64 (bE c)])∧AX w0 w:=by
 have hS:=St.start w0
 have HCK:=AD (fun (w:World)(hE:AX w0 w)=>Eb w c ad n cap (hv.ext hE) hn)
 obtain ⟨B,hB⟩:∃B,bE c=B:=⟨_,rfl⟩
 rw [hB] at HCK hbad⊢
 clear hB
 go_enter Tryd.func12,Tryd.ntmps12
 repeat' (first
  | (refine Am 25 ?_);refine An AB Tryd.call25 (HCK.out _ hS.1) (Gd hS ?_);clear hS;intro w hS;go_step|refine X0 ?_|refine X7 22 ?_|refine LL 2 ?_;clear hS;intro g2 w hS|refine AG ?_;go_step|fail)
 repeat' (first
  | (refine AU 23 ?_);refine Av AB (V.build (vs:=[]) rfl H5) ?_;go_step|refine X0 ?_|refine LN ?_;clear hS;intro w hS|refine AG ?_;go_step|fail)
 refine Ah (xs:=[_,_]) rfl (.cons (AE.prt hS rfl (AY (n:=17) rfl) AQ (by (repeat (first|exact BG.nil|(apply BG.ints;(case hn=>exact CM);(case h=>omega);(case hm=>rfl))|apply BG.val)))) (.cons (AE.tmp rfl) (.nil))) (by simp) rfl ?_
 exact ⟨rfl,hS.1⟩
theorem K0:Ag (List.replicate 16 (0:Int)) 16:=List.length_replicate
theorem K1:A7 (List.replicate 16 0) []=0:=by decide
theorem JY(w0:World)(c:List Int)(ad:Option Addr)(n cap:Nat)(hv:Sl w0 1 (.slice ad n cap) n (c.map (Value.int .i64)))(hn:n≤9223372036854775807):
 Calls Tryd.prog 12 #[.slice ad n cap] w0 fun e w=>∃(C S:List Int) (ao:Option Addr) (m co:Nat),Ag C 16∧S.length=m∧m≤256∧A7 C S=0∧(bE c=0→Mk c n C S)∧e= .returned (.tuple #[tv C (.slice ao m co), .int .i64 (bE c)])∧St w0 w [own 3 1 ao m co (S.map (Value.int .i64))]:=by
 by_cases hb:bE c=0
 ·refine (JZ w0 c ad n cap hv hn hb).mono ?_
  rintro e w ⟨C,S,ao,co,hM,rfl,hS⟩
  exact ⟨C,S,ao,S.length,co,hM.len,rfl,(Bf hM.ok).2.2.1,hM.ok,fun _=>hM,by rw [hb],hS⟩
 refine (Kd w0 c ad n cap hv hn hb).mono ?_
 rintro e w ⟨rfl,hE⟩
 exact ⟨_,[],none,0,0,K0,rfl,by omega,K1,fun h=>absurd h hb,rfl,(St.of_ext hE).nil _ _⟩
structure FM(w:World)(f:Aj)(a1 a2 ad:Option Addr)(n1 k1 n2 k2 nd kd:Nat):Prop where
 q:Ag f.quant 64
 l1:Ag f.c1 16
 l2:Ag f.c2 16
 s1:Sl w 1 (.slice a1 n1 k1) n1 (f.s1.map (Value.int .i64))
 s2:Sl w 1 (.slice a2 n2 k2) n2 (f.s2.map (Value.int .i64))
 b1:n1≤9223372036854775807
 b2:n2≤9223372036854775807
 sd:Sl w 1 (.slice ad nd kd) nd ((Al f).map (Value.int .u8))
 bd:nd≤9223372036854775807
 dlt:∀x∈f.data,x<256
theorem FM.ext{w w':World}{f:Aj}{a1 a2 ad:Option Addr}{n1 k1 n2 k2 nd kd:Nat}(h:FM w f a1 a2 ad n1 k1 n2 k2 nd kd)(hE:AX w w'):FM w' f a1 a2 ad n1 k1 n2 k2 nd kd:=
 ⟨h.q,h.l1,h.l2,h.s1.ext hE,h.s2.ext hE,h.b1,h.b2,h.sd.ext hE,h.bd,h.dlt⟩
theorem FM.dl{w:World}{f:Aj}{a1 a2 ad:Option Addr}{n1 k1 n2 k2 nd kd:Nat}(h:FM w f a1 a2 ad n1 k1 n2 k2 nd kd):f.data.length=nd:=by
 have:=h.sd.1
 rw [List.length_map,Nat.mul_one] at this
 rw [←this];unfold Al;rw [List.length_map]
theorem FM.chk{w:World}{f:Aj}{a1 a2 ad:Option Addr}{n1 k1 n2 k2 nd kd:Nat}(h:FM w f a1 a2 ad n1 k1 n2 k2 nd kd):Calls Tryd.prog 23 #[fv f (.slice a1 n1 k1) (.slice a2 n2 k2) (.slice ad nd kd)] w fun e w'=>e= .returned (.int .i64 (BB f))∧AX w w':=
 DO w f a1 a2 ad n1 n2 nd k1 k2 kd h.q h.l1 h.l2 h.s1 h.s2 h.b1 h.b2 h.bd h.dl
theorem Da{f:Aj}(h:∀x∈f.data,x<256):∀x∈Al f,0≤x∧x<256:=by
 intro x hx
 obtain ⟨y,hy,rfl⟩:=List.mem_map.1 hx
 have:=h y hy
 omega
def gz:Value:= .agg (AA [.val (.int .i64 0), .val (.int .i64 0), .val (.int .i64 0), .ints (List.replicate 64 0), .ints (List.replicate 16 0), .val (.slice none 0 0), .ints (List.replicate 16 0), .val (.slice none 0 0), .val (.int .i64 0), .val (.slice none 0 0)]).toArray
theorem KH(w:World):(Instr.build 32 #[]).run Tryd.prog w= .ok gz w:=by kernel_rfl
theorem Lp(m0 m1 m2 m3 m4 m5 m6 m7 m8 m9 m10 m11 m12 m13 m14 m15 q0 q1 q2 q3 q4 q5 q6 q7 q8 q9 q10 q11 q12 q13 q14 q15:Int)(a b:Option Addr)(n c k d:Nat)(w:World):(Instr.build 30 #[(0,tv [m0,m1,m2,m3,m4,m5,m6,m7,m8,m9,m10,m11,m12,m13,m14,m15] (.slice a n c)),(1,tv [q0,q1,q2,q3,q4,q5,q6,q7,q8,q9,q10,q11,q12,q13,q14,q15] (.slice b k d))]).run Tryd.prog w= .ok (.agg (AA [.ints [m0,m1,m2,m3,m4,m5,m6,m7,m8,m9,m10,m11,m12,m13,m14,m15], .val (.slice a n c), .ints [q0,q1,q2,q3,q4,q5,q6,q7,q8,q9,q10,q11,q12,q13,q14,q15], .val (.slice b k d)]).toArray) w:=by kernel_rfl
theorem Jr(l l2:List Int)(hl:l.length=16)(hl2:l2.length=16)(a b:Option Addr)(n c k d:Nat)(w:World):(Instr.build 30 #[(0,tv l (.slice a n c)),(1,tv l2 (.slice b k d))]).run Tryd.prog w= .ok (.agg (AA [.ints l, .val (.slice a n c), .ints l2, .val (.slice b k d)]).toArray) w:=by
 match l,hl,l2,hl2 with
 | [m0,m1,m2,m3,m4,m5,m6,m7,m8,m9,m10,m11,m12,m13,m14,m15],_,[q0,q1,q2,q3,q4,q5,q6,q7,q8,q9,q10,q11,q12,q13,q14,q15],_=>exact Lp _ _ _ _ _ _ _ _ _ _ _ _ _ _ _ _ _ _ _ _ _ _ _ _ _ _ _ _ _ _ _ _ a b n c k d w
theorem Iv(w0:World)(C S:List Int)(a:Option Addr)(n c:Nat)(hC:Ag C 16)(hs:Sl w0 1 (.slice a n c) n (S.map (Value.int .i64)))(hn:n≤100000):
 Calls Tryd.prog 24 #[.agg (AA [.ints C, .val (.slice a n c)]).toArray] w0 fun e w=>∃b j,e= .returned (.agg (AA [.ints C, .val (.slice b n j)]).toArray)∧St w0 w [own 3 1 b n j (S.map (Value.int .i64))]:=by
 have hS:=St.start w0
 go_enter Tryd.func24,Tryd.ntmps24
 repeat' (first
  | refine M0 3 ?_|refine M0 6 ?_|refine Mq 1 ?_;clear hS;intro g1 w hS|refine LL 2 ?_;clear hS;intro g2 w hS|refine MI ?_|(refine AU 5 ?_);(refine A3 ?_;apply Ad (o:=⟨some 5,_,_,_,_,_⟩) (hS.nilk 3 1 .i64) _ _ 23 rfl 3 1 8 FR _ _ _ _ rfl;(case hp=>exact AQ);(case hx=>exact rfl);(case hm=>(first|exact hS.slBlk AQ (by rfl) (by decide)|exact hS.sl AQ|with_reducible assumption|exact Sl.ext (by with_reducible assumption) hS.1|exact Sl.nil _ _|exact Sl.ext (by assumption) hS.1|assumption));(case h1=>(first|exact BQ rfl|exact BE _ _|(intro u hu;cases hu)));(case h63=>unfold maxLen;omega);(case hb=>omega);clear hS;intro ad5 c5 w hS;(first|simp only [Bz] at hS|simp only [B3] at hS|simp only [B4] at hS|simp only [B5] at hS|simp only [B6] at hS|skip);refine AC ?_;go_step)|refine NG ?_;clear hS;intro w hS|refine KC ?_|refine LN ?_;clear hS;intro w hS|refine AG ?_;go_step|fail)
 rw [Nat.zero_add] at hS
 rw [List.nil_append] at hS
 refine Ae rfl (AE.prt hS rfl (AY (n:=17) rfl) AQ (by (repeat (first|exact BG.nil|(apply BG.ints;(case hn=>exact CM);(case h=>omega);(case hm=>rfl))|apply BG.val)))) rfl ?_
 exact ⟨_,_,rfl,hS.sub Ao⟩
def BC(ps:List (List Int))(ms:List Int)(k:Nat):Nat→List Int
 | 0=>[]
 | i+1=>BC ps ms k i++(if i=0 then [] else [255,AF ms (i-1)])++(if i=k then [] else ps.getD i [])
theorem Br{f:Aj}(h:BB f=0):f.data.length≤90000∧f.s1.length≤256∧f.s2.length≤256:=by
 unfold BB at h
 split at h
 ·split at h
  ·split at h
   ·split at h
    ·rename_i h1 h2
     split at h
     ·rename_i h3;exact ⟨h3,(Bf h1).2.2.1,(Bf h2).2.2.1⟩
     cases h
    rename_i h1 h2;exact absurd h h2
   rename_i h1;exact absurd h h1
  cases h
 cases h
theorem Nh{w:World}{n c:Nat}{a:Option Addr}{l:List Int}{q:IntKind}(h:Sl w 1 (.slice a n c) n (l.map (Value.int q))):l.length=n:=by have:=h.1;simpa using this
theorem Nd(w0:World)(f:Aj)(a1 a2 ad:Option Addr)(n1 k1 n2 k2 nd kd:Nat)(hF:FM w0 f a1 a2 ad n1 k1 n2 k2 nd kd)(hz:BB f=0)(ps:List (List Int))(ms:List Int)(hsp:DF (Al f) [] [] []=some (ps,ms))(k:Nat)(hk:ps.length≤k)(hk2:k≤1000000):
 Calls Tryd.prog 11 #[fv f (.slice a1 n1 k1) (.slice a2 n2 k2) (.slice ad nd kd), .int .i64 k] w0 fun e w=>e= .returned (.tuple #[gz, .int .i64 5])∧AX w0 w:=by
 have hS:=St.start w0
 obtain ⟨lp,hlp⟩:∃n,ps.length=n:=⟨_,rfl⟩
 have HCK:=AD fun (w:World)(hx:AX w0 w)=>(by have:=(hF.ext hx).chk;rw [hz] at this;exact this:Calls Tryd.prog 23 #[fv f (.slice a1 n1 k1) (.slice a2 n2 k2) (.slice ad nd kd)] w fun e w'=>e= .returned (.int .i64 0)∧AX w w')
 have HSP:=AD fun (w:World)(hx:AX w0 w)=>(Bj w ad nd kd (Al f) (hF.ext hx).sd (Da hF.dlt) (by have h1:=hF.dl;have h2:=(Br hz).1;omega)).mono fun e w' hh=>hh.2 ps ms hsp
 have hQ:=hF.q
 have hC1:=hF.l1
 have hC2:=hF.l2
 rw [hlp] at hk
 rw [hlp] at HSP
 clear hF hz hsp hlp
 obtain ⟨m,h,p,Q,C1,S1,C2,S2,ev,D⟩:=f
 dsimp only at hQ hC1 hC2 HCK HSP⊢
 show Calls Tryd.prog 11 #[.agg (AA [.val (.int .i64 m), .val (.int .i64 h), .val (.int .i64 p), .ints Q, .ints C1, .val (.slice a1 n1 k1), .ints C2, .val (.slice a2 n2 k2), .val (.int .i64 ev), .val (.slice ad nd kd)]).toArray, .int .i64 k] _ _
 go_enter Tryd.func11,Tryd.ntmps11
 repeat' (first
  | (refine Am 23 ?_);refine An AB Tryd.call23 (HCK.out _ hS.1) (Gd hS ?_);clear hS;intro w hS;go_step|(refine Am 8 ?_);refine An AB Tryd.call8 (HSP.out _ hS.1) ?_;rintro e w ⟨pcs,ao,am,co,cm,lo,lm,rfl,rfl,hpc,rfl,hS2⟩;replace hS:=hS.ext hS2.1;clear hS2;refine As ?_;go_step|refine OY 39 ?_|refine X0 ?_|refine KE ?_|refine JE 26 ?_ ?_<;>intro hB<;>(try exact Ar)<;>go_step|refine X6 29 ?_ ?_<;>intro hB<;>(try exact Ar)<;>go_step|refine X7 15 ?_|refine JG 19 ?_|refine X4 22 ?_|refine X4 23 ?_|refine X4 24 ?_|refine NS 33 ?_|(refine AU 34 ?_);(refine Av AB (V.geq rfl rfl) ?_;go_step)|refine X7 38 ?_|refine Ik 2 ?_;clear hS;intro g2 w hS|refine LM 4 ?_;clear hS;intro g4 w hS|refine KD ?_|refine J2 ?_;clear hS;intro w hS|refine J4 ?_|refine AG ?_;go_step|fail)
 all_goals (try exact Ar)
 refine Ah (xs:=[_,_]) rfl (.cons (AE.prt hS rfl (AY (n:=103) rfl) AQ (by (repeat (first|exact BG.nil|(apply BG.ints;(case hn=>exact CM);(case h=>omega);(case hm=>rfl))|apply BG.val)))) (.cons (AE.tmp rfl) (.nil))) (by simp) rfl ?_
 exact ⟨rfl,hS.1⟩
theorem Kp{x y z:Value}{Q C1 C2:List Int}{v1 v2 u1 u2 e d:Value}(hQ:Ag Q 64)(h1:Ag C1 16)(h2:Ag C2 16):JD [.ints C1, .val u1, .ints C2, .val u2] [.val x, .val y, .val z, .ints Q, .ints C1, .val v1, .ints C2, .val v2, .val e, .val d] 67 [.val x, .val y, .val z, .ints Q, .ints C1, .val u1, .ints C2, .val u2, .val e, .val d]:=
 .skipV (.skipV (.skipV (.skipI hQ (by omega) rfl (.head (B:=[.ints C1, .val v1, .ints C2, .val v2]) (D:=[.val e, .val d]) (by simp [AA,AJ.cells])))))
theorem KY{C1 C2:List Int}{u1 u2:Value}(h1:Ag C1 16)(h2:Ag C2 16):(AA [.ints C1, .val u1, .ints C2, .val u2]).length=34:=by
 simp [AA,AJ.cells,h1.out,h2.out]
theorem u8_in{z:Int}(h:0≤z∧z<256):IntKind.u8.wrap z=z:=by
 have h1:IntKind.u8.wrap z=z%256:=by simp [IntKind.wrap,IntKind.signed,IntKind.bits]
 rw [h1];omega
theorem Kn{x y z:Value}{Q C1 C2:List Int}{v1 v2 e d u:Value}(hQ:Ag Q 64)(h1:Ag C1 16)(h2:Ag C2 16):DM u [.val x, .val y, .val z, .ints Q, .ints C1, .val v1, .ints C2, .val v2, .val e, .val d] 102 [.val x, .val y, .val z, .ints Q, .ints C1, .val v1, .ints C2, .val v2, .val e, .val u]:=
 .skipV (.skipV (.skipV (.skipI hQ (by omega) rfl (.skipI h1 (by omega) rfl (.skipV (.skipI h2 (by omega) rfl (.skipV (.skipV .head))))))))
theorem LT(w0:World)(f:Aj)(a1 a2 ad:Option Addr)(n1 k1 n2 k2 nd kd:Nat)(hF:FM w0 f a1 a2 ad n1 k1 n2 k2 nd kd)(hz:BB f=0)(ps:List (List Int))(ms:List Int)(hsp:DF (Al f) [] [] []=some (ps,ms))(hms:ms.length+1=ps.length)(hmb:∀i,i<ms.length→0≤AF ms i∧AF ms i<256)(k:Nat)(hk:k<ps.length)(hL:∀i,i≤ps.length→(BC ps ms k i).length≤200000)(hP:∀x∈ps,x.length≤200000)(hlp2:ps.length≤1000000):
 Calls Tryd.prog 11 #[fv f (.slice a1 n1 k1) (.slice a2 n2 k2) (.slice ad nd kd), .int .i64 k] w0 fun e w=>∃(b1 b2 bd:Option Addr) (j1 j2 jd N:Nat),(BC ps ms k ps.length).length=N∧e= .returned (.tuple #[.agg (AA [.val (.int .i64 f.wide), .val (.int .i64 f.high), .val (.int .i64 f.parts), .ints f.quant, .ints f.c1, .val (.slice b1 n1 j1), .ints f.c2, .val (.slice b2 n2 j2), .val (.int .i64 f.every), .val (.slice bd N jd)]).toArray, .int .i64 0])∧
  St w0 w [own 3 1 b1 n1 j1 (f.s1.map (Value.int .i64)),own 3 1 b2 n2 j2 (f.s2.map (Value.int .i64)),own 5 1 bd N jd ((BC ps ms k ps.length).map (Value.int .u8))]:=by
 have hS:=St.start w0
 obtain ⟨lp,hlp⟩:∃n,ps.length=n:=⟨_,rfl⟩
 have HCK:=AD fun (w:World)(hx:AX w0 w)=>(by have:=(hF.ext hx).chk;rw [hz] at this;exact this:Calls Tryd.prog 23 #[fv f (.slice a1 n1 k1) (.slice a2 n2 k2) (.slice ad nd kd)] w fun e w'=>e= .returned (.int .i64 0)∧AX w w')
 have HSP:=AD fun (w:World)(hx:AX w0 w)=>(Bj w ad nd kd (Al f) (hF.ext hx).sd (Da hF.dlt) (by have h1:=hF.dl;have h2:=(Br hz).1;omega)).mono fun e w' hh=>hh.2 ps ms hsp
 have hQ:=hF.q
 have hC1:=hF.l1
 have hC2:=hF.l2
 have hs1:=hF.s1
 have hs2:=hF.s2
 have hn1:n1≤256:=by rw [←Nh hs1];exact (Br hz).2.1
 have hn2:n2≤256:=by rw [←Nh hs2];exact (Br hz).2.2
 have HL:=AD hL
 have HP:=AD hP
 have HMB:=AD hmb
 have HLP:=AD hlp
 rw [hlp] at hk HSP hms hlp2 HL
 clear hF hz hsp hL hP hmb
 obtain ⟨m,h,p,Q,C1,S1,C2,S2,ev,D⟩:=f
 dsimp only at hQ hC1 hC2 HCK HSP hs1 hs2⊢
 rw [hlp]
 clear hlp
 show Calls Tryd.prog 11 #[.agg (AA [.val (.int .i64 m), .val (.int .i64 h), .val (.int .i64 p), .ints Q, .ints C1, .val (.slice a1 n1 k1), .ints C2, .val (.slice a2 n2 k2), .val (.int .i64 ev), .val (.slice ad nd kd)]).toArray, .int .i64 k] _ _
 go_enter Tryd.func11,Tryd.ntmps11
 repeat' (first
  | (refine Am 23 ?_);refine An AB Tryd.call23 (HCK.out _ hS.1) (Gd hS ?_);clear hS;intro w hS;go_step|(refine Am 8 ?_);refine An AB Tryd.call8 (HSP.out _ hS.1) ?_;rintro e w ⟨pcs,ao,am,co,cm,lo,lm,rfl,rfl,hpc,rfl,hS2⟩;replace hS:=hS.call hS2;clear hS2;simp only [List.cons_append,List.nil_append] at hS;have HPC:=AD hpc;clear hpc;refine As ?_;go_step|refine X0 ?_|refine KE ?_|refine JE 26 ?_ ?_<;>intro hB<;>(try exact Ar)<;>go_step|refine X6 29 ?_ ?_<;>intro hB<;>(try exact Ar)<;>go_step|refine X7 15 ?_|refine JG 19 ?_|refine X4 22 ?_|refine X4 23 ?_|refine X4 24 ?_|refine NS 33 ?_|(refine AU 34 ?_);(refine Av AB (V.geq rfl rfl) ?_;go_step)|refine X7 38 ?_|refine Ik 2 ?_;clear hS;intro g2 w hS|refine LM 4 ?_;clear hS;intro g4 w hS|refine KD ?_|refine J4 ?_|refine AG ?_;go_step|fail)
 all_goals (try exact Ar)
 refine AZ [7,10] (fun w=>St w0 w [prt g2 [.val (.int .i64 m), .val (.int .i64 h), .val (.int .i64 p), .ints Q, .ints C1, .val (.slice a1 n1 k1), .ints C2, .val (.slice a2 n2 k2), .val (.int .i64 ev), .val (.slice ad nd kd)]]) AB ?_
 replace hS:=hS.drew
 focus
  refine Dw 0 DG (V.fieldAddr GH rfl CD) ?_;go_step
  refine Dw 1 DG (V.fieldAddr KN rfl CD) ?_;go_step
  refine Y8 2 [3,7,8,9,10] ?_
  refine Dw 4 DG (V.fieldAddr GH rfl CD) ?_;go_step
  refine Dw 5 DG (V.fieldAddr KO rfl CD) ?_;go_step
  refine Y8 6 [7,8,9,10] ?_
  refine Cb 3 ?_
  refine CC (f:=24) rfl Tryd.call24 (Iv _ C1 S1 a1 n1 k1 hC1 (hs1.ext hS.1) (by omega)) ?_;rintro e w ⟨b1,j1,rfl,hS2⟩;replace hS:=hS.call1 hS2;clear hS2;refine ⟨_,rfl,?_⟩
  refine ⟨fun _ _=>hS.sub Ao,?_⟩
  refine AK ?_
  go_step
  refine Cb 7 ?_
  refine CC (f:=24) rfl Tryd.call24 (Iv _ C2 S2 a2 n2 k2 hC2 (hs2.ext hS.1) (by omega)) ?_;rintro e w ⟨b2,j2,rfl,hS2⟩;replace hS:=hS.call1 hS2;clear hS2;refine ⟨_,rfl,?_⟩
  refine ⟨fun h=>absurd (by decide) h,?_⟩
  refine AK ?_
  go_step
  refine BJ 8 _ Cf AB AB AB Cv (V.build (vs:=[(0,tv C1 (.slice b1 n1 j1)),(1,tv C2 (.slice b2 n2 j2))]) rfl (Jr C1 C2 hC1.out hC2.out _ _ _ _ _ _)) AB ?_
  go_step
  refine Dw 9 DG (V.fieldAddr GH rfl CD) ?_;go_step
  refine Cb 10 ?_
  refine CY hS 30 _ _ rfl g2 67 rfl 34 (AY rfl) _ _ [.ints C1, .val _, .ints C2, .val _] AQ rfl (Kp hQ hC1 hC2) (KY hC1 hC2) rfl rfl ?_;clear hS;intro w hS
  refine ⟨fun h=>absurd (by decide) h,?_⟩
  refine AO AB ?_ _
 all_goals
  repeat' (first|(refine AG ?_;go_step)|fail)
  repeat' (first
   | refine X1 ?_|refine JG 51 ?_|refine NS 53 ?_|refine Nr ?_;clear hS;intro w hS|refine AG ?_;go_step|fail)
  replace hS:=hS.nilk 5 1 .u8
  go_loopg [54] lo (fun gk kv w=>∃(i N:Nat) (bd:Option Addr) (jd:Nat),gk+i=lo∧kv= .int .i64 i∧(BC ps ms k i).length=N∧St w0 w [prt g2 [.val (.int .i64 m), .val (.int .i64 h), .val (.int .i64 p), .ints Q, .ints C1, .val (.slice b1 n1 j1), .ints C2, .val (.slice b2 n2 j2), .val (.int .i64 ev), .val (.slice bd N jd)],prt g4 [.val (.int .i64 0), .val (.int .i64 0), .val (.int .i64 0), .ints (List.replicate 64 0), .ints (List.replicate 16 0), .val (.slice none 0 0), .ints (List.replicate 16 0), .val (.slice none 0 0), .val (.int .i64 0), .val (.slice none 0 0)],own 5 1 bd N jd ((BC ps ms k i).map (Value.int .u8)),own 22 1 ao lo co (pcs.map Pc.val),own 3 1 am ms.length cm (ms.map (Value.int .i64)),star (pcs.map Pc.res),own 3 1 b1 n1 j1 (S1.map (Value.int .i64)),own 3 1 b2 n2 j2 (S2.map (Value.int .i64))])
  case atStart=>exact ⟨0,0,none,0,rfl,rfl,rfl,by rw [show BC ps ms k 0=[] from rfl];exact hS.sub Ao⟩
  case round=>
   clear hS
   obtain ⟨i,N,bd,jd,hi,rfl,hN,hS⟩:=hrel
   by_cases hlt:i<lo
   ·have hN2:N≤200000:=by rw [←hN];exact HL.out i (by omega)
    have HN:=AD hN
    clear hN
    have hpl:pcs.length=ps.length:=by rw [←HPC.out,List.length_map]
    obtain ⟨px,hpx⟩:∃px,pcs[i]? =some px:=⟨_,List.getElem?_eq_getElem (by rw [hpl,HLP.out];exact hlt)⟩
    have hpv:(pcs.map Pc.val)[i]? =some (.slice px.ad px.xs.length px.c):=by rw [List.getElem?_map,hpx];rfl
    have hpm:px∈pcs:=List.mem_of_getElem? hpx
    have hps:ps.getD i []=px.xs:=by rw [←HPC.out,List.getD,List.getElem?_map,hpx];rfl
    have hxl:px.xs.length≤200000:=HP.out _ (by rw [←HPC.out];exact List.mem_map_of_mem hpm)
    have HPS:=AD hps
    obtain ⟨pn,hpn⟩:∃n,px.xs.length=n:=⟨_,rfl⟩
    rw [hpn] at hpv hxl
    have HPN:=AD hpn
    clear hpx hps hpl hpn
    by_cases hi0:i=0
    ·have hDc:Hid (BC ps ms k i++(if i=0 then [] else [255,AF ms (i-1)])=BC ps ms k i):=AD (by rw [if_pos hi0,List.append_nil])
     repeat' (first
      | refine X0 ?_|refine X2 55 ?_|(refine AU 57 ?_);(refine DV hS rfl AQ Tryd.underlying35 KW rfl BL (by omega) (Nat.mul_one _) AB ?_;(first|(rintro b57 rfl)|(intro b57 hb57;cases hb57));go_step)|refine Gf 60 ?_|refine OQ ?_|refine AG ?_;go_step|fail)
     all_goals (try exact Ar)
     obtain ⟨Dc,hDe⟩:∃X,BC ps ms k i=X:=⟨_,rfl⟩
     rw [hDe] at hS hDc
     have hNc:Hid (Dc.length=N):=AD (by rw [←hDe];exact HN.out)
     have HDE:=AD hDe
     have hDc:Hid (BC ps ms k i++(if i=0 then [] else [255,AF ms (i-1)])=Dc):=AD (by rw [HDE.out];exact hDc.out)
     clear hDe HDE
     obtain ⟨Nc,rfl⟩:∃x,x=N:=⟨_,rfl⟩
     obtain ⟨bc,rfl⟩:∃x,x=bd:=⟨_,rfl⟩
     obtain ⟨jc,rfl⟩:∃x,x=jd:=⟨_,rfl⟩
     by_cases hik:i=k
     ·have hst:Hid (BC ps ms k (i+1)=Dc):=AD (by rw [BC,hDc.out,if_pos hik,List.append_nil])
      repeat' (first
       | refine X1 ?_|refine X7 74 ?_|refine J5 80 ?_|refine AG ?_;go_step|fail)
      all_goals (try exact Ar)
      go_roundg (gk-1)
      case measure=>omega
      case rel=>exact ⟨i+1,Nc,bc,jc,by omega,by go_num,by rw [hst.out];exact hNc.out,by rw [hst.out];exact hS.sub Ao⟩
     have hst:Hid (BC ps ms k (i+1)=Dc++px.xs):=AD (by rw [BC,hDc.out,if_neg hik,HPS.out])
     have hpx:=Ix hS AQ hpm
     rw [Pc.val,HPN.out] at hpx
     repeat' (first
      | refine X1 ?_|refine X7 74 ?_|refine JG 75 ?_|refine JG 79 ?_|refine J5 80 ?_|refine J4 ?_|refine Lv 78 ?_;clear hS;intro ad78 c78 w hS|refine Nr ?_;clear hS;intro w hS|refine AG ?_;go_step|fail)
     all_goals (try exact Ar)
     go_roundg (gk-1)
     case measure=>omega
     case rel=>exact ⟨i+1,Nc+pn,_,_,by omega,by go_num,by rw [hst.out,List.length_append,hNc.out,HPN.out],by rw [hst.out];exact hS.sub Ao⟩
    obtain ⟨mk,hmk⟩:∃z,AF ms (i-1)=z:=⟨_,rfl⟩
    obtain ⟨bm,rfl⟩:=BO (a:=am) hS AQ (by omega)
    have hmr:=HMB.out (i-1) (by omega)
    rw [hmk] at hmr
    have HW:=AD (u8_in hmr)
    have HMK:=AD hmk
    clear hmk
    repeat' (first
     | refine X0 ?_|refine X2 55 ?_|(refine AU 57 ?_);(refine DV hS rfl AQ Tryd.underlying35 KW rfl BL (by omega) (Nat.mul_one _) AB ?_;(first|(rintro b57 rfl)|(intro b57 hb57;cases hb57));go_step)|refine Gf 60 ?_|refine OQ ?_|refine AG ?_;go_step|fail)
    all_goals (try exact Ar)
    refine AZ [9,11] (fun w=>St w0 w [prt g2 [.val (.int .i64 m), .val (.int .i64 h), .val (.int .i64 p), .ints Q, .ints C1, .val (.slice b1 n1 j1), .ints C2, .val (.slice b2 n2 j2), .val (.int .i64 ev), .val (.slice bd N jd)],own 3 1 (some ⟨bm,0,none⟩) ms.length cm (ms.map (Value.int .i64))]) AB ?_
    replace hS:=hS.drew
    focus
     refine Dw 0 DG (V.fieldAddr En rfl CD) ?_;go_step
     refine Y9 1 [9,10,11] ?_
     refine Ai 2 ?_
     refine Ai 3 ?_
     (refine BJ 4 (.int _ (((i-1:Nat):Int))) Cf AB AB AB Cv (V.as (V.subI rfl rfl (by omega)) (by omega)) AB ?_)
     go_step
     refine Dw 5 DG (V.indexSl Tryd.underlying23 DC rfl rfl BL (by omega) (Nat.mul_one _) CD) ?_;go_step
     apply I3 6 Cf AB AB AB Cv [7,8,9,10,11] AB (hS.sub Ao)
     case hfr=>intro w hS;((refine A3 ?_;apply Ic hS 3 _ rfl _ _ rfl (Ab rfl) _ _ _ _ _;(case hp=>exact AQ);(case hi=>omega);refine AC ?_;go_step));refine wpList_nil ?_;exact ⟨rfl,rfl⟩
     case hd=>rfl
     (refine BJ 7 (.int _ (mk)) Cf AB AB AB Cv (V.as (V.conv (by rw [Tryd.underlying3];rfl) Tryd.underlying5 rfl) (by (rw [HMK.out];exact HW.out))) AB ?_)
     go_step
     refine Cb 8 ?_
     (refine AM (o:=⟨some 69,_,_,_,_,_⟩) hS 22 2 _ rfl 5 1 1 Ei _ _ (by (repeat (first|exact AN.nil|(apply AN.agg;(rfl);(rfl))|(apply AN.one;exact Bx;(rfl);(rfl))))) (by rfl) (by decide) (by decide) ?_;clear hS;intro g69 w hS)
     refine ⟨fun _ _=>hS.sub Ao,?_⟩
     refine AK ?_
     go_step
     refine Cb 9 ?_
     (refine Ad (o:=⟨some 70,_,_,_,_,_⟩) hS _ _ 22 rfl 5 1 1 Ei _ _ _ _ rfl AQ _ rfl _ _ (by (first|exact hS.slBlk AQ (by rfl) (by decide)|exact hS.sl AQ|with_reducible assumption|exact Sl.ext (by with_reducible assumption) hS.1|exact Sl.nil _ _|exact Sl.ext (by assumption) hS.1|assumption)) (by (first|exact BQ rfl|exact BE _ _|(intro u hu;cases hu))) (by unfold maxLen;omega) (by omega) ?_;clear hS;intro ad70 c70 w hS;(first|simp only [Bz] at hS|simp only [B3] at hS|simp only [B4] at hS|simp only [B5] at hS|simp only [B6] at hS|skip))
     refine ⟨fun h=>absurd (by decide) h,?_⟩
     refine AK ?_
     go_step
     refine Dw 10 DG (V.fieldAddr En rfl CD) ?_;go_step
     refine Cb 11 ?_
     refine CZ hS 22 _ _ rfl g2 102 rfl (Ab rfl) _ _ AQ _ Bx rfl (Kn hQ hC1 hC2) rfl ?_;clear hS;intro w hS
     refine ⟨fun h=>absurd (by decide) h,?_⟩
     refine AO AB ?_ _
    repeat' (first|(refine AG ?_;go_step)|fail)
    obtain ⟨Dc,hDe⟩:∃X,BC ps ms k i++[255,mk]=X:=⟨_,rfl⟩
    rw [hDe] at hS
    obtain ⟨Nc,hNe⟩:∃x,N+2=x:=⟨_,rfl⟩
    rw [hNe] at hS⊢
    have hNc:Hid (Dc.length=Nc):=AD (by rw [←hDe,←hNe,List.length_append,HN.out];rfl)
    have hDc:Hid (BC ps ms k i++(if i=0 then [] else [255,AF ms (i-1)])=Dc):=AD (by rw [if_neg hi0,HMK.out];exact hDe)
    clear hDe
    have hNc2:Nc≤200002:=by omega
    clear hNe
    obtain ⟨bc,rfl⟩:∃x,x=ad70:=⟨_,rfl⟩
    obtain ⟨jc,rfl⟩:∃x,x=c70:=⟨_,rfl⟩
    by_cases hik:i=k
    ·have hst:Hid (BC ps ms k (i+1)=Dc):=AD (by rw [BC,hDc.out,if_pos hik,List.append_nil])
     repeat' (first
      | refine X1 ?_|refine X7 74 ?_|refine J5 80 ?_|refine AG ?_;go_step|fail)
     all_goals (try exact Ar)
     go_roundg (gk-1)
     case measure=>omega
     case rel=>exact ⟨i+1,Nc,bc,jc,by omega,by go_num,by rw [hst.out];exact hNc.out,by rw [hst.out];exact hS.sub Ao⟩
    have hst:Hid (BC ps ms k (i+1)=Dc++px.xs):=AD (by rw [BC,hDc.out,if_neg hik,HPS.out])
    have hpx:=Ix hS AQ hpm
    rw [Pc.val,HPN.out] at hpx
    repeat' (first
     | refine X1 ?_|refine X7 74 ?_|refine JG 75 ?_|refine JG 79 ?_|refine J5 80 ?_|refine J4 ?_|refine Lv 78 ?_;clear hS;intro ad78 c78 w hS|refine Nr ?_;clear hS;intro w hS|refine AG ?_;go_step|fail)
    all_goals (try exact Ar)
    go_roundg (gk-1)
    case measure=>omega
    case rel=>exact ⟨i+1,Nc+pn,_,_,by omega,by go_num,by rw [hst.out,List.length_append,hNc.out,HPN.out],by rw [hst.out];exact hS.sub Ao⟩
   obtain rfl:lo=i:=by omega
   repeat' (first
    | refine X2 55 ?_|refine AG ?_;go_step|fail)
   all_goals (try exact Ar)
   repeat' (first
    | refine X8 ?_|refine KD ?_|refine J2 ?_;clear hS;intro w hS|refine AG ?_;go_step|fail)
   refine Ah (xs:=[_,_]) rfl (.cons (AE.prt hS rfl (AY (n:=103) rfl) AQ (by (repeat (first|exact BG.nil|(apply BG.ints;(case hn=>exact CM);(case h=>omega);(case hm=>rfl))|apply BG.val)))) (.cons (AE.tmp rfl) (.nil))) (by simp) rfl ?_
   exact ⟨b1,b2,bd,j1,j2,jd,N,hN,rfl,hS.sub Ao⟩
def Cr(w0:World)(e:Ending)(w:World):Prop:=∃(x y z ev er:Int) (Q C1 C2 D:List Int) (q1 q2:Option Addr) (l1 c1 l2 c2:Nat) (bd:Option Addr) (N jd:Nat),Ag Q 64∧Ag C1 16∧Ag C2 16∧e= .returned (.tuple #[.agg (AA [.val (.int .i64 x), .val (.int .i64 y), .val (.int .i64 z), .ints Q, .ints C1, .val (.slice q1 l1 c1), .ints C2, .val (.slice q2 l2 c2), .val (.int .i64 ev), .val (.slice bd N jd)]).toArray, .int .i64 er])∧St w0 w [own 5 1 bd N jd (D.map (Value.int .u8))]
theorem Dd{w0 w:World}{er:Int}(h:AX w0 w):Cr w0 (.returned (.tuple #[gz, .int .i64 er])) w:=
 ⟨0,0,0,0,er,List.replicate 64 0,List.replicate 16 0,List.replicate 16 0,[],none,none,0,0,0,0,none,0,0,Ag.rep,Ag.rep,Ag.rep,rfl,(((St.start w0).ext h).nilk 5 1 .u8)⟩
theorem Fk{q:List Int}{r:List (Int×List Int)}:∀i,i≤r.length+1→(BC (q::r.map (·.2)) (r.map (·.1)) 0 i).length≤((r.take (i-1)).flatMap fun y=>255::y.1::y.2).length
 | 0,_=>by simp [BC]
 | 1,_=>by simp [BC]
 | i+2,h=>by
   have ih:=Fk (q:=q) (r:=r) (i+1) (by omega)
   have hi:i<r.length:=by omega
   rw [BC,if_neg (by omega),if_neg (by omega)]
   rw [show i+2-1=i+1 from rfl,List.take_add_one,List.getElem?_eq_getElem hi]
   have e:(q::r.map (·.2)).getD (i+1) []=r[i].2:=by simp [List.getD,hi]
   rw [e]
   simp only [List.length_append,List.flatMap_append,Option.toList_some,List.flatMap_cons,List.flatMap_nil,List.length_cons,List.length_nil]
   rw [show i+1-1=i from rfl] at ih
   omega
theorem KT(w0:World)(f:Aj)(a1 a2 ad:Option Addr)(n1 k1 n2 k2 nd kd:Nat)(hF:FM w0 f a1 a2 ad n1 k1 n2 k2 nd kd)(hz:BB f≠0)(k:Nat):
 Calls Tryd.prog 11 #[fv f (.slice a1 n1 k1) (.slice a2 n2 k2) (.slice ad nd kd), .int .i64 k] w0 fun e w=>e= .returned (.tuple #[gz, .int .i64 (BB f)])∧AX w0 w:=by
 have hS:=St.start w0
 have HCK:=AD fun (w:World)(hx:AX w0 w)=>(hF.ext hx).chk
 obtain ⟨E,hE⟩:∃E,BB f=E:=⟨_,rfl⟩
 rw [hE] at hz HCK⊢
 have hQ:=hF.q
 have hC1:=hF.l1
 have hC2:=hF.l2
 clear hF hE
 obtain ⟨m,h,p,Q,C1,S1,C2,S2,ev,D⟩:=f
 dsimp only at hQ hC1 hC2 HCK⊢
 show Calls Tryd.prog 11 #[.agg (AA [.val (.int .i64 m), .val (.int .i64 h), .val (.int .i64 p), .ints Q, .ints C1, .val (.slice a1 n1 k1), .ints C2, .val (.slice a2 n2 k2), .val (.int .i64 ev), .val (.slice ad nd kd)]).toArray, .int .i64 k] _ _
 go_enter Tryd.func11,Tryd.ntmps11
 repeat' (first
  | (refine Am 23 ?_);refine An AB Tryd.call23 (HCK.out _ hS.1) (Gd hS ?_);clear hS;intro w hS;go_step|refine OY 16 ?_|refine X0 ?_|refine X7 15 ?_|refine Ik 2 ?_;clear hS;intro g2 w hS|refine LM 4 ?_;clear hS;intro g4 w hS|refine KD ?_|refine J2 ?_;clear hS;intro w hS|refine AG ?_;go_step|fail)
 all_goals (try exact Ar)
 refine Ah (xs:=[_,_]) rfl (.cons (AE.prt hS rfl (AY (n:=103) rfl) AQ (by (repeat (first|exact BG.nil|(apply BG.ints;(case hn=>exact CM);(case h=>omega);(case hm=>rfl))|apply BG.val)))) (.cons (AE.tmp rfl) (.nil))) (by simp) rfl ?_
 exact ⟨rfl,hS.1⟩
theorem JT(w0:World)(f:Aj)(a1 a2 ad:Option Addr)(n1 k1 n2 k2 nd kd:Nat)(hF:FM w0 f a1 a2 ad n1 k1 n2 k2 nd kd)(hz:BB f=0)(hsp:DF (Al f) [] [] []=none)(k:Nat):
 Calls Tryd.prog 11 #[fv f (.slice a1 n1 k1) (.slice a2 n2 k2) (.slice ad nd kd), .int .i64 k] w0 fun e w=>e= .returned (.tuple #[gz, .int .i64 4])∧AX w0 w:=by
 have hS:=St.start w0
 have HCK:=AD fun (w:World)(hx:AX w0 w)=>(by have:=(hF.ext hx).chk;rw [hz] at this;exact this:Calls Tryd.prog 23 #[fv f (.slice a1 n1 k1) (.slice a2 n2 k2) (.slice ad nd kd)] w fun e w'=>e= .returned (.int .i64 0)∧AX w w')
 have HSP:=AD fun (w:World)(hx:AX w0 w)=>(Bj w ad nd kd (Al f) (hF.ext hx).sd (Da hF.dlt) (by have h1:=hF.dl;have h2:=(Br hz).1;omega)).mono fun e w' hh=>hh.1 hsp
 have hQ:=hF.q
 have hC1:=hF.l1
 have hC2:=hF.l2
 clear hF hz hsp
 obtain ⟨m,h,p,Q,C1,S1,C2,S2,ev,D⟩:=f
 dsimp only at hQ hC1 hC2 HCK HSP⊢
 show Calls Tryd.prog 11 #[.agg (AA [.val (.int .i64 m), .val (.int .i64 h), .val (.int .i64 p), .ints Q, .ints C1, .val (.slice a1 n1 k1), .ints C2, .val (.slice a2 n2 k2), .val (.int .i64 ev), .val (.slice ad nd kd)]).toArray, .int .i64 k] _ _
 go_enter Tryd.func11,Tryd.ntmps11
 repeat' (first
  | (refine Am 23 ?_);refine An AB Tryd.call23 (HCK.out _ hS.1) (Gd hS ?_);clear hS;intro w hS;go_step|(refine Am 8 ?_);refine An AB Tryd.call8 (HSP.out _ hS.1) (Gd hS ?_);clear hS;intro w hS;go_step|refine OY 39 ?_|go_skip|refine X0 ?_|refine H0 ?_|refine JE 26 ?_ ?_<;>intro hB<;>(try exact Ar)<;>go_step|refine X7 15 ?_|refine JG 19 ?_|refine X4 22 ?_|refine X4 23 ?_|refine X4 24 ?_|refine X7 38 ?_|refine Ik 2 ?_;clear hS;intro g2 w hS|refine LM 4 ?_;clear hS;intro g4 w hS|refine KD ?_|refine J2 ?_;clear hS;intro w hS|refine J4 ?_|refine AG ?_;go_step|fail)
 all_goals (try exact Ar)
 refine Ah (xs:=[_,_]) rfl (.cons (AE.prt hS rfl (AY (n:=103) rfl) AQ (by (repeat (first|exact BG.nil|(apply BG.ints;(case hn=>exact CM);(case h=>omega);(case hm=>rfl))|apply BG.val)))) (.cons (AE.tmp rfl) (.nil))) (by simp) rfl ?_
 exact ⟨rfl,hS.1⟩
theorem KS(w0:World)(f:Aj)(a1 a2 ad:Option Addr)(n1 k1 n2 k2 nd kd:Nat)(hF:FM w0 f a1 a2 ad n1 k1 n2 k2 nd kd):
 Calls Tryd.prog 11 #[fv f (.slice a1 n1 k1) (.slice a2 n2 k2) (.slice ad nd kd), .int .i64 0] w0 (Cr w0):=by
 by_cases hz:BB f=0
 ·cases hT:DF (Al f) [] [] [] with
  | none=>exact (JT w0 f a1 a2 ad n1 k1 n2 k2 nd kd hF hz hT 0).mono fun e w ⟨h1,h2⟩=>h1▸ Dd h2
  | some T=>
    obtain ⟨ps,ms⟩:=T
    obtain ⟨q,r,e1,e2,e3,_,_⟩:=CO (Al f).length (Al f) _ _ _ _ _ (Nat.le_refl _) hT
    simp only [List.nil_append] at e1 e2
    have hlen:=(Br hz).1
    have hdl:(Al f).length=f.data.length:=by simp [Al]
    have hlt:=Da hF.dlt
    have hfl:∀l:List (Int×List Int),l.length≤(l.flatMap fun y=>255::y.1::y.2).length:=fun l=>by
     induction l with
     | nil=>exact Nat.le_refl _
     | cons y l ih=>rw [List.flatMap_cons,List.length_append,List.length_cons,List.length_cons,List.length_cons];omega
    have hall:q.length+(r.flatMap fun y=>255::y.1::y.2).length≤90000:=by rw [←List.length_append,←e3];omega
    have hrl:=hfl r
    refine (LT w0 f a1 a2 ad n1 k1 n2 k2 nd kd hF hz ps ms hT (by rw [e1,e2];simp) (fun i hi=>?_) 0 (by rw [e1];simp) (fun i hi=>?_) (fun x hx=>?_) (by rw [e1,List.length_cons,List.length_map];omega)).mono fun e w hh=>?_
    ·rw [e2,List.length_map] at hi
     have:AF ms i=r[i].1:=by rw [e2];simp [AF,List.getD,hi]
     rw [this]
     exact hlt _ (by rw [e3];exact List.mem_append_right _ (List.mem_flatMap.2 ⟨r[i],List.getElem_mem hi,by simp⟩))
    ·rw [e1,List.length_cons,List.length_map] at hi
     have h1:=Fk (q:=q) (r:=r) i hi
     rw [e1,e2]
     have h2:((r.take (i-1)).flatMap fun y=>255::y.1::y.2).length≤(r.flatMap fun y=>255::y.1::y.2).length:=by
      conv=>rhs;rw [←List.take_append_drop (i-1) r]
      rw [List.flatMap_append,List.length_append];omega
     omega
    ·rw [e1] at hx
     rcases List.mem_cons.1 hx with rfl|hx
     ·omega
     obtain ⟨y,hy,rfl⟩:=List.mem_map.1 hx
     obtain ⟨s,t,rfl⟩:=List.append_of_mem hy
     rw [List.flatMap_append,List.flatMap_cons,List.length_append,List.length_append,List.length_cons,List.length_cons] at hall
     omega
    obtain ⟨b1,b2,bd,j1,j2,jd,N,_,rfl,hS⟩:=hh
    exact ⟨_,_,_,_,_,_,_,_,_,b1,b2,n1,j1,n2,j2,bd,N,jd,hF.q,hF.l1,hF.l2,rfl,hS.sub Ao⟩
 exact (KT w0 f a1 a2 ad n1 k1 n2 k2 nd kd hF hz 0).mono fun e w ⟨h1,h2⟩=>h1▸ Dd h2
end Go.Proofs.YtkcbhcajfcfmmaaDoor
namespace Go.Proofs.YtkcbhcajfcfmmaaDoor
attribute [local irreducible] Region.wanted
open Go.ChangeShapes Go.WideShapes Go.ChangeAt Go.RowKit Go.Deep
set_option linter.unusedVariables false
set_option maxRecDepth 100000
set_option maxHeartbeats 8000000
theorem KM(n:Int)(i:Nat)(h:i<64):(List.replicate i n++List.replicate (64-i) 0).set i n=List.replicate (i+1) n++List.replicate (64-(i+1)) 0:=by
 obtain ⟨m,hm⟩:∃m,64-i=m+1:=⟨64-i-1,by omega⟩
 rw [hm,show 64-(i+1)=m by omega,List.set_append_right _ _ (by simp),List.length_replicate,Nat.sub_self,List.replicate_succ,List.set_cons_zero,List.replicate_succ',List.append_assoc]
 rfl
theorem Kh(w0:World)(n:Int):Calls Tryd.prog 15 #[.int .i64 n] w0 fun e w=>e= .returned (.agg (iv (List.replicate 64 n)))∧AX w0 w:=by
 have hS:=St.start w0
 go_enter Tryd.func15,Tryd.ntmps15
 repeat' (first
  | refine X1 ?_|(refine AU 2 ?_);(refine A3 ?_;apply Jv (o:=⟨some 2,_,_,_,_,_⟩) hS 25 rfl (List.replicate 64 0) 64 List.length_replicate Oh;clear hS;intro g2 w hS;refine AC ?_;go_step)|refine AG ?_;go_step|fail)
 go_loopg [4] 64 (fun gk kv w=>∃k:Nat,gk+k=64∧kv= .int .i64 k∧St w0 w [arr g2 64 (List.replicate k n++List.replicate (64-k) 0)])
 case atStart=>exact ⟨0,rfl,rfl,by rw [show List.replicate 0 n++List.replicate (64-0) 0=List.replicate 64 0 by simp];exact hS.sub Ao⟩
 case round=>
  clear hS
  obtain ⟨k,hk,rfl,hS⟩:=hrel
  by_cases hlt:k<64
  ·have HX:=AD (KM n k hlt)
   repeat' (first
    | refine X0 ?_|refine X3 ?_|(refine AU 9 ?_);(refine Av AB (V.indexAr Tryd.underlying25 DC rfl rfl BL (by omega) (Nat.mul_one _) CD) ?_;go_step)|refine Ge ?_|(with_reducible refine Az _ (.store 3 _ _) ?_);(refine A3 ?_;apply Ie hS 3 _ _ rfl _ _ rfl (Ab rfl) _ _;(case hp=>exact AQ);(case hy=>rfl);(case hi=>omega);(case hd=>exact rfl);clear hS;intro w hS)|refine AG ?_;go_step|fail)
   go_roundg (gk-1)
   case measure=>omega
   case rel=>exact ⟨k+1,by omega,by go_num,by rw [←HX.out];exact hS.sub Ao⟩
  obtain rfl:k=64:=by omega
  rw [show List.replicate 64 n++List.replicate (64-64) 0=List.replicate 64 n by simp] at hS
  repeat' (first
   | refine X3 ?_|(with_reducible refine Az _ (.load 25 _) ?_);(refine A3 ?_;apply Ky hS 25 _ rfl _ rfl 64 (AY rfl) _;(case hp=>exact AQ);refine AC ?_;go_step)|(with_reducible refine Az _ (.store 25 _ _) ?_);(refine A3 ?_;apply Jw hS 25 _ _ rfl _ rfl 64 (AY rfl) _ _;(case hp=>exact AQ);(case hy=>rfl);(case hm=>(repeat (first|assumption|exact Ag.rep|apply Ag.set|((with_reducible show Ag (_::_) _);exact rfl))));(case hd=>exact rfl);clear hS;intro w hS)|refine AG ?_;go_step|fail)
  refine Ae rfl (AE.arr hS rfl (AY (n:=64) rfl) AQ) rfl ?_
  exact ⟨rfl,hS.1⟩
def Gs:Aj:=⟨1,1,1,List.replicate 64 1,List.replicate 16 0,[],List.replicate 16 0,[],0,[]⟩
theorem KL:BB Gs=0:=by decide+kernel
theorem Fh:(CN Gs).length=134:=by decide+kernel
theorem Nm(l:List Int)(k:Nat)(x:Int)(hk:k<l.length)(h:AF l k=x):(l.map (Value.int .u8))[k]? =some (.int .u8 x):=by
 rw [List.getElem?_map,List.getElem?_eq_getElem hk,←h]
 simp [AF,List.getD,hk]
theorem IF:((CN Gs).map (Value.int .u8))[0]? =some (.int .u8 77):=Nm _ 0 77 (by rw [Fh];decide) (by decide+kernel)
theorem Gi(w:World):(Instr.build 32 #[(0, .int .i64 1),(1, .int .i64 1),(2, .int .i64 1),(3, .agg (iv (List.replicate 64 1)))]).run Tryd.prog w= .ok (fv Gs (.slice none 0 0) (.slice none 0 0) (.slice none 0 0)) w:=by kernel_rfl
theorem JQ(w0:World):Calls Tryd.prog 4 #[] w0 fun e w=>e= .returned (.bool true)∧AX w0 w:=by
 have hS:=St.start w0
 have hz:=IF
 go_enter Tryd.func4,Tryd.ntmps4
 repeat' (first
  | (refine Am 15 ?_);refine An AB Tryd.call15 (Kh _ 1) (Gd hS ?_);clear hS;intro w hS;go_step|(refine AU 5 ?_);refine AP _ (V.build (vs:=[(0, .int .i64 1),(1, .int .i64 1),(2, .int .i64 1),(3, .agg (iv (List.replicate 64 1)))]) rfl Gi) AB ?_;go_step|(refine Am 14 ?_);refine An AB Tryd.call14 (Iw _ Gs none none none 0 0 0 0 0 0 rfl rfl rfl (Sl.nil _ _) (Sl.nil _ _) (Sl.nil _ _) KL) ?_;rintro e w ⟨ao,co,rfl,hS2⟩;replace hS:=hS.call1 hS2;rw [Fh] at hS⊢;clear hS2;refine As ?_;go_step|refine X0 ?_|refine X5 ?_|refine JE 10 ?_ ?_<;>intro hB<;>(try exact Ar)<;>go_step|refine JE 14 ?_ ?_<;>intro hB<;>(try exact Ar)<;>go_step|refine MG ?_|refine Lw ?_|(refine AU 18 ?_);(refine DV hS rfl AQ Tryd.underlying22 JV rfl (show At 0 0 from rfl) (by omega) (show 0*1=0 from rfl) AB ?_;(first|(rintro b18 rfl)|(intro b18 hb18;cases hb18));go_step)|(with_reducible refine Az _ (.binOp .eql 5 _ _ _) ?_);(refine Av AB (V.eql rfl rfl) ?_;go_step)|(with_reducible refine Az _ (.load 5 _) ?_);(refine A3 ?_;apply C9 hS 5 _ rfl _ _ rfl (Ab rfl) _ _ _ _ _;(case hp=>exact AQ);(case hv=>with_reducible assumption);refine AC ?_;go_step)|refine AG ?_;go_step|fail)
 all_goals (go_ret;exact ⟨rfl,hS.1⟩)
end Go.Proofs.YtkcbhcajfcfmmaaDoor
namespace Go.Proofs.YtkcbhcajfcfmmaaDoor
attribute [local irreducible] Region.wanted
open Go.RowKit
set_option linter.unusedVariables false
set_option maxRecDepth 100000
set_option maxHeartbeats 8000000
def Ii(w:World)(v:Value)(xs:List Int):Prop:=Sl w 1 v xs.length (xs.map (Value.int .u8))
theorem Ii.open{w:World}{v:Value}{xs:List Int}(h:Ii w v xs):∃a c,v= .slice a xs.length c∧xs.length≤c∧c≤9223372036854775807∧
 (∀i,i<xs.length→∃b off,a=some ⟨b,off,none⟩∧∀k,k<xs.length→w.cell? ⟨b,off+k,none⟩=some (.int .u8 (AF xs k))):=by
 obtain ⟨_,a,c,hv,h1,h2,h3⟩:=h
 refine ⟨a,c,hv,h1,by unfold maxLen at h2;exact h2,fun i hi=>?_⟩
 rcases h3 with h3|⟨b,off,ha,hc⟩
 ·omega
 refine ⟨b,off,ha,fun k hk=>?_⟩
 rw [hc k (by omega),List.getElem?_map,List.getElem?_eq_getElem hk]
 simp [AF,List.getD,List.getElem?_eq_getElem hk]
theorem ID(w:World)(va vb:Value)(xs ys:List Int)(ha:Ii w va xs)(hb:Ii w vb ys):
 Calls Tryd.prog 13 #[va,vb] w fun e w'=>e= .returned (.bool (decide (xs=ys)))∧w=w':=by
 obtain ⟨a,c,rfl,hc1,hc2,ha⟩:=ha.open
 obtain ⟨b,d,rfl,hd1,hd2,hb⟩:=hb.open
 by_cases hl:xs.length=ys.length
 ·have hl':((xs.length:Int) !=(ys.length:Int))=false:=by simp [hl]
  have HL:=AD hl
  clear hl
  go_enter Tryd.func13,Tryd.ntmps13
  go_wp2_with fail
  go_loopg [14] xs.length (fun gk xv wr=>∃(i:Nat),gk+i=xs.length∧xv= .int .i64 i∧xs.take i=ys.take i∧wr=w)
  case atStart=>exact ⟨0,rfl,rfl,rfl,rfl⟩
  case round=>
   obtain ⟨i,hi,rfl,hpre,rfl⟩:=hrel
   have hi':i≤xs.length:=by omega
   have HI:=AD hi
   have HP:=AD hpre
   clear hi hpre
   by_cases hlt:i<xs.length
   ·obtain ⟨ba,oa,rfl,hca⟩:=ha i hlt
    have hlt2:i<ys.length:=by have:=HL.out;omega
    obtain ⟨bb,ob,rfl,hcb⟩:=hb i hlt2
    have h1:=hca i hlt
    have h2:=hcb i hlt2
    clear ha hb hca hcb
    by_cases he:AF xs i=AF ys i
    ·have h3:(AF xs i !=AF ys i)=false:=by simp [he]
     have HT:=AD (Dp xs ys i hlt hlt2 HP.out he)
     clear he
     have HM:Hid (gk-1+(i+1)=xs.length):=by have:=HI.out;unfold Hid;omega
     have HG:Hid (gk-1<gk):=by have:=HI.out;unfold Hid;omega
     go_wp2_with fail
     go_roundg (gk-1)
     case measure=>exact HG.out
     case rel=>exact ⟨i+1,HM.out,by go_num,HT.out,rfl⟩
    have h3:(AF xs i !=AF ys i)=true:=by simp [he]
    have HN:Hid (decide (xs=ys)=false):=by
     unfold Hid;rw [decide_eq_false_iff_not];intro h;exact he (by rw [h])
    clear he
    go_wp2_with fail
    go_ret
    exact ⟨B8 HN.out.symm,rfl⟩
   have HN:Hid (decide (xs=ys)=true):=by
    unfold Hid
    have h1:=HP.out
    have h2:=HL.out
    rw [List.take_of_length_le (by omega),List.take_of_length_le (by omega)] at h1
    simp [h1]
   clear ha hb
   go_wp2_with fail
   go_ret
   exact ⟨B8 HN.out.symm,rfl⟩
 have hl':((xs.length:Int) !=(ys.length:Int))=true:=by simp;omega
 have HN:Hid (decide (xs=ys)=false):=by
  unfold Hid;rw [decide_eq_false_iff_not];intro h;exact hl (by rw [h])
 clear hl ha hb
 go_enter Tryd.func13,Tryd.ntmps13
 go_wp2_with fail
 go_ret
 exact ⟨B8 HN.out.symm,rfl⟩
theorem JO(w:World)(va vb:Value)(xs ys:List Int)(ha:J1 w va xs)(hb:J1 w vb ys):
 Calls Tryd.prog 16 #[va,vb] w fun e w'=>e= .returned (.bool (decide (xs=ys)))∧w=w':=by
 obtain ⟨a,c,rfl,hc1,hc2,ha⟩:=ha.open
 obtain ⟨b,d,rfl,hd1,hd2,hb⟩:=hb.open
 by_cases hl:xs.length=ys.length
 ·have hl':((xs.length:Int) !=(ys.length:Int))=false:=by simp [hl]
  have HL:=AD hl
  clear hl
  go_enter Tryd.func16,Tryd.ntmps16
  go_wp2_with fail
  go_loopg [14] xs.length (fun gk xv wr=>∃(i:Nat),gk+i=xs.length∧xv= .int .i64 i∧xs.take i=ys.take i∧wr=w)
  case atStart=>exact ⟨0,rfl,rfl,rfl,rfl⟩
  case round=>
   obtain ⟨i,hi,rfl,hpre,rfl⟩:=hrel
   have hi':i≤xs.length:=by omega
   have HI:=AD hi
   have HP:=AD hpre
   clear hi hpre
   by_cases hlt:i<xs.length
   ·obtain ⟨ba,oa,rfl,hca⟩:=ha i hlt
    have hlt2:i<ys.length:=by have:=HL.out;omega
    obtain ⟨bb,ob,rfl,hcb⟩:=hb i hlt2
    have h1:=hca i hlt
    have h2:=hcb i hlt2
    clear ha hb hca hcb
    by_cases he:AF xs i=AF ys i
    ·have h3:(AF xs i !=AF ys i)=false:=by simp [he]
     have HT:=AD (Dp xs ys i hlt hlt2 HP.out he)
     clear he
     have HM:Hid (gk-1+(i+1)=xs.length):=by have:=HI.out;unfold Hid;omega
     have HG:Hid (gk-1<gk):=by have:=HI.out;unfold Hid;omega
     go_wp2_with fail
     go_roundg (gk-1)
     case measure=>exact HG.out
     case rel=>exact ⟨i+1,HM.out,by go_num,HT.out,rfl⟩
    have h3:(AF xs i !=AF ys i)=true:=by simp [he]
    have HN:Hid (decide (xs=ys)=false):=by
     unfold Hid;rw [decide_eq_false_iff_not];intro h;exact he (by rw [h])
    clear he
    go_wp2_with fail
    go_ret
    exact ⟨B8 HN.out.symm,rfl⟩
   have HN:Hid (decide (xs=ys)=true):=by
    unfold Hid
    have h1:=HP.out
    have h2:=HL.out
    rw [List.take_of_length_le (by omega),List.take_of_length_le (by omega)] at h1
    simp [h1]
   clear ha hb
   go_wp2_with fail
   go_ret
   exact ⟨B8 HN.out.symm,rfl⟩
 have hl':((xs.length:Int) !=(ys.length:Int))=true:=by simp;omega
 have HN:Hid (decide (xs=ys)=false):=by
  unfold Hid;rw [decide_eq_false_iff_not];intro h;exact hl (by rw [h])
 clear hl ha hb
 go_enter Tryd.func16,Tryd.ntmps16
 go_wp2_with fail
 go_ret
 exact ⟨B8 HN.out.symm,rfl⟩
end Go.Proofs.YtkcbhcajfcfmmaaDoor
namespace Go.Proofs.YtkcbhcajfcfmmaaDoor
attribute [local irreducible] Region.wanted
open Go.ChangeShapes Go.WideShapes Go.ChangeAt Go.RowKit
set_option linter.unusedVariables false
set_option maxRecDepth 100000
set_option maxHeartbeats 8000000
theorem KJ{H:Type}(d:DataW H):1≤Rows.uptoBulk d:=by
 cases d with
 | lit l=>cases l<;>simp [Rows.uptoBulk]
 | nil=>simp [Rows.uptoBulk]
 | ptr d=>simp [Rows.uptoBulk]
 | slice elems spare=>simp [Rows.uptoBulk]
 | agg parts=>simp [Rows.uptoBulk]
 | iface t d=>simp [Rows.uptoBulk]
 | map entries=>simp [Rows.uptoBulk]
 | held h=>simp [Rows.uptoBulk]
theorem KI{H:Type}(l:List (DataW H)):l.length≤Rows.uptoBulkAll l:=by
 induction l with
 | nil=>simp [Rows.uptoBulkAll]
 | cons x r ih=>have:=KJ x;simp only [Rows.uptoBulkAll,List.length_cons];omega
theorem Fb{H:Type}{d:DataW H}{l:List (DataW H)}(h:d∈l):Rows.uptoBulk d≤Rows.uptoBulkAll l:=by
 induction l with
 | nil=>cases h
 | cons x r ih=>
   simp only [Rows.uptoBulkAll]
   cases List.mem_cons.1 h with
   | inl e=>subst e;omega
   | inr e=>have:=ih e;omega
theorem GA{H:Type}{d:DataW H}{l:List (DataW H)}(hk:Rows.uptoSmall H l=true)(h:d∈l):Rows.uptoBulk d≤1048576:=by
 have h1:Rows.uptoBulkAll l≤1048576:=of_decide_eq_true hk
 have:=Fb h
 omega
theorem DS{H:Type}{enc:TypeId×Value→H}{P:Program}{W:World}{t e:TypeId}{ad:Option Addr}{n c:Nat}{d:DataW H}{p:List MemPlace}(ht:P.underlying t=some (.slice e))
 (h:DataW.Trod enc P W 0 (fun _=>true) true t (.slice ad n c) d p):n≤Rows.uptoBulk d:=by
 obtain ⟨fuel,h⟩:=h
 have hvc:(Value.slice ad n c).cells.toList=[.slice ad n c]:=rfl
 rw [hvc] at h
 rcases Go.Deep.open_slice ht h with ⟨h0,_⟩|⟨a,len,cap,m,k,D,Pl,hcs,_,_,_,_,hx,_⟩
 ·have:n=0:=by have h1:=h0;simp at h1;exact h1.2.1
  omega
 have e1:n=len:=by have h1:=hcs;simp at h1;exact h1.2.1
 have e2:d= .slice ((List.range len).map D) ((List.range (m-len)).map fun j=>D (len+j)):=(Prod.mk.inj hx).1
 rw [e2]
 simp only [Rows.uptoBulk]
 have:=KI ((List.range len).map D)
 rw [List.length_map,List.length_range] at this
 omega
theorem Ki{H:Type}{enc:TypeId×Value→H}{W:World}{v:Value}{d:DataW H}{p:List MemPlace}{base:Nat}(ho:Value.okWide Tryd.prog W .any base 22 v)(h:DataW.Trod enc Tryd.prog W 0 (fun _=>true) true 22 v d p):
 ∃(n:Nat) (l:List Nat) (ad:Option Addr) (c:Nat),l.length=n∧v= .slice ad n c∧n≤c∧c≤9223372036854775807∧Sl W 1 (.slice ad n c) n (l.map fun (x:Nat)=>Value.int .u8 (x:Int))∧(∀x∈l,x<256)∧n≤Rows.uptoBulk d:=by
 obtain ⟨n,ns,hl,hv,hw⟩:=G8 .u8 Tryd.underlying22 1 AB 1 AB (by omega) ho h
 obtain ⟨ad,c,rfl,hnc,hcm⟩:∃ad c,v= .slice ad n c∧n≤c∧c≤9223372036854775807:=by
  obtain ⟨_,ad,c,h1,h2,h3,_⟩:=hv
  exact ⟨ad,c,h1,h2,by unfold maxLen at h3;exact h3⟩
 have hb:∀x∈ns,0≤x∧x≤255:=fun x hx=>by
  obtain ⟨i,hi,rfl⟩:=List.getElem_of_mem hx
  have:=(Fy _).1 (hw i hi)
  simpa [AF,List.getD,hi] using this
 have e:ns.map (Value.int .u8)=(ns.map Int.toNat).map fun (x:Nat)=>Value.int .u8 (x:Int):=by
  rw [List.map_map]
  refine List.map_congr_left fun x hx=>?_
  have:=hb x hx
  simp only [Function.comp]
  rw [Int.toNat_of_nonneg (by omega)]
 refine ⟨n,ns.map Int.toNat,ad,c,by simpa using hl,rfl,hnc,hcm,e▸ hv,fun x hx=>?_,DS Tryd.underlying22 h⟩
 obtain ⟨y,hy,rfl⟩:=List.mem_map.1 hx
 have:=hb y hy
 omega
theorem La{H:Type}{enc:TypeId×Value→H}{W:World}{v:Value}{d:DataW H}{p:List MemPlace}{base:Nat}(ho:Value.okWide Tryd.prog W .any base 23 v)(h:DataW.Trod enc Tryd.prog W 0 (fun _=>true) true 23 v d p):
 ∃(n:Nat) (l:List Int) (ad:Option Addr) (c:Nat),l.length=n∧v= .slice ad n c∧n≤c∧c≤9223372036854775807∧Sl W 1 (.slice ad n c) n (l.map (Value.int .i64))∧(∀i,i<n→ -9223372036854775808≤AF l i∧AF l i≤9223372036854775807)∧n≤Rows.uptoBulk d:=by
 obtain ⟨n,ns,hl,hv,hw⟩:=G8 .i64 Tryd.underlying23 1 AB 1 AB (by omega) ho h
 obtain ⟨ad,c,rfl,hnc,hcm⟩:∃ad c,v= .slice ad n c∧n≤c∧c≤9223372036854775807:=by
  obtain ⟨_,ad,c,h1,h2,h3,_⟩:=hv
  exact ⟨ad,c,h1,h2,by unfold maxLen at h3;exact h3⟩
 exact ⟨n,ns,ad,c,by simpa using hl,rfl,hnc,hcm,hv,fun i hi=>(CX _).1 (hw i (by omega)),DS Tryd.underlying23 h⟩
theorem DN(w:World)(va vb:Value)(xs ys:List Int)(ha:Ii w va xs)(hb:Ii w vb ys)(h:xs=ys):
 Calls Tryd.prog 13 #[va,vb] w fun e w'=>e= .returned (.bool true)∧w=w':=
 (ID w va vb xs ys ha hb).mono fun e w' ⟨h1,h2⟩=>⟨by rw [h1,decide_eq_true h],h2⟩
theorem JP(w:World)(va vb:Value)(xs ys:List Int)(ha:J1 w va xs)(hb:J1 w vb ys)(h:xs=ys):
 Calls Tryd.prog 16 #[va,vb] w fun e w'=>e= .returned (.bool true)∧w=w':=
 (JO w va vb xs ys ha hb).mono fun e w' ⟨h1,h2⟩=>⟨by rw [h1,decide_eq_true h],h2⟩
theorem Jl{H:Type}{enc:TypeId×Value→H}{P:Program}{W:World}{t e:TypeId}{ad:Option Addr}{n c:Nat}{d:DataW H}{p:List MemPlace}(ht:P.underlying t=some (.slice e))
 (h:DataW.Trod enc P W 0 (fun _=>true) true t (.slice ad n c) d p):ad=none→c=0:=by
 intro hn
 subst hn
 obtain ⟨fuel,h⟩:=h
 have hvc:(Value.slice none n c).cells.toList=[.slice none n c]:=rfl
 rw [hvc] at h
 rcases Go.Deep.open_slice ht h with ⟨h0,_⟩|⟨a,len,cap,m,k,D,Pl,hcs,_,_,_,_,hx,_⟩
 ·have h1:=h0;simp at h1;exact h1.2
 have h1:=hcs;simp at h1
theorem Jc{H:Type}{enc:TypeId×Value→H}{W:World}{v:Value}{d:DataW H}{p:List MemPlace}{base:Nat}(ho:Value.okWide Tryd.prog W .any base 22 v)(h:DataW.Trod enc Tryd.prog W 0 (fun _=>true) true 22 v d p):
 ∃(n:Nat) (xs:List Int) (ad:Option Addr) (c:Nat),v= .slice ad n c∧Sl W 1 (.slice ad n c) n (xs.map (Value.int .u8))∧(∀x∈xs,0≤x∧x<256)∧(ad=none→c=0)∧n≤Rows.uptoBulk d:=by
 obtain ⟨n,l,ad,c,hl,rfl,_,_,hs,hr,hb⟩:=Ki ho h
 refine ⟨n,l.map fun (x:Nat)=>(x:Int),ad,c,rfl,by rw [List.map_map];exact hs,fun x hx=>?_,Jl Tryd.underlying22 h,hb⟩
 obtain ⟨y,hy,rfl⟩:=List.mem_map.1 hx
 have:=hr y hy
 exact ⟨by omega,by omega⟩
theorem Hk(w:World):Calls Tryd.prog 5 #[] w fun e w'=>e= .returned (.bool true)∧AX w w':=by
 have hS:=St.start w
 have F1:=AD (show DF [1,255,7,2] [] [] []=some ([[1],[2]],[7]) by decide+kernel)
 go_enter Tryd.func5,Tryd.ntmps5
 repeat' (first
  | (refine Am 8 ?_);refine An AB Tryd.call8 (Bj _ _ 4 4 [1,255,7,2] (hS.slBlk (n:=4) (cs:=[.int .u8 1, .int .u8 255, .int .u8 7, .int .u8 2]) AQ (by rfl) (by decide)) (by decide) (by decide)) ?_;rintro e w ⟨-,hR⟩;obtain ⟨pcs,ao,am,co,cm,lo,lm,hlo,hlm,-,rfl,hS2⟩:=hR _ _ F1.out;clear hR;simp only [List.length_cons,List.length_nil] at hlo hlm;subst hlo;subst hlm;replace hS:=hS.call hS2;clear hS2;simp only [List.cons_append,List.nil_append] at hS;refine As ?_;go_step|refine X0 ?_|refine X4 7 ?_|refine X4 8 ?_|refine X4 9 ?_|refine On 5 ?_;clear hS;intro g5 w hS|refine AG ?_;go_step|fail)
 repeat' (first
  | (refine Am 16 ?_);refine An AB Tryd.call16 (JP _ _ _ [7] [7] (hS.sl AQ) (hS.slBlk (n:=1) (cs:=[.int .i64 7]) AQ (by rfl) (by decide)) rfl) ?_;rintro e w ⟨rfl,rfl⟩;refine As ?_;go_step|(refine Am 7 ?_);refine An AB Tryd.call7 (Fr _ _ 1 1 [255] (hS.slBlk (n:=1) (cs:=[.int .u8 255]) AQ (by rfl) (by decide)) (by intro h;cases h) (by decide) (by decide)) ?_;rintro e w ⟨ad5,c5,rfl,hS2⟩;replace hS:=hS.call1 hS2;clear hS2;refine As ?_;go_step|(refine Am 13 ?_);refine An AB Tryd.call13 (DN _ _ _ (ET [255]) [255,0] (hS.sl AQ) (hS.slBlk (n:=2) (cs:=[.int .u8 255, .int .u8 0]) AQ (by rfl) (by decide)) rfl) ?_;rintro e w ⟨rfl,rfl⟩;refine As ?_;go_step|refine X0 ?_|refine X5 ?_|refine JE 11 ?_ ?_<;>intro hB<;>(try exact Ar)<;>go_step|refine JE 15 ?_ ?_<;>intro hB<;>(try exact Ar)<;>go_step|refine NS 14 ?_|refine NC 19 ?_;clear hS;intro g19 w hS|refine Mr 23 ?_;clear hS;intro g23 w hS|refine Ms 25 ?_;clear hS;intro g25 w hS|refine AG ?_;go_step|fail)
 go_ret
 exact ⟨rfl,hS.1⟩
end Go.Proofs.YtkcbhcajfcfmmaaDoor
/- And, or, exclusive or of ints that are not negative. -/
namespace Go
open Go.RowKit
theorem toNat_i64(a:Nat)(ha:a<9223372036854775808):(BitVec.ofInt 64 (a:Int)).toNat=a:=by
  rw [BitVec.ofInt_natCast,BitVec.toNat_ofNat];exact Nat.mod_eq_of_lt (by omega)
theorem wrap_i64_nat(x:Nat)(h:x<9223372036854775808):IntKind.i64.wrap (x:Int)=(x:Int):=by
  simp [IntKind.wrap,IntKind.signed,IntKind.bits];omega
theorem bits_or_i64_nat(a b:Nat)(ha:a<9223372036854775808)(hb:b<9223372036854775808):bits .or .i64 (a:Int) (b:Int)=((a|||b:Nat):Int):=by
  show IntKind.i64.wrap ((BitVec.ofInt 64 (a:Int)|||BitVec.ofInt 64 (b:Int)).toNat:Int)=_
  rw [BitVec.toNat_or,toNat_i64 a ha,toNat_i64 b hb]
  exact wrap_i64_nat _ (Nat.lt_of_lt_of_le (Nat.or_lt_two_pow (n:=63) (by omega) (by omega)) (by decide))
end Go
namespace Go.Proofs.YtkcbhcajfcfmmaaDoor
attribute [local irreducible] Region.wanted
open Go.ChangeShapes Go.WideShapes Go.ChangeAt Go.RowKit Go.Deep
set_option linter.unusedVariables false
set_option maxRecDepth 100000
set_option maxHeartbeats 8000000
section
variable{P:Program}{ops:Array Oper}{Q:Exit→Act→World→Prop}{rest:List Oper}{a:Act}{w W:World}{d:Option Tmp}{ty:TypeId}{pos:String}{af:Array Edge}{g:Option (Nat×Bool)}{x y:Operand}{k:IntKind}{t:TypeId}
theorem Ig{k':IntKind}{ad:Option Addr}{n c j:Nat}{l:List Int}{e:TypeId}{i:Int}(hv:Sl W 1 (.slice ad n c) n (l.map (Value.int k')))(ht:P.underlying t=some (.slice e))(hs:(P.info? e).map (·.size)=some 1)(hx:a.eval x= .slice ad n c)(hy:a.eval y= .int k i)(hj:At i j)(hn:j<n)
 (hw:Region.wanted ⟨d, .indexAddr t x y,ty,pos,af,g⟩ (yielded ops a.tmps)=true)
 (h:∀b o,W.cell? ⟨b,o,none⟩=some (.int k' (AF l j))→(Oper.mk d (.move (.const (.pointer (some ⟨b,o,none⟩)))) ty pos af g).wp P a w (wpList P ops Q rest) Q):wpList P ops Q (⟨d, .indexAddr t x y,ty,pos,af,g⟩::rest) a w:=
 FG hv ht hs hx hy hj hn hw fun b o hr=>h b o (by
  have hl:l.length=n:=by have:=hv.1;simpa using this
  have:=hr 0 (.int k' (AF l j)) (by simp [AF,List.getD,List.getElem?_drop,hl,hn])
  simpa using this)
end
def rdr(W:World)(g:Nat)(l:List Int)(p:Nat):Ac where
 holds w f:=∃(a:Option Addr) (c m:Nat),m=l.length-p∧Sl W 1 (.slice a m c) m ((l.drop p).map (Value.int .u8))∧(blk g [.slice a m c, .bool (decide (l.length<p))]).holds w f
 lt:=fun ⟨_,_,_,_,_,h⟩=>(blk g _).lt h
 loc:=fun ⟨a,c,m,h1,h2,h⟩ hs=>⟨a,c,m,h1,h2,(blk g _).loc h hs⟩
theorem St.rdr_open{W w:World}{rs rs':List Ac}{g p:Nat}{l:List Int}(hS:St W w rs)(hp:AI (Go.Proofs.YtkcbhcajfcfmmaaDoor.rdr W g l p) rs rs'):∃(a:Option Addr) (c m:Nat),m=l.length-p∧Sl W 1 (.slice a m c) m ((l.drop p).map (Value.int .u8))∧St W w (Go.Proofs.YtkcbhcajfcfmmaaDoor.blk g [.slice a m c, .bool (decide (l.length<p))]::rs'):=by
 obtain ⟨h1,f,h2,h3,f1,f2,e,⟨a,c,m,k1,k2,k3⟩,h5⟩:=hS.pull hp
 exact ⟨a,c,m,k1,k2,h1,f,h2,h3,f1,f2,e,k3,h5⟩
theorem St.rdr_close{W w:World}{rs':List Ac}{g p:Nat}{l:List Int}{a:Option Addr}{c m:Nat}(h1:m=l.length-p)(h2:Sl W 1 (.slice a m c) m ((l.drop p).map (Value.int .u8)))(hS:St W w (Go.Proofs.YtkcbhcajfcfmmaaDoor.blk g [.slice a m c, .bool (decide (l.length<p))]::rs')):St W w (Go.Proofs.YtkcbhcajfcfmmaaDoor.rdr W g l p::rs'):=by
 obtain ⟨h1',f,h2',h3,f1,f2,e,h4,h5⟩:=hS
 exact ⟨h1',f,h2',h3,f1,f2,e,⟨a,c,m,h1,h2,h4⟩,h5⟩
theorem MK(a0:Option Addr)(n0 c0:Nat)(w:World):(Instr.build 54 #[(0, .slice a0 n0 c0)]).run Tryd.prog w= .ok (.agg #[.slice a0 n0 c0, .bool false]) w:=by kernel_rfl
theorem A4(W w0:World)(rs rs':List Ac)(g p:Nat)(l:List Int)(hS:St W w0 rs)(hp:AI (rdr W g l p) rs rs')(hr:Hid (∀i,i<l.length→0≤AF l i∧AF l i<256))(hn:l.length≤1000000000000)(hpn:p≤1000000000000):
 Calls Tryd.prog 18 #[.pointer (some ⟨g,0,none⟩)] w0 fun e w=>e= .returned (.int .i64 (AF l p))∧St W w (rdr W g l (p+1)::rs'):=by
 obtain ⟨a,c,m,hm,hv,hS⟩:=hS.rdr_open hp
 have hx:=hv
 obtain ⟨hlen,a',c',e1,hmc,hcm,hor⟩:=hx
 cases e1
 by_cases h0:m=0
 ·have hb:(AF l p=0):=by
   simp only [AF];rw [List.getD_eq_getElem?_getD,List.getElem?_eq_none (by omega)];rfl
  have HB:=AD hb
  have hd2:decide (l.length<p+1)=true:=decide_eq_true (by omega)
  have HD:=AD hd2
  have hv2:Sl W 1 (.slice a m c) m ((l.drop (p+1)).map (Value.int .u8)):=by
   rw [List.drop_of_length_le (by omega)]
   rw [List.drop_of_length_le (by omega)] at hv
   exact hv
  have Hm:Hid (m=l.length-(p+1)):=AD (by omega)
  clear hb hd2 hor
  go_enter Tryd.func18,Tryd.ntmps18
  repeat' (first
   | refine X0 ?_|refine Mw ?_|refine OO ?_|refine Lw ?_|refine Ns ?_|refine NQ ?_|refine OP ?_|(with_reducible refine Az _ (.store 4 _ _) ?_);(refine A3 ?_;apply DB hS 4 _ _ rfl _ _ rfl (Ab rfl) _ _;(case hp=>exact AQ);(case hy=>exact Bx);(case hv=>rfl);(case hc=>exact Ot);(case hd=>exact rfl);clear hS;intro w hS)|refine AG ?_;go_step|fail)
  refine Ae rfl (AE.tmp rfl) rfl ?_
  refine ⟨(by rw [HB.out];rfl),St.rdr_close Hm.out hv2 ?_⟩
  rw [HD.out]
  exact hS.sub Ao
 have hlp:p<l.length:=by omega
 have hx0:=hr.out p hlp
 have e0:AF (l.drop p) 0=AF l p:=by simp only [AF,List.getD_eq_getElem?_getD,List.getElem?_drop,Nat.add_zero]
 have HE0:=AD e0
 obtain ⟨x,hx⟩:∃x,AF l p=x:=⟨_,rfl⟩
 rw [hx] at hx0 HE0⊢
 have hv2:Sl W 1 (.slice (cutAt a c 1 1) (m-1) (c-1)) (m-1) ((l.drop (p+1)).map (Value.int .u8)):=by
  have:=hv.cutAt 1 m (by omega) (Nat.le_refl _)
  rw [←List.map_drop,←List.map_take,List.drop_drop] at this
  rw [List.take_of_length_le (by simp;omega)] at this
  exact this
 have HD:Hid (decide (l.length<p)=decide (l.length<p+1)):=AD (by rw [decide_eq_false (by omega),decide_eq_false (by omega)])
 have Hm:Hid (m-1=l.length-(p+1)):=AD (by omega)
 rw [HD.out] at hS
 clear e0 hx hlp hlen
 go_enter Tryd.func18,Tryd.ntmps18
 repeat' (first
  | (refine AU 17 ?_);refine Ig hv Tryd.underlying22 JV rfl rfl At.l0 (by omega) AB ?_;intro b17 o17 hc17;rw [HE0.out] at hc17;replace hc17:=hS.1.cell hc17;go_step|(refine AU 18 ?_);refine A3 ?_;refine C8 (o:=⟨some 18,_,_,_,_,_⟩) 5 _ rfl _ rfl (Ab rfl) _ hc17 ?_;refine AC ?_;go_step|refine X0 ?_|refine Mw ?_|refine OO ?_|refine Lw ?_|refine Ns ?_|(with_reducible refine Az _ (.convert 5 3 _) ?_);(refine Av AB (V.convI (by rw [Tryd.underlying5];rfl) Tryd.underlying3 rfl (IntWalk.i64_in _ (by omega))) ?_;go_step)|refine Nz ?_|refine OP ?_|(with_reducible refine Az _ (.store 22 _ _) ?_);(refine A3 ?_;apply DB hS 22 _ _ rfl _ _ rfl (Ab rfl) _ _;(case hp=>exact AQ);(case hy=>exact Bx);(case hv=>rfl);(case hc=>exact Ot);(case hd=>exact rfl);clear hS;intro w hS)|refine AG ?_;go_step|fail)
 refine Ae rfl (AE.tmp rfl) rfl ?_
 exact ⟨rfl,St.rdr_close Hm.out hv2 (hS.sub Ao)⟩
theorem MX(a b:Nat)(ha:a<256)(hb:b<256):bits .or .i64 ((a:Int)*2^8) (b:Int)=((a:Int)*256+(b:Int)):=by
 rw [show (a:Int)*2^8=((a*256:Nat):Int) from by rw [show (2:Int)^8=256 from rfl];omega,bits_or_i64_nat _ _ (by omega) (by omega)]
 have e:a*256|||b=a*256+b:=by
  rw [show a*256=2^8*a by omega]
  exact (Nat.two_pow_add_eq_or_of_lt (i:=8) (by omega) a).symm
 rw [e]
 omega
theorem Lb(x y:Int)(hx:0≤x∧x<256)(hy:0≤y∧y<256):bits .or .i64 (x*2^8) y=x*256+y:=by
 obtain ⟨a,rfl⟩:=Int.eq_ofNat_of_zero_le hx.1
 obtain ⟨b,rfl⟩:=Int.eq_ofNat_of_zero_le hy.1
 exact MX a b (by omega) (by omega)
def rC(l:List Int)(p k:Nat):Int:=AF l (p+2*k)*256+AF l (p+2*k+1)
def EN(l:List Int)(p k:Nat):List Int:=(List.range k).map (rC l p)
def rA(l:List Int)(p:Nat):Nat→Int
 | 0=>0
 | k+1=>rA l p k+rC l p k
def rS(l:List Int)(p j:Nat):List Int:=(List.range j).map fun i=>AF l (p+i)
theorem Lf(l:List Int)(p k:Nat)(h:k<16):(EN l p k++List.replicate (16-k) 0).set k (rC l p k)=EN l p (k+1)++List.replicate (16-(k+1)) 0:=by
 obtain ⟨m,hm⟩:∃m,16-k=m+1:=⟨16-k-1,by omega⟩
 have hl:(EN l p k).length=k:=by simp [EN]
 rw [hm,show 16-(k+1)=m by omega,List.set_append_right _ _ (by omega),hl,Nat.sub_self,List.replicate_succ,List.set_cons_zero]
 simp [EN,List.range_succ]
theorem GJ(l:List Int)(hr:∀i,i<l.length→0≤AF l i∧AF l i<256)(i:Nat):0≤AF l i∧AF l i<256:=by
 by_cases h:i<l.length
 ·exact hr i h
 have:AF l i=0:=by simp only [AF];rw [List.getD_eq_getElem?_getD,List.getElem?_eq_none (by omega)];rfl
 omega
theorem L5(l:List Int)(hr:∀i,i<l.length→0≤AF l i∧AF l i<256)(p k:Nat):0≤rC l p k∧rC l p k<65536:=by
 have h1:=GJ l hr (p+2*k)
 have h2:=GJ l hr (p+2*k+1)
 unfold rC
 omega
theorem Hc(l:List Int)(hr:∀i,i<l.length→0≤AF l i∧AF l i<256)(p:Nat):∀k,0≤rA l p k∧rA l p k≤65536*(k:Int)
 | 0=>by simp [rA]
 | k+1=>by
   have h1:=Hc l hr p k
   have h2:=L5 l hr p k
   unfold rA
   omega
theorem Ft(W w0:World)(rs rs':List Ac)(g p:Nat)(l:List Int)(hS:St W w0 rs)(hp:AI (rdr W g l p) rs rs')(hr:Hid (∀i,i<l.length→0≤AF l i∧AF l i<256))(hn:l.length≤100000)(hpn:p≤10000000):
 Calls Tryd.prog 20 #[.pointer (some ⟨g,0,none⟩)] w0 fun e w=>∃(j:Nat) (sa:Option Addr) (sc:Nat),e= .returned (tv (EN l p 16) (.slice sa j sc))∧(j:Int)≤rA l p 16∧(p+32+j≤l.length→(j:Int)=rA l p 16)∧St W w (own 3 1 sa j sc ((rS l (p+32) j).map (Value.int .i64))::rdr W g l (p+32+j)::rs'):=by
 replace hS:=hS.pull hp
 have hA16:=Hc l hr.out p 16
 obtain ⟨C,hC⟩:∃x,EN l p 16=x:=⟨_,rfl⟩
 obtain ⟨A,hAe⟩:∃x,rA l p 16=x:=⟨_,rfl⟩
 have hLen:Ag C 16:=AD (by rw [←hC];simp [EN])
 have HC16:=AD hC
 have HA16:=AD hAe
 rw [hC,hAe]
 rw [hAe] at hA16
 clear hC hAe
 obtain ⟨n,rfl⟩:=Int.eq_ofNat_of_zero_le hA16.1
 go_enter Tryd.func20,Tryd.ntmps20
 repeat' (first
  | refine X0 ?_|refine LL 2 ?_;clear hS;intro g2 w hS|refine AG ?_;go_step|fail)
 go_loopg [3,5] 16 (fun gk av kv w=>∃k:Nat,gk+k=16∧kv= .int .i64 k∧av= .int .i64 (rA l p k)∧St W w (prt g2 [.ints (EN l p k++List.replicate (16-k) 0), .val (.slice none 0 0)]::rdr W g l (p+2*k)::rs'))
 case atStart=>exact ⟨0,rfl,rfl,rfl,hS⟩
 case round=>
  clear hS
  obtain ⟨k,hk,rfl,rfl,hS⟩:=hrel
  by_cases hlt:k<16
  ·have hx:=GJ l hr.out (p+2*k)
   have hy:=GJ l hr.out (p+2*k+1)
   have HO:=AD (Lb (AF l (p+2*k)) (AF l (p+2*k+1)) hx hy)
   have hA:=Hc l hr.out p k
   have HA2:=AD (show rA l p (k+1)=rA l p k+rC l p k from rfl)
   have hC:=L5 l hr.out p k
   have HC:=AD (show rC l p k=AF l (p+2*k)*256+AF l (p+2*k+1) from rfl)
   have HS:=AD (Lf l p k hlt)
   have hLen2:Ag (EN l p k++List.replicate (16-k) 0) 16:=AD (by simp [EN];omega)
   obtain ⟨x,hx2⟩:∃x,AF l (p+2*k)=x:=⟨_,rfl⟩
   obtain ⟨y,hy2⟩:∃x,AF l (p+2*k+1)=x:=⟨_,rfl⟩
   obtain ⟨R,hR⟩:∃x,EN l p k++List.replicate (16-k) 0=x:=⟨_,rfl⟩
   obtain ⟨A,hAe⟩:∃x,rA l p k=x:=⟨_,rfl⟩
   obtain ⟨z,hz⟩:∃x,rC l p k=x:=⟨_,rfl⟩
   have HX:=AD hx2
   have HY:=AD hy2
   have hZ:AF (R.set k z) k=z:=Ep _ _ _ (by rw [←hR];simp [EN];omega)
   rw [hx2,hy2] at HO HC
   rw [hx2] at hx
   rw [hy2] at hy
   rw [hR] at HS hS hLen2
   rw [hAe] at hA HA2
   rw [hz] at HA2 HC HS hC
   rw [hAe]
   have HOz:=AD (HO.out.trans HC.out.symm)
   clear hx2 hy2 hR hAe hz
   repeat' (first
    | (refine AU 10 ?_);refine Ay (f:=18) Tryd.call18 AB ?_;refine ⟨_,(A4 _ _ _ _ g (p+2*k) l hS AQ hr (by omega) (by omega)),?_⟩;rintro e w ⟨rfl,hS2⟩;rw [HX.out];clear hS;rename _=>hS;refine As ?_;go_step|(refine AU 13 ?_);refine Ay (f:=18) Tryd.call18 AB ?_;refine ⟨_,(A4 _ _ _ _ g (p+2*k+1) l hS AQ hr (by omega) (by omega)),?_⟩;rintro e w ⟨rfl,hS2⟩;rw [HY.out];clear hS;rename _=>hS;refine As ?_;go_step|(refine AU 14 ?_);(refine AP (.int _ (z)) (V.as (V.or rfl rfl) (by exact HOz.out)) (by kernel_rfl) ?_;go_step)|refine X0 ?_|refine X3 ?_|(with_reducible refine Az _ (.binOp .shl _ _ _ _) ?_);(refine Av AB (V.shlI rfl rfl BL (by omega) (by omega)) ?_;go_step)|refine NN ?_|refine OB 16 ?_|refine OB 20 ?_|refine Ge ?_|refine OE ?_;clear hS;intro w hS|(with_reducible refine Az _ (.load 3 _) ?_);(refine A3 ?_;apply Id hS 3 _ rfl _ _ rfl (Ab rfl) _;(case hp=>exact AQ);(case hi=>(repeat (first|(apply H2.head;(case hn=>exact CM);(case h=>omega))|(apply H2.skipI;(case hn=>exact CM);(case h=>omega);(case ho=>rfl))|apply H2.skipV)));(case hz=>with_reducible assumption);refine AC ?_;go_step)|refine AG ?_;go_step|fail)
   rw [HS.out] at hS
   go_roundg (gk-1)
   case measure=>omega
   case rel=>exact ⟨k+1,by omega,by go_num,by rw [HA2.out],hS⟩
  obtain rfl:k=16:=by omega
  rw [show EN l p 16++List.replicate (16-16) 0=EN l p 16 by simp] at hS
  rw [HC16.out] at hS
  rw [HA16.out]
  repeat' (first
   | refine X1 ?_|refine X3 ?_|refine AG ?_;go_step|fail)
  replace hS:=hS.nilk 3 1 .i64
  go_loopg [25] n (fun gk kv w=>∃(j:Nat) (sa:Option Addr) (sc:Nat),gk+j=n∧kv= .int .i64 j∧St W w (own 3 1 sa j sc ((rS l (p+32) j).map (Value.int .i64))::prt g2 [.ints C, .val (.slice sa j sc)]::rdr W g l (p+32+j)::rs'))
  case atStart=>exact ⟨0,none,0,by omega,rfl,hS⟩
  case round=>
   clear hS
   obtain ⟨j,sa,sc,hj,rfl,hS⟩:=hrel
   by_cases hlt2:j<n
   ·obtain ⟨ra,rc,rm,hrm,hrv,hS⟩:=hS.rdr_open AQ
    by_cases hsh:l.length<p+32+j
    ·have HSh:=AD (decide_eq_true hsh)
     have HSh2:=AD hsh
     rw [HSh.out] at hS
     repeat' (first
      | refine X1 ?_|refine X3 ?_|refine Mw ?_|refine NQ ?_|refine Ny ?_|refine KC ?_|refine LN ?_;clear hS;intro w hS|refine AG ?_;go_step|fail)
     have hS3:=St.rdr_close (p:=p+32+j) (rs':=own 3 1 sa j sc ((rS l (p+32) j).map (Value.int .i64))::prt g2 [.ints C, .val (.slice sa j sc)]::rs') hrm hrv (by rw [HSh.out];exact hS.sub Ao)
     refine Ae rfl (AE.prt hS rfl (AY (n:=17) rfl) AQ (by (repeat (first|exact BG.nil|(apply BG.ints;(case hn=>exact CM);(case h=>omega);(case hm=>rfl))|apply BG.val)))) rfl ?_
     exact ⟨j,sa,sc,rfl,by omega,fun h=>absurd h (by omega),hS3.sub Ao⟩
    have HSh:=AD (decide_eq_false hsh)
    have HSn:=AD (show rS l (p+32) (j+1)=rS l (p+32) j++[AF l (p+32+j)] by simp [rS,List.range_succ])
    rw [HSh.out] at hS
    repeat' (first
     | refine X1 ?_|refine X3 ?_|refine Mw ?_|refine NQ ?_|refine Ny ?_|refine AG ?_;go_step|fail)
    have hS3:=St.rdr_close (p:=p+32+j) hrm hrv (by rw [HSh.out];exact hS)
    clear hS
    have hS:=hS3
    clear hS3 hrv hrm HSh hsh
    refine AZ [5,7] (fun w=>St W w [prt g2 [.ints C, .val (.slice sa j sc)]]) AB ?_
    replace hS:=hS.drew
    focus
     refine Dw 0 DG (V.fieldAddr GG rfl CD) ?_;go_step
     apply I3 1 Cf AB AB AB Cv [5,6,7] AB (hS.sub Ao)
     case hfr=>intro w hS;((refine A3 ?_;apply CS hS 23 _ rfl _ _ rfl (Ab rfl) _;(case hp=>exact AQ);(case hi=>(repeat (first|exact EW.head|(apply EW.skipI;(case hn=>exact CM);(case h=>omega);(case ho=>rfl))|apply EW.skipV)));refine AC ?_;go_step));refine wpList_nil ?_;exact ⟨rfl,rfl⟩
     case hd=>rfl
     refine Ai 2 ?_
     refine Cb 3 ?_
     refine CC (f:=18) rfl Tryd.call18 (A4 _ _ _ _ g (p+32+j) l hS AQ hr (by omega) (by omega)) ?_;rintro e w ⟨rfl,hS2⟩;clear hS;rename _=>hS;refine ⟨_,rfl,?_⟩
     refine ⟨fun _ _=>hS.sub Ao,?_⟩
     refine AK ?_
     go_step
     refine Cb 4 ?_
     (refine AM (o:=⟨some 35,_,_,_,_,_⟩) hS 23 1 _ rfl 3 1 8 FR _ _ (by (repeat (first|exact AN.nil|(apply AN.agg;(rfl);(rfl))|(apply AN.one;exact Bx;(rfl);(rfl))))) (by rfl) (by decide) (by decide) ?_;clear hS;intro g35 w hS)
     refine ⟨fun _ _=>hS.sub Ao,?_⟩
     refine AK ?_
     go_step
     refine Cb 5 ?_
     (refine Ad (o:=⟨some 36,_,_,_,_,_⟩) hS _ _ 23 rfl 3 1 8 FR _ _ _ _ rfl AQ _ rfl _ _ (by (first|exact hS.slBlk AQ (by rfl) (by decide)|exact hS.sl AQ|with_reducible assumption|exact Sl.ext (by with_reducible assumption) hS.1|exact Sl.nil _ _|exact Sl.ext (by assumption) hS.1|assumption)) (by (first|exact BQ rfl|exact BE _ _|(intro u hu;cases hu))) (by unfold maxLen;omega) (by omega) ?_;clear hS;intro ad36 c36 w hS;(first|simp only [Bz] at hS|simp only [B3] at hS|simp only [B4] at hS|simp only [B5] at hS|simp only [B6] at hS|skip))
     refine ⟨fun h=>absurd (by decide) h,?_⟩
     refine AK ?_
     go_step
     refine Dw 6 DG (V.fieldAddr GG rfl CD) ?_;go_step
     refine Cb 7 ?_
     refine CZ hS 23 _ _ rfl _ _ rfl (Ab rfl) _ _ AQ _ Bx (by rfl) (.skipI hLen (Nat.le_refl _) rfl .head) rfl ?_;clear hS;intro w hS
     refine ⟨fun h=>absurd (by decide) h,?_⟩
     refine AO AB ?_ _
    repeat' (first
     | refine X1 ?_|refine Ge ?_|refine AG ?_;go_step|fail)
    go_roundg (gk-1)
    case measure=>omega
    case rel=>exact ⟨j+1,ad36,c36,by omega,by go_num,by rw [HSn.out,show p+32+(j+1)=p+32+j+1 from rfl];exact hS.sub Ao⟩
   obtain rfl:j=n:=by omega
   repeat' (first
    | refine X3 ?_|refine KC ?_|refine LN ?_;clear hS;intro w hS|refine AG ?_;go_step|fail)
   refine Ae rfl (AE.prt hS rfl (AY (n:=17) rfl) AQ (by (repeat (first|exact BG.nil|(apply BG.ints;(case hn=>exact CM);(case h=>omega);(case hm=>rfl))|apply BG.val)))) rfl ?_
   exact ⟨j,sa,sc,rfl,by omega,fun _=>rfl,hS.sub Ao⟩
end Go.Proofs.YtkcbhcajfcfmmaaDoor
