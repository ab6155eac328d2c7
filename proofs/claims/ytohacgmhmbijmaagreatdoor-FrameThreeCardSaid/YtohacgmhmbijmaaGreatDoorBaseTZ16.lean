/- What the laws FrameThree need, part 16. -/
import Derived.Test.YtohacgmhmbijmaaGreatDoorBaseTZ2
import Derived.Test.YtohacgmhmbijmaaGreatDoorBaseTZ3
import Derived.Test.YtohacgmhmbijmaaGreatDoorBaseTZ4
import Derived.Test.YtohacgmhmbijmaaGreatDoorBaseTZ5
import Derived.Test.YtohacgmhmbijmaaGreatDoorBaseTZ8
import Derived.Test.YtohacgmhmbijmaaGreatDoorBaseTZ10
import Derived.Test.YtohacgmhmbijmaaGreatDoorBaseTZ11
import Derived.Test.YtohacgmhmbijmaaGreatDoorBaseTZ15
import Derived.RangeFuncNested
import Derived.RangeFuncBound
import Derived.RangeFuncCalls
import Derived.RangeFuncLeaves
import Derived.RangeFuncFrom
import Derived.OwnWalkIn
import Derived.LoopIn
namespace Go.Proofs.YtohacgmhmbijmaaGreatDoor
attribute [local irreducible] Region.wanted
set_option linter.unusedVariables false
set_option maxRecDepth 100000
set_option maxHeartbeats 8000000
def B8(c:List Int)(n:Nat):List Int:=((List.range n).filter fun s=>decide (0<AK c s)).map fun (s:Nat)=>(s:Int)
def RZ(c:List Int)(s:Int):Int:=if s= -1 then 0 else AK c s.toNat
theorem Bg(c:List Int)(n:Nat)(s:Int):s∈B8 c n↔0≤s∧s<n∧0<AK c s.toNat:=by
 unfold B8
 simp only [List.mem_map,List.mem_filter,List.mem_range,decide_eq_true_eq]
 constructor
 ·rintro ⟨a,⟨h1,h2⟩,rfl⟩;exact ⟨by omega,by omega,by simpa using h2⟩
 intro ⟨h1,h2,h3⟩;exact ⟨s.toNat,⟨by omega,h3⟩,by omega⟩
theorem KN(c:List Int)(n:Nat):(B8 c n).Nodup:=by
 unfold B8
 rw [List.nodup_iff_pairwise_ne,List.pairwise_map]
 refine List.Pairwise.imp ?_ (List.Pairwise.filter _ List.nodup_range)
 intro a b h e
 exact h (by omega)
theorem U3(c:List Int)(n:Nat):IG (I6 c n) (-1::B8 c n):=by
 refine ⟨?_,List.nodup_cons.2 ⟨fun h=>by have:=(Bg c n _).1 h;omega,KN c n⟩⟩
 unfold I6 B8
 simp [List.map_map,Function.comp_def]
theorem cJ(c:List Int)(n:Nat):∀x∈I6 c n,x.1=isum (RZ c) x.2:=by
 intro x hx
 rcases List.mem_cons.1 hx with rfl|hx
 ·simp [isum,RZ]
 obtain ⟨s,_,rfl⟩:=List.mem_map.1 hx
 simp only [isum,List.map_cons,List.map_nil,List.sum_cons,List.sum_nil,RZ]
 rw [if_neg (by omega)];simp
theorem Md(c:Nat→Nat):∀k,k≤16→nx c k*2^(16-k)=sm (fun i=>c i*2^(15-i)) k
 | 0,_=>by simp [nx,sm]
 | k+1,h=>by
   have ih:=Md c k (by omega)
   rw [sm,←ih,nx,Nat.add_mul,show 16-k=(16-(k+1))+1 by omega,show 16-(k+1)=15-k by omega,Nat.pow_succ]
   rw [Nat.mul_comm 2 (nx c k),Nat.mul_assoc,Nat.mul_comm 2 (2^(15-k))]
theorem Ms(a b:Nat→Nat):∀k,sm (fun i=>a i+b i) k=sm a k+sm b k
 | 0=>rfl
 | k+1=>by simp only [sm];rw [Ms a b k];omega
theorem GA{a b:Nat→Nat}:∀k,(∀i,i<k→a i=b i)→sm a k=sm b k
 | 0,_=>rfl
 | k+1,h=>by simp only [sm];rw [GA k fun i hi=>h i (by omega),h k (by omega)]
def G0(l:Nat):Nat:=if 1≤l then 2^(16-l) else 0
theorem XK(l:Nat)(h:l≤16):sm (fun i=>(if l=i+1 then 1 else 0)*2^(15-i)) 16=G0 l:=by
 have:∀l,l<17→sm (fun i=>(if l=i+1 then 1 else 0)*2^(15-i)) 16=G0 l:=by decide
 exact this l (by omega)
theorem Oa(f:Int→Nat)(hf:∀s,f s≤16):∀n,sm (fun i=>(CA f n (i+1)).length*2^(15-i)) 16=A8 (fun s:Nat=>G0 (f (s:Int))) (List.range n)
 | 0=>by simp [CA,A8];decide
 | n+1=>by
   rw [List.range_succ,Fa,←Oa f hf n]
   have:A8 (fun s:Nat=>G0 (f (s:Int))) [n]=G0 (f (n:Int)):=by simp [A8]
   rw [this,←XK _ (hf _),←Ms]
   refine GA 16 fun i hi=>?_
   rw [Gm,←Nat.add_mul]
   by_cases h:f (n:Int)=i+1
   ·rw [if_pos h,if_pos h,List.length_append];rfl
   rw [if_neg h,if_neg h];rfl
theorem Hj{α β:Type}(g:α→β)(f:β→Nat)(l:List α):A8 f (l.map g)=A8 (fun x=>f (g x)) l:=by
 unfold A8;rw [List.map_map];rfl
theorem UE{α β:Type}(g:α→β)(f:β→Int)(l:List α):isum f (l.map g)=isum (fun x=>f (g x)) l:=by
 unfold isum;rw [List.map_map];rfl
theorem OL{α:Type}(p:α→Bool)(f:α→Nat)(l:List α)(h:∀x∈l,p x=false→f x=0):A8 f (l.filter p)=A8 f l:=by
 induction l with
 | nil=>rfl
 | cons x l ih=>
   have ih:=ih fun y hy=>h y (by simp [hy])
   rw [List.filter_cons]
   by_cases hp:p x=true
   ·rw [if_pos hp,BD,BD,ih]
   rw [if_neg hp,BD,ih,h x (by simp) (by simpa using hp),Nat.zero_add]
theorem OD{α:Type}(p:α→Bool)(f:α→Int)(l:List α)(h:∀x∈l,p x=false→f x=0):isum f (l.filter p)=isum f l:=by
 induction l with
 | nil=>rfl
 | cons x l ih=>
   have ih:=ih fun y hy=>h y (by simp [hy])
   rw [List.filter_cons]
   by_cases hp:p x=true
   ·rw [if_pos hp,CD,CD,ih]
   rw [if_neg hp,CD,ih,h x (by simp) (by simpa using hp),Int.zero_add]
def FW(c:List Int)(n:Nat)(l:Int→Nat):Int:=isum (fun s:Nat=>AK c s*(l (s:Int):Nat)) (List.range n)
structure LT(c:List Int)(n:Nat)(l:Int→Nat):Prop where
 top:∀s∈B8 c n,1≤l s∧l s≤16
 kraft:A8 (fun s=>2^(16-l s)) (B8 c n)<2^16
theorem LZ(c:List Int)(n:Nat)(l:Int→Nat)(h0:∀i,i<n→0≤AK c i):isum (fun s=>RZ c s*(l s:Nat)) (B8 c n)=FW c n l:=by
 unfold B8 FW
 rw [UE,D7 _ (fun s:Nat=>AK c s*(l (s:Int):Nat)) _ fun s _=>?_]
 ·refine OD _ _ _ fun x hx hp=>?_
  have:=h0 x (List.mem_range.1 hx)
  have h1:¬0<AK c x:=by simpa using hp
  rw [show AK c x=0 by omega,Int.zero_mul]
 unfold RZ;rw [if_neg (by omega)];simp
theorem UM{c:List Int}{n:Nat}{R:List Pk}(hn:n≤256)(h0:∀i,i<n→0≤AK c i)(hR:Ce (I6 c n) 16 R)(f:Int→Nat)(hf:f=D9 (R.take (2*(I6 c n).length-2))):
 (∀s,f s≤16)∧(∀s,s∉B8 c n→0≤s→f s=0)∧LT c n f∧(∀l,LT c n l→FW c n f≤FW c n l)∧(∀a b,a∈B8 c n→b∈B8 c n→AK c b.toNat<AK c a.toNat→f a≤f b):=by
 have hS:=U3 c n
 have hlen:=hS.len
 have hpl:(B8 c n).length≤n:=by
  unfold B8
  have:=List.length_filter_le (fun s=>decide (0<AK c s)) (List.range n)
  simp at this⊢;exact this
 have hw0:∀s∈(-1::B8 c n),0≤RZ c s:=fun s hs=>by
  rcases List.mem_cons.1 hs with rfl|hs
  ·simp [RZ]
  have:=(Bg c n s).1 hs
  unfold RZ;rw [if_neg (by omega)];omega
 obtain ⟨_,b1,b2,b3,b4,b5⟩:=Rl hS (RZ c) (cJ c n) hw0 (by simp) (by simp;omega) hR
 rw [←hlen,←hf] at b1 b2 b3 b4 b5
 have hpos:∀s∈B8 c n,1≤f s:=fun s hs=>SK b3 (List.mem_cons_of_mem _ hs) (List.mem_cons_self (a:= -1)) (by have:=(Bg c n s).1 hs;omega)
 rw [BD] at b3
 have hone:1≤2^(16-f (-1)):=Nat.one_le_two_pow
 refine ⟨b1,fun s hs hs0=>b2 s (by simp only [List.mem_cons,not_or];exact ⟨by omega,hs⟩),⟨fun s hs=>⟨hpos s hs,b1 s⟩,by omega⟩,fun l hl=>?_,fun a b ha hb hab=>?_⟩
 ·have hb4:=b4 (fun s=>if s= -1 then 16 else l s) (fun s hs=>by
   show (if s= -1 then 16 else l s)≤16
   rcases List.mem_cons.1 hs with rfl|hs
   ·simp
   ·have:=(Bg c n s).1 hs
    rw [if_neg (by omega)];exact (hl.top s hs).2) (by
   rw [BD]
   have:=hl.kraft
   have e:A8 (fun s=>2^(16-(if s= -1 then 16 else l s))) (B8 c n)=A8 (fun s=>2^(16-l s)) (B8 c n):=CZ _ _ _ fun s hs=>by
    have:=(Bg c n s).1 hs
    rw [if_neg (by omega)]
   rw [e];simp;simp at this;omega)
  rw [CD,CD] at hb4
  have z:∀x:Int,RZ c (-1)*x=0:=fun x=>by simp [RZ]
  rw [z,z,LZ c n f h0] at hb4
  have e:isum (fun s=>RZ c s*((if s= -1 then 16 else l s:Nat):Int)) (B8 c n)=isum (fun s=>RZ c s*(l s:Nat)) (B8 c n):=D7 _ _ _ fun s hs=>by
   have:=(Bg c n s).1 hs
   rw [if_neg (by omega)]
  rw [e,LZ c n l h0] at hb4
  omega
 have h1:=(Bg c n a).1 ha
 have h2:=(Bg c n b).1 hb
 exact b5 a b (List.mem_cons_of_mem _ hb) (by unfold RZ;rw [if_neg (by omega),if_neg (by omega)];exact hab)
theorem KF{a b:Nat→Nat}:∀k,(∀i,i<k→a i=b i)→nx a k=nx b k
 | 0,_=>rfl
 | k+1,h=>by rw [nx,nx,KF k fun i hi=>h i (by omega),h k (by omega)]
theorem LX{a b:Nat→Nat}:∀k,(∀i,i<k→a i=b i)→Fu a k=Fu b k
 | 0,_=>rfl
 | k+1,h=>by rw [Fu,Fu,LX k fun i hi=>h i (by omega),h k (by omega),KF k fun i hi=>h i (by omega)]
theorem UZ(l:Nat)(h:l≤16):sm (fun i=>if l=i+1 then 1 else 0) 16=if 1≤l then 1 else 0:=by
 have:∀l,l<17→sm (fun i=>if l=i+1 then 1 else 0) 16=if 1≤l then 1 else 0:=by decide
 exact this l (by omega)
theorem OZ(f:Int→Nat)(hf:∀s,f s≤16):∀n,sm (fun i=>(CA f n (i+1)).length) 16=A8 (fun s:Nat=>if 1≤f (s:Int) then 1 else 0) (List.range n)
 | 0=>by simp [CA,A8];decide
 | n+1=>by
   rw [List.range_succ,Fa,←OZ f hf n]
   have:A8 (fun s:Nat=>if 1≤f (s:Int) then 1 else 0) [n]=if 1≤f (n:Int) then 1 else 0:=by simp [A8]
   rw [this,←UZ _ (hf _),←Ms]
   refine GA 16 fun i hi=>?_
   rw [Gm]
   by_cases h:f (n:Int)=i+1
   ·rw [if_pos h,if_pos h,List.length_append];rfl
   rw [if_neg h,if_neg h];rfl
theorem GE(f:Int→Nat)(n:Nat):∀k,(C4 f n k).length=sm (fun i=>(CA f n (i+1)).length) k
 | 0=>rfl
 | k+1=>by rw [C6,List.length_append,GE f n k,sm]
theorem Ii(f:Int→Nat)(n k:Nat)(s:Int):s∈CA f n k↔0≤s∧s<n∧f s=k:=by
 unfold CA
 simp only [List.mem_map,List.mem_filter,List.mem_range,decide_eq_true_eq]
 constructor
 ·rintro ⟨a,⟨h1,h2⟩,rfl⟩;exact ⟨by omega,by omega,h2⟩
 intro ⟨h1,h2,h3⟩;exact ⟨s.toNat,⟨by omega,by rw [Int.toNat_of_nonneg h1];exact h3⟩,by omega⟩
theorem Om(f:Int→Nat)(n k:Nat):(CA f n k).Nodup:=by
 unfold CA
 rw [List.nodup_iff_pairwise_ne,List.pairwise_map]
 refine List.Pairwise.imp ?_ (List.Pairwise.filter _ List.nodup_range)
 intro a b h e
 exact h (by omega)
theorem Gn(f:Int→Nat)(n:Nat)(s:Int):∀k,s∈C4 f n k↔0≤s∧s<n∧1≤f s∧f s≤k
 | 0=>by simp [C4];intro _ _ _;omega
 | k+1=>by
   rw [C6,List.mem_append,Gn f n s k,Ii]
   constructor
   ·rintro (h|h)<;>omega
   intro h
   by_cases e:f s=k+1
   ·right;omega
   left;omega
theorem Hw(f:Int→Nat)(n:Nat):∀k,(C4 f n k).Nodup
 | 0=>by simp [C4]
 | k+1=>by
   rw [C6,List.nodup_append]
   refine ⟨Hw f n k,Om f n (k+1),fun a ha b hb e=>?_⟩
   subst e
   have h1:=(Gn f n a k).1 ha
   have h2:=(Ii f n (k+1) a).1 hb
   omega
theorem MC(f:Int→Nat)(n:Nat):∀k,∀x∈(C4 f n k).zip (Fu (fun i=>(CA f n (i+1)).length) k),x.2.1=f x.1
 | 0,x,h=>by simp [C4] at h
 | k+1,x,h=>by
   rw [C6,Fu,List.zip_append (by rw [GE,E4])] at h
   rcases List.mem_append.1 h with h|h
   ·exact MC f n k x h
   have h1:=(List.of_mem_zip (a:=x.1) (b:=x.2) h)
   obtain ⟨j,_,e⟩:=List.mem_map.1 h1.2
   have h2:=(Ii f n (k+1) x.1).1 h1.1
   rw [h2.2.2,←e]
def lw(L:List (Int×Nat×Nat))(s:Int):Nat:=match symW L s with
 | some x=>x.1
 | none=>0
theorem Ra{C S:List Int}(h:sm (cc C) 16=S.length):(Bu C S).map (·.1)=S:=by
 unfold Bu
 exact List.map_fst_zip (by rw [E4,h];exact Nat.le_refl _)
theorem Xv{C S:List Int}(h:sm (cc C) 16=S.length):(Bu C S).map (·.2)=Fu (cc C) 16:=by
 unfold Bu
 exact List.map_snd_zip (by rw [E4,h];exact Nat.le_refl _)
theorem Pq{C S:List Int}(h:BA C S=0){x:Int×Nat×Nat}(hx:x∈Bu C S):symW (Bu C S) x.1=some x.2∧lw (Bu C S) x.1=x.2.1:=by
 have:=(Bp h).symW hx
 exact ⟨this,by unfold lw;rw [this]⟩
theorem YV{C S:List Int}(h:BA C S=0){s:Int}(hs:s∈S):∃x∈Bu C S,x.1=s:=by
 have h2:=(ET h).2.1
 rw [←Ra h2] at hs
 obtain ⟨x,hx,e⟩:=List.mem_map.1 hs
 exact ⟨x,hx,e⟩
theorem UL{C S:List Int}(h:BA C S=0)(s:Int):(s∈S→1≤lw (Bu C S) s∧lw (Bu C S) s≤16)∧(s∉S→lw (Bu C S) s=0):=by
 constructor
 ·intro hs
  obtain ⟨x,hx,rfl⟩:=YV h hs
  rw [(Pq h hx).2]
  have:=(Bp h).long x hx
  omega
 intro hs
 unfold lw
 cases e:symW (Bu C S) s with
 | none=>rfl
 | some y=>exact absurd (Jb C S _ (Eo e)).1 hs
theorem Pr{c C S:List Int}{n:Nat}{f:Int→Nat}(hn:n≤256)(h16:∀s,f s≤16)(hz:∀s,s∉B8 c n→0≤s→f s=0)(hl:LT c n f)(hC:∀i,i<16→AK C i=((CA f n (i+1)).length:Nat))(hS:S=C4 f n 16):
 BA C S=0∧(∀s:Int,0≤s→s<n→lw (Bu C S) s=f s)∧S.length=(B8 c n).length∧(∀s,s∈S↔s∈B8 c n):=by
 have hcc:∀i,i<16→cc C i=(CA f n (i+1)).length:=fun i hi=>by unfold cc;rw [hC i hi];simp
 have hmem:∀s,s∈S↔s∈B8 c n:=fun s=>by
  rw [hS,Gn]
  constructor
  ·intro h
   by_cases hp:s∈B8 c n
   ·exact hp
   have:=hz s hp h.1;omega
  intro h
  have h1:=(Bg c n s).1 h
  have h2:=hl.top s h
  exact ⟨h1.1,h1.2.1,h2.1,h2.2⟩
 have hsm:sm (cc C) 16=S.length:=by rw [hS,GE,GA 16 hcc]
 have hlen:S.length=(B8 c n).length:=by
  rw [hS,GE,OZ f h16]
  unfold B8
  rw [List.length_map,←UU]
  refine CZ _ _ _ fun s hs=>?_
  by_cases hp:(s:Int)∈B8 c n
  ·have h1:=(Bg c n s).1 hp
   rw [if_pos (hl.top _ hp).1,if_pos (by simpa using h1.2.2)]
  have h1:¬0<AK c s:=fun h=>hp ((Bg c n s).2 ⟨by omega,by simp at hs;omega,by simpa using h⟩)
  rw [if_neg (by rw [hz _ hp (by omega)];omega),if_neg (by simpa using h1)]
 have hpl:(B8 c n).length≤n:=by
  unfold B8
  have:=List.length_filter_le (fun s=>decide (0<AK c s)) (List.range n)
  simp at this⊢;exact this
 have hnx:nx (cc C) 16<65536:=by
  have h1:=Md (fun i=>(CA f n (i+1)).length) 16 (by omega)
  rw [Oa f h16] at h1
  rw [KF 16 hcc]
  have h2:A8 (fun s:Nat=>G0 (f (s:Int))) (List.range n)=A8 (fun s=>2^(16-f s)) (B8 c n):=by
   unfold B8
   rw [Hj,←OL (fun s=>decide (0<AK c s)) (fun s:Nat=>G0 (f (s:Int))) (List.range n) fun s hs hp=>?_]
   ·refine CZ _ _ _ fun s hs=>?_
    have h3:=List.mem_filter.1 hs
    have hp:(s:Int)∈B8 c n:=(Bg c n s).2 ⟨by omega,by have:=h3.1;simp at this;omega,by simpa using h3.2⟩
    unfold G0;rw [if_pos (hl.top _ hp).1]
   have hp2:(s:Int)∉B8 c n:=fun h=>by have:=((Bg c n s).1 h).2.2;simp at this hp;omega
   unfold G0;rw [hz _ hp2 (by omega)];rfl
  rw [h2] at h1
  have:=hl.kraft
  simp at h1 this
  omega
 have htab:BA C S=0:=by
  refine Xn ((Dx C).2 ⟨fun k hk=>?_,by omega⟩) hsm (fun s hs=>?_) (by rw [hS];exact Hw f n 16) ((F8 _).2 hnx)
  ·have:=GD f n (k+1)
   rw [hC k hk];omega
  have:=(Bg c n s).1 ((hmem s).1 hs);omega
 refine ⟨htab,fun s h0 h1=>?_,hlen,hmem⟩
 by_cases hs:s∈S
 ·obtain ⟨x,hx,rfl⟩:=YV htab hs
  rw [(Pq htab hx).2]
  refine MC f n 16 x ?_
  unfold Bu at hx
  rw [hS,LX 16 hcc] at hx
  exact hx
 rw [(UL htab s).2 hs,hz s (fun h=>hs ((hmem s).2 h)) h0]
theorem OM{α:Type}[DecidableEq α](f:α→Nat):∀(A B:List α),A.Nodup→(∀a∈A,a∈B)→A8 f A≤A8 f B
 | [],B,_,_=>by simp [A8]
 | a::A,B,hn,h=>by
   obtain ⟨h1,h2⟩:=List.nodup_cons.1 hn
   have p:=List.perm_cons_erase (h a (by simp))
   rw [ST f p,BD,BD]
   have:=OM f A (B.erase a) h2 fun x hx=>(List.mem_erase_of_ne (fun e=>h1 (by rw [←e];exact hx))).2 (h x (by simp [hx]))
   omega
theorem Qd(c:Nat→Nat):∀k,k≤16→A8 (fun x=>2^(16-x.1)) (Fu c k)=nx c k*2^(16-k)
 | 0,_=>by simp [Fu,A8,nx]
 | k+1,h=>by
   rw [Md c (k+1) h,sm,←Md c k (by omega),←Qd c k (by omega),Fu,Fa,Hj]
   refine congrArg (_+ ·) ?_
   have:∀m,A8 (fun _:Nat=>2^(16-(k+1))) (List.range m)=m*2^(15-k):=fun m=>by
    have:=Hk (fun _:Nat=>1) (2^(15-k)) (List.range m)
    simp only [Nat.one_mul] at this
    rw [show 16-(k+1)=15-k by omega,this,Gf,List.length_range]
   exact this (c k)
theorem So{C S:List Int}(h:BA C S=0)(c:List Int)(n:Nat)(hall:∀s∈B8 c n,s∈S):LT c n (lw (Bu C S)):=by
 obtain ⟨h1,h2,h3,h4,h5,h6⟩:=ET h
 refine ⟨fun s hs=>(UL h s).1 (hall s hs),?_⟩
 have a1:=OM (fun s=>2^(16-lw (Bu C S) s)) (B8 c n) S (KN c n) hall
 have a2:A8 (fun s=>2^(16-lw (Bu C S) s)) S=A8 (fun x=>2^(16-x.2.1)) (Bu C S):=by
  have e1:=Hj (fun x:Int×Nat×Nat=>x.1) (fun s=>2^(16-lw (Bu C S) s)) (Bu C S)
  rw [Ra h2] at e1
  rw [e1]
  exact CZ _ _ _ fun x hx=>by rw [(Pq h hx).2]
 have a3:A8 (fun x:Int×Nat×Nat=>2^(16-x.2.1)) (Bu C S)=A8 (fun x=>2^(16-x.1)) (Fu (cc C) 16):=by
  rw [←Xv h2,Hj]
 have a4:=Qd (cc C) 16 (Nat.le_refl _)
 have a5:=(F8 _).1 h6
 simp at a4
 have:(2:Nat)^16=65536:=by decide
 omega
end Go.Proofs.YtohacgmhmbijmaaGreatDoor
namespace Go.Proofs.YtohacgmhmbijmaaGreatDoor
attribute [local irreducible] Region.wanted
open Go.RowKit
set_option linter.unusedVariables false
set_option maxRecDepth 100000
set_option maxHeartbeats 8000000
structure Mk(c:List Int)(n:Nat)(C S:List Int):Prop where
 len:Ap C 16
 ok:BA C S=0
 mem:∀s,s∈S↔s∈B8 c n
 slen:S.length=(B8 c n).length
 best:∀l,LT c n l→FW c n (lw (Bu C S))≤FW c n l
 order:∀a b,a∈B8 c n→b∈B8 c n→AK c b.toNat<AK c a.toNat→lw (Bu C S) a≤lw (Bu C S) b
 lens:LT c n (lw (Bu C S))
theorem Nl(c:List Int)(n:Nat)(f g:Int→Nat)(h:∀s:Int,0≤s→s<n→f s=g s):FW c n f=FW c n g:=by
 unfold FW
 refine D7 _ _ _ fun s hs=>?_
 rw [h s (by omega) (by have:=List.mem_range.1 hs;omega)]
theorem bu{c:List Int}(h:bE c=0):c.length≤256∧∀i,i<c.length→0≤AK c i∧AK c i≤9999:=by
 unfold bE at h
 by_cases h1:256<c.length
 ·rw [if_pos h1] at h;cases h
 rw [if_neg h1] at h
 by_cases h2:Bx c 0 9999=true
 ·exact ⟨by omega,(BL c 0 9999).1 h2⟩
 rw [if_neg h2] at h;cases h
theorem bt{c:List Int}(h1:c.length≤256)(h2:∀i,i<c.length→0≤AK c i∧AK c i≤9999):bE c=0:=by
 unfold bE;rw [if_neg (by omega),if_pos ((BL c 0 9999).2 h2)]
theorem SN(w0:World)(c:List Int)(ad:Option Addr)(n cap:Nat)(hv:Sl w0 1 (.slice ad n cap) n (c.map (Value.int .i64)))(hn:n≤9223372036854775807)(hok:bE c=0):
 Calls Tryz.prog 72 #[.slice ad n cap] w0 fun e w=>∃(C S:List Int) (ao:Option Addr) (co:Nat),Mk c n C S∧e= .returned (.tuple #[tv C (.slice ao S.length co), .int .i64 0])∧St w0 w [own 3 1 ao S.length co (S.map (Value.int .i64))]:=by
 refine (UN w0 c ad n cap hv hn hok).mono ?_
 rintro e w ⟨f,R,C,S,ao,co,hR,hf,hC,hCi,hSy,rfl,hS⟩
 have hcl:c.length=n:=by have:=hv.1;simpa using this
 obtain ⟨b1,b2⟩:=bu hok
 rw [hcl] at b1 b2
 obtain ⟨m1,m2,m3,m4,m5⟩:=UM b1 (fun i hi=>(b2 i hi).1) hR f hf
 obtain ⟨t1,t2,t3,t4⟩:=Pr b1 m1 m2 m3 hCi hSy
 have hin:∀s∈B8 c n,0≤s∧s<n:=fun s hs=>by have:=(Bg c n s).1 hs;exact ⟨this.1,this.2.1⟩
 have hcost:FW c n (lw (Bu C S))=FW c n f:=Nl _ _ _ _ t2
 refine ⟨C,S,ao,co,⟨hC,t1,t4,t3,fun l hl=>by rw [hcost];exact m4 l hl,fun a b ha hb h=>?_,So t1 c n fun s hs=>(t4 s).2 hs⟩,rfl,hS⟩
 rw [t2 a (hin a ha).1 (hin a ha).2,t2 b (hin b hb).1 (hin b hb).2]
 exact m5 a b ha hb h
theorem PK(w:World):(Instr.build 32 #[]).run Tryz.prog w= .ok (tv (List.replicate 16 0) (.slice none 0 0)) w:=by kernel_rfl
theorem UO(w0:World)(c:List Int)(ad:Option Addr)(n cap:Nat)(hv:Sl w0 1 (.slice ad n cap) n (c.map (Value.int .i64)))(hn:n≤9223372036854775807)(hbad:bE c≠0):
 Calls Tryz.prog 72 #[.slice ad n cap] w0 fun e w=>e= .returned (.tuple #[tv (List.replicate 16 0) (.slice none 0 0), .int .i64 (bE c)])∧Al w0 w:=by
 have hS:=St.start w0
 have HCK:=AD (fun (w:World)(hE:Al w0 w)=>Jo w c ad n cap (hv.ext hE) hn)
 obtain ⟨B,hB⟩:∃B,bE c=B:=⟨_,rfl⟩
 rw [hB] at HCK hbad⊢
 clear hB
 go_enter Tryz.func72,Tryz.ntmps72
 repeat' (first
  | (refine A3 102 ?_);refine A4 AA Tryz.call102 (HCK.out _ hS.1) (Gb hS ?_);clear hS;intro w hS;go_step|refine X0 ?_|refine JE 22 ?_|refine Rk 2 ?_;clear hS;intro g2 w hS|refine AG ?_;go_step|fail)
 repeat' (first
  | (refine AS 23 ?_);refine As AA (V.build (vs:=[]) rfl PK) ?_;go_step|refine X0 ?_|refine TE ?_;clear hS;intro w hS|refine AG ?_;go_step|fail)
 refine AM (xs:=[_,_]) rfl (.cons (AC.prt hS rfl (AP (n:=17) rfl) AJ (by (repeat (first|exact CH.nil|(apply CH.ints;(case hn=>exact EJ);(case h=>omega);(case hm=>rfl))|apply CH.val)))) (.cons (AC.tmp rfl) (.nil))) (by simp) rfl ?_
 exact ⟨rfl,hS.1⟩
theorem Va:Ap (List.replicate 16 (0:Int)) 16:=List.length_replicate
theorem Vb:BA (List.replicate 16 0) []=0:=by decide
theorem E6:∀(T:List (CF×Bool))(A B:List Int),DX By T (A,B)=(0,A++(T.filter fun x=>x.2).map (·.1.1),B++(T.filter fun x=>!x.2).map (·.1.1))
 | [],A,B=>by simp [DX]
 | (t,b)::T,A,B=>by
  rw [DX,if_pos (show (By (A,B) t b).1=0 from rfl)]
  cases b
  ·show DX By T (A,B++[t.1])=_
   rw [E6 T];simp
  show DX By T (A++[t.1],B)=_
  rw [E6 T];simp
theorem aG(l:List Int)(n:Nat):∀x∈DH l 0 n,(x.2=true→x.1.1∈PB l n)∧(x.2=false→x.1.1∈KY l n):=by
 have h:=(JP l n).symm.trans (E6 (DH l 0 n) [] [])
 simp only [Prod.mk.injEq,List.nil_append,true_and] at h
 intro x hx
 refine ⟨fun h2=>?_,fun h2=>?_⟩
 ·rw [h.1];exact List.mem_map.2 ⟨x,List.mem_filter.2 ⟨hx,h2⟩,rfl⟩
 rw [h.2];exact List.mem_map.2 ⟨x,List.mem_filter.2 ⟨hx,by rw [h2];rfl⟩,rfl⟩
theorem LY{L:List Int}(h:L.length≤9999):bE (Cl L)=0:=by
 refine bt (by rw [DW];omega) fun i hi=>?_
 rw [DW] at hi
 have:=GY L hi
 omega
theorem Sj{l:List Int}{n:Nat}(hl:l.length=n*64):BB l 0 n=l:=by
 unfold BB
 rw [Nat.zero_mul,List.drop_zero,Nat.sub_zero,List.take_of_length_le (by omega)]
theorem KR{C1 S1 C2 S2 l:List Int}{n:Nat}(h:Cj C1 S1 C2 S2 l n=0):Dw C1 S1 C2 S2=0∧Bb l n=0∧A9 l n=true∧EV (Bu C1 S1) (Bu C2 S2) (DH l 0 n):=by
 have ht:Dw C1 S1 C2 S2=0:=by
  unfold Cj at h
  by_cases h1:Dw C1 S1 C2 S2=0
  ·exact h1
  rw [if_neg h1] at h;exact absurd h h1
 have hb:Bb l n=0:=by
  unfold Cj at h
  rw [if_pos ht] at h
  by_cases h1:Bb l n=0
  ·exact h1
  rw [if_neg h1] at h;exact absurd h h1
 refine ⟨ht,hb,?_,?_⟩
 ·unfold Bb at hb
  split at hb
  ·cases hb
  cases h1:A9 l n
  ·rw [h1] at hb;cases hb
  rfl
 by_cases h1:EV (Bu C1 S1) (Bu C2 S2) (DH l 0 n)
 ·exact h1
 have:=MM (Bu C1 S1) (Bu C2 S2) _ [] h1
 unfold Cj at h
 rw [if_pos ht,if_pos hb,this] at h
 cases h
theorem RH{C1 S1 C2 S2 l:List Int}{n:Nat}(ht:Dw C1 S1 C2 S2=0)(hb:Bb l n=0)(hw:EV (Bu C1 S1) (Bu C2 S2) (DH l 0 n)):Cj C1 S1 C2 S2 l n=0:=by
 unfold Cj
 rw [if_pos ht,if_pos hb,G8 _ _ _ [] hw]
theorem Od{C1 S1 C2 S2 l:List Int}{n:Nat}(ht:Dw C1 S1 C2 S2=0)(hb:Bb l n=0)(hw:¬EV (Bu C1 S1) (Bu C2 S2) (DH l 0 n)):Cj C1 S1 C2 S2 l n=5:=by
 unfold Cj
 rw [if_pos ht,if_pos hb,MM _ _ _ [] hw]
theorem Sd{C1 S1 C2 S2 l:List Int}{n:Nat}(hl:l.length=n*64)(h0:Cj C1 S1 C2 S2 l n=0):GI C1 S1 C2 S2 (DT C1 S1 C2 S2 l n) (n:Int)=(0,l):=by
 obtain ⟨ht,hb,hall,hw⟩:=KR h0
 obtain ⟨t1,t2⟩:=Hx ht
 have hbk:=To (Bp t1) (Bp t2) hl hall hw
 have hsb:DT C1 S1 C2 S2 l n=Db (FU (bytesOf ((DH l 0 n).flatMap (Ba (Bu C1 S1) (Bu C2 S2))))):=by
  unfold DT Br
  rw [if_pos h0,G8 _ _ _ [] hw,List.nil_append]
 have hn:=G4 hb
 unfold GI
 rw [if_pos ht,if_pos (by omega),hsb,Wp (D4 _)]
 dsimp only
 rw [Int.toNat_natCast]
 exact hbk
def LF:List (List Int)→Nat→List Int
 | [],_=>[]
 | p::ps,k=>(if k=0 then [] else [255,((208+(k-1)%8:Nat):Int)])++(p++LF ps (k+1))
noncomputable def EZ(C1 S1 C2 S2 l:List Int)(L:List (Nat×Nat)):List (List Int):=L.map fun x=>DT C1 S1 C2 S2 (BB l x.1 x.2) (x.2-x.1)
theorem Ty(C1 S1 C2 S2 l:List Int):∀(L:List (Nat×Nat))(k:Nat),(∀x∈L,Cj C1 S1 C2 S2 (BB l x.1 x.2) (x.2-x.1)=0)→Fy C1 S1 C2 S2 l L k=(0,LF (EZ C1 S1 C2 S2 l L) k)
 | [],k,_=>rfl
 | x::L,k,h=>by
   have h1:=h x (by simp)
   have ih:=Ty C1 S1 C2 S2 l L (k+1) (fun y hy=>h y (by simp [hy]))
   rw [Fy,if_neg (by rw [h1];decide),ih]
   rfl
def SS(k n:Nat):List Int:=(List.range n).map fun i=>((208+(k+i)%8:Nat):Int)
theorem US(k n:Nat):SS k (n+1)=((208+k%8:Nat):Int)::SS (k+1) n:=by
 unfold SS
 rw [List.range_succ_eq_map,List.map_cons,List.map_map]
 congr 1
 refine List.map_congr_left fun i _=>?_
 simp only [Function.comp_apply]
 rw [show k+(i+1)=k+1+i by omega]
theorem KT:∀(c:List Int)(o:List (List Int))(ms p r:List Int)(m:Int),m≠0→m≠255→Dk (Db c++255::m::r) o ms p=Dk r (o++[p++Db c]) (ms++[m]) []
 | [],o,ms,p,r,m,h0,h1=>by
   rw [Ja,List.nil_append,List.append_nil,Dk.eq_def]
   simp only [if_true]
   rw [if_neg h1,if_neg h0]
 | x::c,o,ms,p,r,m,h0,h1=>by
   rw [Dh]
   by_cases h:x=255
   ·subst h
    rw [if_pos rfl,Dk.eq_def]
    simp only [List.cons_append,List.nil_append,if_true]
    rw [if_neg (by decide),KT c _ _ _ _ _ h0 h1]
    simp
   rw [if_neg h,Dk.eq_def]
   simp only [List.cons_append,List.nil_append]
   rw [if_neg h,KT c _ _ _ _ _ h0 h1]
   simp
theorem VC:∀(ps:List (List Int))(p:List Int)(k:Nat)(o:List (List Int))(ms:List Int),(∃c,p=Db c)→(∀q∈ps,∃c,q=Db c)→Dk (p++LF ps (k+1)) o ms []=some (o++p::ps,ms++SS k ps.length)
 | [],p,k,o,ms,⟨c,hc⟩,_=>by
   rw [LF,List.append_nil,hc,Ht]
   simp [SS]
 | q::ps,p,k,o,ms,⟨c,hc⟩,h=>by
   have e:p++LF (q::ps) (k+1)=Db c++255::((208+k%8:Nat):Int)::(q++LF ps (k+1+1)):=by
    rw [LF,if_neg (by omega),hc,Nat.add_sub_cancel]
    simp
   rw [e,KT _ _ _ _ _ _ (by omega) (by omega),VC ps q (k+1) _ _ (h q (by simp)) (fun x hx=>h x (by simp [hx])),List.length_cons,US,List.nil_append,←hc]
   simp
theorem Xe{ps:List (List Int)}(h:∀q∈ps,∃c,q=Db c)(h0:ps≠[]):Dk (LF ps 0) [] [] []=some (ps,SS 0 (ps.length-1)):=by
 cases ps with
 | nil=>exact absurd rfl h0
 | cons p ps=>
   rw [LF,if_pos rfl,List.nil_append,VC ps p 0 [] [] (h p (by simp)) (fun x hx=>h x (by simp [hx]))]
   simp
theorem XC{k n i:Nat}(h:i<n):AK (SS k n) i=((208+(k+i)%8:Nat):Int):=by
 unfold SS AK List.getD
 rw [List.getElem?_map,List.getElem?_range h];rfl
theorem Z2(n:Nat):IT (SS 0 n) (SS 0 n).length=true:=by
 have hl:(SS 0 n).length=n:=by simp [SS]
 unfold IT
 rw [List.all_eq_true,hl]
 intro k hk
 have hk:=List.mem_range.1 hk
 rw [XC hk,Nat.zero_add]
 simp
theorem aE(n every:Nat):Bc n every≠[]:=by
 unfold Bc
 by_cases h:every=0∨n=0
 ·rw [if_pos h];simp
 rw [if_neg h]
 obtain ⟨m,rfl⟩:∃m,n=m+1:=⟨n-1,by omega⟩
 rw [Dg,if_pos (by omega)]
 simp
theorem Dv{l:List Int}{n f t:Nat}(hl:l.length=n*64)(hft:f≤t)(ht:t≤n):(BB l f t).length=(t-f)*64:=by
 unfold BB
 rw [List.length_take,List.length_drop,hl]
 have h1:(t-f)*64≤n*64-f*64:=by rw [←Nat.sub_mul];exact Nat.mul_le_mul_right 64 (by omega)
 omega
theorem No{l:List Int}{n f t:Nat}(hl:l.length=n*64)(hft:f≤t)(ht:t≤n):BB l f t++l.drop (t*64)=l.drop (f*64):=by
 have h1:t*64=f*64+(t-f)*64:=by omega
 unfold BB
 rw [h1,←List.drop_drop,List.take_append_drop]
theorem KU{l:List Int}{n every:Nat}(hl:l.length=n*64)(he:0<every):∀(f a:Nat),n≤a+f*every→a≤n∨n≤a→(Dg n every f a).flatMap (fun x=>BB l x.1 x.2)=l.drop (a*64)
 | 0,a,h,_=>by
   rw [Dg,List.drop_of_length_le (by rw [hl];omega)];rfl
 | f+1,a,h,_=>by
   rw [Dg]
   by_cases h0:a<n
   ·rw [if_pos h0,List.flatMap_cons]
    by_cases h1:a+every≤n
    ·rw [Nat.min_eq_left h1,KU hl he f (a+every) (by rw [Nat.add_mul,Nat.one_mul] at h;omega) (by omega)]
     exact No hl (by omega) h1
    rw [Nat.min_eq_right (by omega),KU hl he f (a+every) (by rw [Nat.add_mul,Nat.one_mul] at h;omega) (by omega),List.drop_of_length_le (i:=(a+every)*64) (by rw [hl];omega)]
    have:=No hl (f:=a) (t:=n) (by omega) (Nat.le_refl _)
    rw [List.drop_of_length_le (i:=n*64) (by omega)] at this
    exact this
   rw [if_neg h0,List.drop_of_length_le (by rw [hl];omega)];rfl
theorem RK{l:List Int}{n:Nat}(every:Nat)(hl:l.length=n*64):(Bc n every).flatMap (fun x=>BB l x.1 x.2)=l:=by
 unfold Bc
 by_cases h:every=0∨n=0
 ·rw [if_pos h]
  simp [Sj hl]
 rw [if_neg h,KU hl (by omega) n 0 (by have:=Nat.le_mul_of_pos_right n (show 0<every by omega);omega) (by omega)]
 simp
theorem Ut(C1 S1 C2 S2 l:List Int){n:Nat}(hl:l.length=n*64):∀(L:List (Nat×Nat)),(∀x∈L,x.1≤x.2∧x.2≤n)→(∀x∈L,Cj C1 S1 C2 S2 (BB l x.1 x.2) (x.2-x.1)=0)→LN C1 S1 C2 S2 L (EZ C1 S1 C2 S2 l L)=(0,L.flatMap fun x=>BB l x.1 x.2)
 | [],_,_=>rfl
 | x::L,h1,h2=>by
   have ih:=Ut C1 S1 C2 S2 l hl L (fun y hy=>h1 y (by simp [hy])) (fun y hy=>h2 y (by simp [hy]))
   obtain ⟨a1,a2⟩:=h1 x (by simp)
   have hb:=Sd (Dv hl a1 a2) (h2 x (by simp))
   have e:EZ C1 S1 C2 S2 l (x::L)=DT C1 S1 C2 S2 (BB l x.1 x.2) (x.2-x.1)::EZ C1 S1 C2 S2 l L:=rfl
   rw [e,LN,List.headD_cons,List.tail_cons,hb,ih]
   rw [if_neg (by simp)]
   rfl
theorem Uh{C1 S1 C2 S2 l:List Int}{L:List (Nat×Nat)}(h2:∀x∈L,Cj C1 S1 C2 S2 (BB l x.1 x.2) (x.2-x.1)=0):∀q∈EZ C1 S1 C2 S2 l L,∃c,q=Db c:=by
 intro q hq
 obtain ⟨x,hx,rfl⟩:=List.mem_map.1 hq
 exact ⟨FU (bytesOf (Br C1 S1 C2 S2 (BB l x.1 x.2) (x.2-x.1))),by unfold DT;rw [if_pos (h2 x hx)]⟩
def Mm(C1 S1 C2 S2 l:List Int)(n every:Nat):Prop:=∀x∈Bc n every,Cj C1 S1 C2 S2 (BB l x.1 x.2) (x.2-x.1)=0
theorem XU{C1 S1 C2 S2 l:List Int}{n every:Nat}(he:every≤100)(ht:Dw C1 S1 C2 S2=0)(hb:Bb l n=0)(h:Mm C1 S1 C2 S2 l n every):FN C1 S1 C2 S2 l n every=(0,LF (EZ C1 S1 C2 S2 l (Bc n every)) 0):=by
 unfold FN
 rw [if_pos (by omega),if_pos ht,if_pos hb,Int.toNat_natCast,Ty _ _ _ _ _ _ _ h,if_pos rfl]
theorem Ug{C1 S1 C2 S2 l:List Int}{n every:Nat}(h:Mm C1 S1 C2 S2 l n every):Dk (LF (EZ C1 S1 C2 S2 l (Bc n every)) 0) [] [] []=some (EZ C1 S1 C2 S2 l (Bc n every),SS 0 ((Bc n every).length-1)):=by
 have h1:=Xe (Uh h) (by unfold EZ;rw [Ne,List.map_eq_nil_iff];exact aE n every)
 rw [h1]
 unfold EZ
 rw [List.length_map]
theorem Z8{C1 S1 C2 S2 b:List Int}{n every:Nat}{y:List (List Int)×List Int}(he:every≤100)(hn:n≤400)(ht:Dw C1 S1 C2 S2=0)(h:Dk b [] [] []=some y):OS C1 S1 C2 S2 b n every=0:=by
 unfold OS
 rw [if_pos (show IV (n:Int) (every:Int) by unfold IV;omega),if_pos ht]
 unfold aC
 rw [h]
theorem Us{C1 S1 C2 S2 l:List Int}{n every:Nat}(hl:l.length=n*64)(he:every≤100)(hn:n≤400)(ht:Dw C1 S1 C2 S2=0)(h:Mm C1 S1 C2 S2 l n every):
 O9 C1 S1 C2 S2 (LF (EZ C1 S1 C2 S2 l (Bc n every)) 0) n every=(0,l):=by
 have hs:=Ug h
 have hw:NQ C1 S1 C2 S2 (LF (EZ C1 S1 C2 S2 l (Bc n every)) 0) n every=0:=by
  unfold NQ
  rw [if_pos (Z8 he hn ht hs),hs]
  dsimp only
  rw [Int.toNat_natCast,Int.toNat_natCast,if_pos (by unfold EZ;rw [List.length_map]),Z2]
  rfl
 have hd:=Ut C1 S1 C2 S2 l hl (Bc n every) (Fo n every) h
 unfold O9
 rw [if_pos hw,hs]
 dsimp only
 rw [Int.toNat_natCast,Int.toNat_natCast,hd,if_pos rfl,RK every hl]
theorem Pu{F R C1 S1 C2 S2 l:List Int}{n:Nat}(hl:l.length=n*64)(h1:Mk (Cl F) 256 C1 S1)(h2:Mk (Cl R) 256 C2 S2)(hF:∀x∈PB l n,x∈F)(hR:∀x∈KY l n,x∈R):EV (Bu C1 S1) (Bu C2 S2) (DH l 0 n):=by
 intro x hx
 have hok:=(Hy hl n 0 (by omega)).1 x hx
 obtain ⟨⟨r1,r2⟩,_⟩:=hok
 obtain ⟨k1,k2⟩:=aG l n x hx
 have key:∀(L:List Int),x.1.1∈L→x.1.1∈B8 (Cl L) 256:=fun L hL=>by
  rw [Bg]
  refine ⟨r1,by omega,?_⟩
  rw [Dq _ (by omega)]
  have h3:(((x.1.1.toNat:Nat)):Int)=x.1.1:=by omega
  rw [h3]
  have:=List.count_pos_iff.2 hL
  omega
 obtain ⟨t,b⟩:=x
 cases b
 ·show (symW (Bu C2 S2) t.1).isSome=true
  exact (Ok h2.ok _).2 ((h2.mem _).2 (key _ (hR _ (k2 rfl))))
 show (symW (Bu C1 S1) t.1).isSome=true
 exact (Ok h1.ok _).2 ((h1.mem _).2 (key _ (hF _ (k1 rfl))))
def Sg(l:List Int)(L:List (Nat×Nat)):List Int:=L.flatMap fun x=>PB (BB l x.1 x.2) (x.2-x.1)
def U9(l:List Int)(L:List (Nat×Nat)):List Int:=L.flatMap fun x=>KY (BB l x.1 x.2) (x.2-x.1)
theorem Ls{l:List Int}{f t k:Nat}(hk:k<t-f):Bm (BB l f t) 64 k=Bm l 64 (f+k):=by
 unfold BB
 rw [Uy hk,Fk]
theorem EE{l:List Int}{n f t:Nat}(h:A9 l n=true)(hft:f≤t)(ht:t≤n):A9 (BB l f t) (t-f)=true:=by
 unfold A9
 rw [List.all_eq_true]
 intro k hk
 have hk:=List.mem_range.1 hk
 rw [Ls hk]
 exact DP h (by omega)
theorem Ft{l:List Int}{n:Nat}(hn:n≤400)(h:A9 l n=true):Bb l n=0:=by
 unfold Bb
 rw [if_neg (by omega),if_pos h]
theorem Lp{C1 S1 C2 S2 l:List Int}{n every:Nat}(hl:l.length=n*64)(hn:n≤400)(h:A9 l n=true)(h1:Mk (Cl (Sg l (Bc n every))) 256 C1 S1)(h2:Mk (Cl (U9 l (Bc n every))) 256 C2 S2):Mm C1 S1 C2 S2 l n every:=by
 intro x hx
 obtain ⟨a1,a2⟩:=Fo n every x hx
 have ht:Dw C1 S1 C2 S2=0:=by unfold Dw;rw [if_pos h1.ok];exact h2.ok
 exact RH ht (Ft (by omega) (EE h a1 a2)) (Pu (Dv hl a1 a2) h1 h2 (fun y hy=>List.mem_flatMap.2 ⟨x,hx,hy⟩) (fun y hy=>List.mem_flatMap.2 ⟨x,hx,hy⟩))
def dE(x:List Int):List Int:=(Gq 0 ((FH x).drop 1)).map (·.1)
theorem Xq{l:List Int}{n k:Nat}(hl:l.length=n*64)(h:A9 l n=true)(hk:k<n):((Sq l k).drop 1).map (·.1)=dE (Bm l 64 k):=by
 rw [(VL hl h hk).2]
 rfl
theorem RP{l:List Int}{n:Nat}(hl:l.length=n*64)(h:A9 l n=true):KY l n=(List.range' 0 n).flatMap fun k=>dE (Bm l 64 k):=by
 unfold KY
 rw [List.range_eq_range',List.flatMap_def,List.flatMap_def]
 congr 1
 refine List.map_congr_left fun k hk=>?_
 exact Xq hl h (by have:=List.mem_range'_1.1 hk;omega)
theorem Xk{l:List Int}{n f t:Nat}(hl:l.length=n*64)(h:A9 l n=true)(hft:f≤t)(ht:t≤n):KY (BB l f t) (t-f)=(List.range' f (t-f)).flatMap fun k=>dE (Bm l 64 k):=by
 rw [RP (Dv hl hft ht) (EE h hft ht),List.flatMap_def,List.flatMap_def]
 congr 1
 have e:List.range' f (t-f)=(List.range' 0 (t-f)).map (f+ ·):=by rw [List.map_add_range'];rfl
 rw [e,List.map_map]
 refine List.map_congr_left fun k hk=>?_
 have hk:=List.mem_range'_1.1 hk
 simp only [Function.comp_apply]
 rw [Ls (by omega)]
theorem KV(g:Nat→List Int){n every:Nat}(he:0<every):∀(f a:Nat),n≤a+f*every→(Dg n every f a).flatMap (fun x=>(List.range' x.1 (x.2-x.1)).flatMap g)=(List.range' a (n-a)).flatMap g
 | 0,a,h=>by rw [Dg,show n-a=0 by omega];rfl
 | f+1,a,h=>by
   rw [Dg]
   by_cases h0:a<n
   ·rw [if_pos h0,List.flatMap_cons]
    by_cases h1:a+every≤n
    ·rw [Nat.min_eq_left h1,KV g he f (a+every) (by rw [Nat.add_mul,Nat.one_mul] at h;omega)]
     dsimp only
     rw [←List.flatMap_append,Nat.add_sub_cancel_left,List.range'_append_1,show every+(n-(a+every))=n-a by omega]
    rw [Nat.min_eq_right (by omega),KV g he f (a+every) (by rw [Nat.add_mul,Nat.one_mul] at h;omega)]
    dsimp only
    rw [show n-(a+every)=0 by omega]
    simp
   rw [if_neg h0,show n-a=0 by omega];rfl
theorem RN(g:Nat→List Int)(n every:Nat):(Bc n every).flatMap (fun x=>(List.range' x.1 (x.2-x.1)).flatMap g)=(List.range' 0 n).flatMap g:=by
 unfold Bc
 by_cases h:every=0∨n=0
 ·rw [if_pos h];simp
 rw [if_neg h,KV g (by omega) n 0 (by have:=Nat.le_mul_of_pos_right n (show 0<every by omega);omega)]
 simp
theorem VA{l:List Int}{n:Nat}(every:Nat)(hl:l.length=n*64)(h:A9 l n=true):U9 l (Bc n every)=KY l n:=by
 rw [RP hl h,←RN _ n every]
 unfold U9
 rw [List.flatMap_def,List.flatMap_def]
 congr 1
 refine List.map_congr_left fun x hx=>?_
 obtain ⟨a1,a2⟩:=Fo n every x hx
 exact Xk hl h a1 a2
theorem Ge:∀L:List Nat,(L.flatMap fun _:Nat=>[(0:Int)]).length=L.length
 | []=>rfl
 | x::L=>by rw [List.flatMap_cons,List.length_append,Ge L];simp;omega
theorem Xc{l:List Int}{n:Nat}(every:Nat):(Sg l (Bc n every)).length≤n:=by
 have h1:∀(l:List Int)(k:Nat),(PB l k).length≤k:=fun l k=>by
  induction k with
  | zero=>simp [PB]
  | succ k ih=>
    rw [KX,List.length_append,List.length_map,List.length_take]
    omega
 have h2:∀L:List (Nat×Nat),(Sg l L).length≤(L.flatMap fun x=>(List.range' x.1 (x.2-x.1)).flatMap fun _:Nat=>[(0:Int)]).length:=fun L=>by
  induction L with
  | nil=>simp [Sg]
  | cons x L ih=>
    unfold Sg at ih⊢
    rw [List.flatMap_cons,List.flatMap_cons,List.length_append,List.length_append]
    have e:=Ge (List.range' x.1 (x.2-x.1))
    rw [List.length_range'] at e
    have:=h1 (BB l x.1 x.2) (x.2-x.1)
    rw [e]
    omega
 refine Nat.le_trans (h2 _) ?_
 rw [RN (fun _:Nat=>[(0:Int)]),Ge,List.length_range']
 exact Nat.le_refl _
theorem VQ(C:List Int):Bu C []=[]:=by unfold Bu;simp
theorem VJ(s:Int):symW [] s=none:=by unfold symW;rfl
theorem Nu{C1 S1 C2 S2 l:List Int}:∀(L:List (Nat×Nat))(k:Nat),(∀x∈L,Cj C1 S1 C2 S2 (BB l x.1 x.2) (x.2-x.1)=0∨Cj C1 S1 C2 S2 (BB l x.1 x.2) (x.2-x.1)=5)→(∃x∈L,Cj C1 S1 C2 S2 (BB l x.1 x.2) (x.2-x.1)=5)→(Fy C1 S1 C2 S2 l L k).1=5
 | [],k,_,⟨x,hx,_⟩=>by cases hx
 | x::L,k,h,⟨y,hy,h5⟩=>by
   rw [Fy]
   rcases h x (by simp) with h0|h0
   ·rw [if_neg (by rw [h0];decide)]
    dsimp only
    refine Nu L (k+1) (fun z hz=>h z (by simp [hz])) ?_
    rcases List.mem_cons.1 hy with rfl|hy
    ·rw [h0] at h5;cases h5
    exact ⟨y,hy,h5⟩
   rw [if_pos (by rw [h0];decide),h0]
theorem Sc{C1 S1 C2 l:List Int}{n every:Nat}(hl:l.length=n*64)(hn:n≤400)(he:every≤100)(h:A9 l n=true)(ht1:BA C1 S1=0)(ht2:BA C2 []=0)(hR:KY l n≠[]):FN C1 S1 C2 [] l n every=(5,[]):=by
 have ht:Dw C1 S1 C2 []=0:=by unfold Dw;rw [if_pos ht1];exact ht2
 have hb:=Ft hn h
 have h5:(Fy C1 S1 C2 [] l (Bc n every) 0).1=5:=by
  refine Nu _ _ (fun x hx=>?_) ?_
  ·obtain ⟨a1,a2⟩:=Fo n every x hx
   have hb':=Ft (show x.2-x.1≤400 by omega) (EE h a1 a2)
   by_cases hw:EV (Bu C1 S1) (Bu C2 []) (DH (BB l x.1 x.2) 0 (x.2-x.1))
   ·exact .inl (RH ht hb' hw)
   exact .inr (Od ht hb' hw)
  rw [←VA every hl h] at hR
  obtain ⟨y,hy⟩:∃y,y∈U9 l (Bc n every):=List.exists_mem_of_ne_nil _ hR
  obtain ⟨x,hx,hy⟩:=List.mem_flatMap.1 hy
  refine ⟨x,hx,?_⟩
  obtain ⟨a1,a2⟩:=Fo n every x hx
  have hb':=Ft (show x.2-x.1≤400 by omega) (EE h a1 a2)
  refine Od ht hb' fun hw=>?_
  have hc:=JP (BB l x.1 x.2) (x.2-x.1)
  rw [E6] at hc
  simp only [List.nil_append,Prod.mk.injEq,true_and] at hc
  rw [←hc.2] at hy
  obtain ⟨z,hz,rfl⟩:=List.mem_map.1 hy
  obtain ⟨hz1,hz2⟩:=List.mem_filter.1 hz
  have:=hw z hz1
  rw [VQ] at this
  have hz3:z.2=false:=by simpa using hz2
  rw [hz3,if_neg (by decide),VJ] at this
  cases this
 unfold FN
 rw [if_pos (by omega),if_pos ht,if_pos hb,Int.toNat_natCast,if_neg (by rw [h5];decide),h5]
theorem Ta{l:List Int}{n:Nat}(every:Nat)(hn:n≤400):bE (Cl (Sg l (Bc n every)))=0:=LY (Nat.le_trans (Xc every) (by omega))
theorem KJ(a b:List Ah):AI (a++b)=AI a++AI b:=by
 induction a with
 | nil=>rfl
 | cons x a ih=>rw [List.cons_append,AI,AI,ih,List.append_assoc]
inductive Jh(ss:List Ah):List Ah→Nat→List Ah→Prop
 | head {B D:List Ah} (hb:(AI B).length=(AI ss).length):Jh ss (B++D) 0 (ss++D)
 | skipI {l:List Int} {ps ps':List Ah} {off n o2:Nat} (hn:Ap l n) (h:n≤off) (ho:off-n=o2) (t:Jh ss ps o2 ps'):Jh ss (.ints l::ps) off (.ints l::ps')
 | skipV {v:Value} {ps ps':List Ah} {off:Nat} (t:Jh ss ps off ps'):Jh ss (.val v::ps) (off+1) (.val v::ps')
theorem Jh.eq{ss ps ps':List Ah}{off:Nat}(h:Jh ss ps off ps'):∃A B D:List Value,AI ps=A++(B++D)∧AI ps'=A++(AI ss++D)∧A.length=off∧B.length=(AI ss).length:=by
 induction h with
 | @head B D hb=>exact ⟨[],AI B,AI D,by rw [KJ];rfl,by rw [KJ];rfl,rfl,hb⟩
 | @skipI l ps ps' off n o2 hn h ho t ih=>
   obtain ⟨A,B,D,e1,e2,e3,e4⟩:=ih
   have hl:=hn.out
   exact ⟨l.map (Value.int .i64)++A,B,D,by rw [AI,e1,List.append_assoc];rfl,by rw [AI,e2,List.append_assoc];rfl,by simp;omega,e4⟩
 | @skipV v ps ps' off t ih=>
   obtain ⟨A,B,D,e1,e2,e3,e4⟩:=ih
   exact ⟨v::A,B,D,by rw [AI,e1];rfl,by rw [AI,e2];rfl,by simp [e3],e4⟩
theorem Lq(g:Nat):∀(vs B A D:List Value)(w:World),K3 w g (A++(B++D)).toArray→B.length=vs.length→K3 (w.setCells g A.length vs) g (A++(vs++D)).toArray∧EK [g] w (w.setCells g A.length vs)
 | [],[],A,D,w,h,_=>⟨h,⟨rfl,rfl,rfl,Nat.le_refl _,fun _ _ _=>rfl⟩⟩
 | [],_::_,A,D,w,h,hl=>by simp at hl
 | _::_,[],A,D,w,h,hl=>by simp at hl
 | v::vs,b::B,A,D,w,h,hl=>by
   have h1:=h.set A.length v
   have e1:((A++(b::B++D)).toArray).setIfInBounds A.length v=((A++[v])++(B++D)).toArray:=by
    simp
   rw [e1] at h1
   obtain ⟨h2,h3⟩:=Lq g vs B (A++[v]) D _ h1 (by simpa using hl)
   have e2:w.setCells g A.length (v::vs)=(w.setCell ⟨g,A.length,none⟩ v).setCells g (A++[v]).length vs:=by
    rw [World.setCells,List.length_append];rfl
   rw [e2]
   refine ⟨by simpa using h2,?_⟩
   have h4:=EK.setCell w ⟨g,A.length,none⟩ v
   exact ⟨h3.os.trans h4.os,h3.tape.trans h4.tape,h3.output.trans h4.output,Nat.le_trans h4.size h3.size,fun k hk hm=>(h3.block k (Nat.lt_of_lt_of_le hk h4.size) hm).trans (h4.block k hk hm)⟩
section
variable{P:Program}{W w:World}{rs rs':List Au}{Q:Exit→Act→World→Prop}{K:Act→World→Prop}{o:Oper}{a:Act}
theorem Kr(hS:St W w rs)(ty:TypeId)(x y:Operand)(ho:o.op= .store ty x y)(g off:Nat)(hx:a.eval x= .pointer (some ⟨g,off,none⟩))(m:Nat)(h1:EW P ty m)(ps ps' ss:List Ah)(hp:AT (prt g ps) rs rs')
 (hy:a.eval y= .agg (AI ss).toArray) (hr:Jh ss ps off ps') (hm:(AI ss).length=m) (hv:ss.all Mf=true) (hd:o.dst=none) (h:∀w',St W w' (prt g ps'::rs')→K a w'):o.wp P a w K Q:=by
 obtain ⟨A,B,D,e1,e2,e3,e4⟩:=hr.eq
 subst e3
 have hb:=(hS.blk hp).1
 rw [e1] at hb
 obtain ⟨h2,h3⟩:=Lq g (AI ss) B A D w hb e4
 refine wp_store_mid ty x y ho g A.length (AI ss).toArray hx hy ?_ (by rw [h1.2];simp [hm]) (by simpa using F6 hv) ?_
 ·intro j hj
  rw [List.size_toArray] at hj
  refine ⟨?_,hb.free _⟩
  rw [hb.cell]
  have:A.length+j<(A++(B++D)).toArray.size:=by simp;omega
  rw [Array.getElem?_eq_getElem this];rfl
 rw [show a.put o.dst undef=a by rw [hd];rfl]
 refine h _ ?_
 refine St.change (rs1:=[prt g ps']) (hS.pull hp) fun f1 k1 _ _=>?_
 obtain ⟨rfl,_⟩:=k1
 refine ⟨[g],⟨[g],[],rfl,⟨rfl,?_⟩,rfl⟩,by simp,fun b hb=> .inl hb,h3⟩
 rw [e2];exact h2
end
theorem Uk{C1 C C2:List Int}{v1 v v2:Value}(hC1:Ap C1 16)(hC:Ap C 16):Jh [.ints C, .val v] [.ints C1, .val v1, .ints C2, .val v2] 0 [.ints C, .val v, .ints C2, .val v2]:=
 .head (B:=[.ints C1, .val v1]) (D:=[.ints C2, .val v2]) (by simp [AI,Ah.cells,hC1.out,hC.out])
theorem Ul{C1 C C2:List Int}{v1 v v2:Value}(hC1:Ap C1 16)(hC2:Ap C2 16)(hC:Ap C 16):Jh [.ints C, .val v] [.ints C1, .val v1, .ints C2, .val v2] 17 [.ints C1, .val v1, .ints C, .val v]:=
 .skipI hC1 (by omega) rfl (.skipV (.head (B:=[.ints C2, .val v2]) (D:=[]) (by simp [AI,Ah.cells,hC2.out,hC.out])))
theorem U8{l:List Int}{L:List (Nat×Nat)}{k:Nat}{x:Nat×Nat}(hx:L[k]? =some x):Sg l (L.take (k+1))=Sg l (L.take k)++PB (BB l x.1 x.2) (x.2-x.1):=by
 obtain ⟨hk,e⟩:=List.getElem?_eq_some_iff.1 hx
 rw [List.take_succ_eq_append_getElem hk,e]
 unfold Sg
 rw [List.flatMap_append]
 simp
theorem VB{l:List Int}{L:List (Nat×Nat)}{k:Nat}{x:Nat×Nat}(hx:L[k]? =some x):U9 l (L.take (k+1))=U9 l (L.take k)++KY (BB l x.1 x.2) (x.2-x.1):=by
 obtain ⟨hk,e⟩:=List.getElem?_eq_some_iff.1 hx
 rw [List.take_succ_eq_append_getElem hk,e]
 unfold U9
 rw [List.flatMap_append]
 simp
theorem OJ(w0:World)(c:List Int)(ad:Option Addr)(n cap:Nat)(hv:Sl w0 1 (.slice ad n cap) n (c.map (Value.int .i64)))(hn:n≤9223372036854775807):
 Calls Tryz.prog 72 #[.slice ad n cap] w0 fun e w=>∃(C S:List Int) (ao:Option Addr) (m co:Nat),Ap C 16∧S.length=m∧m≤256∧BA C S=0∧(bE c=0→Mk c n C S)∧(bE c≠0→S=[])∧e= .returned (.tuple #[tv C (.slice ao m co), .int .i64 (bE c)])∧St w0 w [own 3 1 ao m co (S.map (Value.int .i64))]:=by
 by_cases hb:bE c=0
 ·refine (SN w0 c ad n cap hv hn hb).mono ?_
  rintro e w ⟨C,S,ao,co,hM,rfl,hS⟩
  exact ⟨C,S,ao,S.length,co,hM.len,rfl,(ET hM.ok).2.2.1,hM.ok,fun _=>hM,fun h=>absurd hb h,by rw [hb],hS⟩
 refine (UO w0 c ad n cap hv hn hb).mono ?_
 rintro e w ⟨rfl,hE⟩
 exact ⟨_,[],none,0,0,Va,rfl,by omega,Vb,fun h=>absurd h hb,fun _=>rfl,rfl,(St.of_ext hE).nil _ _⟩
def Rj(w0:World)(F R:List Int)(e:Ending)(w:World):Prop:=
 ∃(C1 S1 C2 S2:List Int) (a1 a2:Option Addr) (m1 k1 m2 k2:Nat),Ap C1 16∧Ap C2 16∧S1.length=m1∧S2.length=m2∧m1≤256∧m2≤256∧BA C1 S1=0∧BA C2 S2=0∧(bE (Cl F)=0→Mk (Cl F) 256 C1 S1)∧(bE (Cl R)=0→Mk (Cl R) 256 C2 S2)∧(bE (Cl R)≠0→S2=[])∧
  e= .returned (.agg (AI [.ints C1, .val (.slice a1 m1 k1), .ints C2, .val (.slice a2 m2 k2)]).toArray)∧St w0 w [own 3 1 a1 m1 k1 (S1.map (Value.int .i64)),own 3 1 a2 m2 k2 (S2.map (Value.int .i64))]
theorem FC(w0:World)(ad:Option Addr)(n c:Nat)(l:List Int)(every:Nat)(hn:n≤400)(he:every≤100)(hb:A9 l n=true)(hv:Sl w0 64 (.slice ad n c) n (l.map (Value.int .i64))):
 Calls Tryz.prog 41 #[.slice ad n c, .int .i64 every] w0 (Rj w0 (Sg l (Bc n every)) (U9 l (Bc n every))):=by
 have hl:l.length=n*64:=by have:=hv.1;simpa using this
 have HL:=AD hl
 have HAB:=AD hb
 have hnc:n≤c:=by
  obtain ⟨_,a',c',e,h1,_⟩:=hv
  cases e;exact h1
 clear hl hb
 have hpsl:=Oi n every
 obtain ⟨P,hP⟩:∃P,Bc n every=P:=⟨_,rfl⟩
 have hin:=RL n every
 rw [hP] at hpsl hin⊢
 have HIN:=AD hin
 have HPE:=AD hP
 obtain ⟨m8,hm8⟩:∃m,P.length=m:=⟨_,rfl⟩
 rw [hm8] at hpsl
 have HM8:=AD hm8
 clear hP hin hm8
 have hS:=St.start w0
 go_enter Tryz.func41,Tryz.ntmps41
 repeat' (first
  | (refine AS 4 ?_);(refine Ag ?_;apply GF (o:=⟨some 4,_,_,_,_,_⟩) hS 34 rfl _ dK;clear hS;intro g4 w hS;refine AB ?_;go_step)|refine AG ?_;go_step|fail)
 replace hS:St w0 _ [prt g4 [.ints (List.replicate 16 0), .val (.slice none 0 0), .ints (List.replicate 16 0), .val (.slice none 0 0)]]:=hS
 apply VU (rs:=fun g13 g14=>[own 3 1 (some ⟨g13,0,none⟩) 256 256 ((Cl []).map (Value.int .i64)),own 3 1 (some ⟨g14,0,none⟩) 256 256 ((Cl []).map (Value.int .i64)),prt g4 [.ints (List.replicate 16 0), .val (.slice none 0 0), .ints (List.replicate 16 0), .val (.slice none 0 0)]])
 ·refine AQ [] (fun _=>True) AA ?_
  replace hS:=hS.drew
  focus
   refine A1 [0,1] AA (by simp) (.cons Am AA ?_ (.cons Am AA ?_ (.nil)))
   rotate_left 1
   focus
    refine Y2 ?_;clear hS;intro g14 w hS
    refine Aa 0 ?_
    refine Y2 ?_;clear hS;intro g13 w hS
    refine Ab 2 ?_
    refine Ab 3 ?_
    refine AE AA ?_ _
    exact ⟨rfl,g13,g14,rfl,by rw [A5];exact hS.sub AV⟩
   rotate_right 1
   focus
    refine Y2 ?_;clear hS;intro g13 w hS
    refine Ab 2 ?_
    refine Aa 1 ?_
    refine Y2 ?_;clear hS;intro g14 w hS
    refine Ab 3 ?_
    refine AE AA ?_ _
    exact ⟨rfl,g13,g14,rfl,by rw [A5];exact hS.sub AV⟩
 clear hS
 intro g13 g14 w hS
 ·repeat' (first
   | (refine A3 50 ?_);refine A4 AA Tryz.call50 (El _ n every (by omega) (by omega)) ?_;rintro e w ⟨a8,c8,m9,hm9,rfl,hS2⟩;rw [HPE.out] at hm9 hS2;obtain rfl:m8=m9:=(by rw [←hm9];exact HM8.out.symm);replace hS:=hS.call1 hS2;clear hS2 hm9;refine Ae ?_;go_step|refine X1 ?_|refine TF ?_|refine bk ?_|refine AG ?_;go_step|fail)
  go_loopg [20] m8 (fun gk kv w=>∃(k:Nat) (A B:List Int),gk+k=m8∧kv= .int .i64 k∧A.length≤k*25600∧B.length≤k*25600∧Hid (A=Sg l (P.take k))∧Hid (B=U9 l (P.take k))∧St w0 w [own 94 2 a8 m8 c8 ((P7 P).map (Value.int .i64)),own 3 1 (some ⟨g13,0,none⟩) 256 256 ((Cl A).map (Value.int .i64)),own 3 1 (some ⟨g14,0,none⟩) 256 256 ((Cl B).map (Value.int .i64)),prt g4 [.ints (List.replicate 16 0), .val (.slice none 0 0), .ints (List.replicate 16 0), .val (.slice none 0 0)]])
  case atStart=>exact ⟨0,[],[],by omega,rfl,by simp,by simp,AD rfl,AD rfl,hS.sub AV⟩
  case round=>
   clear hS
   obtain ⟨k,A,B,hk,rfl,hAl,hBl,HF,HR,hS⟩:=hrel
   by_cases hlt:k<m8
   ·obtain ⟨⟨f,t⟩,hx⟩:∃x,P[k]? =some x:=⟨_,List.getElem?_eq_getElem (by rw [HM8.out];exact hlt)⟩
    have hft:=HIN.out _ (List.mem_of_getElem? hx)
    dsimp only at hft
    have hseg:=JY P k _ hx
    dsimp only at hseg
    have hsl:(BB l f t).length=(t-f)*64:=Dv HL.out hft.1 hft.2
    have hbk:=Ft (show t-f≤400 by omega) (EE HAB.out hft.1 hft.2)
    have hsy:=VI hsl (t-f) (Nat.le_refl _)
    have hF2:=U8 (l:=l) hx
    have hR2:=VB (l:=l) hx
    dsimp only at hF2 hR2
    rw [←HF.out] at hF2
    rw [←HR.out] at hR2
    have hcc:=hv.cutAt f t hft.1 hft.2
    rw [show ((l.map (Value.int .i64)).drop (f*64)).take ((t-f)*64)=(BB l f t).map (Value.int .i64) by unfold BB;simp] at hcc
    have HBK:=AD hbk
    have HF2:=AD hF2
    have HR2:=AD hR2
    clear HF HR hx hsl hbk hF2 hR2
    obtain ⟨b8,rfl⟩:=CE (a:=a8) hS AJ (by omega)
    repeat' (first
     | (refine AS 31 ?_);refine AN (f:=71) Tryz.call71 AA ?_;refine ⟨_,(Ea _ (cutAt ad c f 64) (t-f) (c-f) (BB l f t) (by omega) (hcc.ext hS.1)),?_⟩;rintro e w ⟨hq,_⟩;obtain ⟨g1,g2,rfl,hS2⟩:=hq HBK.out;clear hq;replace hS:=Ef hS hS2;clear hS2;refine Ae ?_;go_step|refine X0 ?_|refine X2 ?_|refine WU 22 ?_|(with_reducible refine An _ (.fieldAddr 94 _ 0) ?_);(refine As AA (V.fieldAddr MX rfl BO) ?_;go_step)|(with_reducible refine An _ (.fieldAddr 94 _ 1) ?_);(refine As AA (V.fieldAddr MY rfl BO) ?_;go_step)|(with_reducible refine An _ (.slice 42 _ _ _ _) ?_);(refine As AA (V.slice Tryz.underlying42 Hc rfl (by (first|exact Lo.none|exact Lo.some rfl BI)) (by (first|exact Up.none|exact Up.some rfl BI)) (by omega) (by omega)) ?_;go_step)|refine X6 ?_|refine TV ?_|refine WL ?_|refine cS 8 ?_;clear hS;intro g8 w hS|refine WC ?_;clear hS;intro w hS|refine X9 ?_|refine AG ?_;go_step|fail)
    all_goals (try exact AW)
    obtain ⟨gk1,hgk1⟩:∃x,x=gk:=⟨_,rfl⟩
    subst hgk1
    obtain ⟨X,hX⟩:∃X,PB (BB l f t) (t-f)=X:=⟨_,rfl⟩
    obtain ⟨Y,hY⟩:∃X,KY (BB l f t) (t-f)=X:=⟨_,rfl⟩
    rw [hX,hY] at hS hsy
    rw [hX] at HF2
    rw [hY] at HR2
    clear hX hY hcc
    go_loopg [37] 256 (fun gk kv w=>∃(i:Nat) (l1 l2:List Int),gk+i=256∧kv= .int .i64 i∧Hid (l1.length=256)∧Hid (l2.length=256)∧Hid (∀j,j<256→AK l1 j=if j<i then AK (Cl (A++X)) j else AK (Cl A) j)∧Hid (∀j,j<256→AK l2 j=if j<i then AK (Cl (B++Y)) j else AK (Cl B) j)∧St w0 w [own 94 2 (some ⟨b8,0,none⟩) m8 c8 ((P7 P).map (Value.int .i64)),own 3 1 (some ⟨g13,0,none⟩) 256 256 (l1.map (Value.int .i64)),own 3 1 (some ⟨g14,0,none⟩) 256 256 (l2.map (Value.int .i64)),own 3 1 (some ⟨g1,0,none⟩) 256 256 ((Cl X).map (Value.int .i64)),own 3 1 (some ⟨g2,0,none⟩) 256 256 ((Cl Y).map (Value.int .i64)),prt g4 [.ints (List.replicate 16 0), .val (.slice none 0 0), .ints (List.replicate 16 0), .val (.slice none 0 0)]])
    case atStart=>exact ⟨0,Cl A,Cl B,rfl,rfl,AD (DW _),AD (DW _),AD (fun j hj=>by rw [if_neg (by omega)]),AD (fun j hj=>by rw [if_neg (by omega)]),hS.sub AV⟩
    case round=>
     clear hS
     obtain ⟨i,l1,l2,hi,rfl,HL1,HL2,HV1,HV2,hS⟩:=hrel
     by_cases hlt2:i<256
     ·have e1:=HV1.out i hlt2
      have e2:=HV2.out i hlt2
      rw [if_neg (by omega)] at e1 e2
      have a1:=GY A hlt2
      have a2:=GY B hlt2
      have a3:=GY X hlt2
      have a4:=GY Y hlt2
      rw [←e1] at a1
      rw [←e2] at a2
      have HA1:=AD (show AK l1 i+AK (Cl X) i=AK (Cl (A++X)) i by rw [e1];exact Qf hlt2)
      have HA2:=AD (show AK l2 i+AK (Cl Y) i=AK (Cl (B++Y)) i by rw [e2];exact Qf hlt2)
      clear e1 e2
      repeat' (first
       | refine X0 ?_|refine X2 ?_|refine AG ?_;go_step|fail)
      all_goals (try exact AW)
      refine AQ [10] (fun w=>St w0 w [own 3 1 (some ⟨g13,0,none⟩) 256 256 (l1.map (Value.int .i64)),own 3 1 (some ⟨g1,0,none⟩) 256 256 ((Cl X).map (Value.int .i64))]) AA ?_
      replace hS:=hS.drew
      focus
       refine Ab 0 ?_
       refine Ab 1 ?_
       refine O7 2 ?_
       refine cU 3 [8,9,10] ?_
       refine Ab 4 ?_
       refine Ab 5 ?_
       refine O7 6 ?_
       refine cU 7 [8,9,10] ?_
       refine Vm 8 ?_
       refine O7 9 ?_
       refine Aa 10 ?_
       refine ar ?_;clear hS;intro w hS
       refine AE AA ?_ _
      repeat' (first|(refine AG ?_;go_step)|fail)
      refine AQ [10] (fun w=>St w0 w [own 3 1 (some ⟨g14,0,none⟩) 256 256 (l2.map (Value.int .i64)),own 3 1 (some ⟨g2,0,none⟩) 256 256 ((Cl Y).map (Value.int .i64))]) AA ?_
      replace hS:=hS.drew
      focus
       refine Ab 0 ?_
       refine Ab 1 ?_
       refine O7 2 ?_
       refine cU 3 [8,9,10] ?_
       refine Ab 4 ?_
       refine Ab 5 ?_
       refine O7 6 ?_
       refine cU 7 [8,9,10] ?_
       refine Vm 8 ?_
       refine O7 9 ?_
       refine Aa 10 ?_
       refine ar ?_;clear hS;intro w hS
       refine AE AA ?_ _
      repeat' (first
       | refine X1 ?_|refine X7 ?_|refine AG ?_;go_step|fail)
      rw [HA1.out,HA2.out] at hS
      have nset:∀(l:List Int)(D E:List Int),l.length=256→(∀j,j<256→AK l j=if j<i then AK (Cl (D++E)) j else AK (Cl D) j)→∀j,j<256→AK (l.set i (AK (Cl (D++E)) i)) j=if j<i+1 then AK (Cl (D++E)) j else AK (Cl D) j:=fun l D E h1 h2 j hj=>by
       rw [CL _ _ _ _ (by rw [h1];exact hlt2)]
       by_cases h:i=j
       ·subst h;rw [if_pos rfl,if_pos (by omega)]
       rw [if_neg h,h2 j hj]
       by_cases h3:j<i
       ·rw [if_pos h3,if_pos (by omega)]
       rw [if_neg h3,if_neg (by omega)]
      go_roundg (gk-1)
      case measure=>omega
      case rel=>exact ⟨i+1,l1.set i (AK (Cl (A++X)) i),l2.set i (AK (Cl (B++Y)) i),by omega,by go_num,AD (by rw [List.length_set];exact HL1.out),AD (by rw [List.length_set];exact HL2.out),AD (nset _ _ _ HL1.out HV1.out),AD (nset _ _ _ HL2.out HV2.out),hS.sub AV⟩
     obtain rfl:i=256:=by omega
     have q1:l1=Cl (A++X):=JO HL1.out (DW _) fun j hj=>by rw [HV1.out j hj,if_pos hj]
     have q2:l2=Cl (B++Y):=JO HL2.out (DW _) fun j hj=>by rw [HV2.out j hj,if_pos hj]
     rw [q1,q2] at hS
     repeat' (first
      | refine X2 ?_|refine AG ?_;go_step|fail)
     repeat' (first
      | refine X1 ?_|refine X7 ?_|refine AG ?_;go_step|fail)
     go_roundg (gk1-1)
     case measure=>omega
     case rel=>exact ⟨k+1,A++X,B++Y,by omega,by go_num,by rw [List.length_append];omega,by rw [List.length_append];omega,AD HF2.out.symm,AD HR2.out.symm,hS.sub AV⟩
   obtain rfl:k=m8:=by omega
   have hf:=HF.out
   have hr:=HR.out
   rw [List.take_of_length_le (by rw [HM8.out];exact Nat.le_refl _)] at hf hr
   subst hf
   subst hr
   obtain ⟨F,hF⟩:∃F,Sg l P=F:=⟨_,rfl⟩
   obtain ⟨R,hR⟩:∃F,U9 l P=F:=⟨_,rfl⟩
   rw [hF,hR] at hS⊢
   obtain ⟨E1,hE1⟩:∃E,bE (Cl F)=E:=⟨_,rfl⟩
   obtain ⟨E2,hE2⟩:∃E,bE (Cl R)=E:=⟨_,rfl⟩
   have HE1:=AD hE1
   have HE2:=AD hE2
   have HFE:=AD hF
   have HRE:=AD hR
   clear HF HR hF hR hE1 hE2 hAl hBl
   have hZ:Ap (List.replicate 16 (0:Int)) 16:=Ap.rep
   repeat' (first
    | refine X1 ?_|refine X2 ?_|refine AG ?_;go_step|fail)
   repeat' (first
    | (refine AS 64 ?_);refine AN (f:=72) Tryz.call72 AA ?_;refine ⟨_,(OJ _ (Cl F) (some ⟨g13,0,none⟩) 256 256 (hS.sl AJ) (by decide)),?_⟩;rintro e w ⟨C1,S1,a1,m1,k1,hC1,hm1,hb1,ht1,hM1,hN1,rfl,hS2⟩;rw [HE1.out];replace hS:=hS.call1 hS2;clear hS2;have HM1:=AD hM1;have HT1:=AD ht1;clear hM1 ht1 hN1;refine Ae ?_;go_step|(refine AS 70 ?_);refine AN (f:=72) Tryz.call72 AA ?_;refine ⟨_,(OJ _ (Cl R) (some ⟨g14,0,none⟩) 256 256 (hS.sl AJ) (by decide)),?_⟩;rintro e w ⟨C2,S2,a2,m2,k2,hC2,hm2,hb2,ht2,hM2,hN2,rfl,hS2⟩;rw [HE2.out];replace hS:=hS.call1 hS2;clear hS2;have HM2:=AD hM2;have HT2:=AD ht2;have HN2:=AD hN2;clear hM2 ht2 hN2;refine Ae ?_;go_step|(with_reducible refine An _ (.store 32 (.tmp 67) _) ?_);refine Ag ?_;refine Kr hS 32 _ _ rfl g4 0 rfl 17 (AP rfl) _ _ [.ints C1, .val _] AJ rfl (Uk hZ hC1) (Dc C1 _ hC1) rfl rfl ?_;clear hS;intro w hS|(with_reducible refine An _ (.store 32 (.tmp 73) _) ?_);refine Ag ?_;refine Kr hS 32 _ _ rfl g4 17 rfl 17 (AP rfl) _ _ [.ints C2, .val _] AJ rfl (Ul hC1 hZ hC2) (Dc C2 _ hC2) rfl rfl ?_;clear hS;intro w hS|refine X1 ?_|refine X6 ?_|refine aV ?_|refine aW ?_|refine AG ?_;go_step|fail)
   repeat' (first
    | refine QU ?_|(with_reducible refine An _ (.store 34 _ _) ?_);(refine Ag ?_;apply FE hS 34 _ _ rfl _ rfl 34 (AP rfl) _ _;(case hp=>exact AJ);(case hy=>rfl);(case hn=>(repeat (first|exact CH.nil|(apply CH.ints;(case hn=>exact EJ);(case h=>omega);(case hm=>rfl))|apply CH.val)));(case hn'=>(repeat (first|exact CH.nil|(apply CH.ints;(case hn=>exact EJ);(case h=>omega);(case hm=>rfl))|apply CH.val)));(case hv=>rfl);(case hd=>exact rfl);clear hS;intro w hS)|refine AG ?_;go_step|fail)
   refine BW rfl (AC.prt hS rfl (AP (n:=34) rfl) AJ (by (repeat (first|exact CH.nil|(apply CH.ints;(case hn=>exact EJ);(case h=>omega);(case hm=>rfl))|apply CH.val)))) rfl ?_
   rw [HFE.out,HRE.out]
   exact ⟨C1,S1,C2,S2,a1,a2,m1,k1,m2,k2,hC1,hC2,hm1,hm2,hb1,hb2,HT1.out,HT2.out,HM1.out,HM2.out,HN2.out,rfl,hS.sub AV⟩
theorem Tq(q b:List Int)(hq:q.length=64):Dd (ay q b)=true:=by
 have hb:(ce b).length=64:=FG _ _
 refine (BL _ _ _).2 fun i hi=>?_
 unfold ay De
 split
 ·rw [O4 _ _ _ hb hq i (by rw [MK q b hq] at hi;exact hi)]
  unfold dn
  omega
 unfold CS;rw [Du];omega
theorem PI{a b:List Int}{n m:Nat}(ha:a.length=n*64)(h1:A9 a n=true)(h2:A9 b m=true):A9 (a++b) (n+m)=true:=by
 unfold A9
 rw [List.all_eq_true]
 intro k hk
 have hk:=List.mem_range.1 hk
 by_cases hkn:k<n
 ·rw [Oe ha hkn];exact DP h1 hkn
 have e:Bm (a++b) 64 k=Bm b 64 (k-n):=by
  unfold Bm
  rw [List.drop_append,List.drop_of_length_le (by rw [ha];omega),List.nil_append,ha,←Nat.sub_mul]
 rw [e];exact DP h2 (by omega)
theorem PU(q l:List Int)(hq:q.length=64)(n:Nat):A9 (O8 q l n) n=true:=by
 unfold A9
 rw [List.all_eq_true]
 intro k hk
 rw [Qk q l hq n k (List.mem_range.1 hk)]
 exact Tq q _ hq
theorem KL(m h:Int)(q:List Int)(hq:q.length=64):∀L:List (List Int),A9 (IC m h q L) (L.length*Aq m h)=true
 | []=>by unfold A9;simp
 | l::L=>by
   rw [IC,List.length_cons,Nat.add_mul,Nat.one_mul,Nat.add_comm]
   exact PI (G7 q _ hq _) (PU q _ hq _) (KL m h q hq L)
theorem Pj(m h:Int)(q:List Int)(hq:q.length=64)(L:List (List Int)):A9 (LC m h q L) (L.length*Aq m h)=true:=by
 have:=KL m h q hq (Cc NP NN NO L)
 rw [Ij] at this
 exact this
theorem W2(m h:Int)(q:List Int)(hq:q.length=64)(L:List (List Int)):(LC m h q L).length=L.length*Aq m h*64:=by
 have:=RB m h q hq (Cc NP NN NO L)
 rw [Ij] at this
 exact this
def Fd(m h:Int)(q:List Int)(L:List (List Int))(every:Int):Int:=if J4 m h q L=0 then if 0≤every∧every≤100 then if bE (Cl (KY (LC m h q L) (L.length*Aq m h)))=0 then 0 else 5 else 1 else J4 m h q L
theorem OA{m h:Int}{q:List Int}{L:List (List Int)}(h0:J4 m h q L=0):E9 m h L=0∧JH q=true:=by
 unfold J4 at h0
 split at h0
 ·rename_i h1
  split at h0
  ·rename_i h2;exact ⟨h1,h2⟩
  cases h0
 rename_i h1;exact absurd h0 h1
theorem Ei{m h:Int}(hok:1≤m∧m≤64∧1≤h∧h≤64):1≤Aq m h∧Aq m h≤64∧(m+7)/8*((h+7)/8)=(Aq m h:Int):=by
 obtain ⟨k0,k1⟩:=Ds ((m+7)/8) ((h+7)/8) 8 8 (by omega) (by omega)
 have k2:0<((m+7)/8)*((h+7)/8):=Int.mul_pos (by omega) (by omega)
 unfold Aq
 omega
theorem N9(off:Nat):∀(us:List Value)(j:Nat)(A B D:List Value),A.length=off+j→B.length=us.length→
 List.foldl (fun cs (x:Value×Nat)=>cs.setIfInBounds (off+x.2) x.1) (A++(B++D)).toArray (us.zipIdx j)=(A++(us++D)).toArray
 | [],j,A,B,D,_,hB=>by
   obtain rfl:B=[]:=List.eq_nil_of_length_eq_zero (by simpa using hB)
   simp
 | u::us,j,A,B,D,hA,hB=>by
   cases B with
   | nil=>simp at hB
   | cons y B=>
     simp only [List.zipIdx_cons,List.foldl_cons]
     have e1:(A++(y::B++D)).toArray.setIfInBounds (off+j) u=((A++[u])++(B++D)).toArray:=by
      rw [List.setIfInBounds_toArray,List.set_append_right _ _ (by omega),hA,Nat.sub_self,List.cons_append,List.set_cons_zero,List.append_assoc]
      rfl
     rw [e1,N9 off us (j+1) (A++[u]) B D (by rw [List.length_append,hA];simp;omega) (by simpa using hB)]
     simp
theorem Eg{place:Nat→Option (Nat×Nat)}{i off:Nat}{v:Value}{ps ps' ss:List Ah}{rest:List (Nat×Value)}(hr:Jh ss ps off ps')(hv:v.cells=(AI ss).toArray)(hp:place i=some (off,(AI ss).length)):
 Instr.fill place (AI ps).toArray ((i,v)::rest)=Instr.fill place (AI ps').toArray rest:=by
 obtain ⟨A,B,D,e1,e2,hA,hB⟩:=hr.eq
 rw [Instr.fill,hp]
 dsimp only
 have hsz:v.cells.size=(AI ss).length:=by rw [hv];simp
 have hlen:(AI ps).length=A.length+(B.length+D.length):=by rw [e1,List.length_append,List.length_append]
 rw [if_neg (by rw [hsz];simp;omega)]
 congr 1
 rw [←Array.foldl_toList,hv,e1,e2]
 have:=N9 off (AI ss) 0 A B D (by omega) hB
 simpa using this
theorem If{P:Program}{t:TypeId}{fields:Array Field}{z:Value}{places:Array (Nat×Nat)}{cells:Array Value}{parts:Array (Nat×Value)}(w:World)(hz:(zeroValue t).run P w= .ok z w)(ht:P.underlying t=some (.struct fields))
 (hp:(fields.mapM fun f=>do pure (f.offset,←sizeOf f.type):Sem (Array (Nat×Nat))).run P w= .ok places w) (hf:Instr.fill (places[·]?) z.cells parts.toList=some cells):(Instr.build t parts).run P w= .ok (.agg cells) w:=by
 unfold Instr.build
 simp only [Sem.run_bind,hz,Result.andThen_ok,run_underlying ht,hp,hf,Sem.run_pure]
def gz:Value:= .agg (AI [.val (.int .i64 0), .val (.int .i64 0), .val (.int .i64 0), .ints (List.replicate 64 0), .ints (List.replicate 16 0), .val (.slice none 0 0), .ints (List.replicate 16 0), .val (.slice none 0 0), .val (.int .i64 0), .val (.slice none 0 0)]).toArray
theorem Jr(w:World):(Instr.build 37 #[]).run Tryz.prog w= .ok gz w:=by kernel_rfl
def fp(a b c:Value)(Q C1:List Int)(v1:Value)(C2:List Int)(v2 e d:Value):List Ah:=[.val a, .val b, .val c, .ints Q, .ints C1, .val v1, .ints C2, .val v2, .val e, .val d]
section
variable{a b c x v1 v2 e d y1 y2:Value}{Q Q' C1 C2 D1 D2:List Int}
theorem cx:Jh [.val x] (fp a b c Q C1 v1 C2 v2 e d) 0 (fp x b c Q C1 v1 C2 v2 e d):=Jh.head (B:=[.val a]) (D:=[.val b, .val c, .ints Q, .ints C1, .val v1, .ints C2, .val v2, .val e, .val d]) rfl
theorem cy:Jh [.val x] (fp a b c Q C1 v1 C2 v2 e d) 1 (fp a x c Q C1 v1 C2 v2 e d):= .skipV (Jh.head (B:=[.val b]) (D:=[.val c, .ints Q, .ints C1, .val v1, .ints C2, .val v2, .val e, .val d]) rfl)
theorem cz:Jh [.val x] (fp a b c Q C1 v1 C2 v2 e d) 2 (fp a b x Q C1 v1 C2 v2 e d):= .skipV (.skipV (Jh.head (B:=[.val c]) (D:=[.ints Q, .ints C1, .val v1, .ints C2, .val v2, .val e, .val d]) rfl))
theorem dA(hQ:Ap Q 64)(hQ':Ap Q' 64):Jh [.ints Q'] (fp a b c Q C1 v1 C2 v2 e d) 3 (fp a b c Q' C1 v1 C2 v2 e d):= .skipV (.skipV (.skipV (Jh.head (B:=[.ints Q]) (D:=[.ints C1, .val v1, .ints C2, .val v2, .val e, .val d]) (by simp [AI,Ah.cells,hQ.out,hQ'.out]))))
theorem dC(hQ:Ap Q 64)(h1:Ap C1 16)(h2:Ap C2 16):Jh [.val x] (fp a b c Q C1 v1 C2 v2 e d) 101 (fp a b c Q C1 v1 C2 v2 x d):= .skipV (.skipV (.skipV (.skipI hQ (by omega) rfl (.skipI h1 (by omega) rfl (.skipV (.skipI h2 (by omega) rfl (.skipV (Jh.head (B:=[.val e]) (D:=[.val d]) rfl))))))))
theorem dB(hQ:Ap Q 64)(h1:Ap C1 16)(h2:Ap C2 16)(k1:Ap D1 16)(k2:Ap D2 16):Jh [.ints D1, .val y1, .ints D2, .val y2] (fp a b c Q C1 v1 C2 v2 e d) 67 (fp a b c Q D1 y1 D2 y2 e d):= .skipV (.skipV (.skipV (.skipI hQ (by omega) rfl (Jh.head (B:=[.ints C1, .val v1, .ints C2, .val v2]) (D:=[.val e, .val d]) (by simp [AI,Ah.cells,h1.out,h2.out,k1.out,k2.out])))))
end
theorem E3(m h p ev:Int)(Q C1 C2:List Int)(v1 v2:Value)(hQ:Ap Q 64)(hC1:Ap C1 16)(hC2:Ap C2 16)(w:World):
 (Instr.build 37 #[(0, .int .i64 m),(1, .int .i64 h),(2, .int .i64 p),(3, .agg (iv Q)),(5, .int .i64 ev),(4, .agg (AI [.ints C1, .val v1, .ints C2, .val v2]).toArray)]).run Tryz.prog w= .ok (.agg (AI [.val (.int .i64 m), .val (.int .i64 h), .val (.int .i64 p), .ints Q, .ints C1, .val v1, .ints C2, .val v2, .val (.int .i64 ev), .val (.slice none 0 0)]).toArray) w:=by
 have hZ:Ap (List.replicate 64 (0:Int)) 64:=Ap.rep
 have hz:Ap (List.replicate 16 (0:Int)) 16:=Ap.rep
 refine If (places:=#[(0,1),(1,1),(2,1),(3,64),(67,34),(101,1),(102,1)]) w (aQ w) Tryz.underlying37 AA ?_
 refine Eq.trans (Eg (i:=0) (off:=0) (v:= .int .i64 m) (ss:=[.val (.int .i64 m)]) (ps:=fp (.int .i64 0) (.int .i64 0) (.int .i64 0) (List.replicate 64 0) (List.replicate 16 0) (.slice none 0 0) (List.replicate 16 0) (.slice none 0 0) (.int .i64 0) (.slice none 0 0)) cx rfl rfl) ?_
 refine Eq.trans (Eg (i:=1) (off:=1) (v:= .int .i64 h) (ss:=[.val (.int .i64 h)]) cy rfl rfl) ?_
 refine Eq.trans (Eg (i:=2) (off:=2) (v:= .int .i64 p) (ss:=[.val (.int .i64 p)]) cz rfl rfl) ?_
 refine Eq.trans (Eg (i:=3) (off:=3) (v:= .agg (iv Q)) (ss:=[.ints Q]) (dA hZ hQ) (by simp [AI,Ah.cells,Value.cells,iv]) (by simp [AI,Ah.cells,hQ.out])) ?_
 refine Eq.trans (Eg (i:=5) (off:=101) (v:= .int .i64 ev) (ss:=[.val (.int .i64 ev)]) (dC hQ hz hz) rfl rfl) ?_
 refine Eq.trans (Eg (i:=4) (off:=67) (v:= .agg (AI [.ints C1, .val v1, .ints C2, .val v2]).toArray) (ss:=[.ints C1, .val v1, .ints C2, .val v2]) (dB hQ hz hz hC1 hC2) rfl (by simp [AI,Ah.cells,hC1.out,hC2.out])) ?_
 rfl
structure Yn(B:List Int)(n ev:Nat)(C1 S1 C2 S2 D:List Int):Prop where
 l1:Ap C1 16
 l2:Ap C2 16
 m1:Mk (Cl (Sg B (Bc n ev))) 256 C1 S1
 m2:Mk (Cl (U9 B (Bc n ev))) 256 C2 S2
 d:D=LF (EZ C1 S1 C2 S2 B (Bc n ev)) 0
def T8(m h p:Int)(Q C1:List Int)(v1:Value)(C2:List Int)(v2:Value)(ev:Int)(vd:Value):Value:= .agg (AI [.val (.int .i64 m), .val (.int .i64 h), .val (.int .i64 p), .ints Q, .ints C1, .val v1, .ints C2, .val v2, .val (.int .i64 ev), .val vd]).toArray
def NS(w0:World)(E m h:Int)(q:List Int)(np:Nat)(every:Int)(B:List Int)(n:Nat)(e:Ending)(w:World):Prop:=
 (E≠0→e= .returned (.tuple #[gz, .int .i64 E])∧Al w0 w)∧
 (E=0→∃(C1 S1 C2 S2 D:List Int) (a1 a2 ad:Option Addr) (n1 k1 n2 k2 nd kd:Nat),Yn B n every.toNat C1 S1 C2 S2 D∧S1.length=n1∧S2.length=n2∧D.length=nd∧
   e= .returned (.tuple #[T8 m h np q C1 (.slice a1 n1 k1) C2 (.slice a2 n2 k2) every (.slice ad nd kd), .int .i64 0])∧St w0 w [own 3 1 a1 n1 k1 (S1.map (Value.int .i64)),own 3 1 a2 n2 k2 (S2.map (Value.int .i64)),own 5 1 ad nd kd (D.map (Value.int .u8))])
theorem Zu(w0:World)(m h:Int)(hm: -9223372036854775808≤m∧m≤9223372036854775807)(a:Option Addr)(c:Nat)(R:List Rw)(hR:R.length≤9223372036854775807)(hP:BT w0 a c R)(q:List Int)(hq:Ap q 64)(every:Int)(h0:J4 m h q (R.map (·.xs))≠0∨every<0∨100<every):
 Calls Tryz.prog 17 #[.agg #[.int .i64 m, .int .i64 h, .slice a R.length c], .agg (iv q), .int .i64 every] w0 (NS w0 (Fd m h q (R.map (·.xs)) every) m h q R.length every (LC m h q (R.map (·.xs))) (R.length*Aq m h)):=by
 have hS:=St.start w0
 have HB:=AD fun (w:World)(hx:Al w0 w)=>Ez w m h hm a c R hR (hP.ext hx) q hq
 have HPE:=AD (show Fd m h q (R.map (·.xs)) every=if J4 m h q (R.map (·.xs))=0 then if 0≤every∧every≤100 then if bE (Cl (KY (LC m h q (R.map (·.xs))) ((R.map (·.xs)).length*Aq m h)))=0 then 0 else 5 else 1 else J4 m h q (R.map (·.xs)) from rfl)
 obtain ⟨E0,hE0⟩:∃E,J4 m h q (R.map (·.xs))=E:=⟨_,rfl⟩
 rw [hE0] at HB HPE h0
 obtain ⟨N,hN⟩:∃N,R.length=N:=⟨_,rfl⟩
 rw [hN] at HB⊢
 clear hP hE0 hN
 by_cases hz:E0=0
 ·subst hz
  have hev:every<0∨100<every:=by
   rcases h0 with h|h
   ·exact absurd rfl h
   exact h
  have HF:=AD (show Fd m h q (R.map (·.xs)) every=1 by rw [HPE.out,if_pos rfl,if_neg (by omega)])
  have HB2:Hid (∀w,Al w0 w→Calls Tryz.prog 19 #[.agg #[.int .i64 m, .int .i64 h, .slice a N c], .agg (iv q)] w fun e w'=>∃(ao:Option Addr) (co:Nat),e= .returned (.tuple #[.slice ao (N*Aq m h) co, .int .i64 0])∧Al w w'):=fun w hx=>(HB.out w hx).mono fun e w' hh=>by
   obtain ⟨ao,co,h1,h2⟩:=hh.2 rfl
   exact ⟨ao,co,h1,h2.1⟩
  clear HPE h0 HB
  rcases hev with hev|hev
  all_goals
   go_enter Tryz.func17,Tryz.ntmps17
   repeat' (first
    | (refine A3 19 ?_);refine A4 AA Tryz.call19 (HB2.out _ hS.1) ?_;rintro e w ⟨ao,co,rfl,hE2⟩;replace hS:=hS.ext hE2;clear hE2;refine Ae ?_;go_step|(refine AS 29 ?_);refine As AA (V.build (vs:=[]) rfl Jr) ?_;go_step|go_skip|refine X0 ?_|refine IL ?_|refine IA 18 ?_ ?_<;>intro hB<;>(try exact AW)<;>go_step|refine EN 21 ?_ ?_<;>intro hB<;>(try exact AW)<;>go_step|refine X6 ?_|refine Gv ?_|refine X3 ?_|refine PF 3 ?_;clear hS;intro g3 w hS|refine MD 4 ?_;clear hS;intro g4 w hS|refine V3 6 ?_;clear hS;intro g6 w hS|refine TG ?_|refine IK ?_|refine WB ?_;clear hS;intro w hS|refine AG ?_;go_step|fail)
   all_goals (try exact AW)
   all_goals
    refine AM (xs:=[_,_]) rfl (.cons (AC.prt hS rfl (AP (n:=103) rfl) AJ (by (repeat (first|exact CH.nil|(apply CH.ints;(case hn=>exact EJ);(case h=>omega);(case hm=>rfl))|apply CH.val)))) (.cons (AC.tmp rfl) (.nil))) (by simp) rfl ?_
    exact ⟨fun _=>⟨by rw [HF.out];rfl,hS.1⟩,fun h=>by rw [HF.out] at h;cases h⟩
 have HF:=AD (show Fd m h q (R.map (·.xs)) every=E0 by rw [HPE.out,if_neg hz])
 have HB2:Hid (∀w,Al w0 w→Calls Tryz.prog 19 #[.agg #[.int .i64 m, .int .i64 h, .slice a N c], .agg (iv q)] w fun e w'=>e= .returned (.tuple #[.slice none 0 0, .int .i64 E0])∧Al w w'):=fun w hx=>(HB.out w hx).mono fun e w' hh=>hh.1 hz
 clear HPE h0 HB
 go_enter Tryz.func17,Tryz.ntmps17
 repeat' (first
  | (refine A3 19 ?_);refine A4 AA Tryz.call19 (HB2.out _ hS.1) (Gb hS ?_);clear hS;intro w hS;go_step|(refine AS 29 ?_);refine As AA (V.build (vs:=[]) rfl Jr) ?_;go_step|go_skip|refine X0 ?_|refine Gz ?_|refine IA 18 ?_ ?_<;>intro hB<;>(try exact AW)<;>go_step|refine X6 ?_|refine X3 ?_|refine PF 3 ?_;clear hS;intro g3 w hS|refine MD 4 ?_;clear hS;intro g4 w hS|refine V3 6 ?_;clear hS;intro g6 w hS|refine TG ?_|refine IK ?_|refine WB ?_;clear hS;intro w hS|refine AG ?_;go_step|fail)
 all_goals (try exact AW)
 all_goals
  refine AM (xs:=[_,_]) rfl (.cons (AC.prt hS rfl (AP (n:=103) rfl) AJ (by (repeat (first|exact CH.nil|(apply CH.ints;(case hn=>exact EJ);(case h=>omega);(case hm=>rfl))|apply CH.val)))) (.cons (AC.tmp rfl) (.nil))) (by simp) rfl ?_
  exact ⟨fun _=>⟨by rw [HF.out];rfl,hS.1⟩,fun h=>by rw [HF.out] at h;exact absurd h hz⟩
theorem Nt(w0:World)(m h:Int)(hm: -9223372036854775808≤m∧m≤9223372036854775807)(a:Option Addr)(c:Nat)(R:List Rw)(hR:R.length≤9223372036854775807)(hP:BT w0 a c R)(q:List Int)(hq:Ap q 64)(ev:Nat)(hev:ev≤100)(h0:J4 m h q (R.map (·.xs))=0):
 Calls Tryz.prog 17 #[.agg #[.int .i64 m, .int .i64 h, .slice a R.length c], .agg (iv q), .int .i64 ev] w0 (NS w0 (Fd m h q (R.map (·.xs)) ev) m h q R.length ev (LC m h q (R.map (·.xs))) (R.length*Aq m h)):=by
 have hS:=St.start w0
 have hB0:=fun (w:World)(hx:Al w0 w)=>Ez w m h hm a c R hR (hP.ext hx) q hq
 obtain ⟨hpz,hqk⟩:=OA h0
 obtain ⟨hok,hlen,hall⟩:=IY hpz
 obtain ⟨q1,q2,q3⟩:=Ei hok
 rw [List.length_map] at hlen
 have hPE:Fd m h q (R.map (·.xs)) ev=if bE (Cl (KY (LC m h q (R.map (·.xs))) ((R.map (·.xs)).length*Aq m h)))=0 then 0 else 5:=by
  unfold Fd;rw [if_pos h0,if_pos (by omega)]
 have hab:=Pj m h q hq (R.map (·.xs))
 have hbl:=W2 m h q hq (R.map (·.xs))
 rw [List.length_map] at hPE hab hbl
 rw [h0] at hB0
 obtain ⟨N,hN⟩:∃N,R.length=N:=⟨_,rfl⟩
 rw [hN] at hB0 hPE hab hbl hlen⊢
 have hn1:N*Aq m h≤192:=by
  have:=Nat.mul_le_mul (show N≤3 by omega) q2
  omega
 obtain ⟨n,hn⟩:∃n,N*Aq m h=n:=⟨_,rfl⟩
 rw [hn] at hB0 hPE hab hbl hn1⊢
 obtain ⟨B,hB⟩:∃B,LC m h q (R.map (·.xs))=B:=⟨_,rfl⟩
 rw [hB] at hB0 hPE hab hbl⊢
 have HB:Hid (∀w,Al w0 w→Calls Tryz.prog 19 #[.agg #[.int .i64 m, .int .i64 h, .slice a N c], .agg (iv q)] w fun e w'=>∃(ao:Option Addr) (co:Nat),e= .returned (.tuple #[.slice ao n co, .int .i64 0])∧St w w' [own 26 64 ao n co (B.map (Value.int .i64))]):=fun w hx=>(hB0 w hx).mono fun e w' hh=>hh.2 rfl
 have HPE:=AD hPE
 have HAB:=AD hab
 have HBL:=AD hbl
 have HF0:=AD (Ta (l:=B) ev (show n≤400 by omega))
 have HSR:=AD (VA ev hbl hab)
 have HN:=AD hN
 have hN3:N≤3:=by omega
 clear hB0 hPE hab hbl hP h0 hpz hqk hall hn hB hN q1 q2 q3 hlen hok hR
 by_cases hr:bE (Cl (KY B n))=0
 ·have HE:=AD (show Fd m h q (R.map (·.xs)) ev=0 by rw [HPE.out,if_pos hr])
  have HR:=AD hr
  clear hr HPE
  go_enter Tryz.func17,Tryz.ntmps17
  repeat' (first
   | (refine A3 19 ?_);refine A4 AA Tryz.call19 (HB.out _ hS.1) ?_;rintro e w ⟨ao,co,rfl,hS2⟩;replace hS:=hS.call1 hS2;clear hS2;refine Ae ?_;go_step|refine X0 ?_|refine IL ?_|refine IA 18 ?_ ?_<;>intro hB<;>(try exact AW)<;>go_step|refine EN 21 ?_ ?_<;>intro hB<;>(try exact AW)<;>go_step|refine X6 ?_|refine Gv ?_|refine PF 3 ?_;clear hS;intro g3 w hS|refine MD 4 ?_;clear hS;intro g4 w hS|refine V3 6 ?_;clear hS;intro g6 w hS|refine TG ?_|refine IK ?_|refine AG ?_;go_step|fail)
  all_goals (try exact AW)
  repeat' (first
   | refine X3 ?_|refine AG ?_;go_step|fail)
  all_goals (try exact AW)
  refine AQ [14] (fun w=>St w0 w [blk g3 [.int .i64 m, .int .i64 h, .slice a N c],arr g4 64 q]) AA ?_
  replace hS:=hS.drew
  focus
   refine Bf 0 BU (V.fieldAddr PY rfl BO) ?_;go_step
   refine Y7 1 [12,14] ?_
   refine Bf 2 BU (V.fieldAddr PZ rfl BO) ?_;go_step
   refine Y7 3 [12,14] ?_
   refine Bf 4 BU (V.fieldAddr IR rfl BO) ?_;go_step
   refine bp 5 [6,12,14] ?_
   refine Bf 6 BU (V.len Tryz.underlying22 rfl) ?_;go_step
   refine cr 7 [12,14] ?_
   refine Ab 8 ?_
   refine Ab 9 ?_
   refine Ab 10 ?_
   refine A1 [11,13] AA (by simp) (.cons Am AA ?_ (.cons Am AA ?_ (.nil)))
   rotate_left 1
   focus
    refine Zi ?_;clear hS;intro g10 w hS
    refine Aa 11 ?_
    refine Af (f:=41) rfl Tryz.call41 (FC _ ao n co B ev (by omega) (by omega) HAB.out (hS.sl AJ)) ?_;rintro e w ⟨C1,S1,C2,S2,a1,a2,m1,k1,m2,k2,hC1,hC2,hm1,hm2,hb1,hb2,ht1,ht2,hM1,hM2,hN2,rfl,hS2⟩;replace hS:=Ef hS hS2;clear hS2;have HM1:=AD hM1;have HT1:=AD ht1;have HM2:=AD hM2;have HT2:=AD ht2;have HN2:=AD hN2;clear hM1 ht1 hM2 ht2 hN2;refine ⟨_,rfl,?_⟩
    refine ⟨fun _ _=>hS.sub AV,?_⟩
    refine AF ?_
    go_step
    refine Bo 12 _ Am AA AA AA Ch (V.build (vs:=[(0, .int .i64 m),(1, .int .i64 h),(2, .int .i64 (N:Int)),(3, .agg (iv q)),(5, .int .i64 (ev:Int)),(4, .agg (AI [.ints C1, .val (.slice a1 m1 k1), .ints C2, .val (.slice a2 m2 k2)]).toArray)]) rfl (E3 m h (N:Int) (ev:Int) q C1 C2 (.slice a1 m1 k1) (.slice a2 m2 k2) hq hC1 hC2)) AA ?_
    go_step
    refine Aa 14 ?_
    refine Zj ?_;clear hS;intro w hS
    refine AE AA ?_ _
   rotate_right 1
   focus
    refine Af (f:=41) rfl Tryz.call41 (FC _ ao n co B ev (by omega) (by omega) HAB.out (hS.sl AJ)) ?_;rintro e w ⟨C1,S1,C2,S2,a1,a2,m1,k1,m2,k2,hC1,hC2,hm1,hm2,hb1,hb2,ht1,ht2,hM1,hM2,hN2,rfl,hS2⟩;replace hS:=Ef hS hS2;clear hS2;have HM1:=AD hM1;have HT1:=AD ht1;have HM2:=AD hM2;have HT2:=AD ht2;have HN2:=AD hN2;clear hM1 ht1 hM2 ht2 hN2;refine ⟨_,rfl,?_⟩
    refine ⟨fun _ _=>hS.sub AV,?_⟩
    refine AF ?_
    go_step
    refine Bo 12 _ Am AA AA AA Ch (V.build (vs:=[(0, .int .i64 m),(1, .int .i64 h),(2, .int .i64 (N:Int)),(3, .agg (iv q)),(5, .int .i64 (ev:Int)),(4, .agg (AI [.ints C1, .val (.slice a1 m1 k1), .ints C2, .val (.slice a2 m2 k2)]).toArray)]) rfl (E3 m h (N:Int) (ev:Int) q C1 C2 (.slice a1 m1 k1) (.slice a2 m2 k2) hq hC1 hC2)) AA ?_
    go_step
    refine Aa 13 ?_
    refine Zi ?_;clear hS;intro g10 w hS
    refine Aa 14 ?_
    refine Zj ?_;clear hS;intro w hS
    refine AE AA ?_ _
  all_goals
   repeat' (first|(refine AG ?_;go_step)|fail)
   have hmk1:=HM1.out HF0.out
   have hmk2:=HM2.out (by rw [HSR.out];exact HR.out)
   have htb:Dw C1 S1 C2 S2=0:=by unfold Dw;rw [if_pos HT1.out];exact HT2.out
   have hsc:=XU hev htb (Ft (show n≤400 by omega) HAB.out) (Lp HBL.out (show n≤400 by omega) HAB.out hmk1 hmk2)
   obtain ⟨D,hD⟩:∃D,LF (EZ C1 S1 C2 S2 B (Bc n ev)) 0=D:=⟨_,rfl⟩
   rw [hD] at hsc
   have HSC:=AD hsc
   have HEN:Hid (Yn B n ev C1 S1 C2 S2 D):=⟨hC1,hC2,hmk1,hmk2,hD.symm⟩
   clear hmk1 hmk2 htb hsc hD
   repeat' (first
    | (refine A3 42 ?_);refine A4 AA Tryz.call42 (Fj _ C1 C2 S1 S2 a1 a2 m1 m2 k1 k2 hC1 hC2 (hS.sl AJ) (hS.sl AJ) (by omega) (by omega) ao n co B (by omega) (hS.sl AJ) (ev:Int)) ?_;rintro e w ⟨ad,kd,nd,hnd,rfl,hS2⟩;rw [HSC.out] at hnd hS2⊢;replace hS:=hS.call1 hS2;clear hS2;have HND:=AD hnd;clear hnd;refine Ae ?_;go_step|refine X0 ?_|refine ZE ?_|refine X6 ?_|refine ZF ?_|refine X3 ?_|refine QU ?_|refine bN ?_;clear hS;intro w hS|refine AG ?_;go_step|fail)
   all_goals (try exact AW)
   repeat' (first
    | refine X8 ?_|refine aY ?_|refine WB ?_;clear hS;intro w hS|refine AG ?_;go_step|fail)
   refine AM (xs:=[_,_]) rfl (.cons (AC.prt hS rfl (AP (n:=103) rfl) AJ (by (repeat (first|exact CH.nil|(apply CH.ints;(case hn=>exact EJ);(case h=>omega);(case hm=>rfl))|apply CH.val)))) (.cons (AC.tmp rfl) (.nil))) (by simp) rfl ?_
   refine ⟨fun h=>absurd HE.out h,fun _=>⟨C1,S1,C2,S2,D,a1,a2,ad,m1,k1,m2,k2,nd,kd,by rw [Int.toNat_natCast];exact HEN.out,hm1,hm2,HND.out,rfl,hS.sub AV⟩⟩
 have HE:=AD (show Fd m h q (R.map (·.xs)) ev=5 by rw [HPE.out,if_neg hr])
 have HR:=AD hr
 clear hr HPE
 go_enter Tryz.func17,Tryz.ntmps17
 repeat' (first
  | (refine A3 19 ?_);refine A4 AA Tryz.call19 (HB.out _ hS.1) ?_;rintro e w ⟨ao,co,rfl,hS2⟩;replace hS:=hS.call1 hS2;clear hS2;refine Ae ?_;go_step|refine X0 ?_|refine IL ?_|refine IA 18 ?_ ?_<;>intro hB<;>(try exact AW)<;>go_step|refine EN 21 ?_ ?_<;>intro hB<;>(try exact AW)<;>go_step|refine X6 ?_|refine Gv ?_|refine PF 3 ?_;clear hS;intro g3 w hS|refine MD 4 ?_;clear hS;intro g4 w hS|refine V3 6 ?_;clear hS;intro g6 w hS|refine TG ?_|refine IK ?_|refine AG ?_;go_step|fail)
 all_goals (try exact AW)
 repeat' (first
  | refine X3 ?_|refine AG ?_;go_step|fail)
 all_goals (try exact AW)
 refine AQ [14] (fun w=>St w0 w [blk g3 [.int .i64 m, .int .i64 h, .slice a N c],arr g4 64 q]) AA ?_
 replace hS:=hS.drew
 focus
  refine Bf 0 BU (V.fieldAddr PY rfl BO) ?_;go_step
  refine Y7 1 [12,14] ?_
  refine Bf 2 BU (V.fieldAddr PZ rfl BO) ?_;go_step
  refine Y7 3 [12,14] ?_
  refine Bf 4 BU (V.fieldAddr IR rfl BO) ?_;go_step
  refine bp 5 [6,12,14] ?_
  refine Bf 6 BU (V.len Tryz.underlying22 rfl) ?_;go_step
  refine cr 7 [12,14] ?_
  refine Ab 8 ?_
  refine Ab 9 ?_
  refine Ab 10 ?_
  refine A1 [11,13] AA (by simp) (.cons Am AA ?_ (.cons Am AA ?_ (.nil)))
  rotate_left 1
  focus
   refine Zi ?_;clear hS;intro g10 w hS
   refine Aa 11 ?_
   refine Af (f:=41) rfl Tryz.call41 (FC _ ao n co B ev (by omega) (by omega) HAB.out (hS.sl AJ)) ?_;rintro e w ⟨C1,S1,C2,S2,a1,a2,m1,k1,m2,k2,hC1,hC2,hm1,hm2,hb1,hb2,ht1,ht2,hM1,hM2,hN2,rfl,hS2⟩;replace hS:=Ef hS hS2;clear hS2;have HM1:=AD hM1;have HT1:=AD ht1;have HM2:=AD hM2;have HT2:=AD ht2;have HN2:=AD hN2;clear hM1 ht1 hM2 ht2 hN2;refine ⟨_,rfl,?_⟩
   refine ⟨fun _ _=>hS.sub AV,?_⟩
   refine AF ?_
   go_step
   refine Bo 12 _ Am AA AA AA Ch (V.build (vs:=[(0, .int .i64 m),(1, .int .i64 h),(2, .int .i64 (N:Int)),(3, .agg (iv q)),(5, .int .i64 (ev:Int)),(4, .agg (AI [.ints C1, .val (.slice a1 m1 k1), .ints C2, .val (.slice a2 m2 k2)]).toArray)]) rfl (E3 m h (N:Int) (ev:Int) q C1 C2 (.slice a1 m1 k1) (.slice a2 m2 k2) hq hC1 hC2)) AA ?_
   go_step
   refine Aa 14 ?_
   refine Zj ?_;clear hS;intro w hS
   refine AE AA ?_ _
  rotate_right 1
  focus
   refine Af (f:=41) rfl Tryz.call41 (FC _ ao n co B ev (by omega) (by omega) HAB.out (hS.sl AJ)) ?_;rintro e w ⟨C1,S1,C2,S2,a1,a2,m1,k1,m2,k2,hC1,hC2,hm1,hm2,hb1,hb2,ht1,ht2,hM1,hM2,hN2,rfl,hS2⟩;replace hS:=Ef hS hS2;clear hS2;have HM1:=AD hM1;have HT1:=AD ht1;have HM2:=AD hM2;have HT2:=AD ht2;have HN2:=AD hN2;clear hM1 ht1 hM2 ht2 hN2;refine ⟨_,rfl,?_⟩
   refine ⟨fun _ _=>hS.sub AV,?_⟩
   refine AF ?_
   go_step
   refine Bo 12 _ Am AA AA AA Ch (V.build (vs:=[(0, .int .i64 m),(1, .int .i64 h),(2, .int .i64 (N:Int)),(3, .agg (iv q)),(5, .int .i64 (ev:Int)),(4, .agg (AI [.ints C1, .val (.slice a1 m1 k1), .ints C2, .val (.slice a2 m2 k2)]).toArray)]) rfl (E3 m h (N:Int) (ev:Int) q C1 C2 (.slice a1 m1 k1) (.slice a2 m2 k2) hq hC1 hC2)) AA ?_
   go_step
   refine Aa 13 ?_
   refine Zi ?_;clear hS;intro g10 w hS
   refine Aa 14 ?_
   refine Zj ?_;clear hS;intro w hS
   refine AE AA ?_ _
 all_goals
  repeat' (first|(refine AG ?_;go_step)|fail)
  obtain rfl:S2=[]:=HN2.out (by rw [HSR.out];exact HR.out)
  have hsc:=Sc HBL.out (show n≤400 by omega) hev HAB.out HT1.out HT2.out (fun e=>HR.out (by rw [e];exact LY (by simp)))
  have HSC:=AD hsc
  clear hsc
  repeat' (first
   | (refine A3 42 ?_);refine A4 AA Tryz.call42 (Fj _ C1 C2 S1 [] a1 a2 m1 m2 k1 k2 hC1 hC2 (hS.sl AJ) (hS.sl AJ) (by omega) (by omega) ao n co B (by omega) (hS.sl AJ) (ev:Int)) ?_;rintro e w ⟨ad,kd,nd,hnd,rfl,hS2⟩;rw [HSC.out] at hnd hS2⊢;replace hS:=hS.call1 hS2;clear hS2;have HND:=AD hnd;clear hnd;refine Ae ?_;go_step|(refine AS 55 ?_);refine As AA (V.build (vs:=[]) rfl Jr) ?_;go_step|refine X0 ?_|refine ZE ?_|refine X6 ?_|refine ZF ?_|refine X3 ?_|refine QU ?_|refine bN ?_;clear hS;intro w hS|refine WB ?_;clear hS;intro w hS|refine AG ?_;go_step|fail)
  all_goals (try exact AW)
  refine AM (xs:=[_,_]) rfl (.cons (AC.prt hS rfl (AP (n:=103) rfl) AJ (by (repeat (first|exact CH.nil|(apply CH.ints;(case hn=>exact EJ);(case h=>omega);(case hm=>rfl))|apply CH.val)))) (.cons (AC.tmp rfl) (.nil))) (by simp) rfl ?_
  exact ⟨fun _=>⟨by rw [HE.out];rfl,hS.1⟩,fun h=>by rw [HE.out] at h;cases h⟩
section
variable{P:Program}{ops:Array Oper}{Q:Exit→Act→World→Prop}{a:Act}{w:World}{o:Oper}{K:Act→World→Prop}
theorem XN(l n:Nat)(ho:∀c,o.op≠ .defer c)(h:o.wp P a w K Q):o.wpIn (Fence.wide.inRound l) n P a w K Q:=by
 refine ⟨fun f _=>trivial,?_⟩
 rw [Oper.semAt_plain _ _ _ ho]
 unfold Oper.wp at h
 generalize (execOp a.eval o).run P w=r at h⊢
 match r,h with
 | .ok (.value v) w',h=>exact h
 | .ok .skip w',h=>exact h
 | .ok (.defer d) w',h=>exact h
 | .ok (.enter f args) w',h=>exact ⟨fun h=>(by cases h),CallsIn.inRound l (callsIn_wide.2 h)⟩
 | .ok (.row row args) w',h=>
   refine ⟨fun h=>(by cases h),fun c cs _=>?_⟩
   obtain ⟨v,w'',r,s⟩:=h c cs
   exact ⟨v,w'',r,stepsIn_wide.2 s⟩
 | .halt (.panic v) w',h=>exact h
def Ma:Op→Bool
 | .defer _=>false
 | _=>true
theorem C7(l n:Nat)(hout:¬LetsOut Q):∀(L:List Oper)(a:Act)(w:World),(L.all fun o=>Ma o.op)=true→wpList P ops Q L a w→wpListIn (Fence.wide.inRound l) n P ops Q L a w
 | [],a,w,_,h=>h
 | o::L,a,w,hd,h=>by
   rw [List.all_cons,Bool.and_eq_true] at hd
   have hd1:∀c,o.op≠ .defer c:=fun c e=>by rw [e] at hd;exact absurd hd.1 (by simp [Ma])
   have e:wpList P ops Q L=wpList P ops Q L:=rfl
   simp only [wpList] at h
   simp only [wpListIn]
   split at h
   ·rename_i hw
    rw [if_pos hw]
    rcases h with h|⟨_,h⟩
    ·have h2:=XN l n hd1 h
     refine ⟨h2.1,?_⟩
     have h3:=h2.2
     revert h3
     have mono:∀(r:Result Next),o.uponIn (Fence.wide.inRound l) n P a (wpList P ops Q L) Q r→o.uponIn (Fence.wide.inRound l) n P a (wpListIn (Fence.wide.inRound l) n P ops Q L) Q r:=fun r hr=>by
      match r,hr with
      | .ok (.value v) w',hr=>exact C7 l n hout L _ _ hd.2 hr
      | .ok .skip w',hr=>exact C7 l n hout L _ _ hd.2 hr
      | .ok (.defer d) w',hr=>exact C7 l n hout L _ _ hd.2 hr
      | .ok (.enter f args) w',hr=>
        refine ⟨hr.1,hr.2.mono ?_⟩
        rintro e w'' he
        match e,he with
        | .returned v,he=>exact C7 l n hout L _ _ hd.2 he
        | .panicked chain,he=>exact he
        | .outgrown,he=>exact he
      | .ok (.row row args) w',hr=>exact ⟨hr.1,hr.2.mono fun v w'' he=>C7 l n hout L _ _ hd.2 he⟩
      | .ok (.round l' f tmps assign body) w',hr=>
        refine ⟨hr.1,hr.2.mono ?_⟩
        rintro e w'' he
        match e,he with
        | .returned v,he=>exact C7 l n hout L _ _ hd.2 he
        | .panicked chain,he=>exact he
        | .outgrown,he=>exact he
      | .halt (.panic v) w',hr=>exact hr
     exact mono _
    exact absurd h hout
   rename_i hw
   rw [if_neg hw]
   exact ⟨fun _ _=>trivial,C7 l n hout L _ _ hd.2 h⟩
theorem BM{l n id:Nat}{L:List Oper}(hout:¬LetsOut Q)(hd:(L.all fun o=>Ma o.op)=true)(h:wpList P L.toArray Q L a w):(Code.region id L.toArray false).wpIn (Fence.wide.inRound l) n P Q a w:=
 wpIn_region_lit (C7 l n hout L a w hd h)
end
def Et(r:Au):Prop:=∀w f,r.holds w f→∀b∈f,∃o:Obj,w.heap[b]? =some o∧o.isCells=true
theorem Cv(g:Nat)(cs:List Value):Et (blk g cs):=by
 rintro w f ⟨rfl,t,h⟩ b hb
 obtain rfl:b=g:=by simpa using hb
 exact ⟨_,h,rfl⟩
theorem E5(e:TypeId)(s:Nat)(a:Option Addr)(n c:Nat)(xs:List Value):Et (own e s a n c xs):=by
 rintro w f ⟨rfl,h⟩ b hb
 rcases h.2 with h2|⟨g,cap,cur,k1,k2,k3,k4⟩
 ·cases h2.1
  simp [Value.ownBlock] at hb
 rw [k1] at hb
 obtain rfl:b=g:=by simpa [Value.ownBlock] using hb
 exact ⟨_,k3,rfl⟩
theorem EO{w:World}:∀{rs:List Au} {f:List Nat},(∀r∈rs,Et r)→Cm w rs f→∀b∈f,∃o:Obj,w.heap[b]? =some o∧o.isCells=true
 | [],f,_,h,b,hb=>by have h:f=[]:=h;subst h;cases hb
 | r::rs,f,hc,⟨f1,f2,e,h1,h2⟩,b,hb=>by
   subst e
   rcases List.mem_append.1 hb with hb|hb
   ·exact hc r (by simp) w f1 h1 b hb
   exact EO (fun x hx=>hc x (by simp [hx])) h2 b hb
theorem Ip{rs:List Au}(h:∀r∈rs,Et r):Et (star rs):=fun w f ⟨_,hf⟩=>EO h hf
def KG(w0:World)(B:Nat):List Nat:=((List.range w0.heap.size).filter fun k=>decide (B≤k)&&(match w0.heap[k]? with|some o=>!o.isCells|none=>false))
theorem EA(w0:World)(B k:Nat):k∈KG w0 B↔B≤k∧∃o:Obj,w0.heap[k]? =some o∧o.isCells=false:=by
 unfold KG
 rw [List.mem_filter,List.mem_range,Bool.and_eq_true,decide_eq_true_eq]
 constructor
 ·rintro ⟨h1,h2,h3⟩
  refine ⟨h2,?_⟩
  cases ho:w0.heap[k]? with
  | none=>rw [ho] at h3;cases h3
  | some o=>rw [ho] at h3;exact ⟨o,rfl,by simpa using h3⟩
 rintro ⟨h1,o,h2,h3⟩
 refine ⟨(Array.getElem?_eq_some_iff.1 h2).1,h1,?_⟩
 rw [h2];simp [h3]
def fixd(w0:World)(B:Nat):Au where
 holds w f:=f=KG w0 B∧∀k∈f,w.heap[k]? =w0.heap[k]?
 lt:=fun {w f} ⟨e,h2⟩ b hb=>by
  have h3:=h2 b hb
  rw [e] at hb
  obtain ⟨_,o,h4,_⟩:=(EA w0 B b).1 hb
  rw [h4] at h3
  exact (Array.getElem?_eq_some_iff.1 h3).1
 loc:=fun ⟨e,h2⟩ hs=>⟨e,fun k hk=>(hs k hk).trans (h2 k hk)⟩
theorem St.grownC{W w w':World}{row:Option Nat}{rs:List Au}(h:St W w rs)(hg:w.grownBy w' row)(hr:∀r,row=some r→W.heap.size≤r∧∃o:Obj,w.heap[r]? =some o∧o.isCells=false)(hc:∀r∈rs,Et r):St W w' rs:=by
 obtain ⟨h1,f,h2,h3,h4⟩:=h
 have ho:=EK.grown hg
 refine ⟨ho.ext h1 (fun b hb=>(hr b (by cases row<;>simp_all)).1),f,h2,h3,h4.loc fun b hb=>ho.block b (h4.lt b hb) fun hm=>?_⟩
 obtain ⟨o,k1,k2⟩:=(hr b (by cases row<;>simp_all)).2
 obtain ⟨o',k3,k4⟩:=EO hc h4 b hb
 rw [k1] at k3
 obtain rfl:=Option.some.inj k3
 rw [k2] at k4
 cases k4
theorem St.fixd{w0 W:World}{rs:List Au}(h:St w0 W rs)(hc:∀r∈rs,Et r):St w0 W (fixd W w0.heap.size::rs):=by
 obtain ⟨h1,f,h2,h3,h4⟩:=h
 refine ⟨h1,KG W w0.heap.size++f,List.nodup_append.2 ⟨List.Pairwise.filter _ List.nodup_range,h2,fun a ha b hb hab=>?_⟩,fun b hb=>?_,KG W w0.heap.size,f,rfl,⟨rfl,fun _ _=>rfl⟩,h4⟩
 ·subst hab
  obtain ⟨_,o,k1,k2⟩:=(EA _ _ _).1 ha
  obtain ⟨o',k3,k4⟩:=EO hc h4 a hb
  rw [k1] at k3
  obtain rfl:=Option.some.inj k3
  rw [k2] at k4
  cases k4
 rcases List.mem_append.1 hb with hb|hb
 ·exact ((EA _ _ _).1 hb).1
 exact h3 b hb
theorem LG{w0 W w:World}{rs rs':List Au}(h:St w0 w rs)(p:AT (Go.Proofs.YtohacgmhmbijmaaGreatDoor.fixd W w0.heap.size) rs rs')(h0:Al w0 W)(hs:W.heap.size≤w.heap.size):KeepsOthers W w:=by
 obtain ⟨h1,f,h2,h3,f1,f2,e,⟨k1,k2⟩,h5⟩:=h.pull p
 refine ⟨hs,fun k o hk ho=>?_⟩
 by_cases hl:k<w0.heap.size
 ·rw [h1.at hl,←h0.at hl];exact hk
 rw [k2 k (by rw [k1];exact (EA _ _ _).2 ⟨by omega,o,hk,ho⟩)];exact hk
theorem Ww{w0 W w:World}{B k:Nat}{o:Obj}{rs rs':List Au}(h:St w0 w rs)(p:AT (Go.Proofs.YtohacgmhmbijmaaGreatDoor.fixd W B) rs rs')(hB:B≤k)(hk:W.heap[k]? =some o)(ho:o.isCells=false):w.heap[k]? =some o:=by
 obtain ⟨h1,f,h2,h3,f1,f2,e,⟨k1,k2⟩,h5⟩:=h.pull p
 rw [k2 k (by rw [k1];exact (EA _ _ _).2 ⟨hB,o,hk,ho⟩)];exact hk
theorem Ue{W w:World}{rs rs':List Au}{e:TypeId}{s n c:Nat}{ad:Addr}{xs:List Value}(h:St W w rs)(p:AT (own e s (some ad) n c xs) rs rs'):W.heap.size≤ad.block∧ad.block<w.heap.size:=by
 obtain ⟨h1,f,h2,h3,f1,f2,e9,h9,h5⟩:=h.pull p
 have k1:=h9.1
 have hm:ad.block∈f1:=by rw [k1];simp [Value.ownBlock]
 subst e9
 have hl:=Cm.lt (rs:=[own _ s (some ad) n c xs]) (w:=w) (f:=f1) ⟨f1,[],(List.append_nil _).symm,h9,rfl⟩ _ hm
 exact ⟨h3 _ (List.mem_append_left _ hm),hl⟩
section
variable{P:Program}{W w:World}{rs rs':List Au}{Q:Exit→Act→World→Prop}{K:Act→World→Prop}{o:Oper}{a:Act}
theorem S8(hS:St W w rs)(ty:TypeId)(x y:Operand)(ho:o.op= .store ty x y)(g q:Nat)(hx:a.eval x= .pointer (some ⟨g,q,none⟩))(m:Nat)(h1:EW P ty m)(e:TypeId)(s n c:Nat)(A old new B:List Value)(hp:AT (own e s (some ⟨g,0,none⟩) n c (A++(old++B))) rs rs')
 (hq:q=A.length) (hol:old.length=m) (hnl:new.length=m) (hone:new.all (·.oneCell')=true) (hy:a.eval y= .agg new.toArray) (hd:o.dst=none) (h:∀w',St W w' (own e s (some ⟨g,0,none⟩) n c (A++(new++B))::rs')→K a w'):o.wp P a w K Q:=by
 subst hq
 have hown:=hS.own hp
 have hlen:=hown.1
 rcases hown.2 with ⟨h2,_⟩|⟨g',cap,cur,h2,hb,hg,hn,hc,hsz,htake⟩
 ·cases h2
 cases h2
 have ecur:cur.toList=A++(old++(B++cur.toList.drop (n*s))):=by
  conv=>lhs;rw [←List.take_append_drop (n*s) cur.toList,htake]
  simp
 refine wp_store_mid ty x y ho g A.length new.toArray hx hy ?_ (by rw [h1.2];simp [hnl]) (by simpa using hone) ?_
 ·intro i hi
  rw [List.size_toArray,hnl] at hi
  refine ⟨?_,frozen_of_row w g _ cur e hg⟩
  have:=Fc hS hp (k:=A.length+i) (v:=(A++(old++B))[A.length+i]'(by simp;omega)) (by rw [List.getElem?_eq_getElem])
  rw [this];rfl
 rw [show a.put o.dst undef=a by rw [hd];rfl]
 refine h _ ?_
 refine St.change (rs1:=[own e s (some ⟨g,0,none⟩) n c (A++(new++B))]) (hS.pull hp) fun f1 k1 _ _=>?_
 obtain ⟨rfl,_⟩:=k1
 obtain ⟨cur',k2,k3,k4⟩:=FB w g e [] [] (B++cur.toList.drop (n*s)) new old A w cur hg ecur (by rw [hol,hnl])
 have hAB:(A++(new++B)).length=n*s:=by rw [←hlen];simp [hol,hnl]
 refine ⟨[g],⟨[g],[],rfl,⟨rfl,hAB, .inr ⟨g,c,cur',rfl,hb,k2,hn,hc,?_,?_⟩⟩,rfl⟩,by simp,fun b hb=> .inl hb,k4⟩
 ·have a1:=congrArg List.length k3
  have a2:=congrArg List.length ecur
  simp only [List.length_append,Array.length_toList,hol,hnl] at a1 a2
  omega
 have a3:cur'.toList=(A++(new++B))++cur.toList.drop (n*s):=by rw [k3];simp
 rw [a3,List.take_left' hAB]
end
end Go.Proofs.YtohacgmhmbijmaaGreatDoor
