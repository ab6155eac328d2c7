/- What the laws FrameThree need, part 7. -/
import Derived.Test.YtohacgmhmbijmaaGreatDoorBaseTZ2
import Derived.Test.YtohacgmhmbijmaaGreatDoorBaseTZ3
import Derived.Test.YtohacgmhmbijmaaGreatDoorBaseTZ5
import Derived.Test.YtohacgmhmbijmaaGreatDoorBaseTZ6
import Derived.Laws.CopyRow
import Derived.Laws.IdiomCopy
namespace Go.Proofs.YtohacgmhmbijmaaGreatDoor
attribute [local irreducible] Region.wanted
open Go.RowKit
set_option linter.unusedVariables false
set_option maxRecDepth 100000
set_option maxHeartbeats 8000000
def Cl(L:List Int):List Int:=(List.range 256).map fun s:Nat=>((L.count (s:Int):Nat):Int)
theorem DW(L:List Int):(Cl L).length=256:=by unfold Cl;simp
theorem Dq(L:List Int){s:Nat}(h:s<256):AK (Cl L) s=((L.count (s:Int):Nat):Int):=by
 unfold Cl AK List.getD
 rw [List.getElem?_map,List.getElem?_range h];rfl
theorem JO{A B:List Int}(ha:A.length=256)(hb:B.length=256)(h:∀i,i<256→AK A i=AK B i):A=B:=by
 refine List.ext_getElem (by rw [ha,hb]) fun i h1 h2=>?_
 have:=h i (by omega)
 simpa [AK,List.getD,h1,h2] using this
theorem A5:Cl []=List.replicate 256 0:=by
 refine JO (DW _) List.length_replicate fun i hi=>?_
 rw [Dq _ hi]
 simp only [AK,List.getD,List.getElem?_replicate,if_pos hi]
 rfl
theorem Nj(L:List Int){s:Nat}(h:s<256):(Cl L).set s (AK (Cl L) s+1)=Cl (L++[(s:Int)]):=by
 refine JO (by rw [List.length_set,DW]) (DW _) fun i hi=>?_
 rw [CL _ _ _ _ (by rw [DW];exact h),Dq _ hi,Dq _ h,Dq _ hi,List.count_append,List.count_singleton]
 by_cases e:s=i
 ·subst e;simp
 rw [if_neg e,if_neg (by simp;omega)];simp
def TI(l:List Int)(k:Nat):Int:=if k=0 then 0 else AK (Bm l 64 (k-1)) 0
def Sq(l:List Int)(k:Nat):List CF:=FP (TI l k) (Bm l 64 k)
def PB(l:List Int)(n:Nat):List Int:=(List.range n).flatMap fun k=>((Sq l k).take 1).map (·.1)
def KY(l:List Int)(n:Nat):List Int:=(List.range n).flatMap fun k=>((Sq l k).drop 1).map (·.1)
theorem KX(l:List Int)(n:Nat):PB l (n+1)=PB l n++((Sq l n).take 1).map (·.1):=by unfold PB;rw [List.range_succ,List.flatMap_append];simp
theorem Oj(l:List Int)(n:Nat):KY l (n+1)=KY l n++((Sq l n).drop 1).map (·.1):=by unfold KY;rw [List.range_succ,List.flatMap_append];simp
theorem M7{p:Int}{x:List Int}(hx:x.length=64):(FP p x).length≤64:=by
 unfold FP
 split
 ·exact (Kg p (FH x) (Cu x)).2
 simp
theorem VI{l:List Int}{m:Nat}(hl:l.length=m*64):∀n,n≤m→(PB l n).length+(KY l n).length≤n*64
 | 0,_=>by simp [PB,KY]
 | n+1,h=>by
   have ih:=VI hl n (by omega)
   have h1:(Sq l n).length≤64:=M7 (CM l 64 n m hl (by omega))
   rw [KX,Oj]
   simp
   omega
theorem GY(L:List Int){q:Nat}(hq:q<256):0≤AK (Cl L) q∧AK (Cl L) q≤L.length:=by
 rw [Dq _ hq]
 have:=List.count_le_length (a:=(q:Int)) (l:=L)
 omega
end Go.Proofs.YtohacgmhmbijmaaGreatDoor
namespace Go.Proofs.YtohacgmhmbijmaaGreatDoor
attribute [local irreducible] Region.wanted
set_option linter.unusedVariables false
set_option maxRecDepth 100000
set_option maxHeartbeats 8000000
def K5(t:CF):Bool:= !(decide (0≤t.2.1∧t.2.1≤11)&&decide (0≤t.2.2∧t.2.2<2^t.2.1.toNat)&&decide (0≤t.1∧t.1≤255)&&decide (t.2.1=t.1%16)&&(decide (t.2.1≠0)||decide (t.1=0∨t.1=240)))
def Cw(t:CF):Int:=Df t.2.1.toNat t.2.2.toNat
section
variable{σ:Type}(next:σ→Bool→CF×Int×σ)
def BN:Nat→Nat→List Int→List CF→σ→Int×List Int×List CF×σ
 | 0,_,b,all,s=>(0,b,all,s)
 | f+1,at_,b,all,s=>
   if 64≤at_ then (0,b,all,s) else
   if (next s false).2.1≠0 then ((next s false).2.1,b,all,(next s false).2.2) else
   if K5 (next s false).1=true then (4,b,all++[(next s false).1],(next s false).2.2) else
   if (next s false).1.1=0 then (0,b,all++[(next s false).1],(next s false).2.2) else
   if (next s false).1.1=240 then
    if 64<at_+16 then (4,b,all++[(next s false).1],(next s false).2.2) else BN f (at_+16) b (all++[(next s false).1]) (next s false).2.2
   else
    if 64≤at_+(next s false).1.1.toNat/16 then (4,b,all++[(next s false).1],(next s false).2.2)
    else BN f (at_+(next s false).1.1.toNat/16+1) (b.set (at_+(next s false).1.1.toNat/16) (Cw (next s false).1)) (all++[(next s false).1]) (next s false).2.2
def Bk(before:Int)(t:CF):Bool:=decide (0≤t.2.1∧t.2.1≤12)&&decide (0≤t.2.2∧t.2.2<2^t.2.1.toNat)&&decide (t.1=t.2.1)&&decide (-2047≤before+Cw t∧before+Cw t≤2047)
def B6(n:Int):List Int:=(List.replicate 64 0).set 0 n
def DM(before:Int)(s:σ):Int×List Int×List CF×σ:=
 if (next s true).2.1≠0 then ((next s true).2.1,List.replicate 64 0,[],(next s true).2.2) else
 if Bk before (next s true).1=false then (4,List.replicate 64 0,[],(next s true).2.2) else
 if (BN next 64 1 (B6 (before+Cw (next s true).1)) [(next s true).1] (next s true).2.2).1≠0 then
  ((BN next 64 1 (B6 (before+Cw (next s true).1)) [(next s true).1] (next s true).2.2).1,List.replicate 64 0,[],(BN next 64 1 (B6 (before+Cw (next s true).1)) [(next s true).1] (next s true).2.2).2.2.2) else
 if BV before (BN next 64 1 (B6 (before+Cw (next s true).1)) [(next s true).1] (next s true).2.2).2.1=(BN next 64 1 (B6 (before+Cw (next s true).1)) [(next s true).1] (next s true).2.2).2.2.1 then
  (0,CX (BN next 64 1 (B6 (before+Cw (next s true).1)) [(next s true).1] (next s true).2.2).2.1,(BN next 64 1 (B6 (before+Cw (next s true).1)) [(next s true).1] (next s true).2.2).2.2.1,(BN next 64 1 (B6 (before+Cw (next s true).1)) [(next s true).1] (next s true).2.2).2.2.2)
 else (4,List.replicate 64 0,[],(BN next 64 1 (B6 (before+Cw (next s true).1)) [(next s true).1] (next s true).2.2).2.2.2)
end
theorem Fi(n:Int):Df (sz n) (sv n).toNat=n∧0≤sv n∧sv n<2^sz n:=by
 obtain ⟨h1,h2⟩:=Fs n.natAbs
 have hz:IO n.natAbs=sz n:=rfl
 rw [hz] at h1 h2
 have e:((2:Int)^sz n)=((2^sz n:Nat):Int):=by push_cast;rfl
 rw [e]
 by_cases hn:n<0
 ·obtain ⟨h3,h4⟩:=h2 (by omega)
  have hsv:sv n=n+((2^sz n-1:Nat):Int):=by unfold sv;rw [if_pos hn]
  have hp:2^sz n=2*2^(sz n-1):=by rw [←Nat.pow_succ'];congr 1;omega
  obtain ⟨p,hpe⟩:∃p,2^(sz n-1)=p:=⟨_,rfl⟩
  rw [hpe] at h4 hp
  rw [hp] at h1 hsv
  refine ⟨?_,by rw [hsv];omega,by rw [hp,hsv];omega⟩
  unfold Df
  rw [if_pos ⟨by omega,by rw [hpe,hsv];omega⟩,hp,hsv];omega
 have hsv:sv n=n:=by unfold sv;rw [if_neg hn]
 by_cases h0:n=0
 ·subst h0
  rw [Xj,Xm]
  exact ⟨rfl,by omega,by decide⟩
 obtain ⟨h3,h4⟩:=h2 (by omega)
 refine ⟨?_,by rw [hsv];omega,by rw [hsv];omega⟩
 unfold Df
 rw [if_neg (by rw [hsv];omega),hsv];omega
theorem aH(r:Nat)(n:Int)(hr:r≤15)(hn:n≠0)(hb: -2048<n∧n<2048):K5 (GU r n)=false∧(GU r n).1≠0∧(GU r n).1≠240∧(GU r n).1.toNat/16=r∧Cw (GU r n)=n:=by
 have h1:=aF n hn
 have h2:=RR n hb
 obtain ⟨h3,h4,h5⟩:=Fi n
 unfold GU
 refine ⟨?_,by show ((r*16+sz n:Nat):Int)≠0;omega,by show ((r*16+sz n:Nat):Int)≠240;omega,by show ((r*16+sz n:Nat):Int).toNat/16=r;omega,?_⟩
 ·unfold K5
  dsimp only
  rw [decide_eq_true (show 0≤((sz n:Nat):Int)∧((sz n:Nat):Int)≤11 by omega),decide_eq_true (show 0≤sv n∧sv n<2^((sz n:Nat):Int).toNat by rw [Int.toNat_natCast];exact ⟨h4,h5⟩),decide_eq_true (show 0≤((r*16+sz n:Nat):Int)∧((r*16+sz n:Nat):Int)≤255 by omega),
   decide_eq_true (show ((sz n:Nat):Int)=((r*16+sz n:Nat):Int)%16 by omega),decide_eq_true (show ((sz n:Nat):Int)≠0 by omega)]
  rfl
 unfold Cw
 dsimp only
 rw [Int.toNat_natCast];exact h3
theorem T0(before n:Int)(hb: -2047≤before∧before≤2047)(hn: -2047≤n∧n≤2047):Bk before (GU 0 (n-before))=true∧before+Cw (GU 0 (n-before))=n:=by
 obtain ⟨h3,h4,h5⟩:=Fi (n-before)
 have h2:=RQ (n-before) (by omega)
 have hnum:Cw (GU 0 (n-before))=n-before:=by unfold Cw GU;dsimp only;rw [Int.toNat_natCast];exact h3
 refine ⟨?_,by rw [hnum];omega⟩
 unfold Bk
 rw [hnum]
 unfold GU
 dsimp only
 rw [decide_eq_true (show 0≤((sz (n-before):Nat):Int)∧((sz (n-before):Nat):Int)≤12 by omega),decide_eq_true (show 0≤sv (n-before)∧sv (n-before)<2^((sz (n-before):Nat):Int).toNat by rw [Int.toNat_natCast];exact ⟨h4,h5⟩),
  decide_eq_true (show ((0*16+sz (n-before):Nat):Int)=((sz (n-before):Nat):Int) by omega),decide_eq_true (show -2047≤before+(n-before)∧before+(n-before)≤2047 by omega)]
 rfl
def Ed{σ:Type}(next:σ→Bool→CF×Int×σ):List CF→σ→σ→Prop
 | [],s,s'=>s=s'
 | t::r,s,s'=>(next s false).1=t∧(next s false).2.1=0∧Ed next r (next s false).2.2 s'
theorem JB:∀l:List Int,(∀n∈l,n=0)∨∃m n l',n≠0∧l=List.replicate m 0++n::l'
 | []=> .inl (by simp)
 | n::l=>by
   by_cases h:n=0
   ·rcases JB l with h2|⟨m,n',l',h2,h3⟩
    ·exact .inl (by intro x hx;rcases List.mem_cons.1 hx with rfl|hx;exact h;exact h2 x hx)
    exact .inr ⟨m+1,n',l',h2,by rw [h3,h];rfl⟩
   exact .inr ⟨0,n,l,h,rfl⟩
theorem Ss(m:Nat)(n:Int)(l:List Int)(hn:n≠0):∀r,Gq r (List.replicate m 0++n::l)=List.replicate ((r+m)/16) Eh++(GU ((r+m)%16) n::Gq 0 l):=by
 induction m with
 | zero=>intro r;simp only [List.replicate_zero,List.nil_append,Gq,if_neg hn,Nat.add_zero]
 | succ m ih=>intro r;rw [List.replicate_succ,List.cons_append,Gq,if_pos rfl,ih,show r+1+m=r+(m+1) by omega]
theorem RT:∀(l:List Int)(r:Nat),(∀n∈l,n=0)→Gq r l=if 0<r+l.length then [Wv] else []
 | [],r,_=>by simp [Gq]
 | n::l,r,h=>by
   rw [Gq,if_pos (h n (by simp)),RT l (r+1) fun x hx=>h x (by simp [hx])]
   simp only [List.length_cons]
   rw [if_pos (by omega),if_pos (by omega)]
section
variable{σ:Type}{next:σ→Bool→CF×Int×σ}
theorem Ed.append:∀{l m:List CF} {s s':σ},Ed next (l++m) s s'→∃s1,Ed next l s s1∧Ed next m s1 s'
 | [],m,s,s',h=>⟨s,rfl,h⟩
 | t::l,m,s,s',⟨h1,h2,h3⟩=>by
   obtain ⟨s1,h4,h5⟩:=Ed.append h3
   exact ⟨s1,⟨h1,h2,h4⟩,h5⟩
theorem Tb:K5 Eh=false:=by decide+kernel
theorem We:K5 Wv=false:=by decide+kernel
theorem SL(f:Nat)(at_:Nat)(b:List Int)(all:List CF)(s s':σ):∀q,at_+16*q≤63→Ed next (List.replicate q Eh) s s'→
 BN next (f+q) at_ b all s=BN next f (at_+16*q) b (all++List.replicate q Eh) s':=by
 intro q
 induction q generalizing at_ all s with
 | zero=>intro _ h;rw [show s=s' from h];simp
 | succ q ih=>
   intro hq h
   rw [List.replicate_succ] at h
   obtain ⟨h1,h2,h3⟩:=h
   rw [show f+(q+1)=(f+q)+1 by omega,BN,if_neg (by omega),h1,h2,if_neg (by simp),if_neg (by rw [Tb];simp),if_neg (by decide),if_pos (show Eh.1=240 from rfl),if_neg (by omega),ih (at_+16) _ _ (by omega) h3,List.replicate_succ]
   rw [show at_+16+16*q=at_+16*(q+1) by omega]
   simp
theorem XY(z b:List Int)(at_ j:Nat)(hz:z.length=64)(hb:b=z.take at_++List.replicate (64-at_) 0)(hj:at_+j<64)(hzero:∀i,i<j→AK z (at_+i)=0):b.set (at_+j) (AK z (at_+j))=z.take (at_+j+1)++List.replicate (64-(at_+j+1)) 0:=by
 have hbl:b.length=64:=by rw [hb];simp [hz];omega
 apply He
 ·simp [hbl,hz];omega
 intro i hi
 rw [List.length_set,hbl] at hi
 rw [CL _ _ _ _ (by omega)]
 have hL:(z.take at_).length=at_:=by simp [hz];omega
 have hL2:(z.take (at_+j+1)).length=at_+j+1:=by simp [hz];omega
 have htake:∀k,i<k→AK (z.take k) i=AK z i:=fun k hk=>OO _ _ _ hk
 split
 ·rename_i h;subst h
  rw [Fb _ _ _ (by omega),htake _ (by omega)]
 rename_i h
 rw [hb]
 by_cases h1:i<at_
 ·rw [Fb _ _ _ (by omega),Fb _ _ _ (by omega),htake _ h1,htake _ (by omega)]
 rw [KB _ _ _ (by omega),Du]
 by_cases h2:i<at_+j+1
 ·rw [Fb _ _ _ (by omega),htake _ h2]
  have:=hzero (i-at_) (by omega)
  rw [show at_+(i-at_)=i by omega] at this
  exact this.symm
 rw [KB _ _ _ (by omega),Du]
theorem SM(z:List Int)(hz:z.length=64)(hr:∀i,i<64→ -2047≤AK z i∧AK z i≤2047):∀(k at_ f:Nat)(b:List Int)(all:List CF)(s s':σ),64-at_=k→at_≤64→k≤f→b=z.take at_++List.replicate (64-at_) 0→Ed next (Gq 0 (z.drop at_)) s s'→
 BN next f at_ b all s=(0,z,all++Gq 0 (z.drop at_),s'):=by
 intro k
 induction k using Nat.strongRecOn with
 | _ k ih=>
   intro at_ f b all s s' hk hat hf hb hfd
   by_cases h64:at_=64
   ·subst h64
    have hd:z.drop 64=[]:=by rw [List.drop_eq_nil_iff];omega
    rw [hd] at hfd⊢
    have hs:s=s':=hfd
    have hbz:b=z:=by rw [hb,Nat.sub_self,List.replicate_zero,List.append_nil,←hz,List.take_length]
    cases f with
    | zero=>rw [BN,hs,hbz];simp [Gq]
    | succ f=>rw [BN,if_pos (by omega),hs,hbz];simp [Gq]
   rcases JB (z.drop at_) with hall|⟨m,n,l',hn,hl'⟩
   ·rw [RT _ 0 hall] at hfd⊢
    have hlen:0<0+(z.drop at_).length:=by rw [List.length_drop,hz];omega
    rw [if_pos hlen] at hfd⊢
    obtain ⟨h1,h2,h3⟩:=hfd
    obtain ⟨f,rfl⟩:∃g,f=g+1:=⟨f-1,by omega⟩
    have hbz:b=z:=by
     rw [hb]
     conv=>rhs;rw [←List.take_append_drop at_ z]
     congr 1
     have:(z.drop at_).length=64-at_:=by rw [List.length_drop,hz]
     rw [←this]
     exact (List.eq_replicate_iff.2 ⟨rfl,hall⟩).symm
    rw [BN,if_neg (by omega),h1,h2,if_neg (by simp),if_neg (by rw [We];simp),if_pos (show Wv.1=0 from rfl),hbz,show (next s false).2.2=s' from h3]
   rw [hl',Ss m n l' hn 0,Nat.zero_add] at hfd⊢
   have hdl:(z.drop at_).length=64-at_:=by rw [List.length_drop,hz]
   rw [hl',List.length_append,List.length_replicate,List.length_cons] at hdl
   have hnth:∀i,AK z (at_+i)=AK (List.replicate m 0++n::l') i:=fun i=>by rw [←hl',ON]
   have hnm:AK z (at_+m)=n:=by rw [hnth,KB _ _ _ (by simp)];simp [AK]
   have hd2:z.drop (at_+m+1)=l':=by
    have:z.drop (at_+m+1)=(z.drop at_).drop (m+1):=by rw [List.drop_drop,Nat.add_assoc]
    rw [this,hl',List.drop_append,List.drop_of_length_le (by simp)];simp
   obtain ⟨s1,hf1,hf2⟩:=hfd.append
   obtain ⟨h1,h2,h3⟩:=hf2
   have hq:16*(m/16)+m%16=m:=Nat.div_add_mod m 16
   obtain ⟨g,hg⟩:∃g,f=(g+1)+m/16:=⟨f-1-m/16,by omega⟩
   obtain ⟨t1,t2,t3,t4,t5⟩:=aH (m%16) n (by omega) hn (by have:=hr (at_+m) (by omega);rw [hnm] at this;omega)
   rw [hg,SL (g+1) at_ b all s s1 (m/16) (by omega) hf1,BN,if_neg (by omega),h1,h2,if_neg (by simp),if_neg (by rw [t1];simp),if_neg t2,if_neg t3,t4,t5,if_neg (by omega)]
   rw [show at_+16*(m/16)+m%16=at_+m by omega]
   have hset:=XY z b at_ m hz hb (by omega) fun i hi=>by rw [hnth,Fb _ _ _ (by simpa using hi),XF _ _ _ hi]
   rw [hnm] at hset
   have:=ih (64-(at_+m+1)) (by omega) (at_+m+1) g (b.set (at_+m) n) (all++List.replicate (m/16) Eh++[GU (m%16) n]) (next s1 false).2.2 s' rfl (by omega) (by omega) hset (by rw [hd2];exact h3)
   rw [this,hd2]
   simp
theorem T5(before:Int)(z:List Int)(hz:z.length=64)(hb: -2047≤before∧before≤2047)(hr:∀i,i<64→ -2047≤AK z i∧AK z i≤2047)(s s':σ)(h1:(next s true).1=GU 0 (AK z 0-before))(h2:(next s true).2.1=0)
 (h3:Ed next (Gq 0 (z.drop 1)) (next s true).2.2 s'):DM next before s=(0,CX z,BV before z,s'):=by
 obtain ⟨f1,f2⟩:=T0 before (AK z 0) hb (hr 0 (by omega))
 have hl:=SM z hz hr 63 1 64 (B6 (AK z 0)) [GU 0 (AK z 0-before)] (next s true).2.2 s' rfl (by omega) (by omega) (by
  unfold B6
  match z,hz with
  | n::z,_=>rfl) h3
 unfold DM
 rw [h1,h2,if_neg (by simp),if_neg (by rw [f1];simp),f2,hl]
 rw [if_neg (by simp)]
 exact (if_pos (show BV before z=_ from rfl)).trans rfl
end
end Go.Proofs.YtohacgmhmbijmaaGreatDoor
namespace Go.Proofs.YtohacgmhmbijmaaGreatDoor
attribute [local irreducible] Region.wanted
open Go.RowKit
set_option linter.unusedVariables false
set_option maxRecDepth 100000
set_option maxHeartbeats 8000000
def Ej:List CF→List (CF×Bool)
 | []=>[]
 | t::r=>(t,true)::r.map fun x=>(x,false)
def DH(l:List Int):Nat→Nat→List (CF×Bool)
 | _,0=>[]
 | k,f+1=>Ej (Sq l k)++DH l (k+1) f
def DX{σ:Type}(step:σ→CF→Bool→Int×σ):List (CF×Bool)→σ→Int×σ
 | [],s=>(0,s)
 | x::r,s=>if (step s x.1 x.2).1=0 then DX step r (step s x.1 x.2).2 else step s x.1 x.2
theorem Qm{σ:Type}(step:σ→CF→Bool→Int×σ):∀(A B:List (CF×Bool))(s:σ),DX step (A++B) s=if (DX step A s).1=0 then DX step B (DX step A s).2 else DX step A s
 | [],B,s=>by simp [DX]
 | x::A,B,s=>by
   rw [List.cons_append,DX,DX]
   by_cases h:(step s x.1 x.2).1=0
   ·rw [if_pos h,if_pos h,Qm step A B]
   rw [if_neg h,if_neg h,if_neg h]
def P0(t:CF):Prop:=(0≤t.1∧t.1<256)∧(0≤t.2.1∧t.2.1≤12)∧0≤t.2.2∧t.2.2<2^t.2.1.toNat
theorem RV(r:Nat)(n:Int)(hr:r≤15)(hb: -4096<n∧n<4096):P0 (GU r n):=by
 have h1:=RQ n hb
 have h2:=Fi n
 unfold P0 GU
 dsimp only
 rw [Int.toNat_natCast]
 exact ⟨by omega,by omega,h2.2.1,by exact_mod_cast h2.2.2⟩
theorem Mz:∀(l:List Int)(r:Nat),(∀x∈l,-2047≤x∧x≤2047)→∀t∈Gq r l,P0 t
 | [],r,_,t,ht=>by
   unfold Gq at ht
   split at ht
   ·simp at ht;subst ht;unfold P0;decide
   simp at ht
 | n::l,r,h,t,ht=>by
   unfold Gq at ht
   split at ht
   ·exact Mz l (r+1) (fun x hx=>h x (by simp [hx])) t ht
   rcases List.mem_append.1 ht with ht|ht
   ·rw [List.eq_of_mem_replicate ht];unfold P0;decide
   rcases List.mem_cons.1 ht with rfl|ht
   ·exact RV (r%16) n (by omega) (by have:=h n (by simp);omega)
   exact Mz l 0 (fun x hx=>h x (by simp [hx])) t ht
theorem Ot{p:Int}{x:List Int}(hx:x.length=64):∀t∈FP p x,P0 t:=by
 intro t ht
 unfold FP at ht
 split at ht
 ·rename_i h
  obtain ⟨h1,h2⟩:=RU hx h
  have hz:∀i,i<64→ -2047≤AK (FH x) i∧AK (FH x) i≤2047:=fun i hi=>by rw [GG _ i hi];exact h2 _ (Ky i hi)
  unfold BV at ht
  rcases List.mem_cons.1 ht with rfl|ht
  ·have:=hz 0 (by omega)
   exact RV 0 _ (by omega) (by omega)
  refine Mz _ 0 (fun y hy=>?_) t ht
  obtain ⟨i,hi,rfl⟩:=List.mem_iff_getElem.1 (List.mem_of_mem_drop hy)
  have:=hz i (by rw [←Cu x];exact hi)
  simpa [AK,List.getD,hi] using this
 simp at ht
theorem OK(T:List CF):(Ej T).length=T.length:=by cases T<;>simp [Ej]
theorem UP{T:List CF}{i:Nat}{x:CF}(h:T[i]? =some x):(Ej T).drop i=(x,decide (i=0))::(Ej T).drop (i+1):=by
 cases T with
 | nil=>simp at h
 | cons t r=>
   cases i with
   | zero=>simp at h;subst h;simp [Ej]
   | succ i=>
     rw [List.getElem?_cons_succ] at h
     have hi:i<r.length:=by
      rcases Nat.lt_or_ge i r.length with h1|h1
      ·exact h1
      rw [List.getElem?_eq_none h1] at h;cases h
     have hx:r[i]=x:=by rw [List.getElem?_eq_getElem hi] at h;exact Option.some.inj h
     simp only [Ej,List.drop_succ_cons]
     rw [←List.map_drop,←List.map_drop,List.drop_eq_getElem_cons hi,hx]
     simp
theorem Oo(l:List Int):∀(f k:Nat),DH l k (f+1)=DH l k f++Ej (Sq l (k+f))
 | 0,k=>by simp [DH]
 | f+1,k=>by
   rw [DH,Oo l f (k+1),DH,List.append_assoc,show k+1+f=k+(f+1) by omega]
theorem Zl{l:List Int}{n k:Nat}(hl:l.length=n*64)(h:A9 l n=true)(hk:k<n): -2047≤TI l k∧TI l k≤2047:=by
 unfold TI
 by_cases h0:k=0
 ·rw [if_pos h0];omega
 rw [if_neg h0]
 have h1:=DP h (show k-1<n by omega)
 have h2:=(BL _ _ _).1 h1 0 (by rw [CM l 64 (k-1) n hl (by omega)];omega)
 exact h2
theorem VL{l:List Int}{n k:Nat}(hl:l.length=n*64)(h:A9 l n=true)(hk:k<n):FO (TI l k) (Bm l 64 k)=0∧Sq l k=BV (TI l k) (FH (Bm l 64 k)):=by
 have h1:FO (TI l k) (Bm l 64 k)=0:=by
  unfold FO
  rw [if_pos ⟨(Fz _).2 (Zl hl h hk),DP h hk⟩]
 exact ⟨h1,by unfold Sq FP;rw [if_pos h1]⟩
theorem Su(x:List Int):FO 0 x=if Dd x then 0 else 1:=by
 unfold FO
 have h0:Vo 0=true:=rfl
 by_cases h:Dd x=true
 ·rw [if_pos ⟨h0,h⟩,if_pos h]
 rw [if_neg (fun e=>h e.2),if_neg h]
def By(s:List Int×List Int)(t:CF)(b:Bool):Int×List Int×List Int:=(0,if b then (s.1++[t.1],s.2) else (s.1,s.2++[t.1]))
theorem Tk(r:List CF):∀s:List Int×List Int,DX By (r.map fun x=>(x,false)) s=(0,s.1,s.2++r.map (·.1)):=by
 induction r with
 | nil=>intro s;simp [DX]
 | cons t r ih=>intro s;simp only [List.map_cons,DX];rw [if_pos (show (By s t false).1=0 from rfl),ih];simp [By]
theorem Tj(T:List CF)(s:List Int×List Int):DX By (Ej T) s=(0,s.1++(T.take 1).map (·.1),s.2++(T.drop 1).map (·.1)):=by
 cases T with
 | nil=>simp [Ej,DX]
 | cons t r=>rw [Ej,DX,if_pos (show (By s t true).1=0 from rfl),Tk];simp [By]
theorem JP(l:List Int):∀f,DX By (DH l 0 f) ([],[])=(0,PB l f,KY l f)
 | 0=>rfl
 | f+1=>by
   rw [Oo,Qm,JP l f,if_pos rfl,Tj,KX,Oj,Nat.zero_add]
theorem V.makeFunc{P:Program}{ty:TypeId}{a:Act}{fn:Fn}{cs:List Operand}{vs:List Value}(h:cs.map a.eval=vs):DK P (.makeFunc fn #[] cs.toArray) ty a (.func fn #[] vs.toArray):=fun d pos af g w=>by
 subst h
 simp only [execOp,List.map_toArray]
 rfl
structure aS(W:World)(σ:Type) where
 step:σ→CF→Bool→Int×σ
 res:σ→Au
 ok:σ→Nat→Prop
 K:FuncId
 caps:Array Value
 inv:∀(args:Array Value)(w:World),(callFunc K args).run Tryz.prog w= .ok (.enter K args) w
 okS:∀s m t b,ok s (m+1)→P0 t→(step s t b).1=0→ok (step s t b).2 m
 okM:∀s m k,ok s m→k≤m→ok s k
 call:∀(w:World)(rs rs':List Au)(s:σ)(m:Nat)(t0 t1 t2:Int)(b:Bool)(er:Int)(s':σ),St W w rs→AT (res s) rs rs'→ok s (m+1)→P0 (t0,t1,t2)→step s (t0,t1,t2) b=(er,s')→
  Calls Tryz.prog K (#[.agg #[.int .i64 t0, .int .i64 t1, .int .i64 t2], .bool b]++caps) w fun e w'=>e= .returned (.int .i64 er)∧St W w' (res s'::rs')
theorem Nb(l:List Int)(q:Nat):TI l (q+1)=AK (Bm l 64 q) 0:=by unfold TI;rw [if_neg (by omega)];rfl
structure Im(p:Prop):Prop where
 out:p
theorem Kf(w0:World)(l:List Int)(p E:Int)(T:List CF)(hE:FO p l=E)(hT:FP p l=T)(hl:Ap l 64):
 Calls Tryz.prog 129 #[.int .i64 p, .agg (iv l)] w0 fun e w=>∃ad m c,T.length=m∧e= .returned (.tuple #[.slice ad m c, .int .i64 E])∧St w0 w [own 155 3 ad m c ((EI T).map (Value.int .i64))]:=by
 subst hE;subst hT
 refine (M9 w0 p l hl).mono ?_
 rintro e w ⟨ad,c,rfl,hS⟩
 exact ⟨ad,_,c,rfl,rfl,hS⟩
def ID{W:World}{σ:Type}(Z:aS W σ)(l:List Int)(n:Nat)(s0:σ)(rs':List Au)(e:Ending)(w:World):Prop:=
 ∃s',(Bb l n=0→s'=(DX Z.step (DH l 0 n) s0).2)∧e= .returned (.int .i64 (if Bb l n=0 then (DX Z.step (DH l 0 n) s0).1 else Bb l n))∧St W w (Z.res s'::rs')
theorem Ql{W w:World}{σ:Type}{Z:aS W σ}{l:List Int}{n:Nat}{s0:σ}{rs':List Au}(E:Int)(h1:Bb l n=E)(h2:E≠0)(hS:St W w (Z.res s0::rs')):ID Z l n s0 rs' (.returned (.int .i64 E)) w:=
 ⟨s0,fun h=>absurd (h1.symm.trans h) h2,by rw [h1,if_neg h2],hS⟩
theorem Nr{W w:World}{σ:Type}{Z:aS W σ}{l:List Int}{n:Nat}{s0 s':σ}{rs':List Au}(er:Int)(h1:Bb l n=0)(h2:DX Z.step (DH l 0 n) s0=(er,s'))(hS:St W w (Z.res s'::rs')):ID Z l n s0 rs' (.returned (.int .i64 er)) w:=
 ⟨s',fun _=>by rw [h2],by rw [if_pos h1,h2],hS⟩
theorem Nq{W:World}{σ:Type}(Z:aS W σ)(w0:World)(rs rs':List Au)(s0:σ)(ad:Option Addr)(n c:Nat)(l:List Int)(hn:n≤9223372036854775807)(hv:Sl W 64 (.slice ad n c) n (l.map (Value.int .i64)))
 (hS:St W w0 rs) (hp:AT (Z.res s0) rs rs') (hok:Z.ok s0 25600):
 Calls Tryz.prog 100 #[.slice ad n c, .func (.func Z.K) #[] Z.caps] w0 (ID Z l n s0 rs'):=by
 have hl:l.length=n*64:=by have:=hv.1;simpa using this
 have HL:=AD hl
 clear hl
 replace hS:=hS.pull hp
 clear hp
 by_cases h4:400<n
 ·have HE:=AD (show Bb l n=2 by unfold Bb;rw [if_pos h4])
  go_enter Tryz.func100,Tryz.ntmps100
  repeat' (first
   | refine X0 ?_|refine TF ?_|refine Gv ?_|refine AG ?_;go_step|fail)
  go_ret
  exact Ql 2 HE.out (by decide) hS
 have HE:=AD (show Bb l n=if A9 l n then 0 else 1 by unfold Bb;rw [if_neg h4])
 go_enter Tryz.func100,Tryz.ntmps100
 repeat' (first
  | refine X0 ?_|refine TF ?_|refine Gv ?_|refine AG ?_;go_step|fail)
 repeat' (first
  | refine AG ?_;go_step|fail)
 go_loopg [22] n (fun gk kv w=>∃k:Nat,gk+k=n∧kv= .int .i64 k∧Hid (A9 l k=true)∧St W w (Z.res s0::rs'))
 case atStart=>exact ⟨0,rfl,rfl,AD rfl,hS⟩
 case round=>
  clear hS
  obtain ⟨k,hk,rfl,HA,hS⟩:=hrel
  by_cases hlt:k<n
  ·have ls:Ap (Bm l 64 k) 64:=CM l 64 k n HL.out hlt
   obtain ⟨B,hB⟩:∃B,Dd (Bm l 64 k)=B:=⟨_,rfl⟩
   have HB2:=AD hB
   have HT:=AD (Su (Bm l 64 k))
   cases B
   ·have HF:=AD (PJ hlt HB2.out)
    have HT1:=AD (show FO 0 (Bm l 64 k)=1 by rw [HT.out,hB];rfl)
    clear hB HT
    repeat' (first
     | (refine A3 129 ?_);refine A4 AA Tryz.call129 (Kf _ _ 0 1 _ HT1.out rfl ls) ?_;rintro e w ⟨a5,m5,c5,hm5,rfl,hS2⟩;replace hS:=hS.call1 hS2;clear hS2 hm5;refine Ae ?_;go_step|refine X0 ?_|refine X2 ?_|refine YA 24 ?_;intro b24 o24 hl24 hc24;go_step|refine X6 ?_|refine X3 ?_|refine WH ?_|refine JL 6 ?_;clear hS;intro g6 w hS|refine Ew ?_;clear hS;intro w hS|refine AG ?_;go_step|fail)
    all_goals (try exact AW)
    go_ret
    exact Ql 1 (by rw [HE.out,HF.out];rfl) (by decide) (hS.sub AV)
   have HT1:=AD (show FO 0 (Bm l 64 k)=0 by rw [HT.out,hB];rfl)
   clear hB HT
   repeat' (first
    | (refine A3 129 ?_);refine A4 AA Tryz.call129 (Kf _ _ 0 0 _ HT1.out rfl ls) ?_;rintro e w ⟨a5,m5,c5,hm5,rfl,hS2⟩;replace hS:=hS.call1 hS2;clear hS2 hm5;refine Ae ?_;go_step|refine X0 ?_|refine X2 ?_|refine YA 24 ?_;intro b24 o24 hl24 hc24;go_step|refine X6 ?_|refine X3 ?_|refine WH ?_|refine JL 6 ?_;clear hS;intro g6 w hS|refine Ew ?_;clear hS;intro w hS|refine AG ?_;go_step|fail)
   repeat' (first
    | refine X1 ?_|refine X7 ?_|refine AG ?_;go_step|fail)
   all_goals (try exact AW)
   go_roundg (gk-1)
   case measure=>omega
   case rel=>exact ⟨k+1,by omega,by go_num,AD (by rw [NX,HA.out,HB2.out];rfl),hS.sub AV⟩
  obtain rfl:k=n:=by omega
  have HE0:=AD (show Bb l k=0 by rw [HE.out,HA.out];rfl)
  repeat' (first
   | refine X0 ?_|refine X2 ?_|refine AG ?_;go_step|fail)
  repeat' (first
   | refine X1 ?_|refine TF ?_|refine AG ?_;go_step|fail)
  clear hk
  go_loopg [9,37] k (fun gk bv kv w=>∃(q:Nat) (s:σ),gk+q=k∧kv= .int .i64 q∧bv= .int .i64 (TI l q)∧Hid (Z.ok s (25600-64*q))∧Im (DX Z.step (DH l 0 k) s0=DX Z.step (DH l q (k-q)) s)∧St W w (Z.res s::rs'))
  case atStart=>exact ⟨0,s0,rfl,rfl,rfl,AD hok,⟨rfl⟩,hS⟩
  case round=>
   clear hS hok
   obtain ⟨q,s,hq,rfl,rfl,HO,HV,hS⟩:=hrel
   by_cases hlt:q<k
   ·have ls:Ap (Bm l 64 q) 64:=CM l 64 q k HL.out hlt
    obtain ⟨ht1,ht2⟩:=VL HL.out HA.out hlt
    have HT1:=AD ht1
    obtain ⟨p,hpb⟩:∃p,TI l q=p:=⟨_,rfl⟩
    obtain ⟨T,hT⟩:∃T,Sq l q=T:=⟨_,rfl⟩
    have HT2:=AD (show FP p (Bm l 64 q)=T by rw [←hT,←hpb];rfl)
    have HSY:=AD (show ∀t∈T,P0 t by rw [←HT2.out];exact Ot ls)
    have hTl:T.length≤64:=by rw [←HT2.out];exact M7 ls
    have HV2:Im (DX Z.step (DH l 0 k) s0=DX Z.step ((Ej T).drop 0++DH l (q+1) (k-(q+1))) s):=⟨by rw [HV.out,show k-q=(k-(q+1))+1 by omega,DH,hT];rfl⟩
    rw [hpb] at HT1
    have HPB:=AD hpb
    rw [hpb]
    clear ht1 ht2 hT HV hpb
    repeat' (first
     | (refine A3 129 ?_);refine A4 AA Tryz.call129 (Kf _ _ p 0 T HT1.out HT2.out ls) ?_;rintro e w ⟨a5,m5,c5,hm5,rfl,hS2⟩;replace hS:=hS.call1 hS2;clear hS2;refine Ae ?_;go_step|refine X0 ?_|refine X2 ?_|refine YA 39 ?_;intro b39 o39 hl39 hc39;go_step|refine X6 ?_|refine ZB ?_|refine WH ?_|refine JL 11 ?_;clear hS;intro g11 w hS|refine Ew ?_;clear hS;intro w hS|refine AG ?_;go_step|fail)
    obtain ⟨gk1,hgk1⟩:∃x,x=gk:=⟨_,rfl⟩
    subst hgk1
    go_loopg [49] m5 (fun gk kv w=>∃(i:Nat) (s:σ),gk+i=m5∧kv= .int .i64 i∧Hid (Z.ok s (25600-64*q-i))∧Im (DX Z.step (DH l 0 k) s0=DX Z.step ((Ej T).drop i++DH l (q+1) (k-(q+1))) s)∧St W w (Z.res s::own 155 3 a5 m5 c5 ((EI T).map (Value.int .i64))::arr g11 64 (Bm l 64 q)::rs'))
    case atStart=>exact ⟨0,s,rfl,rfl,HO,HV2,hS.sub AV⟩
    case round=>
     clear hS HV2 HO
     obtain ⟨i,s,hi,rfl,HO,HV,hS⟩:=hrel
     by_cases hlt2:i<m5
     ·obtain ⟨b5,rfl⟩:=CE (a:=a5) hS AJ (by omega)
      obtain ⟨⟨t0,t1,t2⟩,hx⟩:∃x,T[i]? =some x:=⟨_,List.getElem?_eq_getElem (by omega)⟩
      have hseg:=Qp T i _ hx
      have HSX:=AD (HSY.out _ (List.mem_of_getElem? hx))
      have hmk:=UP hx
      dsimp only at hseg
      obtain ⟨⟨er,s'⟩,hst⟩:∃y,Z.step s (t0,t1,t2) (decide (((i:Nat):Int)=0))=y:=⟨_,rfl⟩
      obtain ⟨m,hm⟩:∃m,25600-64*q-i=m+1:=⟨25600-64*q-i-1,by omega⟩
      have ho:=HO.out
      rw [hm] at ho
      have HO1:=AD ho
      have HST:=AD hst
      have hv2:=HV.out
      rw [hmk,List.cons_append,DX,show decide (i=0)=decide (((i:Nat):Int)=0) from decide_eq_decide.2 (by omega)] at hv2
      dsimp only at hv2
      rw [hst] at hv2
      have HO2:Hid (er=0→Z.ok s' m):=AD fun h=>by
       have:=Z.okS s m _ _ ho HSX.out (by rw [hst];exact h)
       rw [hst] at this;exact this
      have HV2:Im (DX Z.step (DH l 0 k) s0=if er=0 then DX Z.step ((Ej T).drop (i+1)++DH l (q+1) (k-(q+1))) s' else (er,s')):=⟨hv2⟩
      clear hx hmk hst ho hv2 HV HO
      by_cases her:er=0
      ·have HO3:=AD (HO2.out her)
       have HV3:Im (DX Z.step (DH l 0 k) s0=DX Z.step ((Ej T).drop (i+1)++DH l (q+1) (k-(q+1))) s'):=⟨by rw [HV2.out,if_pos her]⟩
       clear HV2 HO2
       subst her
       repeat' (first
        | (refine AS 58 ?_);refine Ag ?_;refine BQ (f:=Z.K) rfl rfl Z.inv (Z.call _ _ _ s m t0 t1 t2 (decide (((i:Nat):Int)=0)) 0 s' hS AJ HO1.out HSX.out HST.out) ?_;clear hS;rintro e w ⟨rfl,hS⟩;refine Ae ?_;go_step|refine X0 ?_|refine X2 ?_|(refine AS 52 ?_);(refine As AA (V.indexSl Tryz.underlying141 MZ rfl rfl BI (by omega) rfl BO) ?_;go_step)|refine TT ?_|refine X3 ?_|refine bR ?_|refine II 15 ?_;clear hS;intro g15 w hS|refine H9 ?_;clear hS;intro w hS|refine AG ?_;go_step|fail)
       all_goals (try exact AW)
       repeat' (first
        | refine X1 ?_|refine X7 ?_|refine AG ?_;go_step|fail)
       go_roundg (gk-1)
       case measure=>omega
       case rel=>exact ⟨i+1,s',by omega,by go_num,AD (by rw [show 25600-64*q-(i+1)=m by omega];exact HO3.out),HV3,hS.sub AV⟩
      have HV3:Im (DX Z.step (DH l 0 k) s0=(er,s')):=⟨by rw [HV2.out,if_neg her]⟩
      clear HV2 HO2
      repeat' (first
       | (refine AS 58 ?_);refine Ag ?_;refine BQ (f:=Z.K) rfl rfl Z.inv (Z.call _ _ _ s m t0 t1 t2 (decide (((i:Nat):Int)=0)) er s' hS AJ HO1.out HSX.out HST.out) ?_;clear hS;rintro e w ⟨rfl,hS⟩;refine Ae ?_;go_step|refine X0 ?_|refine X2 ?_|(refine AS 52 ?_);(refine As AA (V.indexSl Tryz.underlying141 MZ rfl rfl BI (by omega) rfl BO) ?_;go_step)|refine TT ?_|refine X3 ?_|refine bR ?_|refine II 15 ?_;clear hS;intro g15 w hS|refine H9 ?_;clear hS;intro w hS|refine AG ?_;go_step|fail)
      all_goals (try exact AW)
      go_ret
      exact Nr er HE0.out HV3.out (hS.sub AV)
     obtain rfl:i=m5:=by omega
     have HB:=AD (Nb l q)
     have HV3:Im (DX Z.step (DH l 0 k) s0=DX Z.step (DH l (q+1) (k-(q+1))) s):=⟨by rw [HV.out,List.drop_of_length_le (by rw [OK];omega)];rfl⟩
     have HO3:=AD (Z.okM _ _ (25600-64*(q+1)) HO.out (by omega))
     clear HV HO
     repeat' (first
      | refine X2 ?_|refine AG ?_;go_step|fail)
     repeat' (first
      | refine X0 ?_|refine ZU 63 ?_|refine X7 ?_|refine ZG ?_|refine AG ?_;go_step|fail)
     go_roundg (gk1-1)
     case measure=>omega
     case rel=>exact ⟨q+1,s,by omega,by go_num,by rw [HB.out],HO3,HV3,hS.sub AV⟩
   obtain rfl:q=k:=by omega
   have HV3:Im (DX Z.step (DH l 0 q) s0=(0,s)):=⟨by rw [HV.out,Nat.sub_self];rfl⟩
   clear HV
   repeat' (first
    | refine X8 ?_|refine X2 ?_|refine AG ?_;go_step|fail)
   repeat' (first
    | refine AG ?_;go_step|fail)
   go_ret
   exact Nr 0 HE0.out HV3.out hS
def Vv(T:TypeId)(s:Nat)(W:World)(rs:List Au)(n:Nat)(xs:List Value)(e:Ending)(w':World):Prop:=∃ad c,e= .returned (.slice ad n c)∧St W w' (own T s ad n c xs::rs)
theorem Ua(bs:List Bool)(h:0<bs.length%8):A2 (8-bs.length%8) (2^(8-bs.length%8)-1)=Be bs:=by
 unfold Be
 rw [Nat.mod_eq_of_lt (show 8-bs.length%8<8 by omega)]
 generalize 8-bs.length%8=k
 apply List.ext_getElem?
 intro i
 by_cases hi:i<k
 ·rw [Jp _ _ _ hi,List.getElem?_replicate,if_pos hi]
  congr 1
  have h1:2^k=2^(k-1-i)*2^(i+1):=by rw [←Nat.pow_add];congr 1;omega
  have h2:(2^k-1)/2^(k-1-i)=2^(i+1)-1:=by
   rw [h1]
   have hp:0<2^(k-1-i):=Nat.two_pow_pos _
   have hq:0<2^(i+1):=Nat.two_pow_pos _
   generalize 2^(k-1-i)=p at hp
   generalize 2^(i+1)=q at hq
   obtain ⟨q',rfl⟩:∃q',q=q'+1:=⟨q-1,by omega⟩
   rw [Nat.mul_succ,Nat.add_sub_assoc (by omega),Nat.mul_add_div hp,Nat.div_eq_of_lt (by omega)]
   omega
  rw [h2,Nat.pow_succ]
  have:0<2^i:=Nat.two_pow_pos _
  have h3:(2^i*2-1)%2=1:=by omega
  rw [h3];rfl
 rw [List.getElem?_eq_none (by rw [At];omega),List.getElem?_eq_none (by simp;omega)]
theorem Rs(W w:World)(rs rs':List Au)(g:Nat)(bs:List Bool)(hS:St W w rs)(hp:AT (wr g bs) rs rs')(hb:bs.length≤1000000000000):
 Calls Tryz.prog 113 #[.pointer (some ⟨g,0,none⟩)] w (Vv 5 1 W rs' ((bs.length+7)/8) (bv (bytesOf bs))):=by
 obtain ⟨⟨ad,c⟩,hS⟩:=(hS.pull hp).open
 dsimp only [List.cons_append,List.nil_append] at hS
 generalize hM:bs.length%8=M at*
 by_cases h0:M=0
 ·subst h0
  go_enter Tryz.func113,Tryz.ntmps113
  go_wp2_with (first
   | ((with_reducible refine An _ (.load 3 _) ?_);first|(refine Bi AA (BX hS 3 _ rfl _ _ rfl (AH rfl) _ _ AJ (by omega) ?_);refine AL (by (simp only [Act.put,List.setIfInBounds_toArray,List.set_cons_zero,List.set_cons_succ]);exact rfl) ?_)|(refine Bi AA (AY hS 3 _ rfl _ _ rfl (AH rfl) _ AJ _ (by rfl) ?_);refine AL (by (simp only [Act.put,List.setIfInBounds_toArray,List.set_cons_zero,List.set_cons_succ]);exact rfl) ?_)|(refine Bi AA (Ai hS 3 _ rfl _ _ rfl (AH rfl) _ _ _ _ _ AJ _ (by with_reducible assumption) ?_);refine AL (by (simp only [Act.put,List.setIfInBounds_toArray,List.set_cons_zero,List.set_cons_succ]);exact rfl) ?_)|(refine Bi AA (Aj hS 3 _ rfl _ rfl (AH rfl) _ (by with_reducible assumption) ?_);refine AL (by (simp only [Act.put,List.setIfInBounds_toArray,List.set_cons_zero,List.set_cons_succ]);exact rfl) ?_))|((with_reducible refine An _ (.load 35 _) ?_);first|(refine Bi AA (AY hS 35 _ rfl _ _ rfl (AH rfl) _ AJ _ (by rfl) ?_);refine AL (by (simp only [Act.put,List.setIfInBounds_toArray,List.set_cons_zero,List.set_cons_succ]);exact rfl) ?_)|(refine Bi AA (Ai hS 35 _ rfl _ _ rfl (AH rfl) _ _ _ _ _ AJ _ (by with_reducible assumption) ?_);refine AL (by (simp only [Act.put,List.setIfInBounds_toArray,List.set_cons_zero,List.set_cons_succ]);exact rfl) ?_)|(refine Bi AA (Aj hS 35 _ rfl _ rfl (AH rfl) _ (by with_reducible assumption) ?_);refine AL (by (simp only [Act.put,List.setIfInBounds_toArray,List.set_cons_zero,List.set_cons_succ]);exact rfl) ?_))|(first|refine DU ?_|refine C0 ?_|refine Cz ?_|refine ED ?_))
  go_ret
  have h1:(bs.length+7)/8=bs.length/8:=by omega
  have h2:bytesOf bs=CI (bs.length/8) bs:=by
   unfold bytesOf Be
   rw [hM,h1];simp
  rw [h1,h2]
  exact ⟨ad,c,rfl,hS.sub AV⟩
 have hM8:M<8:=by omega
 have hpos:(0:Int)<(M:Int):=by omega
 have HM:=AD hM
 clear hM h0
 obtain ⟨k,hk⟩:∃k,k=8-M:=⟨_,rfl⟩
 have hk8:k≤7:=by omega
 have e1:IntKind.i64.wrap (8-(M:Int))=(k:Int):=by simp [IntKind.wrap,IntKind.signed,IntKind.bits];omega
 have e2:(0:Int)≤(k:Int):=by omega
 have hk64:(k:Int)<64:=by omega
 have HK:=AD hk
 clear hk
 have HC:=AD (fun (w:World)(hS:St W w (blk g [.slice ad (bs.length/8) c, .int .u64 (Ec (bs.drop (8*(bs.length/8))):Nat), .int .i64 (M:Nat)]::own 5 1 ad (bs.length/8) c (bv (CI (bs.length/8) bs))::rs'))=>
  (St.close (ad,c) (by simp only [List.cons_append,List.nil_append];rw [HM.out];exact hS):St W w (wr g bs::rs')))
 have HV:=AD (show 2^k-1<2^k by have:=Nat.two_pow_pos k;omega)
 have HP:=AD (show A2 k (2^k-1)=Be bs by
  have:=Ua bs (by rw [HM.out];omega)
  rwa [HM.out,←HK.out] at this)
 have HW:=AD (show wrap64 (wrap64 ((2:Int)^k)-1)=((2^k-1:Nat):Int) by
  have h1:2^k≤2^7:=Nat.pow_le_pow_right (by omega) hk8
  have h0:=Nat.two_pow_pos k
  rw [show (2:Int)^k=((2^k:Nat):Int) by push_cast;rfl]
  generalize 2^k=x at h1 h0
  unfold wrap64
  omega)
 go_enter Tryz.func113,Tryz.ntmps113
 go_wp2_with (first
  | ((with_reducible refine An _ (.load 3 _) ?_);first|(refine Bi AA (BX hS 3 _ rfl _ _ rfl (AH rfl) _ _ AJ (by omega) ?_);refine AL (by (simp only [Act.put,List.setIfInBounds_toArray,List.set_cons_zero,List.set_cons_succ]);exact rfl) ?_)|(refine Bi AA (AY hS 3 _ rfl _ _ rfl (AH rfl) _ AJ _ (by rfl) ?_);refine AL (by (simp only [Act.put,List.setIfInBounds_toArray,List.set_cons_zero,List.set_cons_succ]);exact rfl) ?_)|(refine Bi AA (Ai hS 3 _ rfl _ _ rfl (AH rfl) _ _ _ _ _ AJ _ (by with_reducible assumption) ?_);refine AL (by (simp only [Act.put,List.setIfInBounds_toArray,List.set_cons_zero,List.set_cons_succ]);exact rfl) ?_)|(refine Bi AA (Aj hS 3 _ rfl _ rfl (AH rfl) _ (by with_reducible assumption) ?_);refine AL (by (simp only [Act.put,List.setIfInBounds_toArray,List.set_cons_zero,List.set_cons_succ]);exact rfl) ?_))|((with_reducible refine An _ (.load 35 _) ?_);first|(refine Bi AA (AY hS 35 _ rfl _ _ rfl (AH rfl) _ AJ _ (by rfl) ?_);refine AL (by (simp only [Act.put,List.setIfInBounds_toArray,List.set_cons_zero,List.set_cons_succ]);exact rfl) ?_)|(refine Bi AA (Ai hS 35 _ rfl _ _ rfl (AH rfl) _ _ _ _ _ AJ _ (by with_reducible assumption) ?_);refine AL (by (simp only [Act.put,List.setIfInBounds_toArray,List.set_cons_zero,List.set_cons_succ]);exact rfl) ?_)|(refine Bi AA (Aj hS 35 _ rfl _ rfl (AH rfl) _ (by with_reducible assumption) ?_);refine AL (by (simp only [Act.put,List.setIfInBounds_toArray,List.set_cons_zero,List.set_cons_succ]);exact rfl) ?_))|(first|refine DU ?_|refine C0 ?_|refine Cz ?_|refine ED ?_))
 refine AQ [13] (fun w=>St W w [blk g [.slice ad (bs.length/8) c, .int .u64 (Ec (bs.drop (8*(bs.length/8))):Nat), .int .i64 (M:Nat)]]) AA ?_
 replace hS:=hS.drew
 apply BP 0 Am AA AA AA (fun _ _ _ _ h=>h)
 case hfr=>intro w;go_wp2_with fail;exact ⟨rfl,rfl⟩
 case hd=>rfl
 apply BP 1 Am AA AA AA (fun _ _ _ _ h=>h)
 case hfr=>intro w;go_wp2_with fail;exact ⟨rfl,rfl⟩
 case hd=>rfl
 apply BP 2 Am AA AA AA (fun _ _ _ _ h=>h)
 case hfr=>intro w;go_wp2_with fail;exact ⟨rfl,rfl⟩
 case hd=>rfl
 apply BP 3 Am AA AA AA (fun _ _ _ _ h=>h)
 case hfr=>intro w;go_wp2_with fail;exact ⟨rfl,rfl⟩
 case hd=>rfl
 apply Cb 4 Am AA AA AA (fun _ _ _ _ h=>h) [5,13] AA (hS.sub AV)
 case hfr=>intro w hS;go_wp2_with (first|(refine Bi AA (BX hS 3 _ rfl _ _ rfl (AH rfl) _ _ AJ (by omega) ?_);refine AL (by (simp only [Act.put,List.setIfInBounds_toArray,List.set_cons_zero,List.set_cons_succ]);exact rfl) ?_)|(refine Bi AA (AY hS 3 _ rfl _ _ rfl (AH rfl) _ AJ _ (by rfl) ?_);refine AL (by (simp only [Act.put,List.setIfInBounds_toArray,List.set_cons_zero,List.set_cons_succ]);exact rfl) ?_)|(refine Bi AA (Ai hS 3 _ rfl _ _ rfl (AH rfl) _ _ _ _ _ AJ _ (by with_reducible assumption) ?_);refine AL (by (simp only [Act.put,List.setIfInBounds_toArray,List.set_cons_zero,List.set_cons_succ]);exact rfl) ?_)|(refine Bi AA (Aj hS 3 _ rfl _ rfl (AH rfl) _ (by with_reducible assumption) ?_);refine AL (by (simp only [Act.put,List.setIfInBounds_toArray,List.set_cons_zero,List.set_cons_succ]);exact rfl) ?_));exact ⟨rfl,rfl⟩
 case hd=>rfl
 apply BP 5 Am AA AA AA (fun _ _ _ _ h=>h)
 case hfr=>intro w;go_wp2_with fail;exact ⟨rfl,rfl⟩
 case hd=>rfl
 apply BP 6 Am AA AA AA (fun _ _ _ _ h=>h)
 case hfr=>intro w;go_wp2_with fail;exact ⟨rfl,rfl⟩
 case hd=>rfl
 apply BP 7 Am AA AA AA (fun _ _ _ _ h=>h)
 case hfr=>intro w;go_wp2_with fail;exact ⟨rfl,rfl⟩
 case hd=>rfl
 apply BP 8 Am AA AA AA (fun _ _ _ _ h=>h)
 case hfr=>intro w;go_wp2_with fail;exact ⟨rfl,rfl⟩
 case hd=>rfl
 apply Cb 9 Am AA AA AA (fun _ _ _ _ h=>h) [10,11,12,13] AA (hS.sub AV)
 case hfr=>intro w hS;go_wp2_with (first|(refine Bi AA (BX hS 3 _ rfl _ _ rfl (AH rfl) _ _ AJ (by omega) ?_);refine AL (by (simp only [Act.put,List.setIfInBounds_toArray,List.set_cons_zero,List.set_cons_succ]);exact rfl) ?_)|(refine Bi AA (AY hS 3 _ rfl _ _ rfl (AH rfl) _ AJ _ (by rfl) ?_);refine AL (by (simp only [Act.put,List.setIfInBounds_toArray,List.set_cons_zero,List.set_cons_succ]);exact rfl) ?_)|(refine Bi AA (Ai hS 3 _ rfl _ _ rfl (AH rfl) _ _ _ _ _ AJ _ (by with_reducible assumption) ?_);refine AL (by (simp only [Act.put,List.setIfInBounds_toArray,List.set_cons_zero,List.set_cons_succ]);exact rfl) ?_)|(refine Bi AA (Aj hS 3 _ rfl _ rfl (AH rfl) _ (by with_reducible assumption) ?_);refine AL (by (simp only [Act.put,List.setIfInBounds_toArray,List.set_cons_zero,List.set_cons_succ]);exact rfl) ?_));exact ⟨rfl,rfl⟩
 case hd=>rfl
 apply BP 10 Am AA AA AA (fun _ _ _ _ h=>h)
 case hfr=>intro w;go_wp2_with fail;exact ⟨rfl,rfl⟩
 case hd=>rfl
 apply BP 11 Am AA AA AA (fun _ _ _ _ h=>h)
 case hfr=>intro w;go_wp2_with fail;exact ⟨rfl,rfl⟩
 case hd=>rfl
 apply BP 12 Am AA AA AA (fun _ _ _ _ h=>h)
 case hfr=>intro w;go_wp2_with fail;exact ⟨rfl,rfl⟩
 case hd=>rfl
 refine Aa 13 ?_
 rw [HW.out];refine Af (f:=111) rfl Tryz.call111 (Ml W _ _ _ g bs k (2^k-1) (HC.out _ hS) AT.head (by omega) HV.out (by omega)) ?_;clear hS;rintro e w ⟨rfl,hS⟩;refine ⟨_,rfl,?_⟩
 refine ⟨fun h=>absurd (by decide) h,?_⟩
 refine IP (by (simp only [Act.put,List.setIfInBounds_toArray,List.set_cons_zero,List.set_cons_succ]);exact rfl) ?_
 refine AE AA ?_ _
 obtain ⟨⟨ad2,c2⟩,hS⟩:=hS.open
 rw [HP.out] at hS
 have HL:=AD (show (bs++Be bs).length/8=(bs.length+7)/8 by rw [Fe];omega)
 simp only [List.cons_append,List.nil_append,HL.out] at hS
 go_wp2_with (first
  | ((with_reducible refine An _ (.load 3 _) ?_);first|(refine Bi AA (BX hS 3 _ rfl _ _ rfl (AH rfl) _ _ AJ (by omega) ?_);refine AL (by (simp only [Act.put,List.setIfInBounds_toArray,List.set_cons_zero,List.set_cons_succ]);exact rfl) ?_)|(refine Bi AA (AY hS 3 _ rfl _ _ rfl (AH rfl) _ AJ _ (by rfl) ?_);refine AL (by (simp only [Act.put,List.setIfInBounds_toArray,List.set_cons_zero,List.set_cons_succ]);exact rfl) ?_)|(refine Bi AA (Ai hS 3 _ rfl _ _ rfl (AH rfl) _ _ _ _ _ AJ _ (by with_reducible assumption) ?_);refine AL (by (simp only [Act.put,List.setIfInBounds_toArray,List.set_cons_zero,List.set_cons_succ]);exact rfl) ?_)|(refine Bi AA (Aj hS 3 _ rfl _ rfl (AH rfl) _ (by with_reducible assumption) ?_);refine AL (by (simp only [Act.put,List.setIfInBounds_toArray,List.set_cons_zero,List.set_cons_succ]);exact rfl) ?_))|((with_reducible refine An _ (.load 35 _) ?_);first|(refine Bi AA (AY hS 35 _ rfl _ _ rfl (AH rfl) _ AJ _ (by rfl) ?_);refine AL (by (simp only [Act.put,List.setIfInBounds_toArray,List.set_cons_zero,List.set_cons_succ]);exact rfl) ?_)|(refine Bi AA (Ai hS 35 _ rfl _ _ rfl (AH rfl) _ _ _ _ _ AJ _ (by with_reducible assumption) ?_);refine AL (by (simp only [Act.put,List.setIfInBounds_toArray,List.set_cons_zero,List.set_cons_succ]);exact rfl) ?_)|(refine Bi AA (Aj hS 35 _ rfl _ rfl (AH rfl) _ (by with_reducible assumption) ?_);refine AL (by (simp only [Act.put,List.setIfInBounds_toArray,List.set_cons_zero,List.set_cons_succ]);exact rfl) ?_))|(first|refine DU ?_|refine C0 ?_|refine Cz ?_|refine ED ?_))
 go_ret
 refine ⟨ad2,c2,rfl,?_⟩
 unfold bytesOf
 exact hS.sub AV
theorem aK{W w:World}{g:Nat}{rs:List Au}(h:St W w (blk g [.slice none 0 0, .int .u64 0, .int .i64 0]::rs)):St W w (wr g []::rs):=
 St.close (none,0) ((h.nil 5 1).pull (.tail .head))
theorem Ok{C S:List Int}(h:BA C S=0)(s:Int):(symW (Bu C S) s).isSome=true↔s∈S:=by
 constructor
 ·intro hs
  obtain ⟨y,hy⟩:=Option.isSome_iff_exists.1 hs
  exact (Jb C S _ (Eo hy)).1
 intro hs
 obtain ⟨i,hi,rfl⟩:=List.getElem_of_mem hs
 obtain ⟨y,_,e⟩:=Rb C S (ET h).2.1 i hi
 have hm:=List.mem_of_getElem? e
 have hn:AK S i=S[i]:=by simp [AK,List.getD,hi]
 have:=(Bp h).symW hm
 dsimp only at this
 rw [←hn,this];rfl
theorem NG{L:List (Int×Nat×Nat)}(h:Ci L)(s:Int):(wb L s).length≤16:=by
 unfold wb
 cases hs:symW L s with
 | none=>simp
 | some y=>
   have:=h.long _ (Eo hs)
   dsimp only at this⊢
   rw [At];omega
section
variable{P:Program}{W w:World}{rs rs':List Au}{Q:Exit→Act→World→Prop}{K:Act→World→Prop}{o:Oper}{a:Act}
theorem Km(hS:St W w rs)(d x:Operand)(tT:TypeId)(ho:o.op= .call {callee:= .builtin .copy,args:=#[d,x],argTypes:=#[tT,tT]})(e b:TypeId)(el:CC P tT e 1 b)(g q n c:Nat)(cs:List Value)(hd:a.eval d= .slice (cutAt (some ⟨g,0,none⟩) c q 1) (n-q) (c-q))(hp:AT (own e 1 (some ⟨g,0,none⟩) n c cs) rs rs')
 (v:Value) (hx:a.eval x=v) (m:Nat) (news:List Value) (hm:Sl w 1 v m news) (hq:q+m≤n) (h1:∀u∈news,u.oneCell'=true)
 (h:∀w',St W w' (own e 1 (some ⟨g,0,none⟩) n c (cs.take q++news++cs.drop (q+m))::rs')→K (a.put o.dst (.int .i64 m)) w'):o.wp P a w K Q:=by
 obtain ⟨ht,⟨i,z,hi,hz,hsz,hby,hzs⟩,hpos⟩:=el
 have hs1:(P.info? e).map (·.size)=some 1:=by rw [hi];simp [hsz]
 have hown:=hS.own hp
 obtain ⟨hl,aa,cc,rfl,hmc,hcm,hor⟩:=hm
 have hlm:news.length=m:=by simpa using hl
 by_cases hm0:m=0
 ·subst hm0
  have hnil:news=[]:=List.eq_nil_of_length_eq_zero hlm
  subst hnil
  have hr:=run_copy_none (P:=P) w tT tT o.type e (cutAt (some ⟨g,0,none⟩) c q 1) aa (n-q) (c-q) 0 cc ht hs1 (Nat.zero_min _)
  have hk:=h w (by
   have e1:cs.take q++[]++cs.drop (q+0)=cs:=by simp
   rw [e1];exact hS.pull hp)
  unfold Oper.wp execOp
  simp only [ho,resolve,invoke,builtin,Sem.run_bind,Sem.run_pure,Result.andThen_ok,List.map_toArray,List.map_cons,List.map_nil,hd,hx,hr]
  exact hk
 rcases hor with h0|⟨bb,off,rfl,hcells⟩
 ·exact absurd h0 hm0
 rcases hown.2 with ⟨h2,_⟩|⟨g',cap,cur,h2,_,hg,hnc,hcm2,hcs,htake⟩
 ·cases h2
 cases h2
 have hcq:¬(c=q):=by omega
 have hd2:a.eval d= .slice (some ⟨g,q,none⟩) (n-q) (c-q):=by
  rw [hd,cutAt,if_neg hcq]
  simp only [Option.map_some,Addr.add_mid,Nat.zero_add,Nat.mul_one]
 have hsrc:∀j u,news[j]? =some u→w.cell? ((⟨bb,off,none⟩:Addr).add j)=some u:=fun j u hu=>by
  have hj:j<m*1:=by rw [←hl];exact (List.getElem?_eq_some_iff.1 hu).1
  rw [Addr.add_mid,hcells j hj,hu]
 have hr:=run_copy_row (P:=P) w tT tT o.type e g q (n-q) (c-q) ⟨bb,off,none⟩ m cc cur e news ht hs1 hg (by rw [hlm];exact (Nat.min_eq_left (by omega)).symm) hsrc (by rw [hlm,hcs];omega) h1
 have hxl:cs.length=n:=by have:=hown.1;simpa using this
 have htl:cur.toList.take n=cs:=by have:=htake;rwa [Nat.mul_one] at this
 have hcl:cur.toList.length=c:=by rw [Array.length_toList,hcs,Nat.mul_one]
 have hnew:(cur.toList.take q++news++cur.toList.drop (q+m)).take n=cs.take q++news++cs.drop (q+m):=by
  have a1:cur.toList.take q=cs.take q:=by rw [←htl,List.take_take,Nat.min_eq_left (by omega)]
  have a2:(cur.toList.drop (q+m)).take (n-(q+m))=cs.drop (q+m):=by rw [←htl,List.drop_take]
  have a3:(cur.toList.take q++news).length=q+m:=by rw [List.length_append,hlm,List.length_take,hcl];omega
  rw [List.take_append,List.take_of_length_le (by omega),a3,a2,a1]
 have hst:St W (w.setRow g (cur.toList.take q++news++cur.toList.drop (q+news.length)).toArray) ([own e 1 (some ⟨g,0,none⟩) n c (cs.take q++news++cs.drop (q+m))]++rs'):=by
  refine St.change (hS.pull hp) fun f1 k1 hf1 hn1=>?_
  obtain ⟨rfl,k1⟩:=k1
  refine ⟨[g],⟨[g],[],by simp,⟨rfl,?_, .inr ⟨g,c,_,rfl,Nat.zero_le _,setRow_heap w g cur _ e _ hg,hnc,hcm2,?_,?_⟩⟩,rfl⟩,by simp,fun b hb=> .inl hb,EK.setRow w g _⟩
  ·simp only [List.length_append,List.length_take,List.length_drop,hlm,hxl];omega
  ·simp only [List.size_toArray,List.length_append,List.length_take,List.length_drop,hlm,hcl];omega
  rw [hlm,Nat.mul_one];simpa using hnew
 have hk:=h _ hst
 unfold Oper.wp execOp
 simp only [ho,resolve,invoke,builtin,Sem.run_bind,Sem.run_pure,Result.andThen_ok,List.map_toArray,List.map_cons,List.map_nil,hd2,hx,hr,hlm]
 rw [hlm] at hk
 exact hk
end
structure Bw(p:Prop):Prop where
 out:p
def pre(sep:List Int)(ps:List (List Int))(k:Nat):List Int:=(ps.take k).flatMap (· ++sep)
theorem Hn(sep:List Int)(ps:List (List Int))(k:Nat)(h:k<ps.length):pre sep ps (k+1)=pre sep ps k++(ps[k]++sep):=by
 simp only [pre,List.take_succ_eq_append_getElem h,List.flatMap_append,List.flatMap_cons,List.flatMap_nil,List.append_nil]
theorem Mi(sep:List Int)(ps:List (List Int))(j k:Nat)(h:j≤k):(pre sep ps j).length≤(pre sep ps k).length:=by
 have e:ps.take k=ps.take j++(ps.take k).drop j:=by
  conv=>lhs;rw [←List.take_append_drop j (ps.take k)]
  rw [List.take_take,Nat.min_eq_left h]
 simp only [pre]
 rw [e,List.flatMap_append,List.length_append]
 omega
theorem Mj(old new:List Int)(ps:List (List Int)):∀k,k≤ps.length→(pre new ps k).length+k*old.length=(pre old ps k).length+k*new.length
 | 0,_=>by simp [pre]
 | k+1,h=>by
   rw [Hn new ps k (by omega),Hn old ps k (by omega)]
   simp only [List.length_append]
   have:=Mj old new ps k (by omega)
   rw [Nat.add_mul,Nat.add_mul]
   omega
theorem Ib(sep:List Int)(ps:List (List Int))(k m:Nat)(hm:ps.length=m)(h:k<ps.length):∃T,pre sep ps m=pre sep ps k++(ps[k]++(sep++T)):=by
 refine ⟨(ps.drop (k+1)).flatMap (· ++sep),?_⟩
 have e:ps=ps.take k++(ps[k]::ps.drop (k+1)):=by rw [List.getElem_cons_drop,List.take_append_drop]
 unfold pre
 rw [←hm,List.take_length]
 conv=>lhs;rw [e]
 rw [List.flatMap_append,List.flatMap_cons,List.append_assoc]
theorem KS(X p:List Int)(L B z:Nat)(hX:X.length=B)(hp:p.length=z)(h:B+z≤L):((X++List.replicate (L-B) 0).map (Value.int .u8)).take B++p.map (Value.int .u8)++((X++List.replicate (L-B) 0).map (Value.int .u8)).drop (B+z)=((X++p)++List.replicate (L-(B+z)) 0).map (Value.int .u8):=by
 subst hX
 subst hp
 rw [←List.map_take,←List.map_drop,←List.map_append,←List.map_append,List.take_left' rfl,←List.drop_drop,List.drop_left' rfl,List.drop_replicate,Nat.sub_sub]
theorem Nm(g c:Nat):cutAt (some ⟨g,0,none⟩) c 0 1=some ⟨g,0,none⟩:=by
 unfold cutAt
 split
 ·rfl
 rw [Option.map_some,Addr.add_mid]
theorem I3(w0:World)(a po pn:Option Addr)(n c lo co ln cn m:Nat)(ps:List (List Int))(last old new:List Int)(hm:ps.length=m)
 (hs:Sl w0 1 (.slice a n c) n ((pre old ps m++last).map (Value.int .u8))) (ho:Sl w0 1 (.slice po lo co) lo (old.map (Value.int .u8))) (hw:Sl w0 1 (.slice pn ln cn) ln (new.map (Value.int .u8)))
 (hlo:0<lo) (hb1:n≤1000000000) (hb2:lo≤1000) (hb3:ln≤1000)
 (HC:Bw (∀w,Al w0 w→Calls Tryz.prog 141 #[.slice a n c, .slice po lo co] w fun e w'=>e= .returned (.int .i64 m)∧Al w w'))
 (HI:Bw (∀k (h:k<ps.length) w,Al w0 w→Calls Tryz.prog 142 #[.slice (cutAt a c (pre old ps k).length 1) (n-(pre old ps k).length) (c-(pre old ps k).length), .slice po lo co] w fun e w'=>e= .returned (.int .i64 (ps[k].length:Nat))∧Al w w')):
 Calls Tryz.prog 135 #[.slice a n c, .slice po lo co, .slice pn ln cn, .int .i64 (-1)] w0 fun e w=>∃(ao:Option Addr) (c':Nat),e= .returned (.slice ao (pre new ps m++last).length c')∧St w0 w [own 5 1 ao (pre new ps m++last).length c' ((pre new ps m++last).map (Value.int .u8))]:=by
 have hS:=St.start w0
 have hxl:(pre old ps m++last).length=n:=by have:=hs.1;simpa using this
 have hol:old.length=lo:=by have:=ho.1;simpa using this
 have hnl:new.length=ln:=by have:=hw.1;simpa using this
 have hnc:n≤c:=by obtain ⟨_,_,_,h1,h2,_⟩:=hs;cases h1;exact h2
 have hc9:c≤9223372036854775807:=by obtain ⟨_,_,_,h1,_,h2,_⟩:=hs;cases h1;unfold maxLen at h2;exact h2
 have hpl:=Mj old new ps m (by omega)
 rw [hol,hnl] at hpl
 rw [List.length_append] at hxl
 obtain ⟨L,hL⟩:∃L,(pre new ps m++last).length=L:=⟨_,rfl⟩
 have hL2:=hL
 rw [List.length_append] at hL2
 have hmlo:m≤m*lo:=Nat.le_mul_of_pos_right m hlo
 have hmn:m≤n:=by
  have:m*lo≤(pre old ps m).length:=by
   have h0:=Mj old [] ps m (by omega)
   rw [hol] at h0
   simp only [List.length_nil,Nat.mul_zero,Nat.add_zero] at h0
   omega
  omega
 by_cases h0:m=0
 ·subst h0
  have e0:pre old ps 0++last=pre new ps 0++last:=by simp [pre]
  rw [e0] at hs
  obtain ⟨R,hR⟩:∃R,pre new ps 0++last=R:=⟨_,rfl⟩
  rw [hR] at hL hs⊢
  rw [hL]
  have hLn:L=n:=by have:=hs.1;rw [←hL];simpa using this
  subst hLn
  clear hpl hL2 HI hmlo hxl e0
  go_enter Tryz.func135,Tryz.ntmps135
  repeat' (first
   | (refine A3 141 ?_);refine A4 AA Tryz.call141 (HC.out _ hS.1) (Gb hS ?_);clear hS;intro w hS;go_step|refine X0 ?_|refine IJ ?_|refine TT ?_|(refine AS 25 ?_);(refine Ag ?_;apply AO (o:=⟨some 25,_,_,_,_,_⟩) (hS.nilk 5 1 .u8) _ _ 35 rfl 5 1 1 IQ _ _ _ _ rfl;(case hp=>exact AJ);(case hx=>exact rfl);(case hm=>(first|exact hS.slBlk AJ (by rfl) (by decide)|exact hS.sl AJ|with_reducible assumption|exact Sl.ext (by with_reducible assumption) hS.1|exact Sl.nil _ _|exact Sl.ext (by assumption) hS.1|assumption));(case h1=>(first|exact Ad rfl|exact Ac _ _|(intro u hu;cases hu)));(case h63=>unfold maxLen;omega);(case hb=>omega);clear hS;intro ad25 c25 w hS;(first|simp only [Av] at hS|simp only [Aw] at hS|simp only [Ax] at hS|simp only [Ay] at hS|simp only [Az] at hS|skip);refine AB ?_;go_step)|refine AG ?_;go_step|fail)
  rw [Nat.zero_add,List.nil_append] at hS
  go_ret
  refine ⟨ad25,c25,?_,hS.sub AV⟩
  show Ending.returned (.slice ad25 (0+L) c25)=_
  rw [Nat.zero_add]
 have hLb:L≤2000000000000:=by
  have:m*ln≤1000000000*1000:=Nat.mul_le_mul (by omega) hb3
  omega
 have hLe:(L:Int)=(n:Int)+(m:Int)*((ln:Int)-(lo:Int)):=by
  have h1:((m:Int)*((ln:Int)-(lo:Int)))=((m*ln:Nat):Int)-((m*lo:Nat):Int):=by push_cast;rw [Int.mul_sub]
  rw [h1];omega
 have hmul:IntKind.i64.wrap ((m:Int)*((ln:Int)-(lo:Int)))=(L:Int)-(n:Int):=by
  rw [show (m:Int)*((ln:Int)-(lo:Int))=(L:Int)-(n:Int) by omega]
  exact IntWalk.i64_in _ (by omega)
 have HMul:=AD hmul
 have HXs:∀k,k≤m→(pre old ps k).length≤n:=fun k hk=>by have:=Mi old ps k m hk;omega
 have HWs:∀k,k≤m→(pre new ps k).length≤L:=fun k hk=>by have:=Mi new ps k m hk;omega
 have HXs2:Bw _:=⟨HXs⟩
 have HWs2:Bw _:=⟨HWs⟩
 have HL:Bw ((pre new ps m++last).length=L):=⟨hL⟩
 obtain ⟨R,hR⟩:∃R,pre new ps m++last=R:=⟨_,rfl⟩
 have HR:Bw (pre new ps m++last=R):=⟨hR⟩
 rw [hR] at hL⊢
 rw [hL]
 have HXL:Bw ((pre old ps m).length+last.length=n):=⟨hxl⟩
 have HWL:Bw ((pre new ps m).length+last.length=L):=⟨hL2⟩
 have HM:Bw (ps.length=m):=⟨hm⟩
 have HPL:Bw _:=⟨hpl⟩
 clear hpl hxl hL2 hmlo hLe hmul HXs HWs hR hm
 go_enter Tryz.func135,Tryz.ntmps135
 repeat' (first
  | (refine A3 141 ?_);refine A4 AA Tryz.call141 (HC.out _ hS.1) (Gb hS ?_);clear hS;intro w hS;go_step|(refine AS 42 ?_);refine Ak (.int .i64 ((L:Int)-(n:Int))) (V.as (V.mul rfl rfl) (by have:=HMul.out;first|exact this|(rw [IntWalk.i64_in _ (by omega)];exact this))) AA ?_;go_step|(refine AS 43 ?_);(refine Ak (.int _ (((L:Nat):Int))) (V.as (V.addI rfl rfl (by omega)) (by omega)) (by kernel_rfl) ?_;go_step)|go_skip|refine X0 ?_|refine FJ ?_|refine EN 27 ?_ ?_<;>intro hB<;>(try exact AW)<;>go_step|refine IJ ?_|refine TT ?_|refine ZC ?_|refine WW ?_|refine Gv ?_|(refine AS 44 ?_);(refine Ag ?_;apply Jc (o:=⟨some 44,_,_,_,_,_⟩) hS 35 _ _ rfl _ _ _ _ b6 _ _ _ _ _ _ rfl rfl;(case hi=>exact BI);(case hj=>exact BI);(case hnm=>omega);(case hb=>omega);(case h63=>unfold maxLen;omega);clear hS;intro g44 w hS;refine AB ?_;go_step)|refine AG ?_;go_step|fail)
 go_loopg [11,12,49] m (fun gk wv sv iv w=>∃k:Nat,gk+k=m∧iv= .int .i64 k∧sv= .int .i64 ((pre old ps k).length:Nat)∧wv= .int .i64 ((pre new ps k).length:Nat)∧St w0 w [own 5 1 (some ⟨g44,0,none⟩) L L ((pre new ps k++List.replicate (L-(pre new ps k).length) 0).map (Value.int .u8))])
 case atStart=>
  refine ⟨0,rfl,rfl,rfl,rfl,?_⟩
  rw [Nat.mul_one] at hS
  have e:pre new ps 0=[]:=rfl
  rw [e,List.nil_append,List.length_nil,Nat.sub_zero]
  exact hS.sub AV
 case round=>
  clear hS
  obtain ⟨k,hk,rfl,rfl,rfl,hS⟩:=hrel
  by_cases hlt:k<m
  ·have hkp:k<ps.length:=by rw [HM.out];exact hlt
   have hIk:=HI.out k hkp
   have e1:=Hn old ps k hkp
   have e2:=Hn new ps k hkp
   have l1:=HXs2.out (k+1) hlt
   have l2:=HWs2.out (k+1) hlt
   obtain ⟨p,hp⟩:∃p,ps[k]=p:=⟨_,rfl⟩
   rw [hp] at hIk e1 e2
   rw [e1] at l1
   rw [e2] at l2
   obtain ⟨T,hT⟩:=Ib old ps k m HM.out hkp
   rw [hp] at hT
   have hxs:pre old ps m++last=pre old ps k++(p++(old++T++last)):=by rw [hT];simp only [List.append_assoc]
   obtain ⟨A,hA⟩:∃A,(pre old ps k).length=A:=⟨_,rfl⟩
   obtain ⟨X,hX⟩:∃X,pre new ps k=X:=⟨_,rfl⟩
   rw [hX] at e2 l2 hS⊢
   obtain ⟨B,hB⟩:∃B,X.length=B:=⟨_,rfl⟩
   obtain ⟨z,hz⟩:∃z,p.length=z:=⟨_,rfl⟩
   simp only [List.length_append,hA,hB,hz,hol,hnl] at l1 l2
   rw [hA,hz] at hIk
   rw [hA]
   rw [hB] at hS⊢
   have hsp:∀w,Al w0 w→Sl w 1 (.slice (cutAt a c A 1) (A+z-A) (c-A)) (A+z-A) (p.map (Value.int .u8)):=fun w hx=>by
    have h1:=(hs.ext hx).cutAt A (A+z) (by omega) (by omega)
    have h2:(((pre old ps m++last).map (Value.int .u8)).drop (A*1)).take ((A+z-A)*1)=p.map (Value.int .u8):=by
     rw [Nat.mul_one,Nat.mul_one,←List.map_drop,←List.map_take,hxs,List.drop_left' hA,Nat.add_sub_cancel_left,List.take_left' hz]
    rw [h2] at h1
    exact h1
   have HIK:Bw _:=⟨hIk⟩
   have HSP:Bw _:=⟨hsp⟩
   have F1:=AD (KS X p L B z hB hz (by omega))
   have F2:=AD (KS (X++p) new L (B+z) ln (by rw [List.length_append,hB,hz]) hnl (by omega))
   have N1:Bw ((pre old ps (k+1)).length=A+z+lo):=⟨by rw [e1];simp only [List.length_append,hA,hz,hol];omega⟩
   have N2:Bw (pre new ps (k+1)=X++p++new):=⟨by rw [e2,List.append_assoc]⟩
   have N3:Bw ((X++p++new).length=B+z+ln):=⟨by simp only [List.length_append,hB,hz,hnl]⟩
   clear hIk hsp e1 e2 hp hxs hT hA hX hB hz hkp
   repeat' (first
    | (refine A3 142 ?_);refine A4 AA Tryz.call142 (HIK.out _ hS.1) (Gb hS ?_);clear hS;intro w hS;go_step|(refine AS 57 ?_);(refine Ak (.int _ (((A+z:Nat):Int))) (V.as (V.addI rfl rfl (by omega)) (by omega)) (by kernel_rfl) ?_;go_step)|refine X0 ?_|refine X2 ?_|refine ZI ?_|refine AG ?_;go_step|fail)
   refine AQ [] (fun _=>True) AA ?_
   replace hS:=hS.drew
   focus
    refine Ab 0 ?_
    refine Ab 1 ?_
    refine Ab 2 ?_
    refine cW 3 ?_
    refine Ab 4 ?_
    refine Ab 5 ?_
    refine Ab 6 ?_
    refine cW 7 ?_
    refine Aa 8 ?_
    refine Km (o:=⟨some 66,_,_,_,_,_⟩) hS _ _ 35 rfl 5 1 IQ g44 B L L _ rfl AJ _ rfl (A+z-A) _ (HSP.out _ hS.1) (by omega) (by exact Ac _ _) ?_;clear hS;intro w hS;rw [Nat.add_sub_cancel_left,F1.out] at hS
    refine cY ?_;go_step
    (refine Bo 9 (.int _ (((B+z:Nat):Int))) Am AA AA AA Ch (V.as (V.addI rfl rfl (by omega)) (by omega)) AA ?_)
    go_step
    refine Ab 10 ?_
    refine AE AA ?_ _
   repeat' (first
    | (refine AS 73 ?_);refine Ag ?_;refine Km (o:=⟨some 73,_,_,_,_,_⟩) hS _ _ 35 rfl 5 1 IQ g44 (B+z) L L _ rfl AJ _ rfl ln _ (hw.ext hS.1) (by omega) (by exact Ac _ _) ?_;clear hS;intro w hS;rw [F2.out] at hS;refine AB ?_;go_step|(refine AS 74 ?_);(refine Ak (.int _ (((B+z+ln:Nat):Int))) (V.as (V.addI rfl rfl (by omega)) (by omega)) (by kernel_rfl) ?_;go_step)|(refine AS 78 ?_);(refine Ak (.int _ (((A+z+lo:Nat):Int))) (V.as (V.addI rfl rfl (by omega)) (by omega)) (by kernel_rfl) ?_;go_step)|refine X0 ?_|refine ZI ?_|refine X7 ?_|refine ZC ?_|refine AG ?_;go_step|fail)
   go_roundg (gk-1)
   case measure=>omega
   case rel=>
    refine ⟨k+1,by omega,by go_num,by rw [N1.out],by rw [N2.out,N3.out],?_⟩
    rw [N2.out,N3.out]
    exact hS.sub AV
  obtain rfl:k=m:=by omega
  have hA0:=HXL.out
  have hB0:=HWL.out
  obtain ⟨A,hA⟩:∃A,(pre old ps k).length=A:=⟨_,rfl⟩
  obtain ⟨B,hB⟩:∃B,(pre new ps k).length=B:=⟨_,rfl⟩
  obtain ⟨z,hz⟩:∃z,last.length=z:=⟨_,rfl⟩
  rw [hA,hz] at hA0
  rw [hB,hz] at hB0
  rw [hA]
  rw [hB] at hS⊢
  have hsp:∀w,Al w0 w→Sl w 1 (.slice (cutAt a c A 1) (n-A) (c-A)) (n-A) (last.map (Value.int .u8)):=fun w hx=>by
   have h1:=(hs.ext hx).cutAt A n (by omega) (Nat.le_refl _)
   have h2:(((pre old ps k++last).map (Value.int .u8)).drop (A*1)).take ((n-A)*1)=last.map (Value.int .u8):=by
    rw [Nat.mul_one,Nat.mul_one,←List.map_drop,←List.map_take,List.drop_left' hA,List.take_of_length_le (by omega)]
   rw [h2] at h1
   exact h1
  have HSP:Bw _:=⟨hsp⟩
  have hnA:n-A=z:=by omega
  have HnA:Bw (n-A=z):=⟨hnA⟩
  have F1:=AD (KS (pre new ps k) last L B z hB hz (by omega))
  have F3:Bw (pre new ps k++last++List.replicate (L-(B+z)) 0=R):=⟨by rw [HR.out,show L-(B+z)=0 by omega];simp⟩
  clear hsp hA hB hz hnA
  repeat' (first
   | refine X2 ?_|refine AG ?_;go_step|fail)
  refine AQ [] (fun _=>True) AA ?_
  replace hS:=hS.drew
  focus
   refine Ab 0 ?_
   refine Ab 1 ?_
   refine Ab 2 ?_
   refine cW 3 ?_
   refine Ab 4 ?_
   refine Ab 5 ?_
   refine cW 6 ?_
   refine Aa 7 ?_
   refine Km (o:=⟨some 127,_,_,_,_,_⟩) hS _ _ 35 rfl 5 1 IQ g44 B L L _ rfl AJ _ rfl (n-A) _ (HSP.out _ hS.1) (by omega) (by exact Ac _ _) ?_;clear hS;intro w hS;rw [HnA.out,F1.out,F3.out] at hS
   refine cY ?_;go_step
   (refine Bo 8 (.int _ (((L:Nat):Int))) Am AA AA AA Ch (V.as (V.addI rfl rfl (by omega)) (by omega)) AA ?_)
   go_step
   refine Ab 9 ?_
   refine AE AA ?_ _
  repeat' (first
   | refine X0 ?_|refine ZI ?_|refine AG ?_;go_step|fail)
  go_ret
  refine ⟨some ⟨g44,0,none⟩,L,?_,hS.sub AV⟩
  show Ending.returned (.slice (cutAt (some ⟨g44,0,none⟩) L 0 1) (L-0) (L-0))=_
  rw [Nm]
  rfl
def GJ(b:Int):List Int→List (List Int)×List Int
 | []=>([],[])
 | x::l=>if x=b then ([]::(GJ b l).1,(GJ b l).2) else
   match (GJ b l).1 with
   | []=>([],x::(GJ b l).2)
   | p::ps=>((x::p)::ps,(GJ b l).2)
def Gi(b:Int)(new l:List Int):List Int:=l.flatMap fun x=>if x=b then new else [x]
theorem RC(sep:List Int)(ps:List (List Int)):pre sep ps ps.length=ps.flatMap (· ++sep):=by simp [pre]
theorem Hr(b:Int)(new:List Int):∀l,(GJ b l).1.flatMap (· ++[b])++(GJ b l).2=l∧(GJ b l).1.flatMap (· ++new)++(GJ b l).2=Gi b new l∧(GJ b l).1.length=l.count b∧(∀p∈(GJ b l).1,b∉p)
 | []=>by simp [GJ,Gi]
 | x::l=>by
   obtain ⟨h1,h2,h3,h4⟩:=Hr b new l
   by_cases hx:x=b
   ·subst hx
    refine ⟨?_,?_,?_,?_⟩
    ·simp only [GJ,if_true,List.flatMap_cons,List.nil_append,List.cons_append,h1]
    ·simp only [GJ,if_true,List.flatMap_cons,List.nil_append,List.append_assoc,h2];simp [Gi]
    ·simp [GJ,h3]
    intro p hp
    simp only [GJ,if_true,List.mem_cons] at hp
    rcases hp with rfl|hp
    ·simp
    exact h4 p hp
   cases hs:(GJ b l).1 with
   | nil=>
     rw [hs] at h1 h2 h3
     simp only [List.flatMap_nil,List.nil_append] at h1 h2
     refine ⟨?_,?_,?_,?_⟩
     ·simp [GJ,if_neg hx,hs,h1]
     ·simp only [GJ,if_neg hx,hs,List.flatMap_nil,List.nil_append,h2];simp [Gi,hx]
     ·simp only [GJ,if_neg hx,hs,List.length_nil];rw [List.count_cons_of_ne (by simpa using hx)];simpa using h3
     simp [GJ,if_neg hx,hs]
   | cons p ps=>
     rw [hs] at h1 h2 h3 h4
     refine ⟨?_,?_,?_,?_⟩
     ·simp only [GJ,if_neg hx,hs,List.flatMap_cons,List.cons_append] at h1⊢;rw [h1]
     ·simp only [GJ,if_neg hx,hs,List.flatMap_cons,List.cons_append] at h2⊢;rw [h2];simp [Gi,hx]
     ·simp only [GJ,if_neg hx,hs,List.length_cons] at h3⊢;rw [List.count_cons_of_ne (by simpa using hx)];exact h3
     intro q hq
     simp only [GJ,if_neg hx,hs,List.mem_cons] at hq
     rcases hq with rfl|hq
     ·have:=h4 p (by simp);simp only [List.mem_cons,not_or];exact ⟨fun e=>hx e.symm,this⟩
     exact h4 q (by simp [hq])
theorem Yj{x b:Int}(hx:0≤x∧x<256)(hb:0≤b∧b<256):(UInt8.ofNat x.toNat==UInt8.ofNat b.toNat)=decide (x=b):=by
 by_cases h:x=b
 ·subst h;simp
 rw [decide_eq_false h,beq_eq_false_iff_ne]
 intro e
 have:=congrArg UInt8.toNat e
 simp only [UInt8.toNat_ofNat'] at this
 omega
theorem Iq{b:Int}(hb:0≤b∧b<256):∀(l:List Int),(∀x∈l,0≤x∧x<256)→Lib.countByte (Lib.bytesOf l) (UInt8.ofNat b.toNat)=l.count b
 | [],_=>rfl
 | x::l,h=>by
   have ih:=Iq hb l fun y hy=>h y (by simp [hy])
   have hx:=Yj (h x (by simp)) hb
   simp only [Lib.countByte,Lib.bytesOf,List.map_cons,List.count_cons] at ih⊢
   rw [ih,hx]
   by_cases e:x=b<;>simp [e]
theorem Ix{b:Int}(hb:0≤b∧b<256):∀(p T:List Int),(∀x∈p,0≤x∧x<256)→b∉p→Lib.indexByte (Lib.bytesOf (p++b::T)) (UInt8.ofNat b.toNat)=(p.length:Nat)
 | [],T,_,_=>by simp [Lib.bytesOf,Lib.indexByte]
 | x::p,T,h,hn=>by
   have ih:=Ix hb p T (fun y hy=>h y (by simp [hy])) (fun e=>hn (by simp [e]))
   have hx:=Yj (h x (by simp)) hb
   have hxb:x≠b:=fun e=>hn (by simp [e])
   rw [decide_eq_false hxb] at hx
   simp only [List.cons_append,Lib.bytesOf,List.map_cons,Lib.indexByte] at ih⊢
   rw [hx,ih]
   simp only [Bool.false_eq_true,if_false,List.length_cons]
   rw [if_neg]
   ·push_cast;omega
   simp only [beq_iff_eq];omega
theorem Fv{w:World}{a:Addr}{n c:Nat}{xs:List Int}(hv:Sl w 1 (.slice (some a) n c) n (xs.map (Value.int .u8))):∀i,i<n→w.cell? (a.add i)=some (.int .u8 (xs.getD i 0)):=fun i hi=>by
 obtain ⟨hl,a1,c1,e1,hnc,hcm,hor⟩:=hv
 cases e1
 have hln:xs.length=n:=by simpa using hl
 rcases hor with h0|⟨b,off,h,hc⟩
 ·omega
 cases h
 rw [Addr.add_mid,hc i (by omega)]
 simp [List.getD,hln,hi]
theorem OQ{w:World}{po:Option Addr}{co:Nat}{b:Int}(hv:Sl w 1 (.slice po 1 co) 1 ([b].map (Value.int .u8))):∃b2 o2,po=some ⟨b2,o2,none⟩∧w.cell? ⟨b2,o2,none⟩=some (.int .u8 b):=by
 obtain ⟨hl,a1,c1,e1,hnc,hcm,hor⟩:=hv
 cases e1
 rcases hor with h0|⟨b2,off,h,hc⟩
 ·omega
 exact ⟨b2,off,h,by have:=hc 0 (by decide);simpa using this⟩
theorem Yk{b:Int}:b.toNat.toUInt8=UInt8.ofNat b.toNat:=rfl
theorem PP(w:World)(a po:Option Addr)(n c co:Nat)(xs:List Int)(b:Int)(hs:Sl w 1 (.slice a n c) n (xs.map (Value.int .u8)))(hnil:a=none→c=0)(ho:Sl w 1 (.slice po 1 co) 1 ([b].map (Value.int .u8)))(hb:0≤b∧b<256)(hx:∀x∈xs,0≤x∧x<256):
 Calls Tryz.prog 141 #[.slice a n c, .slice po 1 co] w fun e w'=>e= .returned (.int .i64 (xs.count b:Nat))∧Al w w':=by
 obtain ⟨b2,o2,rfl,hc2⟩:=OQ ho
 have hln:xs.length=n:=by have:=hs.1;simpa using this
 cases a with
 | none=>
   have hc0:=hnil rfl
   subst hc0
   have hn0:n=0:=by obtain ⟨_,_,_,h1,h2,_⟩:=hs;cases h1;omega
   subst hn0
   have hxs:xs=[]:=List.eq_nil_of_length_eq_zero hln
   subst hxs
   exact (Tryz.bytes_Count_one_nil b2 o2 co b w hc2).mono fun e w' ⟨h1,h2⟩=>⟨h1,h2▸ Al.refl _⟩
 | some a=>
   exact (Tryz.bytes_Count_one_at a n c b2 o2 co xs b w hln (Fv hs) hc2).mono fun e w' ⟨h1,h2⟩=>⟨by rw [h1,Yk,Iq hb xs hx],h2▸ Al.refl _⟩
theorem Pm(w:World)(a po:Option Addr)(n c co:Nat)(p T:List Int)(b:Int)(hs:Sl w 1 (.slice a n c) n ((p++b::T).map (Value.int .u8)))(ho:Sl w 1 (.slice po 1 co) 1 ([b].map (Value.int .u8)))(hb:0≤b∧b<256)(hx:∀x∈p,0≤x∧x<256)(hp:b∉p):
 Calls Tryz.prog 142 #[.slice a n c, .slice po 1 co] w fun e w'=>e= .returned (.int .i64 (p.length:Nat))∧Al w w':=by
 obtain ⟨b2,o2,rfl,hc2⟩:=OQ ho
 have hln:(p++b::T).length=n:=by have:=hs.1;simpa using this
 cases a with
 | none=>
   obtain ⟨_,_,_,h1,h2,h3,h4⟩:=hs
   cases h1
   rcases h4 with h4|⟨_,_,h4,_⟩
   ·rw [List.length_append,List.length_cons] at hln;omega
   cases h4
 | some a=>
   exact (Tryz.bytes_Index_one_at a n c b2 o2 co (p++b::T) b w hln (Fv hs) hc2).mono fun e w' ⟨h1,h2⟩=>⟨by rw [h1,Yk,Ix hb p T hx hp],h2▸ Al.refl _⟩
theorem KO(w0:World)(a po pn:Option Addr)(n c co ln cn:Nat)(xs new:List Int)(b:Int)(hs:Sl w0 1 (.slice a n c) n (xs.map (Value.int .u8)))(hnil:a=none→c=0)(ho:Sl w0 1 (.slice po 1 co) 1 ([b].map (Value.int .u8)))(hw:Sl w0 1 (.slice pn ln cn) ln (new.map (Value.int .u8)))
 (hb:0≤b∧b<256) (hx:∀x∈xs,0≤x∧x<256) (hb1:n≤1000000000) (hb3:ln≤1000):
 Calls Tryz.prog 119 #[.slice a n c, .slice po 1 co, .slice pn ln cn] w0 fun e w=>∃(ao:Option Addr) (c':Nat),e= .returned (.slice ao (Gi b new xs).length c')∧St w0 w [own 5 1 ao (Gi b new xs).length c' ((Gi b new xs).map (Value.int .u8))]:=by
 obtain ⟨h1,h2,h3,h4⟩:=Hr b new xs
 obtain ⟨ps,hps⟩:∃ps,(GJ b xs).1=ps:=⟨_,rfl⟩
 obtain ⟨last,hlast⟩:∃l,(GJ b xs).2=l:=⟨_,rfl⟩
 rw [hps,hlast] at h1 h2
 rw [hps] at h3 h4
 rw [←RC] at h1 h2
 have hmem:∀k (h:k<ps.length),∃T,xs.drop (pre [b] ps k).length=ps[k]++b::T:=fun k h=>by
  obtain ⟨T,hT⟩:=Ib [b] ps k ps.length rfl h
  refine ⟨T++last,?_⟩
  rw [←h1,hT,List.append_assoc,List.drop_left' rfl]
  simp
 have HC:Bw (∀w,Al w0 w→Calls Tryz.prog 141 #[.slice a n c, .slice po 1 co] w fun e w'=>e= .returned (.int .i64 (ps.length:Nat))∧Al w w'):=⟨fun w hE=>h3▸ PP w a po n c co xs b (hs.ext hE) hnil (ho.ext hE) hb hx⟩
 have HI:Bw (∀k (h:k<ps.length) w,Al w0 w→Calls Tryz.prog 142 #[.slice (cutAt a c (pre [b] ps k).length 1) (n-(pre [b] ps k).length) (c-(pre [b] ps k).length), .slice po 1 co] w fun e w'=>e= .returned (.int .i64 (ps[k].length:Nat))∧Al w w'):=⟨fun k h w hE=>by
  obtain ⟨T,hT⟩:=hmem k h
  have hln:xs.length=n:=by have:=hs.1;simpa using this
  have hle:(pre [b] ps k).length≤n:=by
   have:=Mi [b] ps k ps.length (by omega)
   have h5:=congrArg List.length h1
   rw [List.length_append] at h5
   omega
  have hsl:=(hs.ext hE).cutAt (pre [b] ps k).length n hle (Nat.le_refl _)
  have h6:((xs.map (Value.int .u8)).drop ((pre [b] ps k).length*1)).take ((n-(pre [b] ps k).length)*1)=(ps[k]++b::T).map (Value.int .u8):=by
   rw [Nat.mul_one,Nat.mul_one,←List.map_drop,←List.map_take,List.take_of_length_le (by rw [List.length_drop];omega),hT]
  rw [h6] at hsl
  refine Pm w _ po _ _ co ps[k] T b hsl (ho.ext hE) hb (fun x hxm=>hx x ?_) (h4 _ (List.getElem_mem h))
  have:x∈xs.drop (pre [b] ps k).length:=by rw [hT];simp [hxm]
  exact List.mem_of_mem_drop this⟩
 have HR:=I3 w0 a po pn n c 1 co ln cn ps.length ps last [b] new rfl (h1.symm▸ hs) ho hw (by decide) hb1 (by decide) hb3 HC HI
 rw [h2] at HR
 have HRv:Bw _:=⟨HR⟩
 have hS:=St.start w0
 clear HC HI HR hmem h1 h2 h3 h4 hps hlast
 obtain ⟨R,hR⟩:∃R,Gi b new xs=R:=⟨_,rfl⟩
 rw [hR] at HRv⊢
 clear hR
 go_enter Tryz.func119,Tryz.ntmps119
 repeat' (first
  | (refine A3 135 ?_);refine A4 AA Tryz.call135 (HRv.out) ?_;rintro e w ⟨ao,c',rfl,hS2⟩;replace hS:=hS2;clear hS2;refine Ae ?_;go_step|refine X0 ?_|refine AG ?_;go_step|fail)
 go_ret
 exact ⟨ao,c',rfl,hS⟩
def Db(l:List Int):List Int:=Gi 255 [255,0] l
theorem Mu(l:List Int):(Db l).length=l.length+l.count 255:=by
 induction l with
 | nil=>rfl
 | cons x l ih=>
   have e:Db (x::l)=(if x=255 then [255,0] else [x])++Db l:=by simp [Db,Gi]
   rw [e,List.length_append,ih,List.length_cons,List.count_cons]
   by_cases h:x=255
   ·subst h;simp;omega
   simp [h];omega
theorem Si(w0:World)(a:Option Addr)(n c:Nat)(xs:List Int)(hs:Sl w0 1 (.slice a n c) n (xs.map (Value.int .u8)))(hnil:a=none→c=0)(hx:∀x∈xs,0≤x∧x<256)(hb1:n≤1000000000):
 Calls Tryz.prog 112 #[.slice a n c] w0 fun e w=>∃(ao:Option Addr) (c':Nat),e= .returned (.slice ao (Db xs).length c')∧St w0 w [own 5 1 ao (Db xs).length c' ((Db xs).map (Value.int .u8))]:=by
 have hS:=St.start w0
 have HX:Bw _:=⟨hx⟩
 clear hx
 go_enter Tryz.func112,Tryz.ntmps112
 repeat' (first
  | (refine A3 119 ?_);refine A4 AA Tryz.call119 (KO _ a (some ⟨g4,0,none⟩) (some ⟨g5,0,none⟩) n c 1 2 2 xs [255,0] 255 (hs.ext hS.1) hnil (hS.slBlk (n:=1) (cs:=[.int .u8 255]) AJ (by rfl) (by decide)) (hS.slBlk (n:=2) (cs:=[.int .u8 255, .int .u8 0]) AJ (by rfl) (by decide)) (by decide) HX.out hb1 (by decide)) ?_;rintro e w ⟨ao,c',rfl,hS2⟩;replace hS:=hS.call1 hS2;clear hS2;refine Ae ?_;go_step|refine X0 ?_|refine Yt 4 ?_;clear hS;intro g4 w hS|refine V6 5 ?_;clear hS;intro g5 w hS|refine AG ?_;go_step|fail)
 go_ret
 refine ⟨ao,c',rfl,?_⟩
 unfold Db
 exact hS.sub AV
structure Pc where
 ad:Option Addr
 c:Nat
 xs:List Int
def Pc.val(p:Pc):Value:= .slice p.ad p.xs.length p.c
def Pc.res(p:Pc):Au:=own 5 1 p.ad p.xs.length p.c (p.xs.map (Value.int .u8))
theorem XO{W w:World}{pcs:List Pc}{rs rs':List Au}(h:St W w rs)(p:AT (star (pcs.map Pc.res)) rs rs'){x:Pc}(hx:x∈pcs):Sl w 1 x.val x.xs.length (x.xs.map (Value.int .u8)):=by
 obtain ⟨s,hs⟩:=h.starGet p (List.mem_map.2 ⟨x,hx,rfl⟩)
 exact hs.sl (show AT (own 5 1 x.ad x.xs.length x.c (x.xs.map (Value.int .u8))) (Pc.res x::s) s from .head)
def Dk:List Int→List (List Int)→List Int→List Int→Option (List (List Int)×List Int)
 | [],o,m,p=>some (o++[p],m)
 | x::l,o,m,p=>if x=255 then (match l with
   | []=>none
   | y::l'=>if y=255 then none else if y=0 then Dk l' o m (p++[255,0]) else Dk l' (o++[p]) (m++[y]) []) else Dk l o m (p++[x])
theorem aD(xs:List Int)(i:Nat)(o:List (List Int))(m p:List Int)(h:i<xs.length)(hx:AK xs i≠255):Dk (xs.drop i) o m p=Dk (xs.drop (i+1)) o m (p++[AK xs i]):=by
 have e:xs.drop i=AK xs i::xs.drop (i+1):=by rw [List.drop_eq_getElem_cons h];simp [AK,List.getD,h]
 rw [e,Dk.eq_def];dsimp only;rw [if_neg hx]
theorem Xd(xs:List Int)(i:Nat)(o:List (List Int))(m p:List Int)(h:i+1=xs.length)(hx:AK xs i=255):Dk (xs.drop i) o m p=none:=by
 have e:xs.drop i=AK xs i::xs.drop (i+1):=by rw [List.drop_eq_getElem_cons (by omega)];simp [AK,List.getD,show i<xs.length by omega]
 rw [e,List.drop_of_length_le (by omega)];simp only [Dk];rw [if_pos hx]
theorem Xg(xs:List Int)(i:Nat)(o:List (List Int))(m p:List Int)(h:i+1<xs.length)(hx:AK xs i=255):
 Dk (xs.drop i) o m p=if AK xs (i+1)=255 then none else if AK xs (i+1)=0 then Dk (xs.drop (i+2)) o m (p++[255,0]) else Dk (xs.drop (i+2)) (o++[p]) (m++[AK xs (i+1)]) []:=by
 have e:xs.drop i=AK xs i::xs.drop (i+1):=by rw [List.drop_eq_getElem_cons (by omega)];simp [AK,List.getD,show i<xs.length by omega]
 have e2:xs.drop (i+1)=AK xs (i+1)::xs.drop (i+2):=by rw [List.drop_eq_getElem_cons h];simp [AK,List.getD,h]
 rw [e,e2];simp only [Dk];rw [if_pos hx]
theorem Xf(xs:List Int)(i:Nat)(o:List (List Int))(m p:List Int)(h:xs.length≤i):Dk (xs.drop i) o m p=some (o++[p],m):=by
 rw [List.drop_of_length_le h,Dk]
theorem Ih(w0:World)(a:Option Addr)(n c:Nat)(xs:List Int)(hs:Sl w0 1 (.slice a n c) n (xs.map (Value.int .u8)))(hx:∀x∈xs,0≤x∧x<256)(hb:n≤1000000000):
 Calls Tryz.prog 60 #[.slice a n c] w0 fun e w=>(Dk xs [] [] []=none→e= .returned (.tuple #[.slice none 0 0, .slice none 0 0, .int .i64 4])∧Al w0 w)∧
  (∀ps ms,Dk xs [] [] []=some (ps,ms)→∃(pcs:List Pc) (ao am:Option Addr) (co cm lo lm:Nat),lo=ps.length∧lm=ms.length∧pcs.map (·.xs)=ps∧e= .returned (.tuple #[.slice ao lo co, .slice am lm cm, .int .i64 0])∧
    St w0 w [own 35 1 ao lo co (pcs.map Pc.val),own 3 1 am lm cm (ms.map (Value.int .i64)),star (pcs.map Pc.res)]):=by
 have hS:=St.start w0
 have hln:xs.length=n:=by have:=hs.1;simpa using this
 have hcell:∃b0 o0,∀i,i<n→a=some ⟨b0,o0,none⟩∧w0.cell? ⟨b0,o0+i,none⟩=some (.int .u8 (AK xs i)):=by
  obtain ⟨_,a1,c1,e1,_,_,hor⟩:=hs
  cases e1
  rcases hor with h0|⟨b0,o0,e2,hc⟩
  ·exact ⟨0,0,fun i hi=>by omega⟩
  refine ⟨b0,o0,fun i hi=>⟨e2,?_⟩⟩
  rw [hc i (by omega),List.getElem?_map,Cs xs i (by omega)];rfl
 obtain ⟨b0,o0,hcell⟩:=hcell
 have hrng:∀i,i<n→0≤AK xs i∧AK xs i<256:=fun i hi=>hx _ (by simp [AK,List.getD,show i<xs.length by omega])
 have HC:=AD hcell
 have HR:=AD hrng
 have HT:Hid (∃T,Dk xs [] [] []=T):=⟨_,rfl⟩
 obtain ⟨T,hT⟩:=HT.out
 rw [hT]
 clear hcell hrng HT hx hs
 go_enter Tryz.func60,Tryz.ntmps60
 repeat' (first
  | refine X8 ?_|refine AG ?_;go_step|fail)
 go_loopg [5,6,7,8] n (fun gk ov mv pv iv w=>∃(i lo lm lp:Nat) (pcs:List Pc) (m p:List Int) (ao am ap:Option Addr) (co cm cp:Nat),gk+i=n∧lo=pcs.length∧lm=m.length∧lp=p.length∧lo≤i∧lm≤i∧lp≤i∧ov= .slice ao lo co∧mv= .slice am lm cm∧pv= .slice ap lp cp∧iv= .int .i64 i∧
  Dk (xs.drop i) (pcs.map (·.xs)) m p=T∧St w0 w [own 35 1 ao lo co (pcs.map Pc.val),own 3 1 am lm cm (m.map (Value.int .i64)),own 5 1 ap lp cp (p.map (Value.int .u8)),star (pcs.map Pc.res)])
 case atStart=>exact ⟨0,0,0,0,[],[],[],none,none,none,0,0,0,by omega,rfl,rfl,rfl,by omega,by omega,by omega,rfl,rfl,rfl,rfl,hT,(((hS.star0).nilk 5 1 .u8).nilk 3 1 .i64).nil 35 1⟩
 case round=>
  clear hS hT
  obtain ⟨i,lo,lm,lp,pcs,m,p,ao,am,ap,co,cm,cp,hi,hlo,hlm,hlp,hlo2,hlm2,hlp2,rfl,rfl,rfl,rfl,hT,hS⟩:=hrel
  by_cases hlt:i<n
  ·obtain ⟨rfl,hc0⟩:=HC.out i hlt
   by_cases hx:AK xs i=255
   ·by_cases hend:i+1=n
    ·rw [Xd xs i _ _ _ (by omega) hx] at hT
     have HT:=AD hT
     rw [hx] at hc0
     clear hT hx
     repeat' (first
      | refine X1 ?_|refine WY 11 ?_|refine X4 12 ?_|refine AG ?_;go_step|fail)
     repeat' (first
      | refine X1 ?_|refine TX 17 ?_|refine JE 19 ?_|refine Vj ?_|refine AG ?_;go_step|fail)
     repeat' (first
      | refine Zg 28 ?_|refine X0 ?_|refine AG ?_;go_step|fail)
     repeat' (first
      | go_big_skip|((first|(with_reducible refine JG ?_)|(with_reducible refine QW ?_));(first|go_big_want|go_step);go_step)|((with_reducible refine An _ (.pick _ _ _) ?_);(refine BJ rfl AA ?_;go_step))|((refine AS 45 ?_);(refine Cg _ (V.eql rfl rfl) AA (fun hB=>?_) (fun hB=>?_)<;>(try exact AW)<;>go_step))|((refine AS 44 ?_);(refine As AA (V.len Tryz.underlying35 rfl) ?_;go_step))|(refine AG ?_;go_step)|fail)
     refine AM (xs:=[_,_,_]) rfl (.cons (AC.tmp rfl) (.cons (AC.tmp rfl) (.cons (AC.tmp rfl) (.nil)))) (by simp) rfl ?_
     exact ⟨fun _=>⟨rfl,hS.1⟩,fun ps ms h=>by rw [←HT.out] at h;cases h⟩
    rw [Xg xs i _ _ _ (by omega) hx] at hT
    obtain ⟨_,hc1⟩:=HC.out (i+1) (by omega)
    have hr:=HR.out (i+1) (by omega)
    rw [hx] at hc0
    obtain ⟨y,hy⟩:∃y,AK xs (i+1)=y:=⟨_,rfl⟩
    rw [hy] at hT hc1 hr
    clear hx hy
    by_cases hy255:y=255
    ·rw [if_pos hy255] at hT
     have HT:=AD hT
     clear hT
     repeat' (first
      | refine X1 ?_|refine WY 11 ?_|refine X4 12 ?_|refine AG ?_;go_step|fail)
     repeat' (first
      | refine X1 ?_|refine TX 17 ?_|refine JE 19 ?_|refine Vj ?_|refine AG ?_;go_step|fail)
     repeat' (first
      | refine Zg 28 ?_|refine X0 ?_|refine AG ?_;go_step|fail)
     repeat' (first
      | refine X0 ?_|refine Gz ?_|refine IA 45 ?_ ?_<;>intro hB<;>(try exact AW)<;>go_step|refine WY 44 ?_|refine TX 49 ?_|refine K1 51 ?_|refine Vj ?_|refine AG ?_;go_step|fail)
     refine AM (xs:=[_,_,_]) rfl (.cons (AC.tmp rfl) (.cons (AC.tmp rfl) (.cons (AC.tmp rfl) (.nil)))) (by simp) rfl ?_
     exact ⟨fun _=>⟨rfl,hS.1⟩,fun ps ms h=>by rw [←HT.out] at h;cases h⟩
    rw [if_neg hy255] at hT
    by_cases hy0:y=0
    ·rw [if_pos hy0] at hT
     have HT:=AD hT
     clear hT
     repeat' (first
      | refine X1 ?_|refine WY 11 ?_|refine X4 12 ?_|refine AG ?_;go_step|fail)
     repeat' (first
      | refine X1 ?_|refine TX 17 ?_|refine JE 19 ?_|refine Vj ?_|refine AG ?_;go_step|fail)
     repeat' (first
      | refine Zg 28 ?_|refine X0 ?_|refine AG ?_;go_step|fail)
     repeat' (first
      | refine X0 ?_|refine Gz ?_|refine IA 45 ?_ ?_<;>intro hB<;>(try exact AW)<;>go_step|refine WY 44 ?_|refine TX 49 ?_|refine K1 51 ?_|refine Vj ?_|refine AG ?_;go_step|fail)
     repeat' (first
      | refine X0 ?_|refine TX 56 ?_|refine K1 58 ?_|refine Vj ?_|refine V6 60 ?_;clear hS;intro g60 w hS|refine bg 61 ?_;clear hS;intro ad61 c61 w hS|refine AG ?_;go_step|fail)
     repeat' (first
      | (refine AS 14 ?_);(refine Ak (.int _ (((i+2:Nat):Int))) (V.as (V.addI rfl rfl (by omega)) (by omega)) (by kernel_rfl) ?_;go_step)|refine X8 ?_|refine AG ?_;go_step|fail)
     go_roundg (gk-2)
     case measure=>omega
     case rel=>exact ⟨i+2,lo,lm,lp+2,pcs,m,p++[255,0],_,_,_,_,_,_,by omega,hlo,hlm,by simp;omega,by omega,by omega,by omega,rfl,rfl,rfl,by go_num,HT.out,hS.sub AV⟩
    rw [if_neg hy0] at hT
    have HT:=AD hT
    clear hT
    repeat' (first
     | refine X1 ?_|refine WY 11 ?_|refine X4 12 ?_|refine AG ?_;go_step|fail)
    repeat' (first
     | refine X1 ?_|refine TX 17 ?_|refine JE 19 ?_|refine Vj ?_|refine AG ?_;go_step|fail)
    repeat' (first
     | refine Zg 28 ?_|refine X0 ?_|refine AG ?_;go_step|fail)
    repeat' (first
     | refine X0 ?_|refine Gz ?_|refine IA 45 ?_ ?_<;>intro hB<;>(try exact AW)<;>go_step|refine WY 44 ?_|refine TX 49 ?_|refine K1 51 ?_|refine Vj ?_|refine AG ?_;go_step|fail)
    repeat' (first
     | refine X8 ?_|refine TX 56 ?_|refine K1 58 ?_|refine Vj ?_|refine AG ?_;go_step|fail)
    refine AQ [10,11] (fun w=>St w0 w []) AA ?_
    replace hS:=hS.drew
    focus
     refine Ab 0 ?_
     refine Ab 1 ?_
     refine Ab 4 ?_
     refine Ab 5 ?_
     refine Ab 6 ?_
     refine Bf 7 BU (V.indexSl Tryz.underlying35 UF rfl rfl BI (by omega) (Nat.mul_one _) BO) ?_;go_step
     apply Cb 8 Am AA AA AA Ch [9,10,11,12,13,14] AA (hS.sub AV)
     case hfr=>intro w hS;((refine Ag ?_;apply Aj hS 5 _ rfl _ rfl (AH rfl) _;(case hc=>with_reducible assumption);refine AB ?_;go_step));refine wpList_nil ?_;exact ⟨rfl,rfl⟩
     case hd=>rfl
     refine Bf 9 BU (V.convI (by rw [Tryz.underlying5];rfl) Tryz.underlying3 rfl (IntWalk.i64_in _ (by omega))) ?_;go_step
     refine A1 [2,10] AA (by simp) (.cons Am AA ?_ (.cons Am AA ?_ (.nil)))
     rotate_left 1
     focus
      refine cg ?_;clear hS;intro g39 w hS
      refine Aa 2 ?_
      refine dO ?_;clear hS;intro g31 w hS
      refine Aa 3 ?_
      (refine AO (o:=⟨some 32,_,_,_,_,_⟩) hS _ _ 88 rfl 35 1 24 SA _ _ _ _ rfl AJ _ rfl _ _ (by (first|exact hS.slBlk AJ (by rfl) (by decide)|exact hS.sl AJ|with_reducible assumption|exact Sl.ext (by with_reducible assumption) hS.1|exact Sl.nil _ _|exact Sl.ext (by assumption) hS.1|assumption)) (by (first|exact Ad rfl|exact Ac _ _|(intro u hu;cases hu))) (by unfold maxLen;omega) (by omega) ?_;clear hS;intro ad32 c32 w hS;(first|simp only [Av] at hS|simp only [Aw] at hS|simp only [Ax] at hS|simp only [Ay] at hS|simp only [Az] at hS|skip))
      refine ⟨fun _ _=>hS.sub AV,?_⟩
      refine AF ?_
      go_step
      refine Aa 11 ?_
      (refine AO (o:=⟨some 40,_,_,_,_,_⟩) hS _ _ 30 rfl 3 1 8 Bj _ _ _ _ rfl AJ _ rfl _ _ (by (first|exact hS.slBlk AJ (by rfl) (by decide)|exact hS.sl AJ|with_reducible assumption|exact Sl.ext (by with_reducible assumption) hS.1|exact Sl.nil _ _|exact Sl.ext (by assumption) hS.1|assumption)) (by (first|exact Ad rfl|exact Ac _ _|(intro u hu;cases hu))) (by unfold maxLen;omega) (by omega) ?_;clear hS;intro ad40 c40 w hS;(first|simp only [Av] at hS|simp only [Aw] at hS|simp only [Ax] at hS|simp only [Ay] at hS|simp only [Az] at hS|skip))
      refine ⟨fun h=>absurd (by decide) h,?_⟩
      refine AF ?_
      go_step
      refine Ab 12 ?_
      refine Ab 13 ?_
      refine Ab 14 ?_
      refine AE AA ?_ _
     rotate_right 1
     focus
      refine dO ?_;clear hS;intro g31 w hS
      refine A1 [3,10] AA (by simp) (.cons Am AA ?_ (.cons Am AA ?_ (.nil)))
      rotate_left 1
      focus
       refine cg ?_;clear hS;intro g39 w hS
       refine Aa 3 ?_
       (refine AO (o:=⟨some 32,_,_,_,_,_⟩) hS _ _ 88 rfl 35 1 24 SA _ _ _ _ rfl AJ _ rfl _ _ (by (first|exact hS.slBlk AJ (by rfl) (by decide)|exact hS.sl AJ|with_reducible assumption|exact Sl.ext (by with_reducible assumption) hS.1|exact Sl.nil _ _|exact Sl.ext (by assumption) hS.1|assumption)) (by (first|exact Ad rfl|exact Ac _ _|(intro u hu;cases hu))) (by unfold maxLen;omega) (by omega) ?_;clear hS;intro ad32 c32 w hS;(first|simp only [Av] at hS|simp only [Aw] at hS|simp only [Ax] at hS|simp only [Ay] at hS|simp only [Az] at hS|skip))
       refine ⟨fun _ _=>hS.sub AV,?_⟩
       refine AF ?_
       go_step
       refine Aa 11 ?_
       (refine AO (o:=⟨some 40,_,_,_,_,_⟩) hS _ _ 30 rfl 3 1 8 Bj _ _ _ _ rfl AJ _ rfl _ _ (by (first|exact hS.slBlk AJ (by rfl) (by decide)|exact hS.sl AJ|with_reducible assumption|exact Sl.ext (by with_reducible assumption) hS.1|exact Sl.nil _ _|exact Sl.ext (by assumption) hS.1|assumption)) (by (first|exact Ad rfl|exact Ac _ _|(intro u hu;cases hu))) (by unfold maxLen;omega) (by omega) ?_;clear hS;intro ad40 c40 w hS;(first|simp only [Av] at hS|simp only [Aw] at hS|simp only [Ax] at hS|simp only [Ay] at hS|simp only [Az] at hS|skip))
       refine ⟨fun h=>absurd (by decide) h,?_⟩
       refine AF ?_
       go_step
       refine Ab 12 ?_
       refine Ab 13 ?_
       refine Ab 14 ?_
       refine AE AA ?_ _
      rotate_right 1
      focus
       (refine AO (o:=⟨some 32,_,_,_,_,_⟩) hS _ _ 88 rfl 35 1 24 SA _ _ _ _ rfl AJ _ rfl _ _ (by (first|exact hS.slBlk AJ (by rfl) (by decide)|exact hS.sl AJ|with_reducible assumption|exact Sl.ext (by with_reducible assumption) hS.1|exact Sl.nil _ _|exact Sl.ext (by assumption) hS.1|assumption)) (by (first|exact Ad rfl|exact Ac _ _|(intro u hu;cases hu))) (by unfold maxLen;omega) (by omega) ?_;clear hS;intro ad32 c32 w hS;(first|simp only [Av] at hS|simp only [Aw] at hS|simp only [Ax] at hS|simp only [Ay] at hS|simp only [Az] at hS|skip))
       refine ⟨fun _ _=>hS.sub AV,?_⟩
       refine AF ?_
       go_step
       refine Aa 10 ?_
       refine cg ?_;clear hS;intro g39 w hS
       refine Aa 11 ?_
       (refine AO (o:=⟨some 40,_,_,_,_,_⟩) hS _ _ 30 rfl 3 1 8 Bj _ _ _ _ rfl AJ _ rfl _ _ (by (first|exact hS.slBlk AJ (by rfl) (by decide)|exact hS.sl AJ|with_reducible assumption|exact Sl.ext (by with_reducible assumption) hS.1|exact Sl.nil _ _|exact Sl.ext (by assumption) hS.1|assumption)) (by (first|exact Ad rfl|exact Ac _ _|(intro u hu;cases hu))) (by unfold maxLen;omega) (by omega) ?_;clear hS;intro ad40 c40 w hS;(first|simp only [Av] at hS|simp only [Aw] at hS|simp only [Ax] at hS|simp only [Ay] at hS|simp only [Az] at hS|skip))
       refine ⟨fun h=>absurd (by decide) h,?_⟩
       refine AF ?_
       go_step
       refine Ab 12 ?_
       refine Ab 13 ?_
       refine Ab 14 ?_
       refine AE AA ?_ _
    all_goals
     repeat' (first
      | (refine AS 14 ?_);(refine Ak (.int _ (((i+2:Nat):Int))) (V.as (V.addI rfl rfl (by omega)) (by omega)) (by kernel_rfl) ?_;go_step)|refine X0 ?_|refine AG ?_;go_step|fail)
     subst hlp
     have h2:=(hS.sub (xs:=[star (pcs.map Pc.res),own 5 1 ap p.length cp (p.map (Value.int .u8)),own 35 1 ad32 (lo+1) c32 (pcs.map Pc.val++[.slice ap p.length cp]),own 3 1 ad40 (lm+1) c40 ((m++[y]).map (Value.int .i64))]) AV).starPut AT.head
     go_roundg (gk-2)
     case measure=>omega
     case rel=>
      refine ⟨i+2,lo+1,lm+1,0,pcs++[⟨ap,cp,p⟩],m++[y],[],_,_,_,_,_,_,by omega,by simp;omega,by simp;omega,rfl,by omega,by omega,by omega,rfl,rfl,rfl,by go_num,by rw [List.map_append];exact HT.out,?_⟩
      rw [show (pcs++[(⟨ap,cp,p⟩:Pc)]).map Pc.val=pcs.map Pc.val++[.slice ap p.length cp] by rw [List.map_append];rfl,show (pcs++[(⟨ap,cp,p⟩:Pc)]).map Pc.res=pcs.map Pc.res++[own 5 1 ap p.length cp (p.map (Value.int .u8))] by rw [List.map_append];rfl]
      exact (h2.nilk 5 1 .u8).sub AV
   rw [aD xs i _ _ _ (by omega) hx] at hT
   have HT:=AD hT
   obtain ⟨x,hxx⟩:∃x,AK xs i=x:=⟨_,rfl⟩
   rw [hxx] at HT hc0 hx
   clear hT hxx
   repeat' (first
    | refine X1 ?_|refine WY 11 ?_|refine X4 12 ?_|refine AG ?_;go_step|fail)
   repeat' (first
    | refine X0 ?_|refine TX 17 ?_|refine JE 19 ?_|refine TX 23 ?_|refine Vj ?_|refine Yt 25 ?_;clear hS;intro g25 w hS|refine bg 26 ?_;clear hS;intro ad26 c26 w hS|refine AG ?_;go_step|fail)
   repeat' (first
    | refine Zg 14 ?_|refine X8 ?_|refine AG ?_;go_step|fail)
   go_roundg (gk-1)
   case measure=>omega
   case rel=>exact ⟨i+1,lo,lm,lp+1,pcs,m,p++[x],_,_,_,_,_,_,by omega,hlo,hlm,by simp;omega,by omega,by omega,by omega,rfl,rfl,rfl,by go_num,HT.out,hS.sub AV⟩
  rw [Xf xs i _ _ _ (by omega)] at hT
  have HT:=AD hT
  clear hT
  repeat' (first
   | refine X1 ?_|refine WY 11 ?_|refine X4 12 ?_|refine AG ?_;go_step|fail)
  repeat' (first
   | refine X0 ?_|(refine AS 64 ?_);(refine Ag ?_;apply AU (o:=⟨some 64,_,_,_,_,_⟩) hS 88 1 _ rfl 35 1 24 SA _ _;(case hvs=>(repeat (first|exact AX.nil|(apply AX.agg;(rfl);(rfl))|(apply AX.one;exact CG;(rfl);(rfl)))));(case hn=>rfl);(case hn0=>decide);(case hns=>decide);clear hS;intro g64 w hS;refine AB ?_;go_step)|(refine AS 65 ?_);(refine Ag ?_;apply AO (o:=⟨some 65,_,_,_,_,_⟩) hS _ _ 88 rfl 35 1 24 SA _ _ _ _ rfl;(case hp=>exact AJ);(case hx=>exact rfl);(case hm=>(first|exact hS.slBlk AJ (by rfl) (by decide)|exact hS.sl AJ|with_reducible assumption|exact Sl.ext (by with_reducible assumption) hS.1|exact Sl.nil _ _|exact Sl.ext (by assumption) hS.1|assumption));(case h1=>(first|exact Ad rfl|exact Ac _ _|(intro u hu;cases hu)));(case h63=>unfold maxLen;omega);(case hb=>omega);clear hS;intro ad65 c65 w hS;(first|simp only [Av] at hS|simp only [Aw] at hS|simp only [Ax] at hS|simp only [Ay] at hS|simp only [Az] at hS|skip);refine AB ?_;go_step)|refine AG ?_;go_step|fail)
  refine AM (xs:=[_,_,_]) rfl (.cons (AC.tmp rfl) (.cons (AC.tmp rfl) (.cons (AC.tmp rfl) (.nil)))) (by simp) rfl ?_
  subst hlp
  refine ⟨fun h=>(by rw [←HT.out] at h;cases h),fun ps ms h=>?_⟩
  rw [←HT.out] at h
  cases h
  have h2:=(hS.sub (xs:=[star (pcs.map Pc.res),own 5 1 ap p.length cp (p.map (Value.int .u8)),own 35 1 ad65 (lo+1) c65 (pcs.map Pc.val++[.slice ap p.length cp]),own 3 1 am lm cm (m.map (Value.int .i64))]) AV).starPut AT.head
  refine ⟨pcs++[⟨ap,cp,p⟩],_,_,_,_,_,_,by simp;omega,hlm,by simp,rfl,?_⟩
  rw [show (pcs++[(⟨ap,cp,p⟩:Pc)]).map Pc.val=pcs.map Pc.val++[.slice ap p.length cp] by rw [List.map_append];rfl,show (pcs++[(⟨ap,cp,p⟩:Pc)]).map Pc.res=pcs.map Pc.res++[own 5 1 ap p.length cp (p.map (Value.int .u8))] by rw [List.map_append];rfl]
  exact h2.sub AV
end Go.Proofs.YtohacgmhmbijmaaGreatDoor
