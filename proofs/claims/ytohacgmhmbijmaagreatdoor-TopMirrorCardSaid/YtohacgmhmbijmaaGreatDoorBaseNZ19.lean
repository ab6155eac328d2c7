/- What the laws FrameAlone FrameGray FrameNear FrameFlat TopScale TopMirror need, part 19. -/
import Derived.Test.YtohacgmhmbijmaaGreatDoorBaseNZ1
import Derived.Test.YtohacgmhmbijmaaGreatDoorBaseNZ2
import Derived.Test.YtohacgmhmbijmaaGreatDoorBaseNZ3
import Derived.Test.YtohacgmhmbijmaaGreatDoorBaseNZ6
import Derived.Test.YtohacgmhmbijmaaGreatDoorBaseNZ18
namespace Go.Proofs.YtohacgmhmbijmaaGreatDoor
attribute [local irreducible] Region.wanted
open Go.RowKit
set_option linter.unusedVariables false
set_option maxRecDepth 100000
set_option maxHeartbeats 8000000
theorem UC:∀j:Nat,j<8→CX (fun k=>ab (At j k)) 8≤23168:=by decide+kernel
theorem j5{b:List Int}{B:Int}(hB:0≤B)(hb:∀p,-B≤AF b p∧AF b p≤B)(i j:Nat)(hi:i<8)(hj:j<8): -(B*23168*23168)≤dD At b i j∧dD At b i j≤B*23168*23168:=by
 have h1:∀r,-(B*23168)≤iN At b j r∧iN At b j r≤B*23168:=fun r=>by
  have h:=KZ (fun k=>AF b (8*r+k)) (fun k=>At j k) B 8 (fun k _=>hb _) hB
  have h2:B*CX (fun k=>ab (At j k)) 8≤B*23168:=Int.mul_le_mul_of_nonneg_left (UC j hj) hB
  unfold iN
  omega
 have h:=KZ (fun r=>iN At b j r) (fun r=>At i r) (B*23168) 8 (fun r _=>h1 r) (by omega)
 have h2:B*23168*CX (fun k=>ab (At i k)) 8≤B*23168*23168:=Int.mul_le_mul_of_nonneg_left (UC i hi) (by omega)
 unfold dD
 omega
theorem P7{b:List Int}(hb:b.length=64)(h:∀p,-128≤AF b p∧AF b p≤128)(p:Nat): -1025≤AF (Gp b) p∧AF (Gp b) p≤1025:=by
 have ob:GD b=true:=(FQ _ hb).2 fun p hp=>by have:=h p;omega
 by_cases hp:p<64
 ·unfold Gp
  rw [EU _ _ ob _ hp]
  have h1:=j5 (B:=128) (by omega) h (p/8) (p%8) (by omega) (by omega)
  have h2:=CL (dD At b (p/8) (p%8)) 67108864 (by omega)
  omega
 have:=B7 At b
 rw [Bp _ _ (by unfold Gp;rw [this.out];omega)];omega
theorem d7(n:Int):FI n 1=n:=by unfold FI;split<;>omega
theorem PW:Ej (List.replicate 64 1)=true:=by decide+kernel
theorem E7{b:List Int}{lo hi:Int}(h:∀p,lo≤AF b p∧AF b p≤hi):By b lo hi=true:=(Aw _ _ _).2 fun i _=>h i
theorem Yl{b:List Int}(hb:b.length=64)(h:∀p,-2047≤AF b p∧AF b p≤2047):Bc b (List.replicate 64 1)=b:=by
 unfold Bc
 rw [PW,E7 fun p=>(by have:=h p;omega: -40000≤AF b p∧AF b p≤40000)]
 show Cg dn b (List.replicate 64 1)=b
 have hl:(Cg dn b (List.replicate 64 1)).length=64:=by unfold Cg;rw [List.length_zipWith,List.length_replicate,hb];rfl
 refine Bz (by rw [hl,hb]) fun i hi=>?_
 rw [hl] at hi
 rw [Ct _ _ _ hb List.length_replicate i hi,BS _ _ _ hi]
 unfold dn
 rw [d7]
 have:=h i
 omega
theorem i4{b:List Int}(hb:b.length=64)(h:∀p,-2047≤AF b p∧AF b p≤2047):It b (List.replicate 64 1)=b:=by
 unfold It
 rw [PW,E7 h]
 show Cg SI b (List.replicate 64 1)=b
 have hl:(Cg SI b (List.replicate 64 1)).length=64:=by unfold Cg;rw [List.length_zipWith,List.length_replicate,hb];rfl
 refine Bz (by rw [hl,hb]) fun i hi=>?_
 rw [hl] at hi
 rw [Ct _ _ _ hb List.length_replicate i hi,BS _ _ _ hi]
 unfold SI
 have:=h i
 omega
theorem Sb{m h:Int}{p:List Int}(hp:∀i,0≤AF p i∧AF p i≤255)(j:Nat): -128≤AF (C8 p m h) j∧AF (C8 p m h) j≤127:=by
 by_cases hj:j<Aa m h*64
 ·rw [C8,Cm _ _ _ hj]
  unfold KF
  have:=hp ((min (GW ((m+7)/8) (j/64:Nat) (j%64:Nat)) (h-1))*m+min (FH ((m+7)/8) (j/64:Nat) (j%64:Nat)) (m-1)).toNat
  omega
 rw [Bp _ _ (by unfold C8;rw [Bb];omega)];omega
theorem TT{l:List Int}{lo hi:Int}(h0:lo≤0∧0≤hi)(hl:∀j,lo≤AF l j∧AF l j≤hi)(k p:Nat):lo≤AF (BY l 64 k) p∧AF (BY l 64 k) p≤hi:=by
 by_cases hp:p<64
 ·rw [Db _ _ _ _ hp];exact hl _
 have:(BY l 64 k).length≤64:=by unfold BY;rw [List.length_take];omega
 rw [Bp _ _ (by omega)];exact h0
theorem Zq{m h:Int}{p:List Int}{M:Nat}(hok:1≤m∧m≤64∧1≤h∧h≤64)(hM:(M:Int)=m*h)(hp:∀i,0≤AF p i∧AF p i≤255)(x:Nat)(hx:x<M):
 -4≤AF p x-AF (Ei m h (List.replicate 64 1) p) x∧AF p x-AF (Ei m h (List.replicate 64 1) p) x≤4:=by
 obtain ⟨k,i,hk,hi,e1,e2,e3⟩:=Lc (p:=p) hok hM hx
 rw [PZ List.length_replicate hM hx e1 e2 hk hi]
 obtain ⟨b,hb⟩:∃b,BY (C8 p m h) 64 k=b:=⟨_,rfl⟩
 have hbl:b.length=64:=by rw [←hb];exact Br _ _ _ _ (by unfold C8;rw [Bb]) hk
 have hbi:∀j,-128≤AF b j∧AF b j≤127:=by rw [←hb];exact TT (by omega) (Sb hp) k
 rw [hb] at e3⊢
 have hw:=P7 hbl fun p=>by have:=hbi p;omega
 have hwl:(Gp b).length=64:=(B7 _ _).out
 unfold Jz Oq
 rw [Yl hwl fun p=>by have:=hw p;omega,i4 hwl fun p=>by have:=hw p;omega]
 obtain ⟨_,_,hn⟩:=Tl b hbl fun p _=>by have:=hbi p;omega
 have h1:=hn i hi
 have h2:=hbi i
 have h3:=hp x
 have hfl:(Em (Gp b)).length=64:=(B7 _ _).out
 rw [JR _ _ _ (by omega)]
 omega
theorem Ye{m h:Int}(hok:1≤m∧m≤64∧1≤h∧h≤64){M:Nat}(hM:(M:Int)=m*h)(n:Int):C8 (List.replicate M n) m h=List.replicate (Aa m h*64) (n-128):=by
 refine Bz (by unfold C8;rw [Bb,List.length_replicate]) fun i hi=>?_
 unfold C8 at hi⊢
 rw [Bb] at hi
 rw [Cm _ _ _ hi,BS _ _ _ hi]
 unfold KF
 have hp:=G8 m h ⟨hok.1,hok.2.1⟩ ⟨hok.2.2.1,hok.2.2.2⟩ (i/64:Nat) (i%64:Nat) (by omega) (by omega)
 rw [BS _ _ _ (by omega)]
theorem ar(z:Int)(hz: -128≤z∧z≤128)(p:Nat)(hp:p<64):AF (Gp (List.replicate 64 z)) p=if p=0 then FI (z*536756224) 67108864 else 0:=by
 have hn:∀p,p<64→AF (List.replicate 64 z) p=z:=fun p hp=>BS _ _ _ hp
 have ob:GD (List.replicate 64 z)=true:=(FQ _ List.length_replicate).2 fun p hp=>by rw [hn p hp];omega
 unfold Gp
 rw [EU _ _ ob _ hp]
 by_cases h0:p=0
 ·subst h0
  rw [if_pos rfl,dE hn]
 rw [if_neg h0]
 have h1:dD At (List.replicate 64 z) (p/8) (p%8)=0:=by
  by_cases hj:p%8=0
  ·exact dF (fun r k hr hk=>by rw [hn _ (by omega),hn _ (by omega)]) _ _ (by omega) (by omega)
  exact dC hn _ _ (by omega) (by omega)
 rw [h1];exact Mw (by omega)
theorem P6{b:List Int}{N:Int}(hN: -40000≤N∧N≤40000)(hl:b.length=64)(hb:∀p,p<64→AF b p=if p=0 then N else 0)(p:Nat)(hp:p<64):AF (Em b) p=FI (N*8386816) 67108864:=by
 have ob:GD b=true:=(FQ _ hl).2 fun p hp=>by rw [hb p hp];split<;>omega
 unfold Em
 rw [EU _ _ ob _ hp,WL (a:=0) (by omega) hb]
 have e:∀j:Nat,YY j (0%8:Nat)=2896:=fun j=>rfl
 have e2:∀j:Nat,YY j (0/8:Nat)=2896:=fun j=>rfl
 rw [e,e2,Int.mul_assoc]
 rfl
theorem TO{c:Int}(hc:1≤c∧c≤255):Ej (List.replicate 64 c)=true:=(Aw _ _ _).2 fun i hi=>by rw [List.length_replicate] at hi;rw [BS _ _ _ hi];exact hc
theorem ag(z c:Int)(hz: -128≤z∧z≤127)(hc:1≤c∧c≤255):
 ∃v,(∀p,p<64→AF (Oq (List.replicate 64 c) (Jz (List.replicate 64 c) (List.replicate 64 z))) p=v)∧ -(c/16+2)≤v-z∧v-z≤c/16+2:=by
 have hw:=ar z (by omega)
 have hwb:=P7 (b:=List.replicate 64 z) List.length_replicate fun p=>by
  by_cases hp:p<64
  ·rw [BS _ _ _ hp];omega
  rw [Bp _ _ (by rw [List.length_replicate];omega)];omega
 obtain ⟨T,hT⟩:∃T,Gp (List.replicate 64 z)=T:=⟨_,rfl⟩
 have hTl:T.length=64:=by rw [←hT];exact (B7 _ _).out
 rw [hT] at hw hwb
 obtain ⟨D,hD⟩:∃D,FI (z*536756224) 67108864=D:=⟨_,rfl⟩
 have s1:=CL (z*536756224) 67108864 (by omega)
 rw [hD] at s1 hw
 have hDb:=hwb 0
 rw [hw 0 (by omega),if_pos rfl] at hDb
 have s2:=CL D c (by omega)
 obtain ⟨R,hR⟩:∃R,FI D c=R:=⟨_,rfl⟩
 have hRb:=Mv D c 1025 (by omega) (by omega) (by omega)
 rw [hR] at s2 hRb
 -- coarser
 have hdn:∀p,p<64→AF (Bc T (List.replicate 64 c)) p=if p=0 then R else 0:=fun p hp=>by
  unfold Bc
  rw [TO hc,E7 fun p=>(by have:=hwb p;omega: -40000≤AF T p∧AF T p≤40000)]
  show AF (Cg dn T (List.replicate 64 c)) p=_
  rw [Ct _ _ _ hTl List.length_replicate p hp,BS _ _ _ hp,hw p hp]
  unfold dn
  by_cases h0:p=0
  ·rw [if_pos h0,if_pos h0,hR];omega
  rw [if_neg h0,if_neg h0,Mw (by omega)];rfl
 have hdl:(Bc T (List.replicate 64 c)).length=64:=Fx _ _ hTl List.length_replicate
 obtain ⟨t,ht⟩:∃t,R*c=t:=⟨_,rfl⟩
 rw [Int.mul_comm c R,ht] at s2
 have hup:∀p,p<64→AF (It (Bc T (List.replicate 64 c)) (List.replicate 64 c)) p=if p=0 then t else 0:=fun p hp=>by
  have hin:∀p,-2047≤AF (Bc T (List.replicate 64 c)) p∧AF (Bc T (List.replicate 64 c)) p≤2047:=fun p=>by
   by_cases hp:p<64
   ·rw [hdn p hp];split<;>omega
   rw [Bp _ _ (by omega)];omega
  unfold It
  rw [TO hc,E7 hin]
  show AF (Cg SI _ (List.replicate 64 c)) p=_
  rw [Ct _ _ _ hdl List.length_replicate p hp,BS _ _ _ hp,hdn p hp]
  unfold SI
  by_cases h0:p=0
  ·rw [if_pos h0,if_pos h0,ht];omega
  rw [if_neg h0,if_neg h0,Int.zero_mul];rfl
 have hul:(It (Bc T (List.replicate 64 c)) (List.replicate 64 c)).length=64:=Jq _ _ hdl List.length_replicate
 have hf:=P6 (b:=It (Bc T (List.replicate 64 c)) (List.replicate 64 c)) (N:=t) (by omega) hul hup
 have hfl:(Em (It (Bc T (List.replicate 64 c)) (List.replicate 64 c))).length=64:=(B7 _ _).out
 have s3:=CL (t*8386816) 67108864 (by omega)
 obtain ⟨V,hV⟩:∃V,FI (t*8386816) 67108864=V:=⟨_,rfl⟩
 rw [hV] at s3 hf
 refine ⟨V,fun p hp=>?_,by omega,by omega⟩
 unfold Oq Jz
 rw [hT,JR _ _ _ (by omega),hf p hp]
 omega
theorem Zp{m h:Int}{M:Nat}{n c:Int}(hok:1≤m∧m≤64∧1≤h∧h≤64)(hM:(M:Int)=m*h)(hn:0≤n∧n≤255)(hc:1≤c∧c≤255):
 ∃v,Ei m h (List.replicate 64 c) (List.replicate M n)=List.replicate M v∧(0≤v∧v≤255)∧ -(c/16+2)≤v-n∧v-n≤c/16+2:=by
 obtain ⟨v,hv,h1,h2⟩:=ag (n-128) c (by omega) hc
 refine ⟨min (max (v+128) 0) 255,?_,by omega,by omega,by omega⟩
 refine Bz (by rw [JW hM,List.length_replicate]) fun x hx=>?_
 rw [JW hM] at hx
 obtain ⟨k,i,hk,hi,e1,e2,_⟩:=Lc (p:=List.replicate M n) hok hM hx
 rw [PZ List.length_replicate hM hx e1 e2 hk hi,Ye hok hM,Le hk,hv i hi,BS _ _ _ hx]
end Go.Proofs.YtohacgmhmbijmaaGreatDoor
namespace Go.Proofs.YtohacgmhmbijmaaGreatDoor
attribute [local irreducible] Region.wanted
open Go.ChangeShapes Go.WideShapes Go.ChangeAt Go.RowKit Go.Deep
set_option linter.unusedVariables false
set_option maxRecDepth 100000
set_option maxHeartbeats 8000000
theorem RH(a b:List Int)(i:Nat)(h:i<a.length):AF (a++b) i=AF a i:=by
 simp only [AF,List.getD_eq_getElem?_getD,List.getElem?_append_left h]
theorem RI(a b:List Int)(i j:Nat)(h:i=a.length+j):AF (a++b) i=AF b j:=by
 subst h
 simp only [AF,List.getD_eq_getElem?_getD]
 rw [List.getElem?_append_right (by omega),Nat.add_sub_cancel_left]
theorem YX(C:List Int):∀(K k:Nat),k<K→AF (cb C K) (2*k)=AF C k/256∧AF (cb C K) (2*k+1)=AF C k%256
 | 0,k,h=>by omega
 | K+1,k,h=>by
   have hl:=fF C K
   by_cases hk:k<K
   ·rw [cb,RH _ _ _ (by omega),RH _ _ _ (by omega)]
    exact YX C K k hk
   obtain rfl:k=K:=by omega
   rw [cb,RI _ _ _ 0 (by omega),RI _ _ _ 1 (by omega)]
   exact ⟨rfl,rfl⟩
theorem fQ(P C R:List Int)(p k:Nat)(hp:P.length=p)(hk:k<16):rC (P++(cb C 16++R)) p k=AF C k:=by
 have hl:=fF C 16
 obtain ⟨h1,h2⟩:=YX C 16 k hk
 unfold rC
 rw [RI P _ _ (2*k) (by omega),RI P _ _ (2*k+1) (by omega),RH _ _ _ (by omega),RH _ _ _ (by omega),h1,h2]
 omega
theorem Zx(P C R:List Int)(p:Nat)(hp:P.length=p)(hC:C.length=16):Jb (P++(cb C 16++R)) p 16=C:=by
 have hl:(Jb (P++(cb C 16++R)) p 16).length=16:=by simp [Jb]
 refine Bz (by rw [hl,hC]) fun i hi=>?_
 rw [hl] at hi
 rw [←fQ P C R p i hp hi]
 simp [Jb,AF,List.getD,hi]
theorem Zw(P C R:List Int)(p:Nat)(hp:P.length=p)(h0:∀k,k<16→0≤AF C k):∀k,k≤16→rA (P++(cb C 16++R)) p k=((sm (cc C) k:Nat):Int)
 | 0,_=>rfl
 | k+1,hk=>by
   have h1:=MI C k (h0 k (by omega))
   have h2:sm (cc C) (k+1)=sm (cc C) k+cc C k:=rfl
   rw [rA,Zw P C R p hp h0 k (by omega),fQ P C R p k hp (by omega),h2]
   omega
theorem Zy(P S R:List Int)(p n:Nat)(hp:P.length=p)(hn:S.length=n):rS (P++(S++R)) p n=S:=by
 have hl:(rS (P++(S++R)) p n).length=n:=by simp [rS]
 refine Bz (by rw [hl,hn]) fun i hi=>?_
 rw [hl] at hi
 have e:AF (rS (P++(S++R)) p n) i=AF (P++(S++R)) (p+i):=by simp [rS,AF,List.getD,hi]
 rw [e,RI P _ _ i (by omega),RH _ _ _ (by omega)]
theorem ia(P C S R:List Int)(hP:P.length=70)(h:A5 C S=0):Pb (P++(cb C 16++R))=S.length:=by
 have k:=CM h
 rw [Pb,Zw P C R 70 hP (fun i hi=>(k.1 i hi).1) 16 (Nat.le_refl _),k.2.1]
 rfl
theorem ie(l P C S R:List Int)(hl:l=P++(cb C 16++R))(hP:P.length=102+Pb l)(h:A5 C S=0):Uy l=S.length:=by
 have k:=CM h
 rw [Uy,←hP]
 conv=>lhs;rw [hl]
 rw [Zw P C R P.length rfl (fun i hi=>(k.1 i hi).1) 16 (Nat.le_refl _),k.2.1]
 rfl
def KU(f:BV):List Int:=IR f++Ez f.quant
theorem JX(f:BV):(KU f).length=70:=by simp [KU,IR,CF]
theorem Ea(f:BV):BU f=KU f++(cb f.c1 16++(f.s1++(cb f.c2 16++(f.s2++B8 f)))):=by
 simp [BU,KU,XI,NF,List.append_assoc]
theorem Er(f:BV):BU f=(KU f++(cb f.c1 16++f.s1))++(cb f.c2 16++(f.s2++B8 f)):=by
 rw [Ea];simp [List.append_assoc]
theorem JY(f:BV):(KU f++(cb f.c1 16++f.s1)).length=102+f.s1.length:=by
 simp only [List.length_append,JX,fF];omega
theorem WM(D:List Nat):(D.map fun (x:Nat)=>(x:Int)).map Int.toNat=D:=by
 rw [List.map_map]
 conv=>rhs;rw [←List.map_id D]
 exact List.map_congr_left fun x _=>by simp
theorem Vw{f:BV}(h:Cq f=0)(hQ:f.quant.length=64)(h1:f.c1.length=16)(h2:f.c2.length=16):Dg (BU f)=0∧Eh (BU f)=f∧Pb (BU f)=f.s1.length∧Uy (BU f)=f.s2.length∧Wy (BU f)=134+f.s1.length+f.s2.length:=by
 obtain ⟨hdm,hqk,ht1,ht2,hdl⟩:=Gz h
 have e1:Pb (BU f)=f.s1.length:=by rw [Ea];exact ia _ _ _ _ (JX f) ht1
 have e2:Uy (BU f)=f.s2.length:=ie _ _ _ _ _ (Er f) (by rw [JY,e1]) ht2
 have e3:Wy (BU f)=134+f.s1.length+f.s2.length:=by rw [Wy,e1,e2];omega
 have hlen:=Zr f
 have c1:=(CM ht1).2.2.1
 have c2:=(CM ht2).2.2.1
 have hF:Eh (BU f)=f:=by
  unfold Eh
  rw [e1,e2,e3]
  have q1:rQ (BU f) 64=Ez f.quant:=by
   show rS (BU f) 6 64=_
   rw [Ea,KU,List.append_assoc]
   exact Zy (IR f) (Ez f.quant) _ 6 64 rfl (CF _)
  have q2:Jb (BU f) 70 16=f.c1:=by rw [Ea];exact Zx _ _ _ _ (JX f) h1
  have q3:rS (BU f) 102 f.s1.length=f.s1:=by
   rw [Ea,show KU f++(cb f.c1 16++(f.s1++(cb f.c2 16++(f.s2++B8 f))))=(KU f++cb f.c1 16)++(f.s1++(cb f.c2 16++(f.s2++B8 f))) by simp [List.append_assoc]]
   exact Zy _ _ _ _ _ (by simp only [List.length_append,JX,fF]) rfl
  have q4:Jb (BU f) (102+f.s1.length) 16=f.c2:=by rw [Er];exact Zx _ _ _ _ (JY f) h2
  have q5:rS (BU f) (102+f.s1.length+32) f.s2.length=f.s2:=by
   rw [Er,show (KU f++(cb f.c1 16++f.s1))++(cb f.c2 16++(f.s2++B8 f))=((KU f++(cb f.c1 16++f.s1))++cb f.c2 16)++(f.s2++B8 f) by simp [List.append_assoc]]
   exact Zy _ _ _ _ _ (by rw [List.length_append,JY,fF]) rfl
  have q6:(BU f).drop (134+f.s1.length+f.s2.length)=B8 f:=by
   rw [Er,show (KU f++(cb f.c1 16++f.s1))++(cb f.c2 16++(f.s2++B8 f))=(((KU f++(cb f.c1 16++f.s1))++cb f.c2 16)++f.s2)++B8 f by simp [List.append_assoc]]
   exact List.drop_left' (by rw [List.length_append,List.length_append,JY,fF];omega)
  rw [q1,q2,q3,q4,q5,q6,B8,WM,O0 _ hQ]
  rfl
 refine ⟨?_,hF,e1,e2,e3⟩
 rw [Dg,if_neg (by omega),if_neg (by omega),hF,if_pos ⟨h,rfl⟩]
end Go.Proofs.YtohacgmhmbijmaaGreatDoor
namespace Go.Proofs.YtohacgmhmbijmaaGreatDoor
attribute [local irreducible] Region.wanted
open Go.RowKit
set_option linter.unusedVariables false
set_option maxRecDepth 100000
set_option maxHeartbeats 8000000
theorem WV(n:Int)(i:Nat)(h:i<64):(List.replicate i n++List.replicate (64-i) 0).set i n=List.replicate (i+1) n++List.replicate (64-(i+1)) 0:=by
 obtain ⟨m,hm⟩:∃m,64-i=m+1:=⟨64-i-1,by omega⟩
 rw [hm,show 64-(i+1)=m by omega,List.set_append_right _ _ (by simp),List.length_replicate,Nat.sub_self,List.replicate_succ,List.set_cons_zero,List.replicate_succ',List.append_assoc]
 rfl
theorem OZ(w0:World)(n:Int):Calls Tryz.prog 62 #[.int .i64 n] w0 fun e w=>e= .returned (.agg (iv (List.replicate 64 n)))∧Ah w0 w:=by
 have hS:=St.start w0
 go_enter Tryz.func62,Tryz.ntmps62
 repeat' (first
  | refine X1 ?_|refine Kk 2 ?_;clear hS;intro g2 w hS|refine AG ?_;go_step|fail)
 go_loopg [4] 64 (fun gk kv w=>∃k:Nat,gk+k=64∧kv= .int .i64 k∧St w0 w [arr g2 64 (List.replicate k n++List.replicate (64-k) 0)])
 case atStart=>exact ⟨0,rfl,rfl,by rw [show List.replicate 0 n++List.replicate (64-0) 0=List.replicate 64 0 by simp];exact hS.sub AV⟩
 case round=>
  clear hS
  obtain ⟨k,hk,rfl,hS⟩:=hrel
  by_cases hlt:k<64
  ·have HX:=AD (WV n k hlt)
   repeat' (first
    | refine X0 ?_|refine X2 ?_|refine Vq 9 ?_|refine X6 ?_|refine Xm ?_;clear hS;intro w hS|refine AG ?_;go_step|fail)
   go_roundg (gk-1)
   case measure=>omega
   case rel=>exact ⟨k+1,by omega,by go_num,by rw [←HX.out];exact hS.sub AV⟩
  obtain rfl:k=64:=by omega
  rw [show List.replicate 64 n++List.replicate (64-64) 0=List.replicate 64 n by simp] at hS
  repeat' (first
   | refine X2 ?_|refine Hp ?_|refine Ft ?_;clear hS;intro w hS|refine AG ?_;go_step|fail)
  refine BK rfl (AC.arr hS rfl (AN (n:=64) rfl) AM) rfl ?_
  exact ⟨rfl,hS.1⟩
theorem TJ(w:World)(f:BV)(a1 a2 ad:Option Addr)(n1 k1 n2 k2 nd kd:Nat)(hF:FM w f a1 a2 ad n1 k1 n2 k2 nd kd)(hE:Cq f=0):
 Calls Tryz.prog 39 #[fv f (.slice a1 n1 k1) (.slice a2 n2 k2) (.slice ad nd kd)] w fun e w'=>∃(ao:Option Addr) (co:Nat),e= .returned (.tuple #[.slice ao (BU f).length co, .int .i64 0])∧St w w' [own 5 1 ao (BU f).length co ((BU f).map (Value.int .u8))]:=
 Ut w f a1 a2 ad n1 n2 nd k1 k2 kd hF.q hF.l1 hF.l2 hF.s1 hF.s2 hF.sd hE
theorem Ww(w0:World)(a:Option Addr)(n c:Nat)(l:List Int)(hv:Sl w0 1 (.slice a n c) n (l.map (Value.int .u8)))(hr:Hid (∀i,i<l.length→0≤AF l i∧AF l i<256))(hE:Dg l=0)(f:BV)(hf:Eh l=f)(m1 m2 md:Nat)(q1:Pb l=m1)(q2:Uy l=m2)(q3:l.length-Wy l=md)(Dt:List Int)(hD:B8 f=Dt):
 Calls Tryz.prog 40 #[.slice a n c] w0 fun e w=>∃(a1 a2 ad:Option Addr) (c1 c2 cd:Nat),e= .returned (.tuple #[fv f (.slice a1 m1 c1) (.slice a2 m2 c2) (.slice ad md cd), .int .i64 0])∧
  St w0 w [own 3 1 a1 m1 c1 (f.s1.map (Value.int .i64)),own 3 1 a2 m2 c2 (f.s2.map (Value.int .i64)),own 5 1 ad md cd (Dt.map (Value.int .u8))]:=by
 have hln:l.length=n:=by have:=hv.1;simpa using this
 have hs:n≤91000:=by
  by_cases h:91000<l.length
  ·rw [Dg,if_pos h] at hE;exact absurd hE (by decide)
  omega
 refine (TL w0 a n c l hv hr hs).mono fun e w ⟨_,k⟩=>?_
 have:=k hE
 rw [hf,q1,q2,q3,hD] at this
 exact this
theorem UH(C:List Int):∀k,(cb C k).length=2*k
 | 0=>rfl
 | k+1=>by rw [cb,List.length_append,UH C k];simp;omega
theorem TM(w:World)(f:BV)(hQ:f.quant.length=64)(h1:f.c1.length=16)(h2:f.c2.length=16)(hd:∀x∈f.data,x<256)(hE:Cq f=0)(ao:Option Addr)(co:Nat)(hv:Sl w 1 (.slice ao (BU f).length co) (BU f).length ((BU f).map (Value.int .u8))):
 Calls Tryz.prog 40 #[.slice ao (BU f).length co] w fun e w'=>∃(a1 a2 ad:Option Addr) (k1 k2 kd:Nat),e= .returned (.tuple #[fv f (.slice a1 f.s1.length k1) (.slice a2 f.s2.length k2) (.slice ad f.data.length kd), .int .i64 0])∧St w w' [own 3 1 a1 f.s1.length k1 (f.s1.map (Value.int .i64)),own 3 1 a2 f.s2.length k2 (f.s2.map (Value.int .i64)),own 5 1 ad f.data.length kd ((B8 f).map (Value.int .u8))]:=by
 obtain ⟨b1,b2,b3,b4,b5⟩:=Vw hE hQ h1 h2
 have hl:(BU f).length=134+f.s1.length+f.s2.length+f.data.length:=by
  simp only [BU,IR,XI,NF,B8,List.length_append,List.length_map,CF,UH,List.length_cons,List.length_nil]
  omega
 exact Ww w ao _ co (BU f) hv (AD (OM (Kz hE hQ hd))) b1 f b2 _ _ _ b3 b4 (by rw [b5,hl];omega) _ rfl
theorem ID(w0:World)(hml:∃m,w0.cell? ⟨0,0,none⟩=some (.int .i64 m)):Calls Tryz.prog 35 #[] w0 fun e w=>e= .returned (.bool true)∧Ah w0 w:=by
 have hS:=St.start w0
 have HML:=AD hml
 have HE:Hid (∀w a6 a7,A8 w a7 1 [⟨a6,2,[128,128]⟩]→Calls Tryz.prog 17 #[.agg #[.int .i64 2, .int .i64 1, .slice a7 1 1], .agg (iv (List.replicate 64 1)), .int .i64 3] w fun e w'=>∃(C1 S1 C2 S2 D:List Int) (a1 a2 ad:Option Addr) (n1 k1 n2 k2 nd kd:Nat),Tu (List.replicate 64 0) 1 3 C1 S1 C2 S2 D∧
  e= .returned (.tuple #[.agg (AH [.val (.int .i64 2), .val (.int .i64 1), .val (.int .i64 1), .ints (List.replicate 64 1), .ints C1, .val (.slice a1 n1 k1), .ints C2, .val (.slice a2 n2 k2), .val (.int .i64 3), .val (.slice ad nd kd)]).toArray, .int .i64 0])∧St w w' [own 3 1 a1 n1 k1 (S1.map (Value.int .i64)),own 3 1 a2 n2 k2 (S2.map (Value.int .i64)),own 5 1 ad nd kd (D.map (Value.int .u8))]):=
  fun w a6 a7 hP=>UT w 2 (by decide) 3 (by decide) a6 a7 2 1 hP
 -- the file, as one word
 have HF:Hid (∀(C1 S1 C2 S2 D:List Int),Tu (List.replicate 64 0) 1 3 C1 S1 C2 S2 D→∃f:BV,f=Fk 2 1 1 (List.replicate 64 1) C1 S1 C2 S2 3 D∧Cq f=0∧B8 f=D∧(∀x∈f.data,x<256)∧dH f=0∧fH f=[[128,128]]):=fun C1 S1 C2 S2 D he=>by
  obtain ⟨h1,h2,h3,h4,h5⟩:=Qh (m:=2) (h:=1) (np:=1) (n:=1) (K:=1) (q:=List.replicate 64 1) (B:=List.replicate 64 0) (ev:=3) (by decide) (.inl rfl) (by decide+kernel) (by decide) (by decide+kernel) rfl rfl (by decide+kernel) he
  have hlt:∀x∈D,0≤x∧x<256:=by rw [he.d];exact JB
  refine ⟨_,rfl,h2,h1,fun x hx=>?_,h4,h5.trans (PO 2 (by decide))⟩
  obtain ⟨y,hy,rfl⟩:=List.mem_map.1 hx
  have:=hlt y hy
  omega
 have HPK:Hid (∀w (C1 S1 C2 S2 D:List Int) (a1 a2 ad:Option Addr) (n1 k1 n2 k2 nd kd:Nat),Tu (List.replicate 64 0) 1 3 C1 S1 C2 S2 D→Sl w 1 (.slice a1 n1 k1) n1 (S1.map (Value.int .i64))→Sl w 1 (.slice a2 n2 k2) n2 (S2.map (Value.int .i64))→Sl w 1 (.slice ad nd kd) nd (D.map (Value.int .u8))→
  Calls Tryz.prog 39 #[.agg (AH [.val (.int .i64 2), .val (.int .i64 1), .val (.int .i64 1), .ints (List.replicate 64 1), .ints C1, .val (.slice a1 n1 k1), .ints C2, .val (.slice a2 n2 k2), .val (.int .i64 3), .val (.slice ad nd kd)]).toArray] w fun e w'=>∃(ao:Option Addr) (co N:Nat) (P:List Int),P=BU (Fk 2 1 1 (List.replicate 64 1) C1 S1 C2 S2 3 D)∧N=P.length∧e= .returned (.tuple #[.slice ao N co, .int .i64 0])∧St w w' [own 5 1 ao N co (P.map (Value.int .u8))]):=
  fun w C1 S1 C2 S2 D a1 a2 ad n1 k1 n2 k2 nd kd he s1 s2 sd=>by
   obtain ⟨f,hf,g1,g2,g3,_,_⟩:=HF.out C1 S1 C2 S2 D he
   have hlt:∀x∈D,0≤x∧x<256:=by rw [he.d];exact JB
   have hFM:=US (m:=2) (h:=1) (np:=1) (ev:=3) (q:=List.replicate 64 1) List.length_replicate he.l1 he.l2 hlt s1 s2 sd
   rw [hf] at g1
   exact (TJ w _ a1 a2 ad n1 k1 n2 k2 nd kd hFM g1).mono fun e w' ⟨ao,co,r1,r2⟩=>⟨ao,co,_,_,rfl,rfl,r1,r2⟩
 have HPA:Hid (∀w (C1 S1 C2 S2 D:List Int) (P:List Int) (N:Nat) (ao:Option Addr) (co:Nat),Tu (List.replicate 64 0) 1 3 C1 S1 C2 S2 D→P=BU (Fk 2 1 1 (List.replicate 64 1) C1 S1 C2 S2 3 D)→N=P.length→Sl w 1 (.slice ao N co) N (P.map (Value.int .u8))→
  Calls Tryz.prog 40 #[.slice ao N co] w fun e w'=>∃(a1 a2 ad:Option Addr) (n1 k1 n2 k2 nd kd:Nat),e= .returned (.tuple #[.agg (AH [.val (.int .i64 2), .val (.int .i64 1), .val (.int .i64 1), .ints (List.replicate 64 1), .ints C1, .val (.slice a1 n1 k1), .ints C2, .val (.slice a2 n2 k2), .val (.int .i64 3), .val (.slice ad nd kd)]).toArray, .int .i64 0])∧St w w' [own 3 1 a1 n1 k1 (S1.map (Value.int .i64)),own 3 1 a2 n2 k2 (S2.map (Value.int .i64)),own 5 1 ad nd kd (D.map (Value.int .u8))]):=
  fun w C1 S1 C2 S2 D P N ao co he hP hN hv=>by
   subst hN hP
   obtain ⟨f,hf,g1,g2,g3,_,_⟩:=HF.out C1 S1 C2 S2 D he
   have hlt:∀x∈D,0≤x∧x<256:=by rw [he.d];exact JB
   rw [hf] at g1 g2 g3
   refine (TM w (Fk 2 1 1 (List.replicate 64 1) C1 S1 C2 S2 3 D) List.length_replicate he.l1.out he.l2.out g3 g1 ao co hv).mono fun e w' hh=>?_
   obtain ⟨a1,a2,ad,k1,k2,kd,r1,r2⟩:=hh
   rw [g2] at r2
   exact ⟨a1,a2,ad,_,k1,_,k2,_,kd,r1,r2⟩
 have HD:Hid (∀w (C1 S1 C2 S2 D:List Int) (a1 a2 ad:Option Addr) (n1 k1 n2 k2 nd kd:Nat),(∃m,w.cell? ⟨0,0,none⟩=some (.int .i64 m))→Tu (List.replicate 64 0) 1 3 C1 S1 C2 S2 D→Sl w 1 (.slice a1 n1 k1) n1 (S1.map (Value.int .i64))→Sl w 1 (.slice a2 n2 k2) n2 (S2.map (Value.int .i64))→Sl w 1 (.slice ad nd kd) nd (D.map (Value.int .u8))→
  Calls Tryz.prog 21 #[.agg (AH [.val (.int .i64 2), .val (.int .i64 1), .val (.int .i64 1), .ints (List.replicate 64 1), .ints C1, .val (.slice a1 n1 k1), .ints C2, .val (.slice a2 n2 k2), .val (.int .i64 3), .val (.slice ad nd kd)]).toArray] w fun e w'=>∃(a:Option Addr) (c:Nat) (R:List Rw),R.map (·.xs)=[[128,128]]∧e= .returned (.tuple #[.agg #[.int .i64 2, .int .i64 1, .slice a R.length c], .int .i64 0])∧Dd w w' a c R []):=
  fun w C1 S1 C2 S2 D a1 a2 ad n1 k1 n2 k2 nd kd hm he s1 s2 sd=>by
   refine (O8 w (m:=2) (h:=1) (np:=1) (n:=1) (K:=1) (q:=List.replicate 64 1) (B:=List.replicate 64 0) (ev:=3) (by decide) (.inl rfl) List.length_replicate (by decide+kernel) (by decide) (by decide+kernel) rfl rfl (by decide+kernel) he s1 s2 sd hm).mono fun e w' hh=>?_
   obtain ⟨a,c,R,r1,r2,r3⟩:=hh
   exact ⟨a,c,R,r1.trans (PO 2 (by decide)),r2,r3⟩
 clear hml HF
 go_enter Tryz.func35,Tryz.ntmps35
 repeat' (first
  | refine X8 ?_|refine YG 12 ?_|(refine AQ 10 ?_);(refine Ad ?_;apply AU (o:=⟨some 10,_,_,_,_,_⟩) hS 30 2 _ rfl 3 1 8 Nv _ _;(case hvs=>(repeat (first|exact AX.nil|(apply AX.agg;(rfl);(rfl))|(apply AX.one;exact CK;(rfl);(rfl)))));(case hn=>rfl);(case hn0=>decide);(case hns=>decide);clear hS;intro g10 w hS;refine AB ?_;go_step)|refine eh 11 ?_;clear hS;intro g11 w hS|refine Tz 1 ?_;clear hS;intro g1 w hS|refine T2 ?_;clear hS;intro w hS|refine AG ?_;go_step|fail)
 refine AP [2,7] (fun w=>St w0 w [blk g1 [.int .i64 2, .int .i64 1, .slice (some ⟨g11,0,none⟩) 1 1],blk g11 [.slice (some ⟨g10,0,none⟩) 2 2],blk g10 [.int .i64 128, .int .i64 128]]) AA ?_
 replace hS:=hS.drew
 focus
  refine kc 0 [2,3,4,5,7,8] ?_
  refine Ay [1,6] AA (by simp) (.cons Ai AA ?_ (.cons Ai AA ?_ (.nil)))
  rotate_left 1
  focus
   refine Y8 ?_;clear hS;intro g2 w hS
   refine Ao 1 ?_
   refine AR (f:=62) rfl Tryz.call62 (OZ _ 1) ?_;rintro e w ⟨rfl,hE⟩;replace hS:=hS.ext hE;clear hE;refine ⟨_,rfl,?_⟩
   refine ⟨fun _ _=>hS.sub AV,?_⟩
   refine AI ?_
   go_step
   refine Ao 2 ?_
   refine AR (f:=17) rfl Tryz.call17 (HE.out _ (some ⟨g10,0,none⟩) (some ⟨g11,0,none⟩) (Fd (xs:=[128,128]) (cs:=[.int .i64 128, .int .i64 128]) hS AM AM rfl rfl (by decide))) ?_;rintro e w ⟨C1,S1,C2,S2,D,a1,a2,ad,n1,k1,n2,k2,nd,kd,hen,rfl,hS2⟩;replace hS:=hS.call hS2;clear hS2;simp only [List.cons_append,List.nil_append] at hS;have hC1:=hen.l1;have hC2:=hen.l2;have HEN:=AD hen;clear hen;refine ⟨_,rfl,?_⟩
   refine ⟨fun h=>absurd (by decide) h,?_⟩
   refine AI ?_
   go_step
   refine AY 3 ?_
   refine Y1 4 ?_
   refine Y1 5 ?_
   refine Ao 7 ?_
   refine Y9 ?_;clear hS;intro w hS
   refine AY 8 ?_
   refine AE AA ?_ _
  rotate_right 1
  focus
   refine AR (f:=62) rfl Tryz.call62 (OZ _ 1) ?_;rintro e w ⟨rfl,hE⟩;replace hS:=hS.ext hE;clear hE;refine ⟨_,rfl,?_⟩
   refine ⟨fun _ _=>hS.sub AV,?_⟩
   refine AI ?_
   go_step
   refine Ay [2,6] AA (by simp) (.cons Ai AA ?_ (.cons Ai AA ?_ (.nil)))
   rotate_left 1
   focus
    refine Y8 ?_;clear hS;intro g2 w hS
    refine Ao 2 ?_
    refine AR (f:=17) rfl Tryz.call17 (HE.out _ (some ⟨g10,0,none⟩) (some ⟨g11,0,none⟩) (Fd (xs:=[128,128]) (cs:=[.int .i64 128, .int .i64 128]) hS AM AM rfl rfl (by decide))) ?_;rintro e w ⟨C1,S1,C2,S2,D,a1,a2,ad,n1,k1,n2,k2,nd,kd,hen,rfl,hS2⟩;replace hS:=hS.call hS2;clear hS2;simp only [List.cons_append,List.nil_append] at hS;have hC1:=hen.l1;have hC2:=hen.l2;have HEN:=AD hen;clear hen;refine ⟨_,rfl,?_⟩
    refine ⟨fun h=>absurd (by decide) h,?_⟩
    refine AI ?_
    go_step
    refine AY 3 ?_
    refine Y1 4 ?_
    refine Y1 5 ?_
    refine Ao 7 ?_
    refine Y9 ?_;clear hS;intro w hS
    refine AY 8 ?_
    refine AE AA ?_ _
   rotate_right 1
   focus
    refine AR (f:=17) rfl Tryz.call17 (HE.out _ (some ⟨g10,0,none⟩) (some ⟨g11,0,none⟩) (Fd (xs:=[128,128]) (cs:=[.int .i64 128, .int .i64 128]) hS AM AM rfl rfl (by decide))) ?_;rintro e w ⟨C1,S1,C2,S2,D,a1,a2,ad,n1,k1,n2,k2,nd,kd,hen,rfl,hS2⟩;replace hS:=hS.call hS2;clear hS2;simp only [List.cons_append,List.nil_append] at hS;have hC1:=hen.l1;have hC2:=hen.l2;have HEN:=AD hen;clear hen;refine ⟨_,rfl,?_⟩
    refine ⟨fun h=>absurd (by decide) h,?_⟩
    refine AI ?_
    go_step
    refine AY 3 ?_
    refine Y1 4 ?_
    refine Y1 5 ?_
    refine Ao 6 ?_
    refine Y8 ?_;clear hS;intro g2 w hS
    refine Ao 7 ?_
    refine Y9 ?_;clear hS;intro w hS
    refine AY 8 ?_
    refine AE AA ?_ _
 all_goals
  repeat' (first|(refine AG ?_;go_step)|fail)
  repeat' (first
   | (refine Am 39 ?_);refine An AA Tryz.call39 (HPK.out _ C1 S1 C2 S2 D a1 a2 ad n1 k1 n2 k2 nd kd HEN.out (hS.sl AM) (hS.sl AM) (hS.sl AM)) ?_;rintro e w ⟨ao,co,N,P,hP,hN,rfl,hS2⟩;replace hS:=hS.call1 hS2;clear hS2;have HP:=AD hP;have HN:=AD hN;clear hP hN;refine Ab ?_;go_step|(refine Am 40 ?_);refine An AA Tryz.call40 (HPA.out _ C1 S1 C2 S2 D P N ao co HEN.out HP.out HN.out (hS.sl AM)) ?_;rintro e w ⟨b1,b2,bd,m1,j1,m2,j2,md,jd,rfl,hS2⟩;replace hS:=hS.call hS2;clear hS2;simp only [List.cons_append,List.nil_append] at hS;refine Ab ?_;go_step|refine X0 ?_|refine X7 ?_|refine SD ?_|refine XX 6 ?_;clear hS;intro g6 w hS|refine SP ?_;clear hS;intro w hS|refine AG ?_;go_step|fail)
  repeat' (first
   | (refine Am 21 ?_);refine An AA Tryz.call21 (HD.out _ C1 S1 C2 S2 D b1 b2 bd m1 j1 m2 j2 md jd (HML.out.imp fun m h=>hS.1.cell h) HEN.out (hS.sl AM) (hS.sl AM) (hS.sl AM)) ?_;rintro e w ⟨a9,c9,R9,hR9,rfl,hP9⟩;replace hS:=hS.call hP9;clear hP9;simp only [List.cons_append,List.nil_append] at hS;have HR9:=AD hR9;clear hR9;refine Ab ?_;go_step|(refine Am 23 ?_);refine An AA Tryz.call23 (IS _ 2 1 (some ⟨g11,0,none⟩) a9 1 c9 [⟨some ⟨g10,0,none⟩,2,[128,128]⟩] R9 (Fd (xs:=[128,128]) (cs:=[.int .i64 128, .int .i64 128]) hS AM AM rfl rfl (by decide)) (A8.of hS AM AM) (by show 1≤9223372036854775807;omega) HR9.out.symm) (Fq hS ?_);clear hS;intro w hS;go_step|refine X0 ?_|refine GE ?_|refine I0 35 ?_ ?_<;>intro hB<;>(try exact AS)<;>go_step|refine I0 38 ?_ ?_<;>intro hB<;>(try exact AS)<;>go_step|refine I0 42 ?_ ?_<;>intro hB<;>(try exact AS)<;>go_step|refine I0 46 ?_ ?_<;>intro hB<;>(try exact AS)<;>go_step|refine X7 ?_|refine Tz 8 ?_;clear hS;intro g8 w hS|refine T2 ?_;clear hS;intro w hS|refine XZ ?_|refine AG ?_;go_step|fail)
  all_goals (try exact AS)
  all_goals (try (have hF:False:=(hB rfl);cases hF))
  all_goals
   go_ret
   exact ⟨rfl,hS.1⟩
def zb:List Int:=List.replicate 64 0
theorem NY:Ae zb 64:=List.length_replicate
theorem Ex{w:World}{Q:Exit→Act→World→Prop}{K:Act→World→Prop}{o:Oper}{a:Act}(ho:o.op= .build 26 #[])(h:K (a.put o.dst (.agg (iv zb))) w):o.wp Tryz.prog a w K Q:=by
 have hr:(execOp a.eval o).run Tryz.prog w= .ok (.value (.agg (iv zb))) w:=by
  unfold execOp
  rw [ho]
  kernel_rfl
 unfold Oper.wp
 rw [hr]
 exact h
def sc(n p:Int):Int:=min (max (FI (n*p) 100) 1) 255
def Jc(q:List Int)(p:Int):List Int:=if Ej q∧1≤p∧p≤1000 then q.map (sc · p) else zb
def bZ(q:List Int)(p:Int):Int:=if Ej q∧1≤p∧p≤1000 then 0 else 1
theorem GZ(q:List Int)(p:Int)(hq:q.length=64):(Jc q p).length=64:=by
 unfold Jc;split
 ·rw [List.length_map];exact hq
 exact NY
theorem Ul(f:Int→Int)(l:List Int)(i:Nat)(h:i<l.length):AF (l.map f) i=f (AF l i):=by
 simp [AF,List.getD,List.getElem?_map,List.getElem?_eq_getElem h]
theorem W6(w0:World)(q:List Int)(p:Int)(hq:q.length=64):
 Calls Tryz.prog 38 #[.agg (iv q), .int .i64 p] w0 fun e w'=>e= .returned (.tuple #[.agg (iv (Jc q p)), .int .i64 (bZ q p)])∧Ah w0 w':=by
 have lq:Ae q 64:=hq
 have HQ:=AD hq
 have HIr:=AD (show (Tryz.prog.info? 26).map (·.size)=some (Jc q p).length by rw [GZ q p hq];kernel_rfl)
 have HIz:=AD (show (Tryz.prog.info? 26).map (·.size)=some zb.length by rw [NY.out];kernel_rfl)
 have hS:=St.start w0
 clear hq
 by_cases hk:Ej q=true
 ·by_cases hp:1≤p∧p≤1000
  ·obtain ⟨hp1,hp2⟩:=hp
   have HK:=AD hk
   have HR:=AD (show Jc q p=q.map (sc · p) by rw [Jc,if_pos ⟨hk,hp1,hp2⟩])
   have HE:=AD (show bZ q p=0 by rw [bZ,if_pos ⟨hk,hp1,hp2⟩])
   have HB:Hid (∀i,i<64→1≤AF q i∧AF q i≤255):=fun i hi=>(Aw _ _ _).1 hk i (by rw [HQ.out];exact hi)
   have lr:Ae (Jc q p) 64:=GZ q p HQ.out
   clear hk
   go_enter Tryz.func38,Tryz.ntmps38
   go_wp2_with (first
    | ((refine AQ 2 ?_);first|(refine BF AA (Gc (o:=⟨some 2,_,_,_,_,_⟩) hS 26 _ rfl _ 64 rfl (by assumption) ?_);clear hS;intro g2 w hS;refine AJ (by (simp only [Act.put,List.setIfInBounds_toArray,List.set_cons_zero,List.set_cons_succ]);exact rfl) ?_))|((refine AQ 4 ?_);first|(refine BF AA (DJ (o:=⟨some 4,_,_,_,_,_⟩) hS 26 rfl (List.replicate 64 0) 64 List.length_replicate QC ?_);clear hS;intro g4 w hS;refine AJ (by (simp only [Act.put,List.setIfInBounds_toArray,List.set_cons_zero,List.set_cons_succ]);exact rfl) ?_))|((with_reducible refine Ak _ (.load 26 _) ?_);first|(refine BF AA (DW hS 26 _ rfl _ rfl 64 (AN rfl) _ AM ?_);refine AJ (by (simp only [Act.put,List.setIfInBounds_toArray,List.set_cons_zero,List.set_cons_succ]);exact rfl) ?_)|(refine BF AA (CP hS 26 _ rfl _ rfl 64 (AN rfl) _ AM (by rfl) ?_);refine AJ (by (simp only [Act.put,List.setIfInBounds_toArray,List.set_cons_zero,List.set_cons_succ]);exact rfl) ?_)|(refine BF AA (Dm hS 26 _ rfl _ _ rfl 64 (AN rfl) _ (by with_reducible assumption) (by rfl) ?_);refine AJ (by (simp only [Act.put,List.setIfInBounds_toArray,List.set_cons_zero,List.set_cons_succ]);exact rfl) ?_))|refine jI ?_;clear hS;intro w hS|refine bQ ?_;clear hS;intro w hS|(refine Am 36 ?_);refine An AA Tryz.call36 (Be _ q HQ.out) ?_;rintro e w ⟨rfl,hE⟩;replace hS:=hS.ext hE;clear hE;rw [HK.out];refine ⟨_,rfl,?_⟩;refine AJ (by (simp only [Act.put,List.setIfInBounds_toArray,List.set_cons_zero,List.set_cons_succ]);exact rfl) ?_|(first|refine B9 ?_|refine Bg ?_|refine Bf ?_|refine Cc ?_))
   go_loopg [23] 64 (fun gk kv w=>∃(i:Nat),gk+i=64∧kv= .int .i64 i∧St w0 w [arr g2 64 (Gh (Jc q p) q i),arr g4 64 (List.replicate 64 0)])
   case atStart=>exact ⟨0,rfl,rfl,by rw [Me];exact hS.sub AV⟩
   case round=>
    clear hS
    obtain ⟨i,hi,rfl,hS⟩:=hrel
    by_cases hlt:i<64
    ·obtain ⟨k1,k2⟩:=HB.out i hlt
     have hqi:=GT q i (by rw [HQ.out];exact hlt)
     have HM:=AD (OX (Jc q p) q (lr.out.trans HQ.out.symm) i (by rw [HQ.out];exact hlt))
     have HN:=AD (show AF (Jc q p) i=min (max (FI (AF q i*p) 100) 1) 255 by rw [HR.out,Ul _ _ _ (by rw [HQ.out];exact hlt)];rfl)
     obtain ⟨m0,m1⟩:=Dv (AF q i) p 255 1000 (by omega) (by omega)
     simp only [Int.reduceMul,Int.reduceNeg] at m0 m1
     go_wp2_with (first
      | ((refine AQ 2 ?_);first|(refine BF AA (Gc (o:=⟨some 2,_,_,_,_,_⟩) hS 26 _ rfl _ 64 rfl (by assumption) ?_);clear hS;intro g2 w hS;refine AJ (by (simp only [Act.put,List.setIfInBounds_toArray,List.set_cons_zero,List.set_cons_succ]);exact rfl) ?_))|((refine AQ 4 ?_);first|(refine BF AA (DJ (o:=⟨some 4,_,_,_,_,_⟩) hS 26 rfl (List.replicate 64 0) 64 List.length_replicate QC ?_);clear hS;intro g4 w hS;refine AJ (by (simp only [Act.put,List.setIfInBounds_toArray,List.set_cons_zero,List.set_cons_succ]);exact rfl) ?_))|((with_reducible refine Ak _ (.load 26 _) ?_);first|(refine BF AA (DW hS 26 _ rfl _ rfl 64 (AN rfl) _ AM ?_);refine AJ (by (simp only [Act.put,List.setIfInBounds_toArray,List.set_cons_zero,List.set_cons_succ]);exact rfl) ?_)|(refine BF AA (CP hS 26 _ rfl _ rfl 64 (AN rfl) _ AM (by rfl) ?_);refine AJ (by (simp only [Act.put,List.setIfInBounds_toArray,List.set_cons_zero,List.set_cons_succ]);exact rfl) ?_)|(refine BF AA (Dm hS 26 _ rfl _ _ rfl 64 (AN rfl) _ (by with_reducible assumption) (by rfl) ?_);refine AJ (by (simp only [Act.put,List.setIfInBounds_toArray,List.set_cons_zero,List.set_cons_succ]);exact rfl) ?_))|refine jI ?_;clear hS;intro w hS|refine bQ ?_;clear hS;intro w hS|(refine Am 64 ?_);refine An AA Tryz.call64 (H5 (AF q i*p) 100 _ (by omega) (by omega) (by omega) (by omega)) ?_;rintro e w' ⟨rfl,rfl⟩;refine ⟨_,rfl,?_⟩;refine AJ (by (simp only [Act.put,List.setIfInBounds_toArray,List.set_cons_zero,List.set_cons_succ]);exact rfl) ?_|(first|refine B9 ?_|refine Bg ?_|refine Bf ?_|refine Cc ?_))
     go_roundg (gk-1)
     case measure=>omega
     case rel=>exact ⟨i+1,by omega,by go_num,by rw [←HM.out,HN.out];exact hS.sub AV⟩
    obtain rfl:i=64:=by omega
    rw [show Gh (Jc q p) q 64=Jc q p from by have h:=OW (Jc q p) q (lr.out.trans HQ.out.symm);rwa [HQ.out] at h] at hS
    go_wp2_with (first
     | ((refine AQ 2 ?_);first|(refine BF AA (Gc (o:=⟨some 2,_,_,_,_,_⟩) hS 26 _ rfl _ 64 rfl (by assumption) ?_);clear hS;intro g2 w hS;refine AJ (by (simp only [Act.put,List.setIfInBounds_toArray,List.set_cons_zero,List.set_cons_succ]);exact rfl) ?_))|((refine AQ 4 ?_);first|(refine BF AA (DJ (o:=⟨some 4,_,_,_,_,_⟩) hS 26 rfl (List.replicate 64 0) 64 List.length_replicate QC ?_);clear hS;intro g4 w hS;refine AJ (by (simp only [Act.put,List.setIfInBounds_toArray,List.set_cons_zero,List.set_cons_succ]);exact rfl) ?_))|((with_reducible refine Ak _ (.load 26 _) ?_);first|(refine BF AA (DW hS 26 _ rfl _ rfl 64 (AN rfl) _ AM ?_);refine AJ (by (simp only [Act.put,List.setIfInBounds_toArray,List.set_cons_zero,List.set_cons_succ]);exact rfl) ?_)|(refine BF AA (CP hS 26 _ rfl _ rfl 64 (AN rfl) _ AM (by rfl) ?_);refine AJ (by (simp only [Act.put,List.setIfInBounds_toArray,List.set_cons_zero,List.set_cons_succ]);exact rfl) ?_)|(refine BF AA (Dm hS 26 _ rfl _ _ rfl 64 (AN rfl) _ (by with_reducible assumption) (by rfl) ?_);refine AJ (by (simp only [Act.put,List.setIfInBounds_toArray,List.set_cons_zero,List.set_cons_succ]);exact rfl) ?_))|refine jI ?_;clear hS;intro w hS|refine bQ ?_;clear hS;intro w hS|(first|refine B9 ?_|refine Bg ?_|refine Bf ?_|refine Cc ?_))
    refine bodyPost_ret (BX rfl _ _ g4 (Jc q p) _ rfl (hS.arr AM).1 Tryz.underlying26 rfl HIr.out) rfl ?_
    exact ⟨by rw [HE.out];rfl,hS.1⟩
  have HK:=AD hk
  have HR:=AD (show Jc q p=zb by rw [Jc,if_neg (fun h=>hp h.2)])
  have HE:=AD (show bZ q p=1 by rw [bZ,if_neg (fun h=>hp h.2)])
  clear hk
  by_cases hp1:p<1
  ·clear hp
   go_enter Tryz.func38,Tryz.ntmps38
   go_wp2_with (first
    | ((refine AQ 2 ?_);first|(refine BF AA (Gc (o:=⟨some 2,_,_,_,_,_⟩) hS 26 _ rfl _ 64 rfl (by assumption) ?_);clear hS;intro g2 w hS;refine AJ (by (simp only [Act.put,List.setIfInBounds_toArray,List.set_cons_zero,List.set_cons_succ]);exact rfl) ?_))|((refine AQ 4 ?_);first|(refine BF AA (DJ (o:=⟨some 4,_,_,_,_,_⟩) hS 26 rfl (List.replicate 64 0) 64 List.length_replicate QC ?_);clear hS;intro g4 w hS;refine AJ (by (simp only [Act.put,List.setIfInBounds_toArray,List.set_cons_zero,List.set_cons_succ]);exact rfl) ?_))|((with_reducible refine Ak _ (.load 26 _) ?_);first|(refine BF AA (DW hS 26 _ rfl _ rfl 64 (AN rfl) _ AM ?_);refine AJ (by (simp only [Act.put,List.setIfInBounds_toArray,List.set_cons_zero,List.set_cons_succ]);exact rfl) ?_)|(refine BF AA (CP hS 26 _ rfl _ rfl 64 (AN rfl) _ AM (by rfl) ?_);refine AJ (by (simp only [Act.put,List.setIfInBounds_toArray,List.set_cons_zero,List.set_cons_succ]);exact rfl) ?_)|(refine BF AA (Dm hS 26 _ rfl _ _ rfl 64 (AN rfl) _ (by with_reducible assumption) (by rfl) ?_);refine AJ (by (simp only [Act.put,List.setIfInBounds_toArray,List.set_cons_zero,List.set_cons_succ]);exact rfl) ?_))|refine jI ?_;clear hS;intro w hS|refine bQ ?_;clear hS;intro w hS|(refine Am 36 ?_);refine An AA Tryz.call36 (Be _ q HQ.out) ?_;rintro e w ⟨rfl,hE⟩;replace hS:=hS.ext hE;clear hE;rw [HK.out];refine ⟨_,rfl,?_⟩;refine AJ (by (simp only [Act.put,List.setIfInBounds_toArray,List.set_cons_zero,List.set_cons_succ]);exact rfl) ?_|refine BF (o:=⟨some 13,_,_,_,_,_⟩) rfl (Ex rfl ?_);refine AJ (by (simp only [Act.put,List.setIfInBounds_toArray,List.set_cons_zero,List.set_cons_succ]);exact rfl) ?_|refine BF (o:=⟨some 21,_,_,_,_,_⟩) rfl (Ex rfl ?_);refine AJ (by (simp only [Act.put,List.setIfInBounds_toArray,List.set_cons_zero,List.set_cons_succ]);exact rfl) ?_|refine BF AA (EO hS 26 _ _ rfl _ rfl 64 (AN rfl) _ _ AM (by rfl) NY rfl ?_);clear hS;intro w hS|(first|refine B9 ?_|refine Bg ?_|refine Bf ?_|refine Cc ?_))
   refine bodyPost_ret (BX rfl _ _ g4 zb _ rfl (hS.arr AM).1 Tryz.underlying26 rfl HIz.out) rfl ?_
   exact ⟨by rw [HE.out,HR.out];rfl,hS.1⟩
  have hp2:1000<p:=by omega
  have hp3:1≤p:=by omega
  clear hp hp1
  go_enter Tryz.func38,Tryz.ntmps38
  go_wp2_with (first
   | ((refine AQ 2 ?_);first|(refine BF AA (Gc (o:=⟨some 2,_,_,_,_,_⟩) hS 26 _ rfl _ 64 rfl (by assumption) ?_);clear hS;intro g2 w hS;refine AJ (by (simp only [Act.put,List.setIfInBounds_toArray,List.set_cons_zero,List.set_cons_succ]);exact rfl) ?_))|((refine AQ 4 ?_);first|(refine BF AA (DJ (o:=⟨some 4,_,_,_,_,_⟩) hS 26 rfl (List.replicate 64 0) 64 List.length_replicate QC ?_);clear hS;intro g4 w hS;refine AJ (by (simp only [Act.put,List.setIfInBounds_toArray,List.set_cons_zero,List.set_cons_succ]);exact rfl) ?_))|((with_reducible refine Ak _ (.load 26 _) ?_);first|(refine BF AA (DW hS 26 _ rfl _ rfl 64 (AN rfl) _ AM ?_);refine AJ (by (simp only [Act.put,List.setIfInBounds_toArray,List.set_cons_zero,List.set_cons_succ]);exact rfl) ?_)|(refine BF AA (CP hS 26 _ rfl _ rfl 64 (AN rfl) _ AM (by rfl) ?_);refine AJ (by (simp only [Act.put,List.setIfInBounds_toArray,List.set_cons_zero,List.set_cons_succ]);exact rfl) ?_)|(refine BF AA (Dm hS 26 _ rfl _ _ rfl 64 (AN rfl) _ (by with_reducible assumption) (by rfl) ?_);refine AJ (by (simp only [Act.put,List.setIfInBounds_toArray,List.set_cons_zero,List.set_cons_succ]);exact rfl) ?_))|refine jI ?_;clear hS;intro w hS|refine bQ ?_;clear hS;intro w hS|(refine Am 36 ?_);refine An AA Tryz.call36 (Be _ q HQ.out) ?_;rintro e w ⟨rfl,hE⟩;replace hS:=hS.ext hE;clear hE;rw [HK.out];refine ⟨_,rfl,?_⟩;refine AJ (by (simp only [Act.put,List.setIfInBounds_toArray,List.set_cons_zero,List.set_cons_succ]);exact rfl) ?_|refine BF (o:=⟨some 13,_,_,_,_,_⟩) rfl (Ex rfl ?_);refine AJ (by (simp only [Act.put,List.setIfInBounds_toArray,List.set_cons_zero,List.set_cons_succ]);exact rfl) ?_|refine BF (o:=⟨some 21,_,_,_,_,_⟩) rfl (Ex rfl ?_);refine AJ (by (simp only [Act.put,List.setIfInBounds_toArray,List.set_cons_zero,List.set_cons_succ]);exact rfl) ?_|refine BF AA (EO hS 26 _ _ rfl _ rfl 64 (AN rfl) _ _ AM (by rfl) NY rfl ?_);clear hS;intro w hS|(first|refine B9 ?_|refine Bg ?_|refine Bf ?_|refine Cc ?_))
  refine bodyPost_ret (BX rfl _ _ g4 zb _ rfl (hS.arr AM).1 Tryz.underlying26 rfl HIz.out) rfl ?_
  exact ⟨by rw [HE.out,HR.out];rfl,hS.1⟩
 have HK:=AD (show Ej q=false by simpa using hk)
 have HR:=AD (show Jc q p=zb by rw [Jc,if_neg (fun h=>hk h.1)])
 have HE:=AD (show bZ q p=1 by rw [bZ,if_neg (fun h=>hk h.1)])
 clear hk
 go_enter Tryz.func38,Tryz.ntmps38
 go_wp2_with (first
  | ((refine AQ 2 ?_);first|(refine BF AA (Gc (o:=⟨some 2,_,_,_,_,_⟩) hS 26 _ rfl _ 64 rfl (by assumption) ?_);clear hS;intro g2 w hS;refine AJ (by (simp only [Act.put,List.setIfInBounds_toArray,List.set_cons_zero,List.set_cons_succ]);exact rfl) ?_))|((refine AQ 4 ?_);first|(refine BF AA (DJ (o:=⟨some 4,_,_,_,_,_⟩) hS 26 rfl (List.replicate 64 0) 64 List.length_replicate QC ?_);clear hS;intro g4 w hS;refine AJ (by (simp only [Act.put,List.setIfInBounds_toArray,List.set_cons_zero,List.set_cons_succ]);exact rfl) ?_))|((with_reducible refine Ak _ (.load 26 _) ?_);first|(refine BF AA (DW hS 26 _ rfl _ rfl 64 (AN rfl) _ AM ?_);refine AJ (by (simp only [Act.put,List.setIfInBounds_toArray,List.set_cons_zero,List.set_cons_succ]);exact rfl) ?_)|(refine BF AA (CP hS 26 _ rfl _ rfl 64 (AN rfl) _ AM (by rfl) ?_);refine AJ (by (simp only [Act.put,List.setIfInBounds_toArray,List.set_cons_zero,List.set_cons_succ]);exact rfl) ?_)|(refine BF AA (Dm hS 26 _ rfl _ _ rfl 64 (AN rfl) _ (by with_reducible assumption) (by rfl) ?_);refine AJ (by (simp only [Act.put,List.setIfInBounds_toArray,List.set_cons_zero,List.set_cons_succ]);exact rfl) ?_))|refine jI ?_;clear hS;intro w hS|refine bQ ?_;clear hS;intro w hS|(refine Am 36 ?_);refine An AA Tryz.call36 (Be _ q HQ.out) ?_;rintro e w ⟨rfl,hE⟩;replace hS:=hS.ext hE;clear hE;rw [HK.out];refine ⟨_,rfl,?_⟩;refine AJ (by (simp only [Act.put,List.setIfInBounds_toArray,List.set_cons_zero,List.set_cons_succ]);exact rfl) ?_|refine BF (o:=⟨some 13,_,_,_,_,_⟩) rfl (Ex rfl ?_);refine AJ (by (simp only [Act.put,List.setIfInBounds_toArray,List.set_cons_zero,List.set_cons_succ]);exact rfl) ?_|refine BF (o:=⟨some 21,_,_,_,_,_⟩) rfl (Ex rfl ?_);refine AJ (by (simp only [Act.put,List.setIfInBounds_toArray,List.set_cons_zero,List.set_cons_succ]);exact rfl) ?_|refine BF AA (EO hS 26 _ _ rfl _ rfl 64 (AN rfl) _ _ AM (by rfl) NY rfl ?_);clear hS;intro w hS|(first|refine B9 ?_|refine Bg ?_|refine Bf ?_|refine Cc ?_))
 refine bodyPost_ret (BX rfl _ _ g4 zb _ rfl (hS.arr AM).1 Tryz.underlying26 rfl HIz.out) rfl ?_
 exact ⟨by rw [HE.out,HR.out];rfl,hS.1⟩
def RA(z:Int):Int:=max z (-z)
theorem TQ(n d e:Int)(hd:1≤d)(he:d≤e):RA (FI n e)≤RA (FI n d):=by
 have key:∀a:Int,0≤a→(2*a+e)/(2*e)≤(2*a+d)/(2*d):=fun a ha=>by
  obtain ⟨r,hr⟩:∃r,(2*a+e)/(2*e)=r:=⟨_,rfl⟩
  have h1:r*(2*e)≤2*a+e:=by rw [←hr];exact Int.ediv_mul_le _ (by omega)
  rw [hr]
  refine (Int.le_ediv_iff_mul_le (by omega)).2 ?_
  by_cases h0:r≤0
  ·have:r*(2*d)≤0:=Int.mul_nonpos_of_nonpos_of_nonneg h0 (by omega)
   omega
  have h2:(2*r-1)*d≤(2*r-1)*e:=Int.mul_le_mul_of_nonneg_left he (by omega)
  have h3:r*(2*e)=(2*r-1)*e+e:=by rw [Int.sub_mul,Int.one_mul,show r*(2*e)=2*r*e by rw [Int.mul_left_comm,Int.mul_assoc]];omega
  have h4:r*(2*d)=(2*r-1)*d+d:=by rw [Int.sub_mul,Int.one_mul,show r*(2*d)=2*r*d by rw [Int.mul_left_comm,Int.mul_assoc]];omega
  omega
 have pos:∀a f:Int,0≤a→1≤f→0≤(2*a+f)/(2*f):=fun a f ha hf=>Int.ediv_nonneg (by omega) (by omega)
 unfold FI RA
 split
 ·have h1:=key (-n) (by omega)
  have h2:=pos (-n) d (by omega) hd
  have h3:=pos (-n) e (by omega) (by omega)
  omega
 have h1:=key n (by omega)
 have h2:=pos n d (by omega) hd
 have h3:=pos n e (by omega) (by omega)
 omega
theorem WO(n d e:Int)(hd:1≤d)(he:d≤e):RA (dn n e)≤RA (dn n d):=by
 have:=TQ n d e hd he
 unfold RA at this⊢
 unfold dn
 omega
theorem kK(n p:Int)(hn:1≤n∧n≤255)(hp:100≤p):n≤sc n p:=by
 have h1:n*100≤n*p:=Int.mul_le_mul_of_nonneg_left hp (by omega)
 have h2:=CL (n*p) 100 (by omega)
 unfold sc
 omega
theorem iF(n d:Int): -2047≤dn n d∧dn n d≤2047:=by unfold dn;omega
theorem O9(b q:List Int)(hb:b.length=64)(hq:q.length=64)(x:Nat): -2047≤AF (Bc b q) x∧AF (Bc b q) x≤2047:=by
 unfold Bc
 split
 ·by_cases hx:x<64
  ·rw [Ct _ _ _ hb hq x hx];exact iF _ _
  rw [Bp _ _ (by unfold Cg;rw [List.length_zipWith,hb,hq];omega)];omega
 by_cases hx:x<64
 ·unfold Ce;rw [BS _ _ _ hx];omega
 rw [Bp _ _ (by unfold Ce;rw [List.length_replicate];omega)];omega
theorem Qc{b q s:List Int}(hb:b.length=64)(hq:q.length=64)(hs:s.length=64)(oq:Ej q=true)(os:Ej s=true)(h:∀i,i<64→AF q i≤AF s i)(x:Nat):RA (AF (Bc b s) x)≤RA (AF (Bc b q) x):=by
 unfold Bc
 rw [oq,os]
 split
 ·by_cases hx:x<64
  ·rw [Ct _ _ _ hb hs x hx,Ct _ _ _ hb hq x hx]
   exact WO _ _ _ (Ld hq oq x hx).1 (h x hx)
  rw [Bp _ _ (by unfold Cg;rw [List.length_zipWith,hb,hs];omega),Bp _ _ (by unfold Cg;rw [List.length_zipWith,hb,hq];omega)]
  exact Int.le_refl _
 exact Int.le_refl _
theorem dI{q l:List Int}(hq:q.length=64)(n:Nat)(P:Int→Prop)(h0:P 0)(h:∀k x,k<n→P (AF (Jz q (BY l 64 k)) x))(x:Nat):P (AF (JD q l n) x):=by
 by_cases hx:x<n*64
 ·have e:AF (JD q l n) x=AF (Jz q (BY l 64 (x/64))) (x%64):=by
   rw [←JE q l hq n (x/64) (by omega),Db _ _ _ _ (by omega)]
   congr 1;omega
  rw [e];exact h _ _ (by omega)
 rw [Bp _ _ (by rw [ER _ _ hq];omega)];exact h0
theorem Sh{q s l:List Int}(hq:q.length=64)(hs:s.length=64)(oq:Ej q=true)(os:Ej s=true)(h:∀i,i<64→AF q i≤AF s i)(n x:Nat):RA (AF (JD s l n) x)≤RA (AF (JD q l n) x):=by
 by_cases hx:x<n*64
 ·have e:∀u:List Int,u.length=64→AF (JD u l n) x=AF (Jz u (BY l 64 (x/64))) (x%64):=fun u hu=>by
   rw [←JE u l hu n (x/64) (by omega),Db _ _ _ _ (by omega)]
   congr 1;omega
  rw [e s hs,e q hq]
  exact Qc (B7 _ _).out hq hs oq os h _
 rw [Bp _ _ (by rw [ER _ _ hs];omega),Bp _ _ (by rw [ER _ _ hq];omega)]
 exact Int.le_refl _
theorem PT(a b:List Int)(x:Nat):AF (a++b) x=if x<a.length then AF a x else AF b (x-a.length):=by
 unfold AF List.getD
 split
 ·rename_i h;rw [List.getElem?_append_left h]
 rename_i h;rw [List.getElem?_append_right (by omega)]
theorem Ms{m h:Int}{q s:List Int}(hq:q.length=64)(hs:s.length=64)(oq:Ej q=true)(os:Ej s=true)(hh:∀i,i<64→AF q i≤AF s i):∀(L:List (List Int))(x:Nat),RA (AF (KR m h s L) x)≤RA (AF (KR m h q L) x)
 | [],x=>Int.le_refl _
 | l::L,x=>by
   rw [KR,KR,PT,PT,ER _ _ hs,ER _ _ hq]
   split
   ·exact Sh hq hs oq os hh _ _
   exact Ms hq hs oq os hh L _
theorem Zs{m h:Int}{q:List Int}(hq:q.length=64):∀(L:List (List Int))(x:Nat),-2047≤AF (KR m h q L) x∧AF (KR m h q L) x≤2047
 | [],x=>by rw [KR,Bp _ _ (Nat.zero_le _)];omega
 | l::L,x=>by
   rw [KR,PT]
   split
   ·exact dI hq _ (fun z=> -2047≤z∧z≤2047) (by omega) (fun k y _=>O9 _ _ (B7 _ _).out hq y) x
   exact Zs hq L _
theorem Yy{m h:Int}{q:List Int}(hq:q.length=64)(L:List (List Int))(x:Nat): -2047≤AF (FX m h q L) x∧AF (FX m h q L) x≤2047:=Zs hq _ x
theorem Sz{m h p:Int}{q:List Int}(hq:q.length=64)(hp:100≤p)(he:bZ q p=0)(os:Ej (Jc q p)=true)(L:List (List Int))(x:Nat):RA (AF (FX m h (Jc q p) L) x)≤RA (AF (FX m h q L) x):=by
 have hc:Ej q=true∧1≤p∧p≤1000:=by
  unfold bZ at he
  split at he
  ·assumption
  cases he
 have e:Jc q p=q.map (sc · p):=by unfold Jc;rw [if_pos hc]
 refine Ms hq (GZ q p hq) hc.1 os (fun i hi=>?_) _ x
 rw [e,Ul _ _ _ (by omega)]
 exact kK _ _ (Ld hq hc.1 i hi) hp
theorem aB(w0:World)(hml:∃m,w0.cell? ⟨0,0,none⟩=some (.int .i64 m))(a9:Option Addr)(c9 M:Nat)(p:List Int)(m h:Int)(m0:1≤m∧m≤64)(m1:1≤h∧h≤64)(hM:m*h=(M:Int))(hl:p.length=M)(hp:∀i,0≤AF p i∧AF p i≤255)(q:List Int)(hq:Ae q 64)(oq:Ej q=true)(hs:Sl w0 1 (.slice a9 M c9) M (p.map (Value.int .i64))):
 Calls Tryz.prog 37 #[.slice a9 M c9, .int .i64 m, .int .i64 h, .agg (iv q)] w0 fun e w=>∃b0 u0,e= .returned (.tuple #[.slice b0 M u0, .bool true])∧Ah w0 w∧Sl w 1 (.slice b0 M u0) M ((Ei m h q p).map (Value.int .i64)):=by
 have hS:=St.start w0
 obtain ⟨k0,k1⟩:=Dv m h 64 64 (by omega) (by omega)
 have k2:0<m*h:=Int.mul_pos (by omega) (by omega)
 have hMs:M≤4096:=by omega
 have hfz:Gg m h q [p]=0:=by rw [Li p M m h _ m0 m1 hM hl hp,if_pos oq]
 have hpz:=Id (ev:=3) hq.out (by omega) hfz
 have hC:∀w g,A8 w (some ⟨g,0,none⟩) 1 (List.replicate 1 ⟨a9,c9,p⟩)→Calls Tryz.prog 17 #[.agg #[.int .i64 m, .int .i64 h, .slice (some ⟨g,0,none⟩) 1 1], .agg (iv q), .int .i64 3] w (Dp w (DM m h q [p] (3:Nat)) m h q 1 (3:Nat) (FX m h q [p]) (1*Aa m h)):=
  fun w g hP=>LX w m h (by omega) (some ⟨g,0,none⟩) 1 _ (by show 1≤9223372036854775807;omega) hP _ hq 3 (by omega)
 have hD:=O7 (ev:=3) (L:=[p]) hq (by omega) hfz
 rw [show [p].length=1 from rfl,PP hq.out] at hD
 rw [hpz] at hC
 have hXl:(Ei m h q p).length=M:=JW hM.symm
 obtain ⟨X,hX⟩:∃X,Ei m h q p=X:=⟨_,rfl⟩
 obtain ⟨B,hBe⟩:∃B,FX m h q [p]=B:=⟨_,rfl⟩
 obtain ⟨nb,hnb⟩:∃nb,1*Aa m h=nb:=⟨_,rfl⟩
 rw [hX] at hD hXl
 rw [hX]
 rw [hBe,hnb] at hC hD
 have HC:=AD fun w g hP=>(hC w g hP).mono fun e w' hh=>hh.out
 have HD:=AD hD
 have HXL:=AD hXl
 have HML:=AD hml
 have HPL:=AD hl
 clear hC hD hXl hX hBe hnb hpz hfz hml hl hp
 go_enter Tryz.func37,Tryz.ntmps37
 repeat' (first
  | (refine Am 17 ?_);refine An AA Tryz.call17 (HC.out _ g18 (Cr (cs:=[.slice a9 M c9]) hS AM rfl HPL.out (by decide) (hs.ext hS.1))) ?_;rintro e w ⟨C1,S1,C2,S2,D,a1,a2,bd,n1,k1,n2,k2,nd,kd,hen,rfl,hS2⟩;replace hS:=hS.call hS2;clear hS2;simp only [List.cons_append,List.nil_append] at hS;have hC1:=hen.l1;have hC2:=hen.l2;have HEN:=AD hen;clear hen;refine Ab ?_;go_step|(refine Am 21 ?_);refine An AA Tryz.call21 (HD.out _ C1 S1 C2 S2 D a1 a2 bd n1 k1 n2 k2 nd kd (HML.out.imp fun m h=>hS.1.cell h) HEN.out (hS.sl AM) (hS.sl AM) (hS.sl AM)) ?_;rintro e w ⟨a5,c5,R5,hR5,rfl,hP9⟩;replace hS:=hS.call hP9;clear hP9;simp only [List.cons_append,List.nil_append] at hS;have HR5:=AD hR5;clear hR5;refine Ab ?_;go_step|refine X0 ?_|refine YG 19 ?_|refine X3 22 ?_|refine X3 23 ?_|refine X3 27 ?_|refine X3 28 ?_|refine L7 7 ?_;clear hS;intro g7 w hS|refine eh 18 ?_;clear hS;intro g18 w hS|refine Hp ?_|refine XX 10 ?_;clear hS;intro g10 w hS|refine SP ?_;clear hS;intro w hS|refine SD ?_|refine Tz 12 ?_;clear hS;intro g12 w hS|refine T2 ?_;clear hS;intro w hS|refine AG ?_;go_step|fail)
 have hPI:=A8.of (a:=a5) (c:=c5) (R:=R5) hS AM AM
 have h12:w.cell? ⟨g12,2,none⟩=some (.slice a5 R5.length c5):=Fv (g:=g12) (k:=2) hS AM rfl
 have hE9:=hS.1
 obtain ⟨b0,u0,rfl⟩:=Z6 HR5.out
 obtain ⟨bb,off,rfl,hcl⟩:=DV hPI.sl (by show 0<1;omega)
 have h12':w.cell? ⟨g12,2,none⟩=some (.slice (some ⟨bb,off,none⟩) 1 c5):=h12
 have x0:w.cell? ⟨bb,off,none⟩=some (.slice b0 M u0):=by have:=hcl 0 _ rfl;rw [Rw.val,HXL.out] at this;exact this
 have hvx:Sl w 1 (.slice b0 M u0) M (X.map (Value.int .i64)):=by have:=hPI.row ⟨b0,u0,X⟩ (by simp);rw [Rw.val] at this;dsimp only at this;rw [HXL.out] at this;exact this
 clear hS hPI hcl h12 HEN HD HC hC1 hC2 hs
 obtain ⟨W1,hW1⟩:∃z,z=w:=⟨w,rfl⟩
 subst hW1
 have hS:=St.start W1
 repeat' (first
  | refine gm 49 ?_|refine X1 ?_|refine Gj ?_|refine X9 30 ?_ ?_<;>intro hB<;>(try exact AS)<;>go_step|refine X9 33 ?_ ?_<;>intro hB<;>(try exact AS)<;>go_step|refine X9 39 ?_ ?_<;>intro hB<;>(try exact AS)<;>go_step|refine Xa 36 ?_|refine YC 38 ?_|refine Xa 42 ?_|refine bU 44 ?_|refine LR 46 ?_|refine Gq 50 ?_|refine cX ?_|refine SC ?_|refine AG ?_;go_step|fail)
 all_goals (try exact AS)
 all_goals (try (have hF:False:=(hB rfl);cases hF))
 repeat' (first
  | refine X8 ?_|refine Xa 52 ?_|refine bU 54 ?_|refine cX ?_|refine SC ?_|refine AG ?_;go_step|fail)
 refine AO (xs:=[_,_]) rfl (.cons (AC.tmp rfl) (.cons (AC.tmp rfl) (.nil))) (by simp) rfl ?_
 exact ⟨b0,u0,rfl,hE9.trans hS.1,hvx.ext hS.1⟩
def sg(k:Nat)(z:Int):Int:=if k%2=0 then z else -z
theorem iG(n d:Int)(hd:1≤d):dn (-n) d= -dn n d:=by unfold dn;rw [Ph n d hd];omega
theorem eX(n d:Int):SI (-n) d= -SI n d:=by unfold SI;rw [Int.neg_mul];omega
def fh(b c:List Int):Prop:=∀r k,r<8→k<8→AF c (8*r+k)=AF b (8*r+(7-k))
def fc(b c:List Int):Prop:=∀r k,r<8→k<8→AF c (8*r+k)=sg k (AF b (8*r+k))
theorem au{b c:List Int}(ob:GD b=true)(oc:GD c=true)(h:fh b c):fc (Gp b) (Gp c):=by
 intro r k hr hk
 unfold Gp
 rw [EU _ _ oc _ (by omega),EU _ _ ob _ (by omega),show (8*r+k)/8=r by omega,show (8*r+k)%8=k by omega,WK (b:=c) (c:=b) h r k hk]
 unfold sg
 split
 ·rfl
 exact Ph _ _ (by omega)
theorem VZ{g:Int→Int→Int}{b c q:List Int}(hb:b.length=64)(hc:c.length=64)(hq:q.length=64)(hg:∀n i,i<64→g (-n) (AF q i)= -g n (AF q i))(h:fc b c):fc (Cg g b q) (Cg g c q):=by
 intro r k hr hk
 rw [Ct _ _ _ hc hq _ (by omega),Ct _ _ _ hb hq _ (by omega),h r k hr hk]
 unfold sg
 split
 ·rfl
 exact hg _ _ (by omega)
theorem iL{b c:List Int}(h:fc b c)(j r:Nat)(hj:j<8)(hr:r<8):iN YY c (7-j:Nat) r=iN YY b j r:=by
 unfold iN
 refine BE fun k hk=>?_
 rw [h r k hr hk]
 show sg k _*At k (7-j:Nat)=_*At k j
 rw [MD k hk j hj]
 unfold sg
 split
 ·rfl
 rw [Int.neg_mul_neg]
theorem XP{b c:List Int}(ob:GD b=true)(oc:GD c=true)(h:fc b c)(r k:Nat)(hr:r<8)(hk:k<8):AF (Em c) (8*r+(7-k))=AF (Em b) (8*r+k):=by
 unfold Em
 rw [EU _ _ oc _ (by omega),EU _ _ ob _ (by omega),show (8*r+(7-k))/8=r by omega,show (8*r+(7-k))%8=7-k by omega,show (8*r+k)/8=r by omega,show (8*r+k)%8=k by omega]
 congr 1
 unfold dD
 exact BE fun x hx=>by rw [iL h k x hk hx]
theorem VY{b:List Int}(hb:b.length=64)(h:∀p,-40000≤AF b p∧AF b p≤40000):GD b=true:=(FQ _ hb).2 fun p _=>h p
theorem ah{q b c:List Int}(hq:q.length=64)(oq:Ej q=true)(hb:b.length=64)(hc:c.length=64)(bb:∀p,-128≤AF b p∧AF b p≤127)(bc:∀p,-128≤AF c p∧AF c p≤127)(h:fh b c)(r k:Nat)(hr:r<8)(hk:k<8):
 AF (Oq q (Jz q c)) (8*r+(7-k))=AF (Oq q (Jz q b)) (8*r+k):=by
 have h1:=au (VY hb fun p=>by have:=bb p;omega) (VY hc fun p=>by have:=bc p;omega) h
 have wb:=P7 hb fun p=>by have:=bb p;omega
 have wc:=P7 hc fun p=>by have:=bc p;omega
 have lb:(Gp b).length=64:=(B7 _ _).out
 have lc:(Gp c).length=64:=(B7 _ _).out
 have d1:fc (Jz q b) (Jz q c):=by
  unfold Jz Bc
  rw [oq,E7 fun p=>(by have:=wb p;omega: -40000≤AF (Gp b) p∧AF (Gp b) p≤40000),E7 fun p=>(by have:=wc p;omega: -40000≤AF (Gp c) p∧AF (Gp c) p≤40000)]
  exact VZ lb lc hq (fun n i hi=>iG _ _ (Ld hq oq i hi).1) h1
 have ib:∀p,-2047≤AF (Jz q b) p∧AF (Jz q b) p≤2047:=O9 _ _ lb hq
 have ic:∀p,-2047≤AF (Jz q c) p∧AF (Jz q c) p≤2047:=O9 _ _ lc hq
 have l2b:(Jz q b).length=64:=JC _ _ hq
 have l2c:(Jz q c).length=64:=JC _ _ hq
 have eu:∀d:List Int,(∀p,-2047≤AF d p∧AF d p≤2047)→It d q=Cg SI d q:=fun d hd=>by
  unfold It;rw [oq,E7 hd];rfl
 have u1:fc (It (Jz q b) q) (It (Jz q c) q):=by
  rw [eu _ ib,eu _ ic]
  exact VZ l2b l2c hq (fun n i _=>eX _ _) d1
 have ou:∀d:List Int,d.length=64→(∀p,-2047≤AF d p∧AF d p≤2047)→GD (It d q)=true:=fun d hl hd=>by
  refine (FQ _ (Jq _ _ hl hq)).2 fun p hp=>?_
  rw [eu _ hd,Ct _ _ _ hl hq p hp]
  unfold SI;omega
 have f1:=XP (ou _ l2b ib) (ou _ l2c ic) u1 r k hr hk
 have lw:∀d:List Int,(Em d).length=64:=fun d=>(B7 _ _).out
 have e:∀d:List Int,∀p,p<64→AF (Oq q d) p=min (max (AF (Em (It d q)) p) (-40000)) 40000:=fun d p hp=>by
  unfold Oq;rw [JR _ _ _ (by rw [lw];exact hp)]
 rw [e _ _ (by omega),e _ _ (by omega),f1]
theorem Uq{m h:Int}{p:List Int}{k i:Nat}(hk:k<Aa m h)(hi:i<64):AF (BY (C8 p m h) 64 k) i=AF p ((min (GW ((m+7)/8) k i) (h-1))*m+min (FH ((m+7)/8) k i) (m-1)).toNat-128:=by
 rw [Db _ _ _ _ hi,C8,Cm _ _ _ (by omega),KF,show (k*64+i)/64=k by omega,show (k*64+i)%64=i by omega]
def LI(w x:Nat):Nat:=x/w*w+(w-1-x%w)
theorem bB(t:Nat):(((8*t:Nat):Int)+7)/8=(t:Int):=by omega
theorem Uh(t x:Nat):Eg ((8*t:Nat):Int) x=((x/(8*t)/8*t+x%(8*t)/8:Nat):Int):=by
 unfold Eg
 rw [bB]
 push_cast
 rfl
theorem Ui(t x:Nat):GV ((8*t:Nat):Int) x=((x/(8*t)%8*8+x%(8*t)%8:Nat):Int):=by
 unfold GV
 push_cast
 rfl
theorem KG{t a b:Nat}(hb:b<t):(a*t+b)/t=a∧(a*t+b)%t=b:=by
 have ht:0<t:=by omega
 constructor
 ·rw [Nat.add_comm,Nat.add_mul_div_right _ _ ht,Nat.div_eq_of_lt hb];omega
 rw [Nat.add_comm,Nat.add_mul_mod_self_right,Nat.mod_eq_of_lt hb]
theorem iQ{w a b:Nat}(hb:b<w):LI w (a*w+b)=a*w+(w-1-b):=by
 obtain ⟨h1,h2⟩:=KG (a:=a) hb
 unfold LI
 rw [h1,h2]
theorem Ig{w x:Nat}(hw:0<w):LI w x/w=x/w∧LI w x%w=w-1-x%w:=by
 unfold LI
 exact KG (by have:=Nat.mod_lt x hw;omega)
theorem PR{w H x:Nat}(hw:0<w)(h:x<w*H):LI w x<w*H:=by
 have h1:=(Ig (x:=x) hw).1
 have h2:x/w<H:=Nat.div_lt_of_lt_mul h
 rw [←h1] at h2
 exact (Nat.div_lt_iff_lt_mul hw).1 h2 |> fun h=>by rw [Nat.mul_comm];exact h
theorem UM{t H a b r k:Nat}(hH:0<H)(hb:b<t)(hr:r<8)(hk:k<8):
 ((min (GW ((((8*t:Nat):Int)+7)/8) ((a*t+b:Nat):Int) ((8*r+k:Nat):Int)) ((H:Int)-1))*((8*t:Nat):Int)+min (FH ((((8*t:Nat):Int)+7)/8) ((a*t+b:Nat):Int) ((8*r+k:Nat):Int)) (((8*t:Nat):Int)-1)).toNat=min (a*8+r) (H-1)*(8*t)+(b*8+k):=by
 obtain ⟨h1,h2⟩:=KG (a:=a) hb
 have e1:GW ((((8*t:Nat):Int)+7)/8) ((a*t+b:Nat):Int) ((8*r+k:Nat):Int)=((a*8+r:Nat):Int):=by
  unfold GW
  rw [bB,←Int.natCast_ediv,h1]
  omega
 have e2:FH ((((8*t:Nat):Int)+7)/8) ((a*t+b:Nat):Int) ((8*r+k:Nat):Int)=((b*8+k:Nat):Int):=by
  unfold FH
  rw [bB,←Int.natCast_emod,h2]
  omega
 rw [e1,e2,show min ((b*8+k:Nat):Int) (((8*t:Nat):Int)-1)=((b*8+k:Nat):Int) by omega,show min ((a*8+r:Nat):Int) ((H:Int)-1)=((min (a*8+r) (H-1):Nat):Int) by omega,←Int.natCast_mul,←Int.natCast_add,Int.toNat_natCast]
theorem TN{t H:Nat}{q p r:List Int}(ht:1≤t∧t≤8)(hH:1≤H∧H≤64)(hq:q.length=64)(oq:Ej q=true)(hp:∀i,0≤AF p i∧AF p i≤255)(hr:∀i,0≤AF r i∧AF r i≤255)
 (hm:∀x,x<8*t*H→AF r (LI (8*t) x)=AF p x) (x:Nat) (hx:x<8*t*H):AF (Ei ((8*t:Nat):Int) (H:Int) q r) (LI (8*t) x)=AF (Ei ((8*t:Nat):Int) (H:Int) q p) x:=by
 have hM:((8*t*H:Nat):Int)=((8*t:Nat):Int)*(H:Int):=Int.natCast_mul _ _
 have hw:0<8*t:=by omega
 obtain ⟨R,hR⟩:∃R,x/(8*t)=R:=⟨_,rfl⟩
 obtain ⟨C,hC⟩:∃C,x%(8*t)=C:=⟨_,rfl⟩
 have hCl:C<8*t:=by rw [←hC];exact Nat.mod_lt _ hw
 obtain ⟨d1,d2⟩:=Ig (x:=x) hw
 have hx2:=PR hw hx
 have hRl:R<H:=by rw [←hR];exact Nat.div_lt_of_lt_mul hx
 have hok:1≤((8*t:Nat):Int)∧((8*t:Nat):Int)≤64∧1≤(H:Int)∧(H:Int)≤64:=by omega
 have b1:=Uh t x
 have i1:=Ui t x
 have b2:=Uh t (LI (8*t) x)
 have i2:=Ui t (LI (8*t) x)
 rw [d1,d2] at b2 i2
 rw [hR,hC] at b1 i1 b2 i2
 obtain ⟨k1,j1,g1,g2,g3,g4,_⟩:=Lc (p:=p) hok hM hx
 obtain ⟨k2,j2,f1,f2,f3,f4,_⟩:=Lc (p:=r) hok hM hx2
 have ek1:k1=R/8*t+C/8:=by omega
 have ek2:k2=R/8*t+(8*t-1-C)/8:=by omega
 have ej1:j1=8*(R%8)+C%8:=by omega
 have ej2:j2=8*(R%8)+(7-C%8):=by omega
 rw [PZ hq hM hx g3 g4 g1 g2,PZ hq hM hx2 f3 f4 f1 f2]
 have ek3:(8*t-1-C)/8=t-1-C/8:=by omega
 have hC8:C/8<t:=by omega
 have hmi:fh (BY (C8 p ((8*t:Nat):Int) (H:Int)) 64 k1) (BY (C8 r ((8*t:Nat):Int) (H:Int)) 64 k2):=by
  intro ρ κ hρ hκ
  rw [Uq f1 (by omega),Uq g1 (by omega),ek1,ek2,ek3,UM (by omega) hC8 hρ (show 7-κ<8 by omega),UM (by omega) (show t-1-C/8<t by omega) hρ hκ]
  obtain ⟨row,hrow⟩:∃row,min (R/8*8+ρ) (H-1)=row:=⟨_,rfl⟩
  rw [hrow]
  have hcol:C/8*8+(7-κ)<8*t:=by omega
  have e:=iQ (a:=row) hcol
  rw [show 8*t-1-(C/8*8+(7-κ))=(t-1-C/8)*8+κ by omega] at e
  have hlt:row*(8*t)+(C/8*8+(7-κ))<8*t*H:=by
   have h1:(row+1)*(8*t)≤H*(8*t):=Nat.mul_le_mul_right _ (by omega)
   rw [Nat.add_mul,Nat.one_mul,Nat.mul_comm H] at h1
   omega
  rw [←hm _ hlt,e]
 rw [ej1,ej2]
 have e9:=ah hq oq (Br _ _ _ _ (by unfold C8;rw [Bb]) g1) (Br _ _ _ _ (by unfold C8;rw [Bb]) f1) (TT (by omega) (Sb hp) k1) (TT (by omega) (Sb hr) k2) hmi (R%8) (C%8) (by omega) (by omega)
 rw [e9]
end Go.Proofs.YtohacgmhmbijmaaGreatDoor
