/- What the laws RescueWhole TopTold FrameBack need, part 19. -/
import Derived.Test.YtohacgmhmbijmaaGreatDoorBaseSZ2
import Derived.Test.YtohacgmhmbijmaaGreatDoorBaseSZ3
import Derived.Test.YtohacgmhmbijmaaGreatDoorBaseSZ4
import Derived.Test.YtohacgmhmbijmaaGreatDoorBaseSZ5
import Derived.Test.YtohacgmhmbijmaaGreatDoorBaseSZ16
import Derived.Test.YtohacgmhmbijmaaGreatDoorBaseSZ18
import Derived.Test.YtohacgmhmbijmaaGreatDoorProg
namespace Go.Proofs.YtohacgmhmbijmaaGreatDoor
attribute [local irreducible] Region.wanted
open Go.RowKit
set_option linter.unusedVariables false
set_option maxRecDepth 100000
set_option maxHeartbeats 8000000
theorem Tj(C1 S1 C2 S2:List Int):∀(L:List (Nat×Nat))(ps:List (List Int))(k:Nat),ps.length=L.length→((Iv C1 S1 C2 S2 L ps).1=0→La C1 S1 C2 S2 L ps k=((Iv C1 S1 C2 S2 L ps).2,[]))∧((Iv C1 S1 C2 S2 L ps).1≠0→(La C1 S1 C2 S2 L ps k).2≠[])
 | [],ps,k,_=>⟨fun _=>rfl,fun h=>absurd rfl h⟩
 | x::L,[],k,h=>by simp at h
 | x::L,p::ps,k,h=>by
   obtain ⟨i1,i2⟩:=Tj C1 S1 C2 S2 L ps (k+1) (by simpa using h)
   obtain ⟨R,hR⟩:∃R,FQ C1 S1 C2 S2 p ((x.2-x.1:Nat):Int)=R:=⟨_,rfl⟩
   simp only [Iv,La,mR,List.headD_cons,List.tail_cons,hR]
   by_cases h0:R.1=0
   ·rw [if_neg (by simpa using h0),if_pos h0,if_pos h0]
    dsimp only
    refine ⟨fun h1=>?_,fun h1=>?_⟩
    ·rw [i1 h1];rfl
    rw [List.nil_append];exact i2 h1
   rw [if_pos h0,if_neg h0,if_neg h0]
   dsimp only
   exact ⟨fun h1=>absurd h1 h0,fun _=>by simp⟩
theorem XN(C1 S1 C2 S2 b:List Int)(n every:Int):
 (JG C1 S1 C2 S2 b n every≠0→IM C1 S1 C2 S2 b n every=(JG C1 S1 C2 S2 b n every,[])∧OV C1 S1 C2 S2 b n every=(JG C1 S1 C2 S2 b n every,[],[]))∧
 (JG C1 S1 C2 S2 b n every=0→(OV C1 S1 C2 S2 b n every).1=0∧((IM C1 S1 C2 S2 b n every).1=0→(OV C1 S1 C2 S2 b n every).2=((IM C1 S1 C2 S2 b n every).2,[]))∧
   ((IM C1 S1 C2 S2 b n every).1≠0→0<(OV C1 S1 C2 S2 b n every).2.2.length∨(IM C1 S1 C2 S2 b n every).1=6∨(IM C1 S1 C2 S2 b n every).1=4)):=by
 refine ⟨fun h=>?_,fun h=>?_⟩
 ·have hw:Ks C1 S1 C2 S2 b n every=JG C1 S1 C2 S2 b n every:=by unfold Ks;rw [if_neg h]
  refine ⟨?_,?_⟩
  ·unfold IM;rw [if_neg (by rw [hw];exact h),hw]
  unfold OV;rw [if_neg h]
 obtain ⟨_,_,⟨ps,ms⟩,hsp⟩:=Io h
 have hm:OV C1 S1 C2 S2 b n every=(0,La C1 S1 C2 S2 (BN n.toNat every.toNat) ps 0):=by unfold OV;rw [if_pos h,hsp]
 have hw:Ks C1 S1 C2 S2 b n every=if ps.length=(BN n.toNat every.toNat).length then if Hw ms ms.length then 0 else 6 else 4:=by unfold Ks;rw [if_pos h,hsp]
 rw [hm]
 refine ⟨rfl,?_⟩
 dsimp only
 by_cases hl:ps.length=(BN n.toNat every.toNat).length
 case neg=>
  rw [if_neg hl] at hw
  have hd:IM C1 S1 C2 S2 b n every=(4,[]):=by unfold IM;rw [if_neg (by rw [hw];decide),hw]
  rw [hd]
  exact ⟨fun h=>absurd h (by decide),fun _=> .inr (.inr rfl)⟩
 rw [if_pos hl] at hw
 cases hk:Hw ms ms.length
 ·rw [hk] at hw
  have hw6:Ks C1 S1 C2 S2 b n every=6:=hw
  have hd:IM C1 S1 C2 S2 b n every=(6,[]):=by unfold IM;rw [if_neg (by rw [hw6];decide),hw6]
  rw [hd]
  exact ⟨fun h=>absurd h (by decide),fun _=> .inr (.inl rfl)⟩
 rw [hk] at hw
 have hw0:Ks C1 S1 C2 S2 b n every=0:=hw
 obtain ⟨i1,i2⟩:=Tj C1 S1 C2 S2 (BN n.toNat every.toNat) ps 0 hl
 have hd:IM C1 S1 C2 S2 b n every=if (Iv C1 S1 C2 S2 (BN n.toNat every.toNat) ps).1=0 then Iv C1 S1 C2 S2 (BN n.toNat every.toNat) ps else ((Iv C1 S1 C2 S2 (BN n.toNat every.toNat) ps).1,[]):=by
  unfold IM;rw [if_pos hw0,hsp]
 rw [hd]
 by_cases h0:(Iv C1 S1 C2 S2 (BN n.toNat every.toNat) ps).1=0
 ·rw [if_pos h0]
  exact ⟨fun _=>i1 h0,fun h=>absurd h0 h⟩
 rw [if_neg h0]
 exact ⟨fun h=>absurd h h0,fun _=> .inl (List.length_pos_iff.2 (i2 h0))⟩
end Go.Proofs.YtohacgmhmbijmaaGreatDoor
namespace Go.Proofs.YtohacgmhmbijmaaGreatDoor
attribute [local irreducible] Region.wanted
open Go.ChangeShapes Go.WideShapes Go.ChangeAt Go.RowKit Go.Deep
set_option linter.unusedVariables false
set_option maxRecDepth 100000
set_option maxHeartbeats 8000000
theorem QC(a b:List Int)(i:Nat)(h:i<a.length):AJ (a++b) i=AJ a i:=by
 simp only [AJ,List.getD_eq_getElem?_getD,List.getElem?_append_left h]
theorem QD(a b:List Int)(i j:Nat)(h:i=a.length+j):AJ (a++b) i=AJ b j:=by
 subst h
 simp only [AJ,List.getD_eq_getElem?_getD]
 rw [List.getElem?_append_right (by omega),Nat.add_sub_cancel_left]
theorem We(C:List Int):∀(K k:Nat),k<K→AJ (cb C K) (2*k)=AJ C k/256∧AJ (cb C K) (2*k+1)=AJ C k%256
 | 0,k,h=>by omega
 | K+1,k,h=>by
   have hl:=bz C K
   by_cases hk:k<K
   ·rw [cb,QC _ _ _ (by omega),QC _ _ _ (by omega)]
    exact We C K k hk
   obtain rfl:k=K:=by omega
   rw [cb,QD _ _ _ 0 (by omega),QD _ _ _ 1 (by omega)]
   exact ⟨rfl,rfl⟩
theorem cG(P C R:List Int)(p k:Nat)(hp:P.length=p)(hk:k<16):rC (P++(cb C 16++R)) p k=AJ C k:=by
 have hl:=bz C 16
 obtain ⟨h1,h2⟩:=We C 16 k hk
 unfold rC
 rw [QD P _ _ (2*k) (by omega),QD P _ _ (2*k+1) (by omega),QC _ _ _ (by omega),QC _ _ _ (by omega),h1,h2]
 omega
theorem Xm(P C R:List Int)(p:Nat)(hp:P.length=p)(hC:C.length=16):Iu (P++(cb C 16++R)) p 16=C:=by
 have hl:(Iu (P++(cb C 16++R)) p 16).length=16:=by simp [Iu]
 refine Eb (by rw [hl,hC]) fun i hi=>?_
 rw [hl] at hi
 rw [←cG P C R p i hp hi]
 simp [Iu,AJ,List.getD,hi]
theorem Xl(P C R:List Int)(p:Nat)(hp:P.length=p)(h0:∀k,k<16→0≤AJ C k):∀k,k≤16→rA (P++(cb C 16++R)) p k=((sm (cc C) k:Nat):Int)
 | 0,_=>rfl
 | k+1,hk=>by
   have h1:=K9 C k (h0 k (by omega))
   have h2:sm (cc C) (k+1)=sm (cc C) k+cc C k:=rfl
   rw [rA,Xl P C R p hp h0 k (by omega),cG P C R p k hp (by omega),h2]
   omega
theorem Xn(P S R:List Int)(p n:Nat)(hp:P.length=p)(hn:S.length=n):rS (P++(S++R)) p n=S:=by
 have hl:(rS (P++(S++R)) p n).length=n:=by simp [rS]
 refine Eb (by rw [hl,hn]) fun i hi=>?_
 rw [hl] at hi
 have e:AJ (rS (P++(S++R)) p n) i=AJ (P++(S++R)) (p+i):=by simp [rS,AJ,List.getD,hi]
 rw [e,QD P _ _ i (by omega),QC _ _ _ (by omega)]
theorem eC(P C S R:List Int)(hP:P.length=70)(h:A4 C S=0):OQ (P++(cb C 16++R))=S.length:=by
 have k:=B8 h
 rw [OQ,Xl P C R 70 hP (fun i hi=>(k.1 i hi).1) 16 (Nat.le_refl _),k.2.1]
 rfl
theorem eD(l P C S R:List Int)(hl:l=P++(cb C 16++R))(hP:P.length=102+OQ l)(h:A4 C S=0):Td l=S.length:=by
 have k:=B8 h
 rw [Td,←hP]
 conv=>lhs;rw [hl]
 rw [Xl P C R P.length rfl (fun i hi=>(k.1 i hi).1) 16 (Nat.le_refl _),k.2.1]
 rfl
def Jc(f:A8):List Int:=G9 f++EQ f.quant
theorem Ip(f:A8):(Jc f).length=70:=by simp [Jc,G9,Bx]
theorem D0(f:A8):BF f=Jc f++(cb f.c1 16++(f.s1++(cb f.c2 16++(f.s2++BV f)))):=by
 simp [BF,Jc,Vf,L6,List.append_assoc]
theorem EI(f:A8):BF f=(Jc f++(cb f.c1 16++f.s1))++(cb f.c2 16++(f.s2++BV f)):=by
 rw [D0];simp [List.append_assoc]
theorem Iq(f:A8):(Jc f++(cb f.c1 16++f.s1)).length=102+f.s1.length:=by
 simp only [List.length_append,Ip,bz];omega
theorem Un(D:List Nat):(D.map fun (x:Nat)=>(x:Int)).map Int.toNat=D:=by
 rw [List.map_map]
 conv=>rhs;rw [←List.map_id D]
 exact List.map_congr_left fun x _=>by simp
theorem US{f:A8}(h:Bo f=0)(hQ:f.quant.length=64)(h1:f.c1.length=16)(h2:f.c2.length=16):C8 (BF f)=0∧EB (BF f)=f∧OQ (BF f)=f.s1.length∧Td (BF f)=f.s2.length∧VP (BF f)=134+f.s1.length+f.s2.length:=by
 obtain ⟨hdm,hqk,ht1,ht2,hdl⟩:=FK h
 have e1:OQ (BF f)=f.s1.length:=by rw [D0];exact eC _ _ _ _ (Ip f) ht1
 have e2:Td (BF f)=f.s2.length:=eD _ _ _ _ _ (EI f) (by rw [Iq,e1]) ht2
 have e3:VP (BF f)=134+f.s1.length+f.s2.length:=by rw [VP,e1,e2];omega
 have hlen:=Xh f
 have c1:=(B8 ht1).2.2.1
 have c2:=(B8 ht2).2.2.1
 have hF:EB (BF f)=f:=by
  unfold EB
  rw [e1,e2,e3]
  have q1:rQ (BF f) 64=EQ f.quant:=by
   show rS (BF f) 6 64=_
   rw [D0,Jc,List.append_assoc]
   exact Xn (G9 f) (EQ f.quant) _ 6 64 rfl (Bx _)
  have q2:Iu (BF f) 70 16=f.c1:=by rw [D0];exact Xm _ _ _ _ (Ip f) h1
  have q3:rS (BF f) 102 f.s1.length=f.s1:=by
   rw [D0,show Jc f++(cb f.c1 16++(f.s1++(cb f.c2 16++(f.s2++BV f))))=(Jc f++cb f.c1 16)++(f.s1++(cb f.c2 16++(f.s2++BV f))) by simp [List.append_assoc]]
   exact Xn _ _ _ _ _ (by simp only [List.length_append,Ip,bz]) rfl
  have q4:Iu (BF f) (102+f.s1.length) 16=f.c2:=by rw [EI];exact Xm _ _ _ _ (Iq f) h2
  have q5:rS (BF f) (102+f.s1.length+32) f.s2.length=f.s2:=by
   rw [EI,show (Jc f++(cb f.c1 16++f.s1))++(cb f.c2 16++(f.s2++BV f))=((Jc f++(cb f.c1 16++f.s1))++cb f.c2 16)++(f.s2++BV f) by simp [List.append_assoc]]
   exact Xn _ _ _ _ _ (by rw [List.length_append,Iq,bz]) rfl
  have q6:(BF f).drop (134+f.s1.length+f.s2.length)=BV f:=by
   rw [EI,show (Jc f++(cb f.c1 16++f.s1))++(cb f.c2 16++(f.s2++BV f))=(((Jc f++(cb f.c1 16++f.s1))++cb f.c2 16)++f.s2)++BV f by simp [List.append_assoc]]
   exact List.drop_left' (by rw [List.length_append,List.length_append,Iq,bz];omega)
  rw [q1,q2,q3,q4,q5,q6,BV,Un,No _ hQ]
  rfl
 refine ⟨?_,hF,e1,e2,e3⟩
 rw [C8,if_neg (by omega),if_neg (by omega),hF,if_pos ⟨h,rfl⟩]
end Go.Proofs.YtohacgmhmbijmaaGreatDoor
namespace Go.Proofs.YtohacgmhmbijmaaGreatDoor
attribute [local irreducible] Region.wanted
open Go.RowKit
set_option linter.unusedVariables false
set_option maxRecDepth 100000
set_option maxHeartbeats 8000000
theorem Uw(n:Int)(i:Nat)(h:i<64):(List.replicate i n++List.replicate (64-i) 0).set i n=List.replicate (i+1) n++List.replicate (64-(i+1)) 0:=by
 obtain ⟨m,hm⟩:∃m,64-i=m+1:=⟨64-i-1,by omega⟩
 rw [hm,show 64-(i+1)=m by omega,List.set_append_right _ _ (by simp),List.length_replicate,Nat.sub_self,List.replicate_succ,List.set_cons_zero,List.replicate_succ',List.append_assoc]
 rfl
theorem NH(w0:World)(n:Int):Calls Tryz.prog 62 #[.int .i64 n] w0 fun e w=>e= .returned (.agg (iv (List.replicate 64 n)))∧Af w0 w:=by
 have hS:=St.start w0
 go_enter Tryz.func62,Tryz.ntmps62
 repeat' (first
  | refine X1 ?_|refine KP 2 ?_;clear hS;intro g2 w hS|refine AH ?_;go_step|fail)
 go_loopg [4] 64 (fun gk kv w=>∃k:Nat,gk+k=64∧kv= .int .i64 k∧St w0 w [arr g2 64 (List.replicate k n++List.replicate (64-k) 0)])
 case atStart=>exact ⟨0,rfl,rfl,by rw [show List.replicate 0 n++List.replicate (64-0) 0=List.replicate 64 0 by simp];exact hS.sub AV⟩
 case round=>
  clear hS
  obtain ⟨k,hk,rfl,hS⟩:=hrel
  by_cases hlt:k<64
  ·have HX:=AD (Uw n k hlt)
   repeat' (first
    | refine X0 ?_|refine X2 ?_|refine WL 9 ?_|refine X7 ?_|refine WD ?_;clear hS;intro w hS|refine AH ?_;go_step|fail)
   go_roundg (gk-1)
   case measure=>omega
   case rel=>exact ⟨k+1,by omega,by go_num,by rw [←HX.out];exact hS.sub AV⟩
  obtain rfl:k=64:=by omega
  rw [show List.replicate 64 n++List.replicate (64-64) 0=List.replicate 64 n by simp] at hS
  repeat' (first
   | refine X2 ?_|refine Jt ?_|refine FX ?_;clear hS;intro w hS|refine AH ?_;go_step|fail)
  refine A9 rfl (AB.arr hS rfl (AO (n:=64) rfl) AK) rfl ?_
  exact ⟨rfl,hS.1⟩
theorem Lj(w:World)(f:A8)(a1 a2 ad:Option Addr)(n1 k1 n2 k2 nd kd:Nat)(hF:FM w f a1 a2 ad n1 k1 n2 k2 nd kd)(hE:Bo f=0):
 Calls Tryz.prog 39 #[fv f (.slice a1 n1 k1) (.slice a2 n2 k2) (.slice ad nd kd)] w fun e w'=>∃(ao:Option Addr) (co:Nat),e= .returned (.tuple #[.slice ao (BF f).length co, .int .i64 0])∧St w w' [own 5 1 ao (BF f).length co ((BF f).map (Value.int .u8))]:=
 TV w f a1 a2 ad n1 n2 nd k1 k2 kd hF.q hF.l1 hF.l2 hF.s1 hF.s2 hF.sd hE
theorem VN(w0:World)(a:Option Addr)(n c:Nat)(l:List Int)(hv:Sl w0 1 (.slice a n c) n (l.map (Value.int .u8)))(hr:Hid (∀i,i<l.length→0≤AJ l i∧AJ l i<256))(hE:C8 l=0)(f:A8)(hf:EB l=f)(m1 m2 md:Nat)(q1:OQ l=m1)(q2:Td l=m2)(q3:l.length-VP l=md)(Dt:List Int)(hD:BV f=Dt):
 Calls Tryz.prog 40 #[.slice a n c] w0 fun e w=>∃(a1 a2 ad:Option Addr) (c1 c2 cd:Nat),e= .returned (.tuple #[fv f (.slice a1 m1 c1) (.slice a2 m2 c2) (.slice ad md cd), .int .i64 0])∧
  St w0 w [own 3 1 a1 m1 c1 (f.s1.map (Value.int .i64)),own 3 1 a2 m2 c2 (f.s2.map (Value.int .i64)),own 5 1 ad md cd (Dt.map (Value.int .u8))]:=by
 have hln:l.length=n:=by have:=hv.1;simpa using this
 have hs:n≤91000:=by
  by_cases h:91000<l.length
  ·rw [C8,if_pos h] at hE;exact absurd hE (by decide)
  omega
 refine (R0 w0 a n c l hv hr hs).mono fun e w ⟨_,k⟩=>?_
 have:=k hE
 rw [hf,q1,q2,q3,hD] at this
 exact this
theorem Sn(C:List Int):∀k,(cb C k).length=2*k
 | 0=>rfl
 | k+1=>by rw [cb,List.length_append,Sn C k];simp;omega
theorem Ll(w:World)(f:A8)(hQ:f.quant.length=64)(h1:f.c1.length=16)(h2:f.c2.length=16)(hd:∀x∈f.data,x<256)(hE:Bo f=0)(ao:Option Addr)(co:Nat)(hv:Sl w 1 (.slice ao (BF f).length co) (BF f).length ((BF f).map (Value.int .u8))):
 Calls Tryz.prog 40 #[.slice ao (BF f).length co] w fun e w'=>∃(a1 a2 ad:Option Addr) (k1 k2 kd:Nat),e= .returned (.tuple #[fv f (.slice a1 f.s1.length k1) (.slice a2 f.s2.length k2) (.slice ad f.data.length kd), .int .i64 0])∧St w w' [own 3 1 a1 f.s1.length k1 (f.s1.map (Value.int .i64)),own 3 1 a2 f.s2.length k2 (f.s2.map (Value.int .i64)),own 5 1 ad f.data.length kd ((BV f).map (Value.int .u8))]:=by
 obtain ⟨b1,b2,b3,b4,b5⟩:=US hE hQ h1 h2
 have hl:(BF f).length=134+f.s1.length+f.s2.length+f.data.length:=by
  simp only [BF,G9,Vf,L6,BV,List.length_append,List.length_map,Bx,Sn,List.length_cons,List.length_nil]
  omega
 exact VN w ao _ co (BF f) hv (AD (My (J7 hE hQ hd))) b1 f b2 _ _ _ b3 b4 (by rw [b5,hl];omega) _ rfl
theorem fq{w:World}{f:A8}{a1 a2 ad:Option Addr}{k1 k2 kd:Nat}(hq:Ac f.quant 64)(l1:Ac f.c1 16)(l2:Ac f.c2 16)(hd:∀x∈f.data,x<256)(s1:Sl w 1 (.slice a1 f.s1.length k1) f.s1.length (f.s1.map (Value.int .i64)))(s2:Sl w 1 (.slice a2 f.s2.length k2) f.s2.length (f.s2.map (Value.int .i64)))(sd:Sl w 1 (.slice ad f.data.length kd) f.data.length ((BV f).map (Value.int .u8))):FM w f a1 a2 ad f.s1.length k1 f.s2.length k2 f.data.length kd:=
 ⟨hq,l1,l2,s1,s2,Eh s1,Eh s2,sd,Eh sd,hd⟩
theorem Gv(w0:World)(hml:∃m,w0.cell? ⟨0,0,none⟩=some (.int .i64 m)):Calls Tryz.prog 35 #[] w0 fun e w=>e= .returned (.bool true)∧Af w0 w:=by
 have hS:=St.start w0
 have HML:=AD hml
 have HE:Hid (∀w a6 a7,Av w a7 1 [⟨a6,2,[128,128]⟩]→Calls Tryz.prog 17 #[.agg #[.int .i64 2, .int .i64 1, .slice a7 1 1], .agg (iv (List.replicate 64 1)), .int .i64 3] w fun e w'=>∃(C1 S1 C2 S2 D:List Int) (a1 a2 ad:Option Addr) (n1 k1 n2 k2 nd kd:Nat),O8 (List.replicate 64 0) 1 3 C1 S1 C2 S2 D∧
  e= .returned (.tuple #[.agg (AF [.val (.int .i64 2), .val (.int .i64 1), .val (.int .i64 1), .ints (List.replicate 64 1), .ints C1, .val (.slice a1 n1 k1), .ints C2, .val (.slice a2 n2 k2), .val (.int .i64 3), .val (.slice ad nd kd)]).toArray, .int .i64 0])∧St w w' [own 3 1 a1 n1 k1 (S1.map (Value.int .i64)),own 3 1 a2 n2 k2 (S2.map (Value.int .i64)),own 5 1 ad nd kd (D.map (Value.int .u8))]):=
  fun w a6 a7 hP=>S7 w 2 (by decide) 3 (by decide) a6 a7 2 1 hP
 -- the file, as one word
 have HF:Hid (∀(C1 S1 C2 S2 D:List Int),O8 (List.replicate 64 0) 1 3 C1 S1 C2 S2 D→∃f:A8,f=E9 2 1 1 (List.replicate 64 1) C1 S1 C2 S2 3 D∧Bo f=0∧BV f=D∧(∀x∈f.data,x<256)∧Ma f=0∧Uq f=[[128,128]]):=fun C1 S1 C2 S2 D he=>by
  obtain ⟨h1,h2,h3,h4,h5⟩:=Pg (m:=2) (h:=1) (np:=1) (n:=1) (K:=1) (q:=List.replicate 64 1) (B:=List.replicate 64 0) (ev:=3) (by decide) (.inl rfl) (by decide+kernel) (by decide) (by decide+kernel) rfl rfl (by decide+kernel) he
  have hlt:∀x∈D,0≤x∧x<256:=by rw [he.d];exact Gf
  refine ⟨_,rfl,h2,h1,fun x hx=>?_,h4,h5.trans (OF 2 (by decide))⟩
  obtain ⟨y,hy,rfl⟩:=List.mem_map.1 hx
  have:=hlt y hy
  omega
 have HPK:Hid (∀w (C1 S1 C2 S2 D:List Int) (a1 a2 ad:Option Addr) (n1 k1 n2 k2 nd kd:Nat),O8 (List.replicate 64 0) 1 3 C1 S1 C2 S2 D→Sl w 1 (.slice a1 n1 k1) n1 (S1.map (Value.int .i64))→Sl w 1 (.slice a2 n2 k2) n2 (S2.map (Value.int .i64))→Sl w 1 (.slice ad nd kd) nd (D.map (Value.int .u8))→
  Calls Tryz.prog 39 #[.agg (AF [.val (.int .i64 2), .val (.int .i64 1), .val (.int .i64 1), .ints (List.replicate 64 1), .ints C1, .val (.slice a1 n1 k1), .ints C2, .val (.slice a2 n2 k2), .val (.int .i64 3), .val (.slice ad nd kd)]).toArray] w fun e w'=>∃(ao:Option Addr) (co N:Nat) (P:List Int),P=BF (E9 2 1 1 (List.replicate 64 1) C1 S1 C2 S2 3 D)∧N=P.length∧e= .returned (.tuple #[.slice ao N co, .int .i64 0])∧St w w' [own 5 1 ao N co (P.map (Value.int .u8))]):=
  fun w C1 S1 C2 S2 D a1 a2 ad n1 k1 n2 k2 nd kd he s1 s2 sd=>by
   obtain ⟨f,hf,g1,g2,g3,_,_⟩:=HF.out C1 S1 C2 S2 D he
   have hlt:∀x∈D,0≤x∧x<256:=by rw [he.d];exact Gf
   have hFM:=S0 (m:=2) (h:=1) (np:=1) (ev:=3) (q:=List.replicate 64 1) List.length_replicate he.l1 he.l2 hlt s1 s2 sd
   rw [hf] at g1
   exact (Lj w _ a1 a2 ad n1 k1 n2 k2 nd kd hFM g1).mono fun e w' ⟨ao,co,r1,r2⟩=>⟨ao,co,_,_,rfl,rfl,r1,r2⟩
 have HPA:Hid (∀w (C1 S1 C2 S2 D:List Int) (P:List Int) (N:Nat) (ao:Option Addr) (co:Nat),O8 (List.replicate 64 0) 1 3 C1 S1 C2 S2 D→P=BF (E9 2 1 1 (List.replicate 64 1) C1 S1 C2 S2 3 D)→N=P.length→Sl w 1 (.slice ao N co) N (P.map (Value.int .u8))→
  Calls Tryz.prog 40 #[.slice ao N co] w fun e w'=>∃(a1 a2 ad:Option Addr) (n1 k1 n2 k2 nd kd:Nat),e= .returned (.tuple #[.agg (AF [.val (.int .i64 2), .val (.int .i64 1), .val (.int .i64 1), .ints (List.replicate 64 1), .ints C1, .val (.slice a1 n1 k1), .ints C2, .val (.slice a2 n2 k2), .val (.int .i64 3), .val (.slice ad nd kd)]).toArray, .int .i64 0])∧St w w' [own 3 1 a1 n1 k1 (S1.map (Value.int .i64)),own 3 1 a2 n2 k2 (S2.map (Value.int .i64)),own 5 1 ad nd kd (D.map (Value.int .u8))]):=
  fun w C1 S1 C2 S2 D P N ao co he hP hN hv=>by
   subst hN hP
   obtain ⟨f,hf,g1,g2,g3,_,_⟩:=HF.out C1 S1 C2 S2 D he
   have hlt:∀x∈D,0≤x∧x<256:=by rw [he.d];exact Gf
   rw [hf] at g1 g2 g3
   refine (Ll w (E9 2 1 1 (List.replicate 64 1) C1 S1 C2 S2 3 D) List.length_replicate he.l1.out he.l2.out g3 g1 ao co hv).mono fun e w' hh=>?_
   obtain ⟨a1,a2,ad,k1,k2,kd,r1,r2⟩:=hh
   rw [g2] at r2
   exact ⟨a1,a2,ad,_,k1,_,k2,_,kd,r1,r2⟩
 have HD:Hid (∀w (C1 S1 C2 S2 D:List Int) (a1 a2 ad:Option Addr) (n1 k1 n2 k2 nd kd:Nat),(∃m,w.cell? ⟨0,0,none⟩=some (.int .i64 m))→O8 (List.replicate 64 0) 1 3 C1 S1 C2 S2 D→Sl w 1 (.slice a1 n1 k1) n1 (S1.map (Value.int .i64))→Sl w 1 (.slice a2 n2 k2) n2 (S2.map (Value.int .i64))→Sl w 1 (.slice ad nd kd) nd (D.map (Value.int .u8))→
  Calls Tryz.prog 21 #[.agg (AF [.val (.int .i64 2), .val (.int .i64 1), .val (.int .i64 1), .ints (List.replicate 64 1), .ints C1, .val (.slice a1 n1 k1), .ints C2, .val (.slice a2 n2 k2), .val (.int .i64 3), .val (.slice ad nd kd)]).toArray] w fun e w'=>∃(a:Option Addr) (c:Nat) (R:List Rw),R.map (·.xs)=[[128,128]]∧e= .returned (.tuple #[.agg #[.int .i64 2, .int .i64 1, .slice a R.length c], .int .i64 0])∧Cc w w' a c R []):=
  fun w C1 S1 C2 S2 D a1 a2 ad n1 k1 n2 k2 nd kd hm he s1 s2 sd=>by
   refine (Kd w (m:=2) (h:=1) (np:=1) (n:=1) (K:=1) (q:=List.replicate 64 1) (B:=List.replicate 64 0) (ev:=3) (by decide) (.inl rfl) List.length_replicate (by decide+kernel) (by decide) (by decide+kernel) rfl rfl (by decide+kernel) he s1 s2 sd hm).mono fun e w' hh=>?_
   obtain ⟨a,c,R,r1,r2,r3⟩:=hh
   exact ⟨a,c,R,r1.trans (OF 2 (by decide)),r2,r3⟩
 clear hml HF
 go_enter Tryz.func35,Tryz.ntmps35
 repeat' (first
  | refine X8 ?_|(refine AP 12 ?_);(refine Ap AA (V.build (vs:=[(0,_),(1,_),(2,_)]) rfl (K7 _ _ _ _ _)) ?_;go_step)|(refine AP 10 ?_);(refine Ad ?_;apply AT (o:=⟨some 10,_,_,_,_,_⟩) hS 30 2 _ rfl 3 1 8 Mb _ _;(case hvs=>(repeat (first|exact AW.nil|(apply AW.agg;(rfl);(rfl))|(apply AW.one;exact CC;(rfl);(rfl)))));(case hn=>rfl);(case hn0=>decide);(case hns=>decide);clear hS;intro g10 w hS;refine AC ?_;go_step)|refine cY 11 ?_;clear hS;intro g11 w hS|refine GB 1 ?_;clear hS;intro g1 w hS|refine Ns ?_;clear hS;intro w hS|refine AH ?_;go_step|fail)
 refine AR [2,7] (fun w=>St w0 w [blk g1 [.int .i64 2, .int .i64 1, .slice (some ⟨g11,0,none⟩) 1 1],blk g11 [.slice (some ⟨g10,0,none⟩) 2 2],blk g10 [.int .i64 128, .int .i64 128]]) AA ?_
 replace hS:=hS.drew
 focus
  refine iO 0 [2,3,4,5,7,8] ?_
  refine BL [1,6] AA (by simp) (.cons Ar AA ?_ (.cons Ar AA ?_ (.nil)))
  rotate_left 1
  focus
   refine Y8 ?_;clear hS;intro g2 w hS
   refine At 1 ?_
   refine AY (f:=62) rfl Tryz.call62 (NH _ 1) ?_;rintro e w ⟨rfl,hE⟩;replace hS:=hS.ext hE;clear hE;refine ⟨_,rfl,?_⟩
   refine ⟨fun _ _=>hS.sub AV,?_⟩
   refine AL ?_
   go_step
   refine At 2 ?_
   refine AY (f:=17) rfl Tryz.call17 (HE.out _ (some ⟨g10,0,none⟩) (some ⟨g11,0,none⟩) (E3 (xs:=[128,128]) (cs:=[.int .i64 128, .int .i64 128]) hS AK AK rfl rfl (by decide))) ?_;rintro e w ⟨C1,S1,C2,S2,D,a1,a2,ad,n1,k1,n2,k2,nd,kd,hen,rfl,hS2⟩;replace hS:=hS.call hS2;clear hS2;simp only [List.cons_append,List.nil_append] at hS;have hC1:=hen.l1;have hC2:=hen.l2;have HEN:=AD hen;clear hen;refine ⟨_,rfl,?_⟩
   refine ⟨fun h=>absurd (by decide) h,?_⟩
   refine AL ?_
   go_step
   refine Ab 3 ?_
   refine Y2 4 ?_
   refine Y2 5 ?_
   refine At 7 ?_
   refine Y9 ?_;clear hS;intro w hS
   refine Ab 8 ?_
   refine AE AA ?_ _
  rotate_right 1
  focus
   refine AY (f:=62) rfl Tryz.call62 (NH _ 1) ?_;rintro e w ⟨rfl,hE⟩;replace hS:=hS.ext hE;clear hE;refine ⟨_,rfl,?_⟩
   refine ⟨fun _ _=>hS.sub AV,?_⟩
   refine AL ?_
   go_step
   refine BL [2,6] AA (by simp) (.cons Ar AA ?_ (.cons Ar AA ?_ (.nil)))
   rotate_left 1
   focus
    refine Y8 ?_;clear hS;intro g2 w hS
    refine At 2 ?_
    refine AY (f:=17) rfl Tryz.call17 (HE.out _ (some ⟨g10,0,none⟩) (some ⟨g11,0,none⟩) (E3 (xs:=[128,128]) (cs:=[.int .i64 128, .int .i64 128]) hS AK AK rfl rfl (by decide))) ?_;rintro e w ⟨C1,S1,C2,S2,D,a1,a2,ad,n1,k1,n2,k2,nd,kd,hen,rfl,hS2⟩;replace hS:=hS.call hS2;clear hS2;simp only [List.cons_append,List.nil_append] at hS;have hC1:=hen.l1;have hC2:=hen.l2;have HEN:=AD hen;clear hen;refine ⟨_,rfl,?_⟩
    refine ⟨fun h=>absurd (by decide) h,?_⟩
    refine AL ?_
    go_step
    refine Ab 3 ?_
    refine Y2 4 ?_
    refine Y2 5 ?_
    refine At 7 ?_
    refine Y9 ?_;clear hS;intro w hS
    refine Ab 8 ?_
    refine AE AA ?_ _
   rotate_right 1
   focus
    refine AY (f:=17) rfl Tryz.call17 (HE.out _ (some ⟨g10,0,none⟩) (some ⟨g11,0,none⟩) (E3 (xs:=[128,128]) (cs:=[.int .i64 128, .int .i64 128]) hS AK AK rfl rfl (by decide))) ?_;rintro e w ⟨C1,S1,C2,S2,D,a1,a2,ad,n1,k1,n2,k2,nd,kd,hen,rfl,hS2⟩;replace hS:=hS.call hS2;clear hS2;simp only [List.cons_append,List.nil_append] at hS;have hC1:=hen.l1;have hC2:=hen.l2;have HEN:=AD hen;clear hen;refine ⟨_,rfl,?_⟩
    refine ⟨fun h=>absurd (by decide) h,?_⟩
    refine AL ?_
    go_step
    refine Ab 3 ?_
    refine Y2 4 ?_
    refine Y2 5 ?_
    refine At 6 ?_
    refine Y8 ?_;clear hS;intro g2 w hS
    refine At 7 ?_
    refine Y9 ?_;clear hS;intro w hS
    refine Ab 8 ?_
    refine AE AA ?_ _
 all_goals
  repeat' (first|(refine AH ?_;go_step)|fail)
  repeat' (first
   | (refine Al 39 ?_);refine Am AA Tryz.call39 (HPK.out _ C1 S1 C2 S2 D a1 a2 ad n1 k1 n2 k2 nd kd HEN.out (hS.sl AK) (hS.sl AK) (hS.sl AK)) ?_;rintro e w ⟨ao,co,N,P,hP,hN,rfl,hS2⟩;replace hS:=hS.call1 hS2;clear hS2;have HP:=AD hP;have HN:=AD hN;clear hP hN;refine AX ?_;go_step|(refine Al 40 ?_);refine Am AA Tryz.call40 (HPA.out _ C1 S1 C2 S2 D P N ao co HEN.out HP.out HN.out (hS.sl AK)) ?_;rintro e w ⟨b1,b2,bd,m1,j1,m2,j2,md,jd,rfl,hS2⟩;replace hS:=hS.call hS2;clear hS2;simp only [List.cons_append,List.nil_append] at hS;refine AX ?_;go_step|refine X0 ?_|refine X4 ?_|refine JE ?_|refine RD 6 ?_;clear hS;intro g6 w hS|refine Qz ?_;clear hS;intro w hS|refine AH ?_;go_step|fail)
  repeat' (first
   | (refine Al 21 ?_);refine Am AA Tryz.call21 (HD.out _ C1 S1 C2 S2 D b1 b2 bd m1 j1 m2 j2 md jd (HML.out.imp fun m h=>hS.1.cell h) HEN.out (hS.sl AK) (hS.sl AK) (hS.sl AK)) ?_;rintro e w ⟨a9,c9,R9,hR9,rfl,hP9⟩;replace hS:=hS.call hP9;clear hP9;simp only [List.cons_append,List.nil_append] at hS;have HR9:=AD hR9;clear hR9;refine AX ?_;go_step|(refine Al 23 ?_);refine Am AA Tryz.call23 (BQ _ 2 1 (some ⟨g11,0,none⟩) a9 1 c9 [⟨some ⟨g10,0,none⟩,2,[128,128]⟩] R9 (E3 (xs:=[128,128]) (cs:=[.int .i64 128, .int .i64 128]) hS AK AK rfl rfl (by decide)) (Av.of hS AK AK) (by show 1≤9223372036854775807;omega) HR9.out.symm) (EW hS ?_);clear hS;intro w hS;go_step|refine X0 ?_|refine Eu ?_|refine X9 35 ?_ ?_<;>intro hB<;>(try exact AQ)<;>go_step|refine X9 38 ?_ ?_<;>intro hB<;>(try exact AQ)<;>go_step|refine X9 42 ?_ ?_<;>intro hB<;>(try exact AQ)<;>go_step|refine X9 46 ?_ ?_<;>intro hB<;>(try exact AQ)<;>go_step|refine X4 ?_|refine GB 8 ?_;clear hS;intro g8 w hS|refine Ns ?_;clear hS;intro w hS|refine PF ?_|refine AH ?_;go_step|fail)
  all_goals (try exact AQ)
  all_goals (try (have hF:False:=(hB rfl);cases hF))
  all_goals
   go_ret
   exact ⟨rfl,hS.1⟩
theorem di{w:World}{a:Option Addr}{n c:Nat}{l:List Int}(hv:Sl w 64 (.slice a n c) n (l.map (Value.int .i64)))(k:Nat)(hk:k<n):∃b off,a=some ⟨b,off,none⟩∧w.rangeAt b (off+k*64) ((Bp l 64 k).map (Value.int .i64)):=by
 obtain ⟨hl,a',c',e,_,_,hor⟩:=hv
 cases e
 rw [List.length_map] at hl
 rcases hor with h0|⟨b,off,rfl,hc⟩
 ·omega
 refine ⟨b,off,rfl,fun j v hj=>?_⟩
 have hs:=CT l 64 k n hl hk
 have hj64:j<64:=by
  rcases Nat.lt_or_ge j 64 with h|h
  ·exact h
  rw [List.getElem?_eq_none (by rw [List.length_map,hs];exact h)] at hj;cases hj
 rw [Nat.add_assoc,hc (k*64+j) (by omega),List.getElem?_map]
 rw [List.getElem?_map] at hj
 rw [←hj]
 unfold Bp
 rw [List.getElem?_take,if_pos hj64,List.getElem?_drop]
theorem Uu(w0:World)(a b:Option Addr)(n c d:Nat)(xs:List Int)(ha:Sl w0 64 (.slice a n c) n (xs.map (Value.int .i64)))(hb:Sl w0 64 (.slice b n d) n (xs.map (Value.int .i64)))(hn:n≤9223372036854775807):
 Calls Tryz.prog 22 #[.slice a n c, .slice b n d] w0 fun e w=>e= .returned (.bool true)∧Af w0 w:=by
 have hlx:xs.length=n*64:=by have:=ha.1;simpa using this
 have HX:=AD hlx
 clear hlx
 have hS:=St.start w0
 go_enter Tryz.func22,Tryz.ntmps22
 repeat' (first
  | refine X0 ?_|refine Vw ?_|refine KR ?_|refine AH ?_;go_step|fail)
 all_goals (try exact AQ)
 repeat' (first
  | refine AH ?_;go_step|fail)
 go_loopg [14] n (fun gk kv w=>∃k:Nat,gk+k=n∧kv= .int .i64 k∧St w0 w [])
 case atStart=>exact ⟨0,rfl,rfl,hS.sub AV⟩
 case round=>
  clear hS
  obtain ⟨k,hk,rfl,hS⟩:=hrel
  by_cases hlt:k<n
  ·obtain ⟨bb,ob,rfl,hrb⟩:=di hb k hlt
   have hly:Ac (Bp xs 64 k) 64:=CT xs 64 k n HX.out hlt
   have hd:Hid (decide (Bp xs 64 k≠Bp xs 64 k)=false):=AD (by simp)
   repeat' (first
    | refine X0 ?_|refine X2 ?_|refine bi 17 ?_;intro b17 o17 hl17 hc17;go_step|refine ZW ?_|refine KP 6 ?_;clear hS;intro g6 w hS|refine FX ?_;clear hS;intro w hS|refine AH ?_;go_step|fail)
   all_goals (try exact AQ)
   refine AR [] (fun w=>St w0 w [arr g6 64 (Bp xs 64 k)]) AA ?_
   replace hS:=hS.drew
   focus
    refine gZ 0 [5] ?_
    refine Ab 1 ?_
    refine Ab 2 ?_
    refine BX 3 BU (V.indexSl Tryz.underlying42 Id rfl rfl BJ (by omega) rfl BK) ?_;go_step
    apply Cr 4 Ar AA AA AA Cp [5] AA (hS.sub AV)
    case hfr=>intro w hS;((refine Ad ?_;apply Dl hS 26 _ rfl _ _ rfl 64 (AO rfl) _;(case hl=>with_reducible assumption);(case hr=>with_reducible assumption);refine AC ?_;go_step));refine wpList_nil ?_;exact ⟨rfl,rfl⟩
    case hd=>rfl
    refine BX 5 BU (V.neqA b9 rfl rfl (by (repeat (first|assumption|exact Ac.rep|apply Ac.set|((with_reducible show Ac (_::_) _);exact rfl)))) (by (repeat (first|assumption|exact Ac.rep|apply Ac.set|((with_reducible show Ac (_::_) _);exact rfl))))) ?_;go_step
    refine AE AA ?_ _
   all_goals
    repeat' (first|(refine AH ?_;go_step)|fail)
    rw [hd.out]
    repeat' (first
     | refine X1 ?_|refine X7 ?_|refine AH ?_;go_step|fail)
    go_roundg (gk-1)
    case measure=>omega
    case rel=>exact ⟨k+1,by omega,by go_num,hS.sub AV⟩
  obtain rfl:k=n:=by omega
  repeat' (first
   | refine X8 ?_|refine X2 ?_|refine AH ?_;go_step|fail)
  all_goals (try exact AQ)
  repeat' (first
   | refine AH ?_;go_step|fail)
  go_ret
  exact ⟨rfl,hS.1⟩
end Go.Proofs.YtohacgmhmbijmaaGreatDoor
namespace Go.Proofs.YtohacgmhmbijmaaGreatDoor
attribute [local irreducible] Region.wanted
open Go.ChangeShapes Go.WideShapes Go.ChangeAt Go.RowKit
set_option linter.unusedVariables false
set_option maxRecDepth 100000
set_option maxHeartbeats 8000000
theorem XZ{W:World}{base:Nat}{v:Value}(ho:Value.okWide Tryz.prog W .any base 26 v):
 ∃l:List Int,l.length=64∧v= .agg (iv l)∧∀i,i<64→ -9223372036854775808≤AJ l i∧AJ l i≤9223372036854775807:=by
 obtain ⟨l,hl,hv,hb⟩:=d7 (ts:=List.replicate 64 3) (by rw [Tryz.underlying26]) AA (fun u hu=>by rw [List.eq_of_mem_replicate hu];exact Tryz.underlying3) ho
 have hc:Tryz.prog.cellsOf 26=64:=by kernel_rfl
 rw [hc] at hl
 exact ⟨l,hl,hv,fun i hi=>hb i (by omega)⟩
end Go.Proofs.YtohacgmhmbijmaaGreatDoor
