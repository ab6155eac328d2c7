/- What the laws FrameAlone FrameGray FrameNear FrameFlat TopScale TopMirror need, part 18. -/
import Derived.Test.YtohacgmhmbijmaaGreatDoorBaseNZ1
import Derived.Test.YtohacgmhmbijmaaGreatDoorBaseNZ2
import Derived.Test.YtohacgmhmbijmaaGreatDoorBaseNZ3
import Derived.Test.YtohacgmhmbijmaaGreatDoorBaseNZ4
import Derived.Test.YtohacgmhmbijmaaGreatDoorBaseNZ5
import Derived.Test.YtohacgmhmbijmaaGreatDoorBaseNZ6
import Derived.Test.YtohacgmhmbijmaaGreatDoorBaseNZ10
import Derived.Test.YtohacgmhmbijmaaGreatDoorBaseNZ16
import Derived.Test.YtohacgmhmbijmaaGreatDoorBaseNZ17
import Derived.Test.YtohacgmhmbijmaaGreatDoorProg
namespace Go.Proofs.YtohacgmhmbijmaaGreatDoor
attribute [local irreducible] Region.wanted
open Go.RowKit
set_option linter.unusedVariables false
set_option maxRecDepth 100000
set_option maxHeartbeats 8000000
theorem Ks{α β:Type}(f:α→List β)(m:Nat):∀(L:List α),(∀x∈L,(f x).length≤m)→(L.flatMap f).length≤L.length*m
 | [],_=>Nat.zero_le _
 | x::L,h=>by
   have h1:=h x (by simp)
   have h2:=Ks f m L fun y hy=>h y (by simp [hy])
   rw [List.flatMap_cons,List.length_append,List.length_cons,Nat.add_mul]
   omega
theorem eB{C1 S1 C2 S2 l:List Int}{n:Nat}(hl:l.length=n*64):(EL C1 S1 C2 S2 l n).length≤448*n:=by
 unfold EL
 split
 ·rename_i h0
  obtain ⟨ht,hb,ha,hw⟩:=Mz h0
  obtain ⟨t1,t2⟩:=Jn ht
  obtain ⟨k1,k2⟩:=Jo hl n 0 (by omega)
  have e:CD C1 S1 C2 S2 l n=(Dz l 0 n).flatMap (Bl (CE C1 S1) (CE C2 S2)):=by
   unfold CD;rw [JF _ _ _ _ hw];rfl
  have h1:(CD C1 S1 C2 S2 l n).length≤(Dz l 0 n).length*28:=by
   rw [e]
   refine Ks _ 28 _ fun x hx=>?_
   obtain ⟨⟨_,_⟩,⟨h3,h4⟩,_⟩:=k1 x hx
   unfold Bl
   rw [List.length_append,Av]
   have h5:(wb (if x.2 then CE C1 S1 else CE C2 S2) x.1.1).length≤16:=by
    split
    ·exact P9 (CC t1) _
    exact P9 (CC t2) _
   omega
  have h2:(Dz l 0 n).length*28≤64*n*28:=Nat.mul_le_mul_right _ k2
  have h3:=List.count_le_length (a:=(255:Int)) (l:=Gw (bytesOf (CD C1 S1 C2 S2 l n)))
  rw [Pt]
  have h4:(Gw (bytesOf (CD C1 S1 C2 S2 l n))).length=((CD C1 S1 C2 S2 l n).length+7)/8:=by
   unfold Gw;rw [List.length_map,Gx]
  omega
 exact Nat.zero_le _
theorem ZM:∀(ps:List (List Int))(k:Nat),(N5 ps k).length≤(ps.map List.length).sum+2*ps.length
 | [],_=>Nat.zero_le _
 | p::ps,k=>by
   have ih:=ZM ps (k+1)
   have h1:(if k=0 then ([]:List Int) else [255,((208+(k-1)%8:Nat):Int)]).length≤2:=by split<;>simp
   rw [N5,List.length_append,List.length_append,List.map_cons,List.sum_cons,List.length_cons]
   omega
theorem aT{α:Type}(f g:α→Nat)(m:Nat):∀(L:List α),(∀x∈L,f x≤m*g x)→(L.map f).sum≤m*(L.map g).sum
 | [],_=>Nat.zero_le _
 | x::L,h=>by
   have h1:=h x (by simp)
   have h2:=aT f g m L fun y hy=>h y (by simp [hy])
   rw [List.map_cons,List.map_cons,List.sum_cons,List.sum_cons,Nat.mul_add]
   omega
theorem dG{C1 S1 C2 S2 l:List Int}{n:Nat}(every:Nat)(hl:l.length=n*64):(N5 (Fm C1 S1 C2 S2 l (Bo n every)) 0).length≤450*n+2:=by
 refine Nat.le_trans (ZM _ _) ?_
 have h1:((Fm C1 S1 C2 S2 l (Bo n every)).map List.length).sum≤448*n:=by
  unfold Fm
  rw [List.map_map]
  refine Nat.le_trans (aT _ (fun x=>x.2-x.1) 448 _ fun x hx=>?_) (by rw [VG];exact Nat.le_refl _)
  obtain ⟨a1,a2⟩:=Hj n every x hx
  exact eB (Et hl a1 a2)
 have h2:(Fm C1 S1 C2 S2 l (Bo n every)).length≤n+1:=by
  unfold Fm;rw [List.length_map];exact VE n every
 omega
theorem ZN:∀(ps:List (List Int))(k:Nat),(∀p∈ps,∀x∈p,0≤x∧x<256)→∀x∈N5 ps k,0≤x∧x<256
 | [],_,_,x,hx=>by cases hx
 | p::ps,k,h,x,hx=>by
   rw [N5,List.mem_append,List.mem_append] at hx
   rcases hx with hx|hx|hx
   ·split at hx
    ·cases hx
    simp only [List.mem_cons,List.not_mem_nil,or_false] at hx
    rcases hx with rfl|rfl
    ·omega
    omega
   ·exact h p (by simp) x hx
   exact ZN ps (k+1) (fun q hq=>h q (by simp [hq])) x hx
theorem eC{C1 S1 C2 S2 l:List Int}{n:Nat}:∀x∈EL C1 S1 C2 S2 l n,0≤x∧x<256:=by
 unfold EL
 split
 ·refine aR fun y hy=>?_
  obtain ⟨z,hz,rfl⟩:=List.mem_map.1 hy
  have:=E8 _ z hz
  omega
 intro x hx;cases hx
theorem JB{C1 S1 C2 S2 l:List Int}{n every:Nat}:∀x∈N5 (Fm C1 S1 C2 S2 l (Bo n every)) 0,0≤x∧x<256:=by
 refine ZN _ _ fun p hp=>?_
 obtain ⟨y,_,rfl⟩:=List.mem_map.1 hp
 exact eC
def Fk(m h:Int)(np:Nat)(q C1 S1 C2 S2:List Int)(ev:Nat)(D:List Int):BV:=⟨m,h,np,q,C1,S1,C2,S2,ev,D.map Int.toNat⟩
theorem MP(m h:Int)(np:Nat)(q C1 S1 C2 S2:List Int)(ev:Nat)(D:List Int)(hD:∀x∈D,0≤x∧x<256):B8 (Fk m h np q C1 S1 C2 S2 ev D)=D:=by
 unfold B8 Fk
 rw [List.map_map]
 conv=>rhs;rw [←List.map_id D]
 refine List.map_congr_left fun x hx=>?_
 have:=hD x hx
 show ((x.toNat:Nat):Int)=x
 omega
theorem Qh{m h:Int}{np n K:Nat}{q B C1 S1 C2 S2 D:List Int}{ev:Nat}(hok:1≤m∧m≤64∧1≤h∧h≤64)(hnp:np=1∨np=3)(hqk:Ej q=true)(hev:ev≤100)(hK:Aa m h=K)(hn:np*K=n)(hB:B.length=n*64)(hab:A6 B n=true)(he:Tu B n ev C1 S1 C2 S2 D):
 B8 (Fk m h np q C1 S1 C2 S2 ev D)=D∧Cq (Fk m h np q C1 S1 C2 S2 ev D)=0∧Se (Fk m h np q C1 S1 C2 S2 ev D)=(0,B)∧dH (Fk m h np q C1 S1 C2 S2 ev D)=0∧fH (Fk m h np q C1 S1 C2 S2 ev D)=WY m h q B K np:=by
 obtain ⟨l1,l2,m1,m2,hD⟩:=he
 obtain ⟨q1,q2,q3⟩:=FE hok
 rw [hK] at q1 q2
 have hn1:n≤192:=by
  have:=Nat.mul_le_mul (show np≤3 by omega) q2
  omega
 have hlt:∀x∈D,0≤x∧x<256:=by rw [hD];exact JB
 have hDI:=MP m h np q C1 S1 C2 S2 ev D hlt
 have hdl:D.length≤90000:=by rw [hD];exact Nat.le_trans (dG ev hB) (by omega)
 have hfe:Cq (Fk m h np q C1 S1 C2 S2 ev D)=0:=by
  unfold Cq
  have hd:Ib (Fk m h np q C1 S1 C2 S2 ev D):=by
   unfold Ib Fk
   dsimp only
   omega
  rw [if_pos hd,if_pos (show Ej (Fk m h np q C1 S1 C2 S2 ev D).quant=true from hqk),if_pos (show A5 (Fk m h np q C1 S1 C2 S2 ev D).c1 (Fk m h np q C1 S1 C2 S2 ev D).s1=0 from m1.ok),if_pos (show A5 (Fk m h np q C1 S1 C2 S2 ev D).c2 (Fk m h np q C1 S1 C2 S2 ev D).s2=0 from m2.ok),if_pos]
  show (D.map Int.toNat).length≤90000
  rw [List.length_map];exact hdl
 have hso:=Of hB (show n≤400 by omega) hab m1 m2
 have htb:Eu C1 S1 C2 S2=0:=by unfold Eu;rw [if_pos m1.ok];exact m2.ok
 have hR:Se (Fk m h np q C1 S1 C2 S2 ev D)=(0,B):=by
  unfold Se
  rw [hDI]
  show SF C1 S1 C2 S2 D (((np:Int).toNat*Aa m h:Nat):Int) ev=(0,B)
  rw [Int.toNat_natCast,hK,hn,hD]
  exact Z9 hB hev (by omega) htb hso
 refine ⟨hDI,hfe,hR,?_,?_⟩
 ·unfold dH;rw [if_pos hfe,hR]
 unfold fH;rw [hR]
 show WY m h q B (Aa m h) (np:Int).toNat=_
 rw [hK,Int.toNat_natCast]
end Go.Proofs.YtohacgmhmbijmaaGreatDoor
namespace Go.Proofs.YtohacgmhmbijmaaGreatDoor
attribute [local irreducible] Region.wanted
open Go.ChangeShapes Go.WideShapes Go.ChangeAt Go.RowKit Go.Deep
set_option linter.unusedVariables false
set_option maxRecDepth 100000
set_option maxHeartbeats 8000000
section
variable{P:Program}{ops:Array Oper}{Q:Exit→Act→World→Prop}{rest:List Oper}{a:Act}{w W:World}{d:Option Tmp}{ty:TypeId}{pos:String}{af:Array Edge}{g:Option (Nat×Bool)}{x y:Operand}{k:IntKind}{t:TypeId}
theorem Ts{k':IntKind}{ad:Option Addr}{n c j:Nat}{l:List Int}{e:TypeId}{i:Int}(hv:Sl W 1 (.slice ad n c) n (l.map (Value.int k')))(ht:P.underlying t=some (.slice e))(hs:(P.info? e).map (·.size)=some 1)(hx:a.eval x= .slice ad n c)(hy:a.eval y= .int k i)(hj:Bw i j)(hn:j<n)
 (hw:Region.wanted ⟨d, .indexAddr t x y,ty,pos,af,g⟩ (yielded ops a.tmps)=true)
 (h:∀b o,W.cell? ⟨b,o,none⟩=some (.int k' (AF l j))→(Oper.mk d (.move (.const (.pointer (some ⟨b,o,none⟩)))) ty pos af g).wp P a w (wpList P ops Q rest) Q):wpList P ops Q (⟨d, .indexAddr t x y,ty,pos,af,g⟩::rest) a w:=
 Iz hv ht hs hx hy hj hn hw fun b o hr=>h b o (by
  have hl:l.length=n:=by have:=hv.1;simpa using this
  have:=hr 0 (.int k' (AF l j)) (by simp [AF,List.getD,List.getElem?_drop,hl,hn])
  simpa using this)
end
def rdr(W:World)(g:Nat)(l:List Int)(p:Nat):Au where
 holds w f:=∃(a:Option Addr) (c m:Nat),m=l.length-p∧Sl W 1 (.slice a m c) m ((l.drop p).map (Value.int .u8))∧(blk g [.slice a m c, .bool (decide (l.length<p))]).holds w f
 lt:=fun ⟨_,_,_,_,_,h⟩=>(blk g _).lt h
 loc:=fun ⟨a,c,m,h1,h2,h⟩ hs=>⟨a,c,m,h1,h2,(blk g _).loc h hs⟩
theorem St.rdr_open{W w:World}{rs rs':List Au}{g p:Nat}{l:List Int}(hS:St W w rs)(hp:AW (Go.Proofs.YtohacgmhmbijmaaGreatDoor.rdr W g l p) rs rs'):∃(a:Option Addr) (c m:Nat),m=l.length-p∧Sl W 1 (.slice a m c) m ((l.drop p).map (Value.int .u8))∧St W w (Go.Proofs.YtohacgmhmbijmaaGreatDoor.blk g [.slice a m c, .bool (decide (l.length<p))]::rs'):=by
 obtain ⟨h1,f,h2,h3,f1,f2,e,⟨a,c,m,k1,k2,k3⟩,h5⟩:=hS.pull hp
 exact ⟨a,c,m,k1,k2,h1,f,h2,h3,f1,f2,e,k3,h5⟩
theorem St.rdr_close{W w:World}{rs':List Au}{g p:Nat}{l:List Int}{a:Option Addr}{c m:Nat}(h1:m=l.length-p)(h2:Sl W 1 (.slice a m c) m ((l.drop p).map (Value.int .u8)))(hS:St W w (Go.Proofs.YtohacgmhmbijmaaGreatDoor.blk g [.slice a m c, .bool (decide (l.length<p))]::rs')):St W w (Go.Proofs.YtohacgmhmbijmaaGreatDoor.rdr W g l p::rs'):=by
 obtain ⟨h1',f,h2',h3,f1,f2,e,h4,h5⟩:=hS
 exact ⟨h1',f,h2',h3,f1,f2,e,⟨a,c,m,h1,h2,h4⟩,h5⟩
theorem cu(a0:Option Addr)(n0 c0:Nat)(w:World):(Instr.build 119 #[(0, .slice a0 n0 c0)]).run Tryz.prog w= .ok (.agg #[.slice a0 n0 c0, .bool false]) w:=by kernel_rfl
theorem CR(W w0:World)(rs rs':List Au)(g p:Nat)(l:List Int)(hS:St W w0 rs)(hp:AW (rdr W g l p) rs rs')(hr:Hid (∀i,i<l.length→0≤AF l i∧AF l i<256))(hn:l.length≤1000000000000)(hpn:p≤1000000000000):
 Calls Tryz.prog 66 #[.pointer (some ⟨g,0,none⟩)] w0 fun e w=>e= .returned (.int .i64 (AF l p))∧St W w (rdr W g l (p+1)::rs'):=by
 obtain ⟨a,c,m,hm,hv,hS⟩:=hS.rdr_open hp
 have hx:=hv
 obtain ⟨hlen,a',c',e1,hmc,hcm,hor⟩:=hx
 cases e1
 by_cases h0:m=0
 ·have hb:(AF l p=0):=by
   simp only [AF];rw [List.getD_eq_getElem?_getD,List.getElem?_eq_none (by omega)];rfl
  have HB:=AD hb
  have hd2:decide (l.length<p+1)=true:=decide_eq_true (by omega)
  have HD:=AD hd2
  have hv2:Sl W 1 (.slice a m c) m ((l.drop (p+1)).map (Value.int .u8)):=by
   rw [List.drop_of_length_le (by omega)]
   rw [List.drop_of_length_le (by omega)] at hv
   exact hv
  have Hm:Hid (m=l.length-(p+1)):=AD (by omega)
  clear hb hd2 hor
  go_enter Tryz.func66,Tryz.ntmps66
  repeat' (first
   | refine X0 ?_|refine Vt ?_|refine gA ?_|refine gV ?_|refine XY ?_|refine Xq ?_|refine gD ?_|(with_reducible refine Ak _ (.store 4 _ _) ?_);(refine Ad ?_;apply Bt hS 4 _ _ rfl _ _ rfl (AK rfl) _ _;(case hp=>exact AM);(case hy=>exact CK);(case hv=>rfl);(case hc=>exact Xc);(case hd=>exact rfl);clear hS;intro w hS)|refine AG ?_;go_step|fail)
  refine BK rfl (AC.tmp rfl) rfl ?_
  refine ⟨(by rw [HB.out];rfl),St.rdr_close Hm.out hv2 ?_⟩
  rw [HD.out]
  exact hS.sub AV
 have hlp:p<l.length:=by omega
 have hx0:=hr.out p hlp
 have e0:AF (l.drop p) 0=AF l p:=by simp only [AF,List.getD_eq_getElem?_getD,List.getElem?_drop,Nat.add_zero]
 have HE0:=AD e0
 obtain ⟨x,hx⟩:∃x,AF l p=x:=⟨_,rfl⟩
 rw [hx] at hx0 HE0⊢
 have hv2:Sl W 1 (.slice (cutAt a c 1 1) (m-1) (c-1)) (m-1) ((l.drop (p+1)).map (Value.int .u8)):=by
  have:=hv.cutAt 1 m (by omega) (Nat.le_refl _)
  rw [←List.map_drop,←List.map_take,List.drop_drop] at this
  rw [List.take_of_length_le (by simp;omega)] at this
  exact this
 have HD:Hid (decide (l.length<p)=decide (l.length<p+1)):=AD (by rw [decide_eq_false (by omega),decide_eq_false (by omega)])
 have Hm:Hid (m-1=l.length-(p+1)):=AD (by omega)
 rw [HD.out] at hS
 clear e0 hx hlp hlen
 go_enter Tryz.func66,Tryz.ntmps66
 repeat' (first
  | (refine AQ 17 ?_);refine Ts hv Tryz.underlying35 Wf rfl rfl Bw.l0 (by omega) AA ?_;intro b17 o17 hc17;rw [HE0.out] at hc17;replace hc17:=hS.1.cell hc17;go_step|(refine AQ 18 ?_);refine Ad ?_;refine IF (o:=⟨some 18,_,_,_,_,_⟩) 5 _ rfl _ rfl (AK rfl) _ hc17 ?_;refine AB ?_;go_step|refine X0 ?_|refine Vt ?_|refine gA ?_|refine gV ?_|refine XY ?_|(with_reducible refine Ak _ (.convert 5 3 _) ?_);(refine Aq AA (V.convI (by rw [Tryz.underlying5];rfl) Tryz.underlying3 rfl (IntWalk.i64_in _ (by omega))) ?_;go_step)|refine cG ?_|refine gD ?_|(with_reducible refine Ak _ (.store 35 _ _) ?_);(refine Ad ?_;apply Bt hS 35 _ _ rfl _ _ rfl (AK rfl) _ _;(case hp=>exact AM);(case hy=>exact CK);(case hv=>rfl);(case hc=>exact Xc);(case hd=>exact rfl);clear hS;intro w hS)|refine AG ?_;go_step|fail)
 refine BK rfl (AC.tmp rfl) rfl ?_
 exact ⟨rfl,St.rdr_close Hm.out hv2 (hS.sub AV)⟩
theorem iW(a b:Nat)(ha:a<256)(hb:b<256):bits .or .i64 ((a:Int)*2^8) (b:Int)=((a:Int)*256+(b:Int)):=by
 rw [show (a:Int)*2^8=((a*256:Nat):Int) from by rw [show (2:Int)^8=256 from rfl];omega,bits_or_i64_nat _ _ (by omega) (by omega)]
 have e:a*256|||b=a*256+b:=by
  rw [show a*256=2^8*a by omega]
  exact (Nat.two_pow_add_eq_or_of_lt (i:=8) (by omega) a).symm
 rw [e]
 omega
theorem dv(x y:Int)(hx:0≤x∧x<256)(hy:0≤y∧y<256):bits .or .i64 (x*2^8) y=x*256+y:=by
 obtain ⟨a,rfl⟩:=Int.eq_ofNat_of_zero_le hx.1
 obtain ⟨b,rfl⟩:=Int.eq_ofNat_of_zero_le hy.1
 exact iW a b (by omega) (by omega)
def rC(l:List Int)(p k:Nat):Int:=AF l (p+2*k)*256+AF l (p+2*k+1)
def Jb(l:List Int)(p k:Nat):List Int:=(List.range k).map (rC l p)
def rA(l:List Int)(p:Nat):Nat→Int
 | 0=>0
 | k+1=>rA l p k+rC l p k
def rS(l:List Int)(p j:Nat):List Int:=(List.range j).map fun i=>AF l (p+i)
theorem d6(l:List Int)(p k:Nat)(h:k<16):(Jb l p k++List.replicate (16-k) 0).set k (rC l p k)=Jb l p (k+1)++List.replicate (16-(k+1)) 0:=by
 obtain ⟨m,hm⟩:∃m,16-k=m+1:=⟨16-k-1,by omega⟩
 have hl:(Jb l p k).length=k:=by simp [Jb]
 rw [hm,show 16-(k+1)=m by omega,List.set_append_right _ _ (by omega),hl,Nat.sub_self,List.replicate_succ,List.set_cons_zero]
 simp [Jb,List.range_succ]
theorem PU(l:List Int)(hr:∀i,i<l.length→0≤AF l i∧AF l i<256)(i:Nat):0≤AF l i∧AF l i<256:=by
 by_cases h:i<l.length
 ·exact hr i h
 have:AF l i=0:=by simp only [AF];rw [List.getD_eq_getElem?_getD,List.getElem?_eq_none (by omega)];rfl
 omega
theorem fP(l:List Int)(hr:∀i,i<l.length→0≤AF l i∧AF l i<256)(p k:Nat):0≤rC l p k∧rC l p k<65536:=by
 have h1:=PU l hr (p+2*k)
 have h2:=PU l hr (p+2*k+1)
 unfold rC
 omega
theorem RS(l:List Int)(hr:∀i,i<l.length→0≤AF l i∧AF l i<256)(p:Nat):∀k,0≤rA l p k∧rA l p k≤65536*(k:Int)
 | 0=>by simp [rA]
 | k+1=>by
   have h1:=RS l hr p k
   have h2:=fP l hr p k
   unfold rA
   omega
theorem Oj(W w0:World)(rs rs':List Au)(g p:Nat)(l:List Int)(hS:St W w0 rs)(hp:AW (rdr W g l p) rs rs')(hr:Hid (∀i,i<l.length→0≤AF l i∧AF l i<256))(hn:l.length≤100000)(hpn:p≤10000000):
 Calls Tryz.prog 68 #[.pointer (some ⟨g,0,none⟩)] w0 fun e w=>∃(j:Nat) (sa:Option Addr) (sc:Nat),e= .returned (tv (Jb l p 16) (.slice sa j sc))∧(j:Int)≤rA l p 16∧(p+32+j≤l.length→(j:Int)=rA l p 16)∧St W w (own 3 1 sa j sc ((rS l (p+32) j).map (Value.int .i64))::rdr W g l (p+32+j)::rs'):=by
 replace hS:=hS.pull hp
 have hA16:=RS l hr.out p 16
 obtain ⟨C,hC⟩:∃x,Jb l p 16=x:=⟨_,rfl⟩
 obtain ⟨A,hAe⟩:∃x,rA l p 16=x:=⟨_,rfl⟩
 have hLen:Ae C 16:=AD (by rw [←hC];simp [Jb])
 have HC16:=AD hC
 have HA16:=AD hAe
 rw [hC,hAe]
 rw [hAe] at hA16
 clear hC hAe
 obtain ⟨n,rfl⟩:=Int.eq_ofNat_of_zero_le hA16.1
 go_enter Tryz.func68,Tryz.ntmps68
 repeat' (first
  | refine X0 ?_|refine SM 2 ?_;clear hS;intro g2 w hS|refine AG ?_;go_step|fail)
 go_loopg [3,5] 16 (fun gk av kv w=>∃k:Nat,gk+k=16∧kv= .int .i64 k∧av= .int .i64 (rA l p k)∧St W w (prt g2 [.ints (Jb l p k++List.replicate (16-k) 0), .val (.slice none 0 0)]::rdr W g l (p+2*k)::rs'))
 case atStart=>exact ⟨0,rfl,rfl,rfl,hS⟩
 case round=>
  clear hS
  obtain ⟨k,hk,rfl,rfl,hS⟩:=hrel
  by_cases hlt:k<16
  ·have hx:=PU l hr.out (p+2*k)
   have hy:=PU l hr.out (p+2*k+1)
   have HO:=AD (dv (AF l (p+2*k)) (AF l (p+2*k+1)) hx hy)
   have hA:=RS l hr.out p k
   have HA2:=AD (show rA l p (k+1)=rA l p k+rC l p k from rfl)
   have hC:=fP l hr.out p k
   have HC:=AD (show rC l p k=AF l (p+2*k)*256+AF l (p+2*k+1) from rfl)
   have HS:=AD (d6 l p k hlt)
   have hLen2:Ae (Jb l p k++List.replicate (16-k) 0) 16:=AD (by simp [Jb];omega)
   obtain ⟨x,hx2⟩:∃x,AF l (p+2*k)=x:=⟨_,rfl⟩
   obtain ⟨y,hy2⟩:∃x,AF l (p+2*k+1)=x:=⟨_,rfl⟩
   obtain ⟨R,hR⟩:∃x,Jb l p k++List.replicate (16-k) 0=x:=⟨_,rfl⟩
   obtain ⟨A,hAe⟩:∃x,rA l p k=x:=⟨_,rfl⟩
   obtain ⟨z,hz⟩:∃x,rC l p k=x:=⟨_,rfl⟩
   have HX:=AD hx2
   have HY:=AD hy2
   have hZ:AF (R.set k z) k=z:=Mg _ _ _ (by rw [←hR];simp [Jb];omega)
   rw [hx2,hy2] at HO HC
   rw [hx2] at hx
   rw [hy2] at hy
   rw [hR] at HS hS hLen2
   rw [hAe] at hA HA2
   rw [hz] at HA2 HC HS hC
   rw [hAe]
   have HOz:=AD (HO.out.trans HC.out.symm)
   clear hx2 hy2 hR hAe hz
   repeat' (first
    | (refine AQ 10 ?_);refine AL (f:=66) Tryz.call66 AA ?_;refine ⟨_,(CR _ _ _ _ g (p+2*k) l hS AM hr (by omega) (by omega)),?_⟩;rintro e w ⟨rfl,hS2⟩;rw [HX.out];clear hS;rename _=>hS;refine Ab ?_;go_step|(refine AQ 13 ?_);refine AL (f:=66) Tryz.call66 AA ?_;refine ⟨_,(CR _ _ _ _ g (p+2*k+1) l hS AM hr (by omega) (by omega)),?_⟩;rintro e w ⟨rfl,hS2⟩;rw [HY.out];clear hS;rename _=>hS;refine Ab ?_;go_step|(refine AQ 14 ?_);(refine Af (.int _ (z)) (V.as (V.or rfl rfl) (by exact HOz.out)) (by kernel_rfl) ?_;go_step)|refine X0 ?_|refine X2 ?_|refine cB ?_|refine Vi ?_|refine cO 16 ?_|refine cO 20 ?_|refine X6 ?_|refine fw ?_;clear hS;intro w hS|(with_reducible refine Ak _ (.load 3 _) ?_);(refine Ad ?_;apply Tq hS 3 _ rfl _ _ rfl (AK rfl) _;(case hp=>exact AM);(case hi=>(repeat (first|(apply SJ.head;(case hn=>exact D6);(case h=>omega))|(apply SJ.skipI;(case hn=>exact D6);(case h=>omega);(case ho=>rfl))|apply SJ.skipV)));(case hz=>with_reducible assumption);refine AB ?_;go_step)|refine AG ?_;go_step|fail)
   rw [HS.out] at hS
   go_roundg (gk-1)
   case measure=>omega
   case rel=>exact ⟨k+1,by omega,by go_num,by rw [HA2.out],hS⟩
  obtain rfl:k=16:=by omega
  rw [show Jb l p 16++List.replicate (16-16) 0=Jb l p 16 by simp] at hS
  rw [HC16.out] at hS
  rw [HA16.out]
  repeat' (first
   | refine X1 ?_|refine X2 ?_|refine AG ?_;go_step|fail)
  replace hS:=hS.nilk 3 1 .i64
  go_loopg [25] n (fun gk kv w=>∃(j:Nat) (sa:Option Addr) (sc:Nat),gk+j=n∧kv= .int .i64 j∧St W w (own 3 1 sa j sc ((rS l (p+32) j).map (Value.int .i64))::prt g2 [.ints C, .val (.slice sa j sc)]::rdr W g l (p+32+j)::rs'))
  case atStart=>exact ⟨0,none,0,by omega,rfl,hS⟩
  case round=>
   clear hS
   obtain ⟨j,sa,sc,hj,rfl,hS⟩:=hrel
   by_cases hlt2:j<n
   ·obtain ⟨ra,rc,rm,hrm,hrv,hS⟩:=hS.rdr_open AM
    by_cases hsh:l.length<p+32+j
    ·have HSh:=AD (decide_eq_true hsh)
     have HSh2:=AD hsh
     rw [HSh.out] at hS
     repeat' (first
      | refine X1 ?_|refine X2 ?_|refine Vt ?_|refine Xq ?_|refine cE ?_|refine L8 ?_|refine SO ?_;clear hS;intro w hS|refine AG ?_;go_step|fail)
     have hS3:=St.rdr_close (p:=p+32+j) (rs':=own 3 1 sa j sc ((rS l (p+32) j).map (Value.int .i64))::prt g2 [.ints C, .val (.slice sa j sc)]::rs') hrm hrv (by rw [HSh.out];exact hS.sub AV)
     refine BK rfl (AC.prt hS rfl (AN (n:=17) rfl) AM (by (repeat (first|exact Bx.nil|(apply Bx.ints;(case hn=>exact D6);(case h=>omega);(case hm=>rfl))|apply Bx.val)))) rfl ?_
     exact ⟨j,sa,sc,rfl,by omega,fun h=>absurd h (by omega),hS3.sub AV⟩
    have HSh:=AD (decide_eq_false hsh)
    have HSn:=AD (show rS l (p+32) (j+1)=rS l (p+32) j++[AF l (p+32+j)] by simp [rS,List.range_succ])
    rw [HSh.out] at hS
    repeat' (first
     | refine X1 ?_|refine X2 ?_|refine Vt ?_|refine Xq ?_|refine cE ?_|refine AG ?_;go_step|fail)
    have hS3:=St.rdr_close (p:=p+32+j) hrm hrv (by rw [HSh.out];exact hS)
    clear hS
    have hS:=hS3
    clear hS3 hrv hrm HSh hsh
    refine AP [5,7] (fun w=>St W w [prt g2 [.ints C, .val (.slice sa j sc)]]) AA ?_
    replace hS:=hS.drew
    focus
     refine CA 0 BZ (V.fieldAddr MV rfl BT) ?_;go_step
     apply DG 1 Ai AA AA AA B5 [5,6,7] AA (hS.sub AV)
     case hfr=>intro w hS;((refine Ad ?_;apply Ey hS 30 _ rfl _ _ rfl (AK rfl) _;(case hp=>exact AM);(case hi=>(repeat (first|exact Ki.head|(apply Ki.skipI;(case hn=>exact D6);(case h=>omega);(case ho=>rfl))|apply Ki.skipV)));refine AB ?_;go_step));refine wpList_nil ?_;exact ⟨rfl,rfl⟩
     case hd=>rfl
     refine AY 2 ?_
     refine Ao 3 ?_
     refine AR (f:=66) rfl Tryz.call66 (CR _ _ _ _ g (p+32+j) l hS AM hr (by omega) (by omega)) ?_;rintro e w ⟨rfl,hS2⟩;clear hS;rename _=>hS;refine ⟨_,rfl,?_⟩
     refine ⟨fun _ _=>hS.sub AV,?_⟩
     refine AI ?_
     go_step
     refine Ao 4 ?_
     (refine AU (o:=⟨some 35,_,_,_,_,_⟩) hS 30 1 _ rfl 3 1 8 Nv _ _ (by (repeat (first|exact AX.nil|(apply AX.agg;(rfl);(rfl))|(apply AX.one;exact CK;(rfl);(rfl))))) (by rfl) (by decide) (by decide) ?_;clear hS;intro g35 w hS)
     refine ⟨fun _ _=>hS.sub AV,?_⟩
     refine AI ?_
     go_step
     refine Ao 5 ?_
     (refine A7 (o:=⟨some 36,_,_,_,_,_⟩) hS _ _ 30 rfl 3 1 8 Nv _ _ _ _ rfl AM _ rfl _ _ (by (first|exact hS.slBlk AM (by rfl) (by decide)|exact hS.sl AM|with_reducible assumption|exact Sl.ext (by with_reducible assumption) hS.1|exact Sl.nil _ _|exact Sl.ext (by assumption) hS.1|assumption)) (by (first|exact Cx rfl|exact CS _ _|(intro u hu;cases hu))) (by unfold maxLen;omega) (by omega) ?_;clear hS;intro ad36 c36 w hS;(first|simp only [D7] at hS|simp only [D8] at hS|simp only [D9] at hS|simp only [EA] at hS|simp only [EB] at hS|skip))
     refine ⟨fun h=>absurd (by decide) h,?_⟩
     refine AI ?_
     go_step
     refine CA 6 BZ (V.fieldAddr MV rfl BT) ?_;go_step
     refine Ao 7 ?_
     refine Iy hS 30 _ _ rfl _ _ rfl (AK rfl) _ _ AM _ CK (by rfl) (.skipI hLen (Nat.le_refl _) rfl .head) rfl ?_;clear hS;intro w hS
     refine ⟨fun h=>absurd (by decide) h,?_⟩
     refine AE AA ?_ _
    repeat' (first
     | refine X1 ?_|refine X6 ?_|refine AG ?_;go_step|fail)
    go_roundg (gk-1)
    case measure=>omega
    case rel=>exact ⟨j+1,ad36,c36,by omega,by go_num,by rw [HSn.out,show p+32+(j+1)=p+32+j+1 from rfl];exact hS.sub AV⟩
   obtain rfl:j=n:=by omega
   repeat' (first
    | refine X2 ?_|refine L8 ?_|refine SO ?_;clear hS;intro w hS|refine AG ?_;go_step|fail)
   refine BK rfl (AC.prt hS rfl (AN (n:=17) rfl) AM (by (repeat (first|exact Bx.nil|(apply Bx.ints;(case hn=>exact D6);(case h=>omega);(case hm=>rfl))|apply Bx.val)))) rfl ?_
   exact ⟨j,sa,sc,rfl,by omega,fun _=>rfl,hS.sub AV⟩
structure Dq(p:Prop):Prop where
 out:p
def f0:BV:=⟨0,0,0,List.replicate 64 0,List.replicate 16 0,[],List.replicate 16 0,[],0,[]⟩
def fz:Value:=fv f0 (.slice none 0 0) (.slice none 0 0) (.slice none 0 0)
theorem YU(w:World):(Instr.build 37 #[]).run Tryz.prog w= .ok fz w:=by kernel_rfl
theorem YV(m0 m1 m2 m5:Int)(w:World):(Instr.build 37 #[(0, .int .i64 m0),(1, .int .i64 m1),(2, .int .i64 m2),(5, .int .i64 m5)]).run Tryz.prog w= .ok (fv ⟨m0,m1,m2,List.replicate 64 0,List.replicate 16 0,[],List.replicate 16 0,[],m5,[]⟩ (.slice none 0 0) (.slice none 0 0) (.slice none 0 0)) w:=by kernel_rfl
def rQ(l:List Int)(k:Nat):List Int:=(List.range k).map fun i=>AF l (6+i)
theorem ig(l:List Int)(k:Nat)(h:k<64):(rQ l k++List.replicate (64-k) 0).set k (AF l (6+k))=rQ l (k+1)++List.replicate (64-(k+1)) 0:=by
 obtain ⟨m,hm⟩:∃m,64-k=m+1:=⟨64-k-1,by omega⟩
 have hl:(rQ l k).length=k:=by simp [rQ]
 rw [hm,show 64-(k+1)=m by omega,List.set_append_right _ _ (by omega),hl,Nat.sub_self,List.replicate_succ,List.set_cons_zero]
 simp [rQ,List.range_succ]
abbrev gp(W H p:Int)(Q C1:List Int)(v1:Value)(C2:List Int)(v2:Value)(ev:Int)(vd:Value):List Ag:=[.val (.int .i64 W), .val (.int .i64 H), .val (.int .i64 p), .ints Q, .ints C1, .val v1, .ints C2, .val v2, .val (.int .i64 ev), .val vd]
theorem W0{W H p ev:Int}{Q Q' C1 C2:List Int}{v1 v2 vd:Value}(hQ:Ae Q 64)(hQ':Ae Q' 64):J6 [.ints Q'] (gp W H p Q C1 v1 C2 v2 ev vd) 3 (gp W H p Q' C1 v1 C2 v2 ev vd):=
 .skipV (.skipV (.skipV (.head (B:=[.ints Q]) (by simp [AH,Ag.cells,hQ.out,hQ'.out]))))
theorem Wz{W H p ev:Int}{Q C1 C C2:List Int}{v1 v v2 vd:Value}(hQ:Ae Q 64)(hC1:Ae C1 16)(hC:Ae C 16):J6 [.ints C, .val v] (gp W H p Q C1 v1 C2 v2 ev vd) 67 (gp W H p Q C v C2 v2 ev vd):=
 .skipV (.skipV (.skipV (.skipI hQ (by decide) rfl (.head (B:=[.ints C1, .val v1]) (by simp [AH,Ag.cells,hC1.out,hC.out])))))
theorem Zz{W H p ev:Int}{Q C1 C C2:List Int}{v1 v v2 vd:Value}(hQ:Ae Q 64)(hC1:Ae C1 16)(hC2:Ae C2 16)(hC:Ae C 16):J6 [.ints C, .val v] (gp W H p Q C1 v1 C2 v2 ev vd) 84 (gp W H p Q C1 v1 C v ev vd):=
 .skipV (.skipV (.skipV (.skipI hQ (by decide) rfl (.skipI hC1 (by decide) rfl (.skipV (.head (B:=[.ints C2, .val v2]) (by simp [AH,Ag.cells,hC2.out,hC.out])))))))
def Pb(l:List Int):Nat:=(rA l 70 16).toNat
def Uy(l:List Int):Nat:=(rA l (102+Pb l) 16).toNat
def Wy(l:List Int):Nat:=102+Pb l+32+Uy l
def Eh(l:List Int):BV:=⟨AF l 2,AF l 3,AF l 4,CW (rQ l 64),Jb l 70 16,rS l 102 (Pb l),Jb l (102+Pb l) 16,rS l (102+Pb l+32) (Uy l),AF l 5,(l.drop (Wy l)).map Int.toNat⟩
def Dg(l:List Int):Int:=if 91000<l.length then 2 else if l.length<Wy l then 3 else if Cq (Eh l)=0∧BU (Eh l)=l then 0 else 4
theorem QU{C:List Int}(h:∀k,k<16→0≤AF C k∧AF C k≤256):∀k,k≤16→∀x∈cb C k,0≤x∧x<256
 | 0,_,x,hx=>by simp [cb] at hx
 | k+1,hk,x,hx=>by
   rw [cb,List.mem_append] at hx
   rcases hx with hx|hx
   ·exact QU h k (by omega) x hx
   have:=h k (by omega)
   simp only [List.mem_cons,List.not_mem_nil,or_false] at hx
   rcases hx with rfl|rfl<;>omega
theorem NG{C S:List Int}(h:A5 C S=0):∀x∈NF C S,0≤x∧x<256:=fun x hx=>by
 have k:=CM h
 rw [NF,List.mem_append] at hx
 rcases hx with hx|hx
 ·exact QU k.1 16 (Nat.le_refl _) x hx
 exact k.2.2.2.1 x hx
theorem Kz{f:BV}(h:Cq f=0)(hQ:f.quant.length=64)(hd:∀x∈f.data,x<256):∀x∈BU f,0≤x∧x<256:=fun x hx=>by
 obtain ⟨⟨h1,h2,h3,h4⟩,hq,ht1,ht2,_⟩:=Gz h
 simp only [BU,IR,XI,List.mem_append,List.mem_cons,List.not_mem_nil,or_false] at hx
 rcases hx with ((((rfl|rfl)|(rfl|rfl|rfl|rfl))|hx)|(hx|hx))|hx
 ·omega
 ·omega
 ·omega
 ·omega
 ·omega
 ·omega
 ·obtain ⟨i,hi,rfl⟩:=List.getElem_of_mem hx
  have hi2:i<64:=by rw [CF] at hi;exact hi
  have:=bP hQ hq i hi2
  have e:AF (Ez f.quant) i=(Ez f.quant)[i]'hi:=by unfold AF;rw [List.getD_eq_getElem?_getD,List.getElem?_eq_getElem hi];rfl
  omega
 ·exact NG ht1 x hx
 ·exact NG ht2 x hx
 obtain ⟨y,hy,rfl⟩:=List.mem_map.1 hx
 have:=hd y hy
 omega
theorem OM{l:List Int}(h:∀x∈l,0≤x∧x<256)(i:Nat)(hi:i<l.length):0≤AF l i∧AF l i<256:=Ij h i hi
theorem V8{l:List Int}(h:∀i,i<l.length→0≤AF l i∧AF l i<256)(x:Int)(hx:x∈l):0≤x∧x<256:=by
 obtain ⟨i,hi,rfl⟩:=List.getElem_of_mem hx
 have:=h i hi
 have e:AF l i=l[i]:=by simp [AF,List.getD,hi]
 omega
theorem Tc{l:List Int}(h:∀x∈l,0≤x∧x<256):((l.map Int.toNat).map fun (x:Nat)=>(x:Int))=l:=by
 rw [List.map_map]
 conv=>rhs;rw [←List.map_id l]
 refine List.map_congr_left fun x hx=>?_
 have:=h x hx
 simp only [Function.comp,id]
 omega
theorem fF(C:List Int):∀k,(cb C k).length=2*k
 | 0=>rfl
 | k+1=>by rw [cb,List.length_append,fF C k];simp;omega
theorem Zr(f:BV):(BU f).length=134+f.s1.length+f.s2.length+f.data.length:=by
 simp only [BU,IR,XI,NF,B8,List.length_append,List.length_map,CF,fF,List.length_cons,List.length_nil]
 omega
theorem Zu{l:List Int}{j1 j2:Nat}(h1:(j1:Int)≤rA l 70 16)(k1:102+j1≤l.length→(j1:Int)=rA l 70 16)(h2:(j2:Int)≤rA l (102+j1) 16)(hs:l.length<102+j1+32+j2):l.length<Wy l:=by
 by_cases h:l.length<Wy l
 ·exact h
 exfalso
 have e:Wy l=102+Pb l+32+Uy l:=rfl
 have e1:Pb l=(rA l 70 16).toNat:=rfl
 have hj:(j1:Int)=rA l 70 16:=k1 (by omega)
 have e3:Pb l=j1:=by omega
 have e2:Uy l=(rA l (102+j1) 16).toNat:=by rw [←e3];rfl
 omega
theorem dz{l:List Int}{j1 j2:Nat}(k1:102+j1≤l.length→(j1:Int)=rA l 70 16)(k2:102+j1+32+j2≤l.length→(j2:Int)=rA l (102+j1) 16)(hs:102+j1+32+j2≤l.length):Pb l=j1∧Uy l=j2∧Wy l=102+j1+32+j2:=by
 have e1:Pb l=(rA l 70 16).toNat:=rfl
 have hj:=k1 (by omega)
 have hj2:=k2 hs
 have e3:Pb l=j1:=by omega
 have e2:Uy l=(rA l (102+j1) 16).toNat:=by rw [←e3];rfl
 have e4:Uy l=j2:=by omega
 refine ⟨e3,e4,?_⟩
 rw [Wy,e3,e4]
theorem MH{w:World}{ad:Option Addr}{n c:Nat}{xs:List Int}(hv:Sl w 1 (.slice ad n c) n (xs.map (Value.int .u8))):Lib.BytesIn w ad n xs:=fun hn=>by
 obtain ⟨hl,a1,c1,e1,hnc,hcm,hor⟩:=hv
 cases e1
 have hln:xs.length=n:=by simpa using hl
 rcases hor with h0|⟨b,off,h,hc⟩
 ·omega
 refine ⟨b,off,h,fun i hi=>?_⟩
 rw [hc i (by omega)]
 simp [List.getD,hln,hi]
theorem SV{xs ys:List Int}(hx:∀i,i<xs.length→0≤AF xs i∧AF xs i<256)(hy:∀i,i<ys.length→0≤AF ys i∧AF ys i<256):(Lib.bytesOf xs==Lib.bytesOf ys)=decide (xs=ys):=by
 have key:Lib.bytesOf xs=Lib.bytesOf ys↔xs=ys:=by
  constructor
  ·intro h
   have hl:xs.length=ys.length:=by have:=congrArg List.length h;simpa [Lib.bytesOf] using this
   refine Bz hl fun i hi=>?_
   have h1:=hx i hi
   have h2:=hy i (by omega)
   have h3:(Lib.bytesOf xs)[i]? =(Lib.bytesOf ys)[i]? :=by rw [h]
   have hi2:i<ys.length:=by omega
   simp only [Lib.bytesOf,List.getElem?_map,List.getElem?_eq_getElem hi,List.getElem?_eq_getElem hi2,Option.map_some,Option.some.injEq] at h3
   have e1:AF xs i=xs[i]:=by simp [AF,List.getD,hi]
   have e2:AF ys i=ys[i]:=by simp [AF,List.getD,hi2]
   rw [←e1,←e2] at h3
   have h4:=congrArg UInt8.toNat h3
   simp only [UInt8.toNat_ofNat'] at h4
   omega
  rintro rfl;rfl
 by_cases h:xs=ys
 ·rw [decide_eq_true h,beq_iff_eq];exact key.2 h
 rw [decide_eq_false h,beq_eq_false_iff_ne];exact fun e=>h (key.1 e)
theorem MR(w:World)(p1 p2:Option Addr)(n c m d:Nat)(xs ys:List Int)(h1:Sl w 1 (.slice p1 n c) n (xs.map (Value.int .u8)))(h2:Sl w 1 (.slice p2 m d) m (ys.map (Value.int .u8)))(hx:∀i,i<xs.length→0≤AF xs i∧AF xs i<256)(hy:∀i,i<ys.length→0≤AF ys i∧AF ys i<256):
 Calls Tryz.prog 70 #[.slice p1 n c, .slice p2 m d] w fun e w'=>e= .returned (.bool (decide (xs=ys)))∧w=w':=
 (Tryz.bytes_Equal_all p1 p2 n c m d xs ys w (by have:=h1.1;simpa using this) (by have:=h2.1;simpa using this) (MH h1) (MH h2)).mono fun e w' ⟨k1,k2⟩=>⟨by rw [k1,SV hx hy],k2.symm⟩
theorem Sn(w0:World)(ad:Option Addr)(n c:Nat)(xs:List Int)(hv:Sl w0 1 (.slice ad n c) n (xs.map (Value.int .u8)))(hn:n≤140737488355328):
 Calls Tryz.prog 69 #[.slice ad n c] w0 fun e w=>∃(a':Option Addr) (c':Nat),e= .returned (.slice a' n c')∧St w0 w [own 5 1 a' n c' (xs.map (Value.int .u8))]:=by
 obtain ⟨hl,a1,c1,e1,hnc,hcm,hor⟩:=hv
 cases e1
 have hln:xs.length=n:=by simpa using hl
 cases ad with
 | none=>
   rcases hor with h0|⟨b,off,h,_⟩
   ·have h0':n=0:=h0
    subst h0'
    refine (Tryz.bytes_Clone_nil 0 c w0).mono fun e w' ⟨k1,k2⟩=>⟨none,0,k1,?_⟩
    subst k2
    rw [List.length_eq_zero_iff.1 hln]
    exact (St.start w').nil 5 1
   cases h
 | some a=>
   refine (Tryz.bytes_Clone_at a n c xs w0 hln hn (fun i hi=>?_)).mono fun e w' ⟨v',k1,k2,k3,k4⟩=>?_
   ·rcases hor with h0|⟨b,off,h,hc⟩
    ·omega
    cases h
    rw [Addr.add_mid,hc i (by omega)]
    simp [List.getD,hln,hi]
   rcases k2.2 with ⟨h1,h2⟩|⟨g,cap,cur,h1,h2,h3,h4,h5,h6,h7⟩
   ·exact absurd h1 k3
   subst h1
   refine ⟨some ⟨g,0,none⟩,cap,k1,k4,[g],by simp,fun b hb=>by rw [List.mem_singleton] at hb;omega,[g],[],rfl,⟨rfl,k2.1, .inr ⟨g,cap,cur,rfl,Nat.zero_le _,h3,h4,h5,h6,h7⟩⟩,rfl⟩
theorem fO(w0:World)(a:Option Addr)(n c:Nat)(l:List Int)(hv:Sl w0 1 (.slice a n c) n (l.map (Value.int .u8)))(hn:91000<n)(hn2:n≤9223372036854775807):
 Calls Tryz.prog 40 #[.slice a n c] w0 fun e w=>e= .returned (.tuple #[fz, .int .i64 2])∧Ah w0 w:=by
 have hS:=St.start w0
 go_enter Tryz.func40,Tryz.ntmps40
 repeat' (first
  | refine cN 12 ?_|refine X0 ?_|refine gV ?_|refine II ?_|refine XX 2 ?_;clear hS;intro g2 w hS|refine SP ?_;clear hS;intro w hS|refine AG ?_;go_step|fail)
 refine AO (xs:=[_,_]) rfl (.cons (AC.prt hS rfl (AN (n:=103) rfl) AM (by (repeat (first|exact Bx.nil|(apply Bx.ints;(case hn=>exact D6);(case h=>omega);(case hm=>rfl))|apply Bx.val)))) (.cons (AC.tmp rfl) (.nil))) (by simp) rfl ?_
 exact ⟨rfl,hS.1⟩
theorem TL(w0:World)(a:Option Addr)(n c:Nat)(l:List Int)(hv:Sl w0 1 (.slice a n c) n (l.map (Value.int .u8)))(hr:Hid (∀i,i<l.length→0≤AF l i∧AF l i<256))(hn:n≤91000):
 Calls Tryz.prog 40 #[.slice a n c] w0 fun e w=>(Dg l≠0→e= .returned (.tuple #[fz, .int .i64 (Dg l)])∧Ah w0 w)∧(Dg l=0→∃(a1 a2 ad:Option Addr) (c1 c2 cd:Nat),e= .returned (.tuple #[fv (Eh l) (.slice a1 (Pb l) c1) (.slice a2 (Uy l) c2) (.slice ad (l.length-Wy l) cd), .int .i64 0])∧
  St w0 w [own 3 1 a1 (Pb l) c1 ((Eh l).s1.map (Value.int .i64)),own 3 1 a2 (Uy l) c2 ((Eh l).s2.map (Value.int .i64)),own 5 1 ad (l.length-Wy l) cd ((B8 (Eh l)).map (Value.int .u8))]):=by
 have hS:=St.start w0
 have hln:l.length=n:=by have:=hv.1;simpa using this
 go_enter Tryz.func40,Tryz.ntmps40
 repeat' (first
  | refine X0 ?_|refine gV ?_|refine II ?_|(refine AQ 14 ?_);(refine Aq AA (V.build (vs:=[(0,_)]) rfl (cu _ _ _)) ?_;go_step)|refine XX 2 ?_;clear hS;intro g2 w hS|(refine AQ 15 ?_);(refine Ad ?_;apply CZ (o:=⟨some 15,_,_,_,_,_⟩) hS 119 _ rfl _ rfl;clear hS;intro g15 w hS;refine AB ?_;go_step)|refine AG ?_;go_step|fail)
 replace hS:=St.rdr_close (g:=g15) (p:=0) (l:=l) (W:=w0) (by rw [hln];rfl) hv hS
 repeat' (first
  | (refine AQ 17 ?_);refine AL (f:=66) Tryz.call66 AA ?_;refine ⟨_,(CR _ _ _ _ g15 0 l hS AM hr (by omega) (by omega)),?_⟩;rintro e w ⟨rfl,hS2⟩;clear hS;rename _=>hS;refine Ab ?_;go_step|(refine AQ 19 ?_);refine AL (f:=66) Tryz.call66 AA ?_;refine ⟨_,(CR _ _ _ _ g15 1 l hS AM hr (by omega) (by omega)),?_⟩;rintro e w ⟨rfl,hS2⟩;clear hS;rename _=>hS;refine Ab ?_;go_step|(refine AQ 21 ?_);refine AL (f:=66) Tryz.call66 AA ?_;refine ⟨_,(CR _ _ _ _ g15 2 l hS AM hr (by omega) (by omega)),?_⟩;rintro e w ⟨rfl,hS2⟩;clear hS;rename _=>hS;refine Ab ?_;go_step|(refine AQ 23 ?_);refine AL (f:=66) Tryz.call66 AA ?_;refine ⟨_,(CR _ _ _ _ g15 3 l hS AM hr (by omega) (by omega)),?_⟩;rintro e w ⟨rfl,hS2⟩;clear hS;rename _=>hS;refine Ab ?_;go_step|(refine AQ 25 ?_);refine AL (f:=66) Tryz.call66 AA ?_;refine ⟨_,(CR _ _ _ _ g15 4 l hS AM hr (by omega) (by omega)),?_⟩;rintro e w ⟨rfl,hS2⟩;clear hS;rename _=>hS;refine Ab ?_;go_step|(refine AQ 27 ?_);refine AL (f:=66) Tryz.call66 AA ?_;refine ⟨_,(CR _ _ _ _ g15 5 l hS AM hr (by omega) (by omega)),?_⟩;rintro e w ⟨rfl,hS2⟩;clear hS;rename _=>hS;refine Ab ?_;go_step|(refine AQ 28 ?_);refine Af _ (V.build (vs:=[(0, .int .i64 (AF l 2)),(1, .int .i64 (AF l 3)),(2, .int .i64 (AF l 4)),(5, .int .i64 (AF l 5))]) rfl (YV _ _ _ _)) AA ?_;go_step|refine X1 ?_|refine XX 5 ?_;clear hS;intro g5 w hS|refine SP ?_;clear hS;intro w hS|refine AG ?_;go_step|fail)
 dsimp only [Yx] at hS
 have hr1:=RS l hr.out 70 16
 go_loopg [29] 64 (fun gk kv w=>∃k:Nat,gk+k=64∧kv= .int .i64 k∧St w0 w [prt g5 [.val (.int .i64 (AF l 2)), .val (.int .i64 (AF l 3)), .val (.int .i64 (AF l 4)), .ints (rQ l k++List.replicate (64-k) 0), .ints (List.replicate 16 0), .val (.slice none 0 0), .ints (List.replicate 16 0), .val (.slice none 0 0), .val (.int .i64 (AF l 5)), .val (.slice none 0 0)],rdr w0 g15 l (6+k),
  prt g2 [.val (.int .i64 0), .val (.int .i64 0), .val (.int .i64 0), .ints (List.replicate 64 0), .ints (List.replicate 16 0), .val (.slice none 0 0), .ints (List.replicate 16 0), .val (.slice none 0 0), .val (.int .i64 0), .val (.slice none 0 0)]])
 case atStart=>exact ⟨0,rfl,rfl,by rw [show rQ l 0++List.replicate (64-0) 0=List.replicate 64 0 from rfl];exact hS.sub AV⟩
 case round=>
  clear hS
  obtain ⟨k,hk,rfl,hS⟩:=hrel
  by_cases hlt:k<64
  ·have HS:=AD (ig l k hlt)
   have hLen2:Ae (rQ l k++List.replicate (64-k) 0) 64:=AD (by simp [rQ];omega)
   obtain ⟨R,hR⟩:∃x,rQ l k++List.replicate (64-k) 0=x:=⟨_,rfl⟩
   rw [hR] at HS hS hLen2
   clear hR
   repeat' (first
    | (refine AQ 34 ?_);refine AL (f:=66) Tryz.call66 AA ?_;refine ⟨_,(CR _ _ _ _ g15 (6+k) l hS AM hr (by omega) (by omega)),?_⟩;rintro e w ⟨rfl,hS2⟩;clear hS;rename _=>hS;refine Ab ?_;go_step|(refine AQ 36 ?_);refine Af (.pointer (some ⟨g5,k+3,none⟩)) (V.indexAr Tryz.underlying26 Ef rfl rfl Bw.cast (by omega) (Nat.mul_one _) (Nat.add_comm 3 k)) AA ?_;go_step|refine X0 ?_|refine X2 ?_|refine Xt ?_|refine X6 ?_|refine fw ?_;clear hS;intro w hS|refine AG ?_;go_step|fail)
   rw [HS.out] at hS
   go_roundg (gk-1)
   case measure=>omega
   case rel=>exact ⟨k+1,by omega,by go_num,by rw [show 6+(k+1)=6+k+1 from rfl];exact hS.sub AV⟩
  obtain rfl:k=64:=by omega
  rw [show rQ l 64++List.replicate (64-64) 0=rQ l 64 by simp] at hS
  have hq64:(rQ l 64).length=64:=by simp [rQ]
  have hz64:=EP (rQ l 64)
  have HQ:=AD hq64
  have hLQ:Ae (rQ l 64) 64:=AD hq64
  have hLZ:Ae (CW (rQ l 64)) 64:=AD hz64
  obtain ⟨Q0,hQ0⟩:∃x,rQ l 64=x:=⟨_,rfl⟩
  obtain ⟨Q1,hQ1⟩:∃x,CW (rQ l 64)=x:=⟨_,rfl⟩
  rw [hQ1] at hLZ
  rw [hQ0] at hLQ hS HQ hQ1
  have HQ0:Dq (rQ l 64=Q0):=⟨hQ0⟩
  have HQ1:Dq (CW Q0=Q1):=⟨hQ1⟩
  clear hQ0 hQ1 hq64 hz64
  have hRep:J6 [.ints Q1] (gp (AF l 2) (AF l 3) (AF l 4) Q0 (List.replicate 16 0) (.slice none 0 0) (List.replicate 16 0) (.slice none 0 0) (AF l 5) (.slice none 0 0)) 3 (gp (AF l 2) (AF l 3) (AF l 4) Q1 (List.replicate 16 0) (.slice none 0 0) (List.replicate 16 0) (.slice none 0 0) (AF l 5) (.slice none 0 0)):=W0 hLQ hLZ
  have hl1:(AH [.ints Q1]).length=64:=by simp [AH,Ag.cells,hLZ.out]
  have hLn0:Ae (List.replicate 16 0) 16:=Ae.rep
  obtain ⟨C1,hC1⟩:∃x,Jb l 70 16=x:=⟨_,rfl⟩
  have hLC1:Ae C1 16:=AD (by rw [←hC1];simp [Jb])
  obtain ⟨A1,hA1⟩:∃x,rA l 70 16=x:=⟨_,rfl⟩
  rw [hA1] at hr1
  have HC1:Dq (Jb l 70 16=C1):=⟨hC1⟩
  have HA1:Dq (rA l 70 16=A1):=⟨hA1⟩
  have ht1:∀v,(AH [.ints C1, .val v]).length=17:=fun v=>Hk C1 v hLC1
  clear hC1 hA1
  repeat' (first
   | (refine Am 67 ?_);refine An AA Tryz.call67 (Kg _ Q0 HQ.out) ?_;rintro e w ⟨rfl,hE2⟩;rw [HQ1.out];replace hS:=hS.ext hE2;clear hE2;refine Ab ?_;go_step|(refine AQ 43 ?_);refine AL (f:=68) Tryz.call68 AA ?_;refine ⟨_,(Oj _ _ _ _ g15 70 l hS AM hr (by omega) (by omega)),?_⟩;rintro e w ⟨j1,sa1,sc1,rfl,hj1,hk1,hS2⟩;clear hS;rename _=>hS;rw [HC1.out];rw [HA1.out] at hj1 hk1;replace hk1:Dq _:=⟨hk1⟩;refine Ab ?_;go_step|(with_reducible refine Ak _ (.store 26 _ _) ?_);refine Ad ?_;refine FO hS 26 _ _ rfl g5 3 rfl 64 (AN rfl) _ _ [.ints Q1] AM (Wg Q1) hRep hl1 rfl rfl ?_;clear hS;intro w hS|(with_reducible refine Ak _ (.store 32 _ _) ?_);refine Ad ?_;refine FO hS 32 _ _ rfl g5 67 rfl 17 (AN rfl) _ _ [.ints C1, .val _] AM rfl (Wz hLZ hLn0 hLC1) (ht1 _) rfl rfl ?_;clear hS;intro w hS|refine X1 ?_|refine X2 ?_|refine Xt ?_|refine Vj ?_|refine ep ?_|refine cD ?_|refine AG ?_;go_step|fail)
  obtain ⟨C2,hC2⟩:∃x,Jb l (102+j1) 16=x:=⟨_,rfl⟩
  have hLC2:Ae C2 16:=AD (by rw [←hC2];simp [Jb])
  have hr2:=RS l hr.out (102+j1) 16
  obtain ⟨A2,hA2⟩:∃x,rA l (102+j1) 16=x:=⟨_,rfl⟩
  rw [hA2] at hr2
  have HC2:Dq (Jb l (102+j1) 16=C2):=⟨hC2⟩
  have HA2:Dq (rA l (102+j1) 16=A2):=⟨hA2⟩
  have ht2:∀v,(AH [.ints C2, .val v]).length=17:=fun v=>Hk C2 v hLC2
  clear hC2 hA2
  rw [show 70+32+j1=102+j1 from rfl] at hS
  repeat' (first
   | (refine AQ 47 ?_);refine AL (f:=68) Tryz.call68 AA ?_;refine ⟨_,(Oj _ _ _ _ g15 (102+j1) l hS AM hr (by omega) (by omega)),?_⟩;rintro e w ⟨j2,sa2,sc2,rfl,hj2,hk2,hS2⟩;clear hS;rename _=>hS;rw [HC2.out];rw [HA2.out] at hj2 hk2;replace hk2:Dq _:=⟨hk2⟩;refine Ab ?_;go_step|(with_reducible refine Ak _ (.store 32 _ _) ?_);refine Ad ?_;refine FO hS 32 _ _ rfl g5 84 rfl 17 (AN rfl) _ _ [.ints C2, .val _] AM rfl (Zz hLZ hLC1 hLn0 hLC2) (ht2 _) rfl rfl ?_;clear hS;intro w hS|refine X1 ?_|refine Vj ?_|refine ew ?_|refine AG ?_;go_step|fail)
  obtain ⟨ra,rc,rm,hrm,hrv,hS⟩:=hS.rdr_open AM
  by_cases hsh:l.length<102+j1+32+j2
  ·have hE3:Dq (Dg l=3):=⟨by
    rw [Dg,if_neg (by omega),if_pos (Zu (HA1.out.symm▸ hj1) (by rw [HA1.out];exact hk1.out) (HA2.out.symm▸ hj2) hsh)]⟩
   rw [decide_eq_true hsh] at hS
   repeat' (first
    | refine cN 54 ?_|refine X8 ?_|refine Vt ?_|refine Xq ?_|refine cE ?_|refine SP ?_;clear hS;intro w hS|refine AG ?_;go_step|fail)
   refine AO (xs:=[_,_]) rfl (.cons (AC.prt hS rfl (AN (n:=103) rfl) AM (by (repeat (first|exact Bx.nil|(apply Bx.ints;(case hn=>exact D6);(case h=>omega);(case hm=>rfl))|apply Bx.val)))) (.cons (AC.tmp rfl) (.nil))) (by simp) rfl ?_
   rw [hE3.out]
   exact ⟨fun _=>⟨rfl,hS.1⟩,fun h=>absurd h (by decide)⟩
  rw [decide_eq_false hsh] at hS
  obtain ⟨q1,q2,q3⟩:=dz (by rw [HA1.out];exact hk1.out) (by rw [HA2.out];exact hk2.out) (Nat.le_of_not_lt hsh)
  repeat' (first
   | (refine Am 69 ?_);refine An AA Tryz.call69 (Sn _ ra rm rc (l.drop (102+j1+32+j2)) (hrv.ext hS.1) (by omega)) ?_;rintro e w ⟨da,dc,rfl,hS2⟩;replace hS:=hS.call1 hS2;clear hS2;refine Ab ?_;go_step|refine X1 ?_|refine Vt ?_|refine Xq ?_|refine gA ?_|refine Xv ?_|refine cE ?_|refine gD ?_|refine fx ?_;clear hS;intro w hS|refine AG ?_;go_step|fail)
  have hdr:∀x∈l.drop (102+j1+32+j2),0≤x∧x<256:=fun x hx=>V8 hr.out x (List.mem_of_mem_drop hx)
  have hD:=Tc hdr
  obtain ⟨D,hDe⟩:∃x,(l.drop (102+j1+32+j2)).map Int.toNat=x:=⟨_,rfl⟩
  have hDlt:∀x∈D,x<256:=fun x hx=>by
   rw [←hDe] at hx
   obtain ⟨y,hy,rfl⟩:=List.mem_map.1 hx
   have:=hdr y hy
   omega
  have hDl:D.length=rm:=by rw [←hDe,hrm];simp
  obtain ⟨f1,hf1⟩:∃x:BV,x=⟨AF l 2,AF l 3,AF l 4,Q1,C1,rS l 102 j1,C2,rS l (102+j1+32) j2,AF l 5,D⟩:=⟨_,rfl⟩
  have HF:Dq (Eh l=f1):=⟨by
   rw [hf1];unfold Eh;rw [q1,q2,q3,HQ0.out,HQ1.out,HC1.out,HC2.out,hDe]⟩
  have HDe:Dq (B8 f1=l.drop (102+j1+32+j2)):=⟨by rw [hf1,B8,←hDe];exact hD⟩
  rw [show 70+32=102 from rfl] at hS
  have HPv:Dq (Value.agg (AH (gp (AF l 2) (AF l 3) (AF l 4) Q1 C1 (Value.slice sa1 j1 sc1) C2 (Value.slice sa2 j2 sc2) (AF l 5) (Value.slice da rm dc))).toArray=fv f1 (.slice sa1 j1 sc1) (.slice sa2 j2 sc2) (.slice da rm dc)):=⟨by rw [hf1];rfl⟩
  have e1:f1.s1=rS l 102 j1:=by rw [hf1]
  have e2:f1.s2=rS l (102+j1+32) j2:=by rw [hf1]
  have e3:f1.quant=Q1:=by rw [hf1]
  have e4:f1.c1=C1:=by rw [hf1]
  have e5:f1.c2=C2:=by rw [hf1]
  have e6:f1.data=D:=by rw [hf1]
  clear hf1 hD hDe hdr
  obtain ⟨E,hE⟩:∃x,Cq f1=x:=⟨_,rfl⟩
  by_cases hE0:E=0
  case neg=>
   have hE4:Dq (Dg l=4):=⟨by
    rw [Dg,if_neg (by omega),if_neg (by omega),HF.out,if_neg (fun h=>hE0 (hE▸ h.1))]⟩
   have HPb:Dq (∀w,Sl w 1 (.slice sa1 j1 sc1) j1 ((rS l 102 j1).map (Value.int .i64))→Sl w 1 (.slice sa2 j2 sc2) j2 ((rS l (102+j1+32) j2).map (Value.int .i64))→Calls Tryz.prog 39 #[Value.agg (AH (gp (AF l 2) (AF l 3) (AF l 4) Q1 C1 (Value.slice sa1 j1 sc1) C2 (Value.slice sa2 j2 sc2) (AF l 5) (Value.slice da rm dc))).toArray] w fun e w'=>e= .returned (.tuple #[.slice none 0 0, .int .i64 E])∧Ah w w'):=⟨fun w k1 k2=>HPv.out▸ Zl w f1 sa1 sa2 da j1 j2 rm sc1 sc2 dc (e3▸ hLZ) (e4▸ hLC1) (e5▸ hLC2) (e1▸ k1) (e2▸ k2) (by omega) (by omega) (by omega) (e6▸ hDl) E hE hE0⟩
   clear hE e1 e2 e3 e4 e5 e6
   repeat' (first
    | (refine Am 39 ?_);refine An AA Tryz.call39 (HPb.out _ (hS.sl AM) (hS.sl AM)) (Fq hS ?_);clear hS;intro w hS;go_step|refine cN 74 ?_|go_skip|refine X0 ?_|refine GE ?_|refine X9 67 ?_ ?_<;>intro hB<;>(try exact AS)<;>go_step|refine X7 ?_|refine SD ?_|refine SP ?_;clear hS;intro w hS|refine AG ?_;go_step|fail)
   refine AO (xs:=[_,_]) rfl (.cons (AC.prt hS rfl (AN (n:=103) rfl) AM (by (repeat (first|exact Bx.nil|(apply Bx.ints;(case hn=>exact D6);(case h=>omega);(case hm=>rfl))|apply Bx.val)))) (.cons (AC.tmp rfl) (.nil))) (by simp) rfl ?_
   rw [hE4.out]
   exact ⟨fun _=>⟨rfl,hS.1⟩,fun h=>absurd h (by decide)⟩
  subst hE0
  obtain ⟨Pk,hPk⟩:∃x,BU f1=x:=⟨_,rfl⟩
  have hPb:=OM (Kz hE (e3▸ hLZ.out) (e6▸ hDlt))
  rw [hPk] at hPb
  have HPb2:=AD hPb
  have hpl:=Zr f1
  rw [hPk] at hpl
  have hl3:Pk.length≤1000000:=by
   obtain ⟨_,_,ht1,ht2,hdl⟩:=Gz hE
   have k1:=(CM ht1).2.2.1
   have k2:=(CM ht2).2.2.1
   omega
  have HPg:Dq (∀w,Sl w 1 (.slice sa1 j1 sc1) j1 ((rS l 102 j1).map (Value.int .i64))→Sl w 1 (.slice sa2 j2 sc2) j2 ((rS l (102+j1+32) j2).map (Value.int .i64))→Sl w 1 (.slice da rm dc) rm ((l.drop (102+j1+32+j2)).map (Value.int .u8))→Calls Tryz.prog 39 #[Value.agg (AH (gp (AF l 2) (AF l 3) (AF l 4) Q1 C1 (Value.slice sa1 j1 sc1) C2 (Value.slice sa2 j2 sc2) (AF l 5) (Value.slice da rm dc))).toArray] w fun e w'=>∃(ao:Option Addr) (co:Nat),e= .returned (.tuple #[.slice ao Pk.length co, .int .i64 0])∧St w w' [own 5 1 ao Pk.length co (Pk.map (Value.int .u8))]):=⟨fun w k1 k2 k3=>HPv.out▸ hPk▸ Ut w f1 sa1 sa2 da j1 j2 rm sc1 sc2 dc (e3▸ hLZ) (e4▸ hLC1) (e5▸ hLC2) (e1▸ k1) (e2▸ k2) (HDe.out▸ k3) hE⟩
  by_cases hEq:Pk=l
  case neg=>
   have hE4:Dq (Dg l=4):=⟨by
    rw [Dg,if_neg (by omega),if_neg (by omega),HF.out,if_neg (fun h=>hEq (hPk▸ h.2))]⟩
   have HEq:=AD (decide_eq_false hEq)
   clear hE e1 e2 e3 e4 e5 e6 hPb hPk hpl hEq
   repeat' (first
    | (refine Am 39 ?_);refine An AA Tryz.call39 (HPg.out _ (hS.sl AM) (hS.sl AM) (hS.sl AM)) ?_;rintro e w ⟨ao,co,rfl,hS2⟩;replace hS:=hS.call1 hS2;clear hS2;refine Ab ?_;go_step|(refine Am 70 ?_);refine An AA Tryz.call70 (MR _ ao a Pk.length co n c Pk l (hS.sl AM) (hv.ext hS.1) HPb2.out hr.out) ?_;rintro e w' ⟨rfl,rfl⟩;rw [HEq.out];refine Ab ?_;go_step|refine cN 74 ?_|refine X0 ?_|refine Gj ?_|refine X9 67 ?_ ?_<;>intro hB<;>(try exact AS)<;>go_step|refine X7 ?_|refine SE ?_|refine SD ?_|refine SP ?_;clear hS;intro w hS|refine AG ?_;go_step|fail)
   refine AO (xs:=[_,_]) rfl (.cons (AC.prt hS rfl (AN (n:=103) rfl) AM (by (repeat (first|exact Bx.nil|(apply Bx.ints;(case hn=>exact D6);(case h=>omega);(case hm=>rfl))|apply Bx.val)))) (.cons (AC.tmp rfl) (.nil))) (by simp) rfl ?_
   rw [hE4.out]
   exact ⟨fun _=>⟨rfl,hS.1⟩,fun h=>absurd h (by decide)⟩
  have hE4:Dq (Dg l=0):=⟨by
   rw [Dg,if_neg (by omega),if_neg (by omega),HF.out,if_pos ⟨hE,hPk.trans hEq⟩]⟩
  have HEq:=AD (decide_eq_true hEq)
  have E1:Dq (f1.s1=rS l 102 j1):=⟨e1⟩
  have E2:Dq (f1.s2=rS l (102+j1+32) j2):=⟨e2⟩
  clear hE e1 e2 e3 e4 e5 e6 hPb hPk hpl hEq
  repeat' (first
   | (refine Am 39 ?_);refine An AA Tryz.call39 (HPg.out _ (hS.sl AM) (hS.sl AM) (hS.sl AM)) ?_;rintro e w ⟨ao,co,rfl,hS2⟩;replace hS:=hS.call1 hS2;clear hS2;refine Ab ?_;go_step|(refine Am 70 ?_);refine An AA Tryz.call70 (MR _ ao a Pk.length co n c Pk l (hS.sl AM) (hv.ext hS.1) HPb2.out hr.out) ?_;rintro e w' ⟨rfl,rfl⟩;rw [HEq.out];refine Ab ?_;go_step|refine X0 ?_|refine Gj ?_|refine X9 67 ?_ ?_<;>intro hB<;>(try exact AS)<;>go_step|refine X7 ?_|refine SE ?_|refine SD ?_|refine SP ?_;clear hS;intro w hS|refine AG ?_;go_step|fail)
  refine AO (xs:=[_,_]) rfl (.cons (AC.prt hS rfl (AN (n:=103) rfl) AM (by (repeat (first|exact Bx.nil|(apply Bx.ints;(case hn=>exact D6);(case h=>omega);(case hm=>rfl))|apply Bx.val)))) (.cons (AC.tmp rfl) (.nil))) (by simp) rfl ?_
  refine ⟨fun h=>absurd hE4.out h,fun _=>⟨sa1,sa2,da,sc1,sc2,dc,?_,?_⟩⟩
  ·rw [HF.out,q1,q2,q3,←hrm,←HPv.out]
   rfl
  rw [HF.out,q1,q2,q3,←hrm,E1.out,E2.out,HDe.out]
  exact hS.sub AV
end Go.Proofs.YtohacgmhmbijmaaGreatDoor
namespace Go.Proofs.YtohacgmhmbijmaaGreatDoor
attribute [local irreducible] Region.wanted
open Go.RowKit
set_option linter.unusedVariables false
set_option maxRecDepth 100000
set_option maxHeartbeats 8000000
theorem KK(w:World)(va vb:Value)(xs ys:List Int)(ha:QI w va xs)(hb:QI w vb ys):
 Calls Tryz.prog 29 #[va,vb] w fun e w'=>e= .returned (.bool (decide (xs=ys)))∧w=w':=by
 obtain ⟨a,c,rfl,hc1,hc2,ha⟩:=ha.open
 obtain ⟨b,d,rfl,hd1,hd2,hb⟩:=hb.open
 by_cases hl:xs.length=ys.length
 ·have hl':((xs.length:Int) !=(ys.length:Int))=false:=by simp [hl]
  have HL:=AD hl
  clear hl
  go_enter Tryz.func29,Tryz.ntmps29
  go_wp2_with fail
  go_loopg [14] xs.length (fun gk xv wr=>∃(i:Nat),gk+i=xs.length∧xv= .int .i64 i∧xs.take i=ys.take i∧wr=w)
  case atStart=>exact ⟨0,rfl,rfl,rfl,rfl⟩
  case round=>
   obtain ⟨i,hi,rfl,hpre,rfl⟩:=hrel
   have hi':i≤xs.length:=by omega
   have HI:=AD hi
   have HP:=AD hpre
   clear hi hpre
   by_cases hlt:i<xs.length
   ·obtain ⟨ba,oa,rfl,hca⟩:=ha i hlt
    have hlt2:i<ys.length:=by have:=HL.out;omega
    obtain ⟨bb,ob,rfl,hcb⟩:=hb i hlt2
    have h1:=hca i hlt
    have h2:=hcb i hlt2
    clear ha hb hca hcb
    by_cases he:AF xs i=AF ys i
    ·have h3:(AF xs i !=AF ys i)=false:=by simp [he]
     have HT:=AD (Pv xs ys i hlt hlt2 HP.out he)
     clear he
     have HM:Hid (gk-1+(i+1)=xs.length):=by have:=HI.out;unfold Hid;omega
     have HG:Hid (gk-1<gk):=by have:=HI.out;unfold Hid;omega
     go_wp2_with fail
     go_roundg (gk-1)
     case measure=>exact HG.out
     case rel=>exact ⟨i+1,HM.out,by go_num,HT.out,rfl⟩
    have h3:(AF xs i !=AF ys i)=true:=by simp [he]
    have HN:Hid (decide (xs=ys)=false):=by
     unfold Hid;rw [decide_eq_false_iff_not];intro h;exact he (by rw [h])
    clear he
    go_wp2_with fail
    go_ret
    exact ⟨DF HN.out.symm,rfl⟩
   have HN:Hid (decide (xs=ys)=true):=by
    unfold Hid
    have h1:=HP.out
    have h2:=HL.out
    rw [List.take_of_length_le (by omega),List.take_of_length_le (by omega)] at h1
    simp [h1]
   clear ha hb
   go_wp2_with fail
   go_ret
   exact ⟨DF HN.out.symm,rfl⟩
 have hl':((xs.length:Int) !=(ys.length:Int))=true:=by simp;omega
 have HN:Hid (decide (xs=ys)=false):=by
  unfold Hid;rw [decide_eq_false_iff_not];intro h;exact hl (by rw [h])
 clear hl ha hb
 go_enter Tryz.func29,Tryz.ntmps29
 go_wp2_with fail
 go_ret
 exact ⟨DF HN.out.symm,rfl⟩
end Go.Proofs.YtohacgmhmbijmaaGreatDoor
namespace Go.Proofs.YtohacgmhmbijmaaGreatDoor
attribute [local irreducible] Region.wanted
open Go.ChangeShapes Go.WideShapes Go.ChangeAt Go.RowKit Go.Deep
set_option linter.unusedVariables false
set_option maxRecDepth 100000
set_option maxHeartbeats 8000000
theorem ZJ{w:World}{ad:Option Addr}{n c:Nat}{xs:List Int}(h:Sl w 1 (.slice ad n c) n (xs.map (Value.int .i64))):QI w (.slice ad n c) xs:=by
 have hl:xs.length=n:=by have:=h.1;simpa using this
 unfold QI;rw [hl];exact h
end Go.Proofs.YtohacgmhmbijmaaGreatDoor
namespace Go.Proofs.YtohacgmhmbijmaaGreatDoor
attribute [local irreducible] Region.wanted
open Go.RowKit
set_option linter.unusedVariables false
set_option maxRecDepth 100000
set_option maxHeartbeats 8000000
theorem Qj(w0:World)(a b:Option Addr)(c d:Nat)(R R2:List Rw)(hP:A8 w0 a c R)(hQ:A8 w0 b d R2)(hR:R.length≤9223372036854775807)(h:R.map (·.xs)=R2.map (·.xs)):
 Calls Tryz.prog 55 #[.slice a R.length c, .slice b R2.length d] w0 fun e w=>e= .returned (.bool true)∧Ah w0 w:=by
 have hS:=St.start w0
 have HP:Hid (A8 w0 a c R):=hP
 have HQ:Hid (A8 w0 b d R2):=hQ
 have HH:=AD h
 have hl2:R2.length=R.length:=by have:=congrArg List.length h;simpa using this.symm
 obtain ⟨N,hN⟩:∃N,R.length=N:=⟨_,rfl⟩
 rw [hN] at hl2 hR⊢
 rw [hl2]
 have HN:=AD hN
 have HN2:=AD hl2
 have hs1:=hP.sl
 have hs2:=hQ.sl
 rw [hN] at hs1
 rw [hl2] at hs2
 clear hP hQ h hl2 hN
 go_enter Tryz.func55,Tryz.ntmps55
 repeat' (first
  | refine X0 ?_|refine eo ?_|refine LH ?_|refine AG ?_;go_step|fail)
 all_goals (try exact AS)
 go_loopg [13] N (fun gk kv w=>∃k:Nat,gk+k=N∧kv= .int .i64 k∧St w0 w [])
 case atStart=>exact ⟨0,rfl,rfl,hS.sub AV⟩
 case round=>
  clear hS
  obtain ⟨k,hk,rfl,hS⟩:=hrel
  by_cases hlt:k<N
  ·obtain ⟨r,hr⟩:∃r,R[k]? =some r:=⟨_,List.getElem?_eq_getElem (by rw [HN.out];exact hlt)⟩
   obtain ⟨s,hs⟩:∃s,R2[k]? =some s:=⟨_,List.getElem?_eq_getElem (by rw [HN2.out];exact hlt)⟩
   obtain ⟨hg0,hrs,hrl⟩:=HP.out.at hr
   obtain ⟨hg1,hss,hsl⟩:=HQ.out.at hs
   have hx:r.xs=s.xs:=by
    have h9:=congrArg (fun l=>l[k]?) HH.out
    simp only [List.getElem?_map,hr,hs,Option.map_some] at h9
    exact Option.some.inj h9
   obtain ⟨ba,oa,rfl,hca⟩:=DV hs1 (by omega)
   obtain ⟨bb,ob,rfl,hcb⟩:=DV hs2 (by omega)
   have hcl0:=hca k _ hg0
   have hcl1:=hcb k _ hg1
   obtain ⟨ra,rc,rx⟩:=r
   obtain ⟨sa,sc,sx⟩:=s
   dsimp only at hx hrs hss hcl0 hcl1
   subst hx
   obtain ⟨rn,hrn⟩:∃n,rx.length=n:=⟨_,rfl⟩
   rw [hrn] at hrs hss hcl0 hcl1
   have HEQ:=AD fun (w:World)(hx:Ah w0 w)=>KK w _ _ rx rx (ZJ (hrs.ext hx)) (ZJ (hss.ext hx))
   clear hca hcb hr hs hg0 hg1 hrl hsl hrs hss hs1 hs2
   repeat' (first
    | refine X0 ?_|refine X2 ?_|refine AG ?_;go_step|fail)
   all_goals (try exact AS)
   refine AP [8] (fun w=>St w0 w []) AA ?_
   replace hS:=hS.drew
   focus
    refine AY 0 ?_
    refine AY 1 ?_
    refine CA 2 BZ (V.indexSl Tryz.underlying22 MY rfl rfl BJ (by omega) (Nat.mul_one _) BT) ?_;go_step
    refine cZ 3 [8,9] ?_
    refine AY 4 ?_
    refine AY 5 ?_
    refine CA 6 BZ (V.indexSl Tryz.underlying22 MY rfl rfl BJ (by omega) (Nat.mul_one _) BT) ?_;go_step
    refine cZ 7 [8,9] ?_
    refine Ao 8 ?_
    refine AR (f:=29) rfl Tryz.call29 (HEQ.out _ hS.1) ?_;rintro e w ⟨rfl,rfl⟩;refine ⟨_,rfl,?_⟩
    refine ⟨fun h=>absurd (by decide) h,?_⟩
    refine AI ?_
    go_step
    refine CA 9 BZ (V.notD rfl) ?_;go_step
    refine AE AA ?_ _
   all_goals
    repeat' (first|(refine AG ?_;go_step)|fail)
    repeat' (first
     | refine X1 ?_|refine X6 ?_|refine AG ?_;go_step|fail)
    go_roundg (gk-1)
    case measure=>omega
    case rel=>exact ⟨k+1,by omega,by go_num,hS.sub AV⟩
  obtain rfl:k=N:=by omega
  repeat' (first
   | refine X8 ?_|refine X2 ?_|refine AG ?_;go_step|fail)
  repeat' (first
   | refine AG ?_;go_step|fail)
  go_ret
  exact ⟨rfl,hS.1⟩
theorem IS(w0:World)(m h:Int)(a b:Option Addr)(c d:Nat)(R R2:List Rw)(hP:A8 w0 a c R)(hQ:A8 w0 b d R2)(hR:R.length≤9223372036854775807)(hh:R.map (·.xs)=R2.map (·.xs)):
 Calls Tryz.prog 23 #[.agg #[.int .i64 m, .int .i64 h, .slice a R.length c], .agg #[.int .i64 m, .int .i64 h, .slice b R2.length d]] w0 fun e w=>e= .returned (.bool true)∧Ah w0 w:=by
 have hS:=St.start w0
 have HEL:=AD fun (w:World)(hx:Ah w0 w)=>Qj w a b c d R R2 (hP.ext hx) (hQ.ext hx) hR hh
 obtain ⟨n1,hn1⟩:∃n,R.length=n:=⟨_,rfl⟩
 obtain ⟨n2,hn2⟩:∃n,R2.length=n:=⟨_,rfl⟩
 rw [hn1,hn2] at HEL
 rw [hn1,hn2]
 clear hP hQ hR hh hn1 hn2
 go_enter Tryz.func23,Tryz.ntmps23
 repeat' (first
  | (refine Am 55 ?_);refine An AA Tryz.call55 (HEL.out _ hS.1) (Fq hS ?_);clear hS;intro w hS;go_step|refine X0 ?_|refine GE ?_|refine I0 9 ?_ ?_<;>intro hB<;>(try exact AS)<;>go_step|refine I0 15 ?_ ?_<;>intro hB<;>(try exact AS)<;>go_step|refine gY ?_|refine gZ ?_|refine Xs ?_|refine T0 2 ?_;clear hS;intro g2 w hS|refine T0 3 ?_;clear hS;intro g3 w hS|refine E6 ?_|refine Vk ?_|refine AG ?_;go_step|fail)
 all_goals (try exact AS)
 go_ret
 exact ⟨rfl,hS.1⟩
theorem U9{w:World}{s n c:Nat}{a:Option Addr}{cs:List Value}(h:Sl w s (.slice a n c) n cs):n≤9223372036854775807:=by
 obtain ⟨_,a',c',e,h1,h2,_⟩:=h
 unfold maxLen at h2
 omega
theorem US{w:World}{m h:Int}{np ev:Nat}{q C1 S1 C2 S2 D:List Int}(hq:Ae q 64)(l1:Ae C1 16)(l2:Ae C2 16)(hD:∀x∈D,0≤x∧x<256){a1 a2 ad:Option Addr}{n1 k1 n2 k2 nd kd:Nat}(s1:Sl w 1 (.slice a1 n1 k1) n1 (S1.map (Value.int .i64)))(s2:Sl w 1 (.slice a2 n2 k2) n2 (S2.map (Value.int .i64)))(sd:Sl w 1 (.slice ad nd kd) nd (D.map (Value.int .u8))):FM w (Fk m h np q C1 S1 C2 S2 ev D) a1 a2 ad n1 k1 n2 k2 nd kd:=
 ⟨hq,l1,l2,s1,s2,U9 s1,U9 s2,by rw [MP m h np q C1 S1 C2 S2 ev D hD];exact sd,U9 sd,fun x hx=>by
  obtain ⟨y,hy,rfl⟩:=List.mem_map.1 hx
  have:=hD y hy
  omega⟩
theorem O8(w:World){m h:Int}{np n K:Nat}{q B C1 S1 C2 S2 D:List Int}{ev:Nat}(hok:1≤m∧m≤64∧1≤h∧h≤64)(hnp:np=1∨np=3)(hq:Ae q 64)(hqk:Ej q=true)(hev:ev≤100)(hK:Aa m h=K)(hn:np*K=n)(hB:B.length=n*64)(hab:A6 B n=true)(he:Tu B n ev C1 S1 C2 S2 D){a1 a2 ad:Option Addr}{n1 k1 n2 k2 nd kd:Nat}(s1:Sl w 1 (.slice a1 n1 k1) n1 (S1.map (Value.int .i64)))(s2:Sl w 1 (.slice a2 n2 k2) n2 (S2.map (Value.int .i64)))(sd:Sl w 1 (.slice ad nd kd) nd (D.map (Value.int .u8)))(hml:∃m,w.cell? ⟨0,0,none⟩=some (.int .i64 m)):
 Calls Tryz.prog 21 #[ZF m h np q C1 (.slice a1 n1 k1) C2 (.slice a2 n2 k2) ev (.slice ad nd kd)] w fun e w'=>∃(a:Option Addr) (c:Nat) (R:List Rw),R.map (·.xs)=WY m h q B K np∧e= .returned (.tuple #[.agg #[.int .i64 m, .int .i64 h, .slice a R.length c], .int .i64 0])∧Dd w w' a c R []:=by
 obtain ⟨h1,h2,h3,h4,h5⟩:=Qh hok hnp hqk hev hK hn hB hab he
 have hlt:∀x∈D,0≤x∧x<256:=by rw [he.d];exact JB
 have hF:=US (m:=m) (h:=h) (np:=np) (ev:=ev) hq he.l1 he.l2 hlt s1 s2 sd
 refine (Sf w _ a1 a2 ad n1 k1 n2 k2 nd kd hF hml).mono fun e w' hh=>?_
 obtain ⟨a,c,R,r1,r2,r3⟩:=hh.2 h4
 exact ⟨a,c,R,r1.trans h5,r2,r3⟩
theorem Fd{W w:World}{rs rs1 rs2:List Au}{g6 g7 n:Nat}{xs:List Int}{cs:List Value}(hS:St W w rs)(p1:AW (blk g7 [.slice (some ⟨g6,0,none⟩) n n]) rs rs1)(p2:AW (blk g6 cs) rs rs2)(hcs:cs=xs.map (Value.int .i64))(hn:xs.length=n)(hm:n≤maxLen):A8 w (some ⟨g7,0,none⟩) 1 [⟨some ⟨g6,0,none⟩,n,xs⟩]:=by
 subst hn hcs
 refine ⟨?_,fun r hr=>?_⟩
 ·exact hS.slBlk (n:=1) (s:=1) p1 rfl (by decide)
 simp only [List.mem_cons,List.not_mem_nil,or_false] at hr
 subst hr
 exact hS.slBlk (n:=xs.length) (s:=1) p2 (by simp) hm
theorem UT(w:World)(m:Nat)(hm:1≤m∧m≤2)(ev:Nat)(hev:ev≤100)(a6 a7:Option Addr)(c6 c7:Nat)(hP:A8 w a7 c7 [⟨a6,c6,List.replicate m 128⟩]):
 Calls Tryz.prog 17 #[.agg #[.int .i64 m, .int .i64 1, .slice a7 1 c7], .agg (iv (List.replicate 64 1)), .int .i64 ev] w fun e w'=>∃(C1 S1 C2 S2 D:List Int) (a1 a2 ad:Option Addr) (n1 k1 n2 k2 nd kd:Nat),Tu (List.replicate 64 0) 1 ev C1 S1 C2 S2 D∧
  e= .returned (.tuple #[ZF m 1 1 (List.replicate 64 1) C1 (.slice a1 n1 k1) C2 (.slice a2 n2 k2) ev (.slice ad nd kd), .int .i64 0])∧St w w' [own 3 1 a1 n1 k1 (S1.map (Value.int .i64)),own 3 1 a2 n2 k2 (S2.map (Value.int .i64)),own 5 1 ad nd kd (D.map (Value.int .u8))]:=by
 have hz:Gg m 1 (List.replicate 64 1) [List.replicate m 128]=0∧FX m 1 (List.replicate 64 1) [List.replicate m 128]=List.replicate 64 0∧Aa m 1=1:=by
  obtain rfl|rfl:m=1∨m=2:=by omega
  ·exact ⟨by kernel_rfl,by kernel_rfl,by kernel_rfl⟩
  exact ⟨by kernel_rfl,by kernel_rfl,by kernel_rfl⟩
 obtain ⟨z1,z2,z3⟩:=hz
 have hpe:DM m 1 (List.replicate 64 1) [List.replicate m 128] ev=0:=by
  unfold DM
  rw [if_pos z1,if_pos (by omega),z2,z3]
  exact if_pos AA
 refine (Kr w m 1 (by omega) a7 c7 [⟨a6,c6,List.replicate m 128⟩] (by show 1≤9223372036854775807;omega) hP (List.replicate 64 1) List.length_replicate ev hev z1).mono fun e w' hh=>?_
 obtain ⟨C1,S1,C2,S2,D,a1,a2,ad,n1,k1,n2,k2,nd,kd,h1,_,_,_,h2,h3⟩:=hh.2 hpe
 refine ⟨C1,S1,C2,S2,D,a1,a2,ad,n1,k1,n2,k2,nd,kd,?_,h2,h3⟩
 have e1:FX m 1 (List.replicate 64 1) (List.map (fun x=>x.xs) [({ad:=a6,c:=c6,xs:=List.replicate m 128}:Rw)])=List.replicate 64 0:=z2
 rw [e1] at h1
 rw [show [({ad:=a6,c:=c6,xs:=List.replicate m 128}:Rw)].length*Aa m 1=1 by rw [z3];rfl] at h1
 exact h1
theorem PO(m:Nat)(hm:1≤m∧m≤2):WY m 1 (List.replicate 64 1) (List.replicate 64 0) 1 1=[List.replicate m 128]:=by
 obtain rfl|rfl:m=1∨m=2:=by omega
 ·kernel_rfl
 kernel_rfl
theorem ST(m0:Int)(m1:Int)(a2:Option Addr)(n2 c2:Nat)(w:World):(Instr.build 24 #[(0, .int .i64 m0),(1, .int .i64 m1),(2, .slice a2 n2 c2)]).run Tryz.prog w= .ok (.agg #[.int .i64 m0, .int .i64 m1, .slice a2 n2 c2]) w:=by kernel_rfl
theorem WU(n:Int)(i:Nat)(h:i<64):(List.replicate i n++List.replicate (64-i) 0).set i n=List.replicate (i+1) n++List.replicate (64-(i+1)) 0:=by
 obtain ⟨m,hm⟩:∃m,64-i=m+1:=⟨64-i-1,by omega⟩
 rw [hm,show 64-(i+1)=m by omega,List.set_append_right _ _ (by simp),List.length_replicate,Nat.sub_self,List.replicate_succ,List.set_cons_zero,List.replicate_succ',List.append_assoc]
 rfl
theorem F4(w0:World)(n:Int):Calls Tryz.prog 27 #[.int .i64 n] w0 fun e w=>e= .returned (.agg (iv (List.replicate 64 n)))∧Ah w0 w:=by
 have hS:=St.start w0
 go_enter Tryz.func27,Tryz.ntmps27
 repeat' (first
  | refine X1 ?_|refine Kk 2 ?_;clear hS;intro g2 w hS|refine AG ?_;go_step|fail)
 go_loopg [4] 64 (fun gk kv w=>∃k:Nat,gk+k=64∧kv= .int .i64 k∧St w0 w [arr g2 64 (List.replicate k n++List.replicate (64-k) 0)])
 case atStart=>exact ⟨0,rfl,rfl,by rw [show List.replicate 0 n++List.replicate (64-0) 0=List.replicate 64 0 by simp];exact hS.sub AV⟩
 case round=>
  clear hS
  obtain ⟨k,hk,rfl,hS⟩:=hrel
  by_cases hlt:k<64
  ·have HX:=AD (WU n k hlt)
   repeat' (first
    | refine X0 ?_|refine X2 ?_|refine Vq 9 ?_|refine X6 ?_|refine Xm ?_;clear hS;intro w hS|refine AG ?_;go_step|fail)
   go_roundg (gk-1)
   case measure=>omega
   case rel=>exact ⟨k+1,by omega,by go_num,by rw [←HX.out];exact hS.sub AV⟩
  obtain rfl:k=64:=by omega
  rw [show List.replicate 64 n++List.replicate (64-64) 0=List.replicate 64 n by simp] at hS
  repeat' (first
   | refine X2 ?_|refine Hp ?_|refine Ft ?_;clear hS;intro w hS|refine AG ?_;go_step|fail)
  refine BK rfl (AC.arr hS rfl (AN (n:=64) rfl) AM) rfl ?_
  exact ⟨rfl,hS.1⟩
theorem GR(w0:World)(hml:∃m,w0.cell? ⟨0,0,none⟩=some (.int .i64 m)):Calls Tryz.prog 15 #[] w0 fun e w=>e= .returned (.bool true)∧Ah w0 w:=by
 have hS:=St.start w0
 have HML:=AD hml
 have HE:Hid (∀w a6 a7,A8 w a7 1 [⟨a6,1,[128]⟩]→Calls Tryz.prog 17 #[.agg #[.int .i64 1, .int .i64 1, .slice a7 1 1], .agg (iv (List.replicate 64 1)), .int .i64 0] w fun e w'=>∃(C1 S1 C2 S2 D:List Int) (a1 a2 ad:Option Addr) (n1 k1 n2 k2 nd kd:Nat),Tu (List.replicate 64 0) 1 0 C1 S1 C2 S2 D∧
  e= .returned (.tuple #[.agg (AH [.val (.int .i64 1), .val (.int .i64 1), .val (.int .i64 1), .ints (List.replicate 64 1), .ints C1, .val (.slice a1 n1 k1), .ints C2, .val (.slice a2 n2 k2), .val (.int .i64 0), .val (.slice ad nd kd)]).toArray, .int .i64 0])∧St w w' [own 3 1 a1 n1 k1 (S1.map (Value.int .i64)),own 3 1 a2 n2 k2 (S2.map (Value.int .i64)),own 5 1 ad nd kd (D.map (Value.int .u8))]):=
  fun w a6 a7 hP=>UT w 1 (by decide) 0 (by decide) a6 a7 1 1 hP
 have HD:Hid (∀w (C1 S1 C2 S2 D:List Int) (a1 a2 ad:Option Addr) (n1 k1 n2 k2 nd kd:Nat),(∃m,w.cell? ⟨0,0,none⟩=some (.int .i64 m))→Tu (List.replicate 64 0) 1 0 C1 S1 C2 S2 D→Sl w 1 (.slice a1 n1 k1) n1 (S1.map (Value.int .i64))→Sl w 1 (.slice a2 n2 k2) n2 (S2.map (Value.int .i64))→Sl w 1 (.slice ad nd kd) nd (D.map (Value.int .u8))→
  Calls Tryz.prog 21 #[.agg (AH [.val (.int .i64 1), .val (.int .i64 1), .val (.int .i64 1), .ints (List.replicate 64 1), .ints C1, .val (.slice a1 n1 k1), .ints C2, .val (.slice a2 n2 k2), .val (.int .i64 0), .val (.slice ad nd kd)]).toArray] w fun e w'=>∃(a:Option Addr) (c:Nat) (R:List Rw),R.map (·.xs)=[[128]]∧e= .returned (.tuple #[.agg #[.int .i64 1, .int .i64 1, .slice a R.length c], .int .i64 0])∧Dd w w' a c R []):=
  fun w C1 S1 C2 S2 D a1 a2 ad n1 k1 n2 k2 nd kd hm he s1 s2 sd=>by
   refine (O8 w (m:=1) (h:=1) (np:=1) (n:=1) (K:=1) (q:=List.replicate 64 1) (B:=List.replicate 64 0) (ev:=0) (by decide) (.inl rfl) List.length_replicate (by decide+kernel) (by decide) (by decide+kernel) rfl rfl (by decide+kernel) he s1 s2 sd hm).mono fun e w' hh=>?_
   obtain ⟨a,c,R,r1,r2,r3⟩:=hh
   exact ⟨a,c,R,r1.trans (PO 1 (by decide)),r2,r3⟩
 clear hml
 go_enter Tryz.func15,Tryz.ntmps15
 repeat' (first
  | refine X8 ?_|refine YG 8 ?_|refine jV 6 ?_;clear hS;intro g6 w hS|refine eh 7 ?_;clear hS;intro g7 w hS|refine Tz 1 ?_;clear hS;intro g1 w hS|refine T2 ?_;clear hS;intro w hS|refine AG ?_;go_step|fail)
 refine AP [2,7] (fun w=>St w0 w [blk g1 [.int .i64 1, .int .i64 1, .slice (some ⟨g7,0,none⟩) 1 1],blk g7 [.slice (some ⟨g6,0,none⟩) 1 1],blk g6 [.int .i64 128]]) AA ?_
 replace hS:=hS.drew
 focus
  refine kc 0 [2,3,4,5,7,8] ?_
  refine Ay [1,6] AA (by simp) (.cons Ai AA ?_ (.cons Ai AA ?_ (.nil)))
  rotate_left 1
  focus
   refine Y8 ?_;clear hS;intro g2 w hS
   refine Ao 1 ?_
   refine AR (f:=27) rfl Tryz.call27 (F4 _ 1) ?_;rintro e w ⟨rfl,hE⟩;replace hS:=hS.ext hE;clear hE;refine ⟨_,rfl,?_⟩
   refine ⟨fun _ _=>hS.sub AV,?_⟩
   refine AI ?_
   go_step
   refine Ao 2 ?_
   refine AR (f:=17) rfl Tryz.call17 (HE.out _ (some ⟨g6,0,none⟩) (some ⟨g7,0,none⟩) (Fd (xs:=[128]) (cs:=[.int .i64 128]) hS AM AM rfl rfl (by decide))) ?_;rintro e w ⟨C1,S1,C2,S2,D,a1,a2,ad,n1,k1,n2,k2,nd,kd,hen,rfl,hS2⟩;replace hS:=hS.call hS2;clear hS2;simp only [List.cons_append,List.nil_append] at hS;have hC1:=hen.l1;have hC2:=hen.l2;have HEN:=AD hen;clear hen;refine ⟨_,rfl,?_⟩
   refine ⟨fun h=>absurd (by decide) h,?_⟩
   refine AI ?_
   go_step
   refine AY 3 ?_
   refine Y1 4 ?_
   refine Y1 5 ?_
   refine Ao 7 ?_
   refine Y9 ?_;clear hS;intro w hS
   refine AY 8 ?_
   refine AE AA ?_ _
  rotate_right 1
  focus
   refine AR (f:=27) rfl Tryz.call27 (F4 _ 1) ?_;rintro e w ⟨rfl,hE⟩;replace hS:=hS.ext hE;clear hE;refine ⟨_,rfl,?_⟩
   refine ⟨fun _ _=>hS.sub AV,?_⟩
   refine AI ?_
   go_step
   refine Ay [2,6] AA (by simp) (.cons Ai AA ?_ (.cons Ai AA ?_ (.nil)))
   rotate_left 1
   focus
    refine Y8 ?_;clear hS;intro g2 w hS
    refine Ao 2 ?_
    refine AR (f:=17) rfl Tryz.call17 (HE.out _ (some ⟨g6,0,none⟩) (some ⟨g7,0,none⟩) (Fd (xs:=[128]) (cs:=[.int .i64 128]) hS AM AM rfl rfl (by decide))) ?_;rintro e w ⟨C1,S1,C2,S2,D,a1,a2,ad,n1,k1,n2,k2,nd,kd,hen,rfl,hS2⟩;replace hS:=hS.call hS2;clear hS2;simp only [List.cons_append,List.nil_append] at hS;have hC1:=hen.l1;have hC2:=hen.l2;have HEN:=AD hen;clear hen;refine ⟨_,rfl,?_⟩
    refine ⟨fun h=>absurd (by decide) h,?_⟩
    refine AI ?_
    go_step
    refine AY 3 ?_
    refine Y1 4 ?_
    refine Y1 5 ?_
    refine Ao 7 ?_
    refine Y9 ?_;clear hS;intro w hS
    refine AY 8 ?_
    refine AE AA ?_ _
   rotate_right 1
   focus
    refine AR (f:=17) rfl Tryz.call17 (HE.out _ (some ⟨g6,0,none⟩) (some ⟨g7,0,none⟩) (Fd (xs:=[128]) (cs:=[.int .i64 128]) hS AM AM rfl rfl (by decide))) ?_;rintro e w ⟨C1,S1,C2,S2,D,a1,a2,ad,n1,k1,n2,k2,nd,kd,hen,rfl,hS2⟩;replace hS:=hS.call hS2;clear hS2;simp only [List.cons_append,List.nil_append] at hS;have hC1:=hen.l1;have hC2:=hen.l2;have HEN:=AD hen;clear hen;refine ⟨_,rfl,?_⟩
    refine ⟨fun h=>absurd (by decide) h,?_⟩
    refine AI ?_
    go_step
    refine AY 3 ?_
    refine Y1 4 ?_
    refine Y1 5 ?_
    refine Ao 6 ?_
    refine Y8 ?_;clear hS;intro g2 w hS
    refine Ao 7 ?_
    refine Y9 ?_;clear hS;intro w hS
    refine AY 8 ?_
    refine AE AA ?_ _
 all_goals
  repeat' (first|(refine AG ?_;go_step)|fail)
  repeat' (first
   | (refine Am 21 ?_);refine An AA Tryz.call21 (HD.out _ C1 S1 C2 S2 D a1 a2 ad n1 k1 n2 k2 nd kd (HML.out.imp fun m h=>hS.1.cell h) HEN.out (hS.sl AM) (hS.sl AM) (hS.sl AM)) ?_;rintro e w ⟨a9,c9,R9,hR9,rfl,hP9⟩;replace hS:=hS.call hP9;clear hP9;simp only [List.cons_append,List.nil_append] at hS;have HR9:=AD hR9;clear hR9;refine Ab ?_;go_step|(refine Am 23 ?_);refine An AA Tryz.call23 (IS _ 1 1 (some ⟨g7,0,none⟩) a9 1 c9 [⟨some ⟨g6,0,none⟩,1,[128]⟩] R9 (Fd (xs:=[128]) (cs:=[.int .i64 128]) hS AM AM rfl rfl (by decide)) (A8.of hS AM AM) (by show 1≤9223372036854775807;omega) HR9.out.symm) (Fq hS ?_);clear hS;intro w hS;go_step|refine X0 ?_|refine GE ?_|refine I0 21 ?_ ?_<;>intro hB<;>(try exact AS)<;>go_step|refine I0 24 ?_ ?_<;>intro hB<;>(try exact AS)<;>go_step|refine X7 ?_|refine SD ?_|refine Tz 4 ?_;clear hS;intro g4 w hS|refine T2 ?_;clear hS;intro w hS|refine XZ ?_|refine AG ?_;go_step|fail)
  all_goals (try exact AS)
  all_goals (try (have hF:False:=(hB rfl);cases hF))
  all_goals
   go_ret
   exact ⟨rfl,hS.1⟩
theorem YT{w:World}{a:Option Addr}{n c:Nat}{l:List Int}(hv:Sl w 64 (.slice a n c) n (l.map (Value.int .i64)))(k:Nat)(hk:k<n):∃b off,a=some ⟨b,off,none⟩∧w.rangeAt b (off+k*64) ((BY l 64 k).map (Value.int .i64)):=by
 obtain ⟨hl,a',c',e,_,_,hor⟩:=hv
 cases e
 rw [List.length_map] at hl
 rcases hor with h0|⟨b,off,rfl,hc⟩
 ·omega
 refine ⟨b,off,rfl,fun j v hj=>?_⟩
 have hs:=Br l 64 k n hl hk
 have hj64:j<64:=by
  rcases Nat.lt_or_ge j 64 with h|h
  ·exact h
  rw [List.getElem?_eq_none (by rw [List.length_map,hs];exact h)] at hj;cases hj
 rw [Nat.add_assoc,hc (k*64+j) (by omega),List.getElem?_map]
 rw [List.getElem?_map] at hj
 rw [←hj]
 unfold BY
 rw [List.getElem?_take,if_pos hj64,List.getElem?_drop]
theorem WT(w0:World)(a b:Option Addr)(n c d:Nat)(xs:List Int)(ha:Sl w0 64 (.slice a n c) n (xs.map (Value.int .i64)))(hb:Sl w0 64 (.slice b n d) n (xs.map (Value.int .i64)))(hn:n≤9223372036854775807):
 Calls Tryz.prog 22 #[.slice a n c, .slice b n d] w0 fun e w=>e= .returned (.bool true)∧Ah w0 w:=by
 have hlx:xs.length=n*64:=by have:=ha.1;simpa using this
 have HX:=AD hlx
 clear hlx
 have hS:=St.start w0
 go_enter Tryz.func22,Tryz.ntmps22
 repeat' (first
  | refine X0 ?_|refine YE ?_|refine LH ?_|refine AG ?_;go_step|fail)
 all_goals (try exact AS)
 repeat' (first
  | refine AG ?_;go_step|fail)
 go_loopg [14] n (fun gk kv w=>∃k:Nat,gk+k=n∧kv= .int .i64 k∧St w0 w [])
 case atStart=>exact ⟨0,rfl,rfl,hS.sub AV⟩
 case round=>
  clear hS
  obtain ⟨k,hk,rfl,hS⟩:=hrel
  by_cases hlt:k<n
  ·obtain ⟨bb,ob,rfl,hrb⟩:=YT hb k hlt
   have hly:Ae (BY xs 64 k) 64:=Br xs 64 k n HX.out hlt
   have hd:Hid (decide (BY xs 64 k≠BY xs 64 k)=false):=AD (by simp)
   repeat' (first
    | refine X0 ?_|refine X2 ?_|refine bR 17 ?_;intro b17 o17 hl17 hc17;go_step|refine Xx ?_|refine Kk 6 ?_;clear hS;intro g6 w hS|refine Ft ?_;clear hS;intro w hS|refine AG ?_;go_step|fail)
   all_goals (try exact AS)
   refine AP [] (fun w=>St w0 w [arr g6 64 (BY xs 64 k)]) AA ?_
   replace hS:=hS.drew
   focus
    refine jw 0 [5] ?_
    refine AY 1 ?_
    refine AY 2 ?_
    refine CA 3 BZ (V.indexSl Tryz.underlying42 JJ rfl rfl BJ (by omega) rfl BT) ?_;go_step
    apply DG 4 Ai AA AA AA B5 [5] AA (hS.sub AV)
    case hfr=>intro w hS;((refine Ad ?_;apply EN hS 26 _ rfl _ _ rfl 64 (AN rfl) _;(case hl=>with_reducible assumption);(case hr=>with_reducible assumption);refine AB ?_;go_step));refine wpList_nil ?_;exact ⟨rfl,rfl⟩
    case hd=>rfl
    refine CA 5 BZ (V.neqA fJ rfl rfl (by (repeat (first|assumption|exact Ae.rep|apply Ae.set|((with_reducible show Ae (_::_) _);exact rfl)))) (by (repeat (first|assumption|exact Ae.rep|apply Ae.set|((with_reducible show Ae (_::_) _);exact rfl))))) ?_;go_step
    refine AE AA ?_ _
   all_goals
    repeat' (first|(refine AG ?_;go_step)|fail)
    rw [hd.out]
    repeat' (first
     | refine X1 ?_|refine X6 ?_|refine AG ?_;go_step|fail)
    go_roundg (gk-1)
    case measure=>omega
    case rel=>exact ⟨k+1,by omega,by go_num,hS.sub AV⟩
  obtain rfl:k=n:=by omega
  repeat' (first
   | refine X8 ?_|refine X2 ?_|refine AG ?_;go_step|fail)
  all_goals (try exact AS)
  repeat' (first
   | refine AG ?_;go_step|fail)
  go_ret
  exact ⟨rfl,hS.1⟩
end Go.Proofs.YtohacgmhmbijmaaGreatDoor
namespace Go.Proofs.YtohacgmhmbijmaaGreatDoor
attribute [local irreducible] Region.wanted
set_option linter.unusedVariables false
set_option maxRecDepth 100000
set_option maxHeartbeats 8000000
theorem Wb(n:Int)(h:0≤n∧n≤255):Rq n n n=n∧Ro n n n=128∧Rp n n n=128∧Fb n 128 128=n∧Fa n 128 128=n∧FZ n 128 128=n:=by
 unfold Rq Ro Rp Fb Fa FZ IL
 have h1:=CL (19595*n+38470*n+7471*n) 65536 (by omega)
 have h2:=CL (8388608+ -11059*n+ -21709*n+32768*n) 65536 (by omega)
 have h3:=CL (8388608+32768*n+ -27439*n+ -5329*n) 65536 (by omega)
 have h4:=CL (65536*n+91881*128-11760768) 65536 (by omega)
 have h5:=CL (65536*n+ -22554*128+ -46802*128+8877568) 65536 (by omega)
 have h6:=CL (65536*n+116130*128-14864640) 65536 (by omega)
 refine ⟨?_,?_,?_,?_,?_,?_⟩
 ·clear h2 h3 h4 h5 h6;omega
 ·clear h1 h3 h4 h5 h6;omega
 ·clear h1 h2 h4 h5 h6;omega
 ·clear h1 h2 h3 h5 h6;omega
 ·clear h1 h2 h3 h4 h6;omega
 clear h1 h2 h3 h4 h5;omega
end Go.Proofs.YtohacgmhmbijmaaGreatDoor
namespace Go.Proofs.YtohacgmhmbijmaaGreatDoor
attribute [local irreducible] Region.wanted
open Go.RowKit
set_option linter.unusedVariables false
set_option maxRecDepth 100000
set_option maxHeartbeats 8000000
theorem Oz{f:Int→Int→Int→Int}{a b c l:List Int}(hl:a.length=l.length)(h:∀i,i<l.length→f (AF a i) (AF b i) (AF c i)=AF l i):z3 f a b c=l:=by
 refine Bz (by rw [QB,hl]) fun i hi=>?_
 rw [QB] at hi
 rw [bH _ _ _ _ _ hi]
 exact h i (by omega)
theorem dX{s:List Int}(hs:∀i,i<s.length→0≤AF s i∧AF s i≤255):C7 Rq Ro Rp [s,s,s]=[s,List.replicate s.length 128,List.replicate s.length 128]:=by
 show [z3 Rq s s s,z3 Ro s s s,z3 Rp s s s]=_
 rw [Oz rfl fun i hi=>(Wb (AF s i) (hs i hi)).1,Oz (l:=List.replicate s.length 128) (by rw [List.length_replicate]) fun i hi=>?_,Oz (l:=List.replicate s.length 128) (by rw [List.length_replicate]) fun i hi=>?_]
 ·rw [List.length_replicate] at hi;rw [BS _ _ _ hi];exact (Wb (AF s i) (hs i hi)).2.2.1
 rw [List.length_replicate] at hi;rw [BS _ _ _ hi];exact (Wb (AF s i) (hs i hi)).2.1
theorem Wc{s:List Int}(hs:∀i,i<s.length→0≤AF s i∧AF s i≤255):C7 Fb Fa FZ [s,List.replicate s.length 128,List.replicate s.length 128]=[s,s,s]:=by
 show [z3 Fb s _ _,z3 Fa s _ _,z3 FZ s _ _]=_
 rw [Oz rfl fun i hi=>?_,Oz rfl fun i hi=>?_,Oz rfl fun i hi=>?_]
 all_goals (rw [BS _ _ _ hi])
 ·exact (Wb (AF s i) (hs i hi)).2.2.2.2.2
 ·exact (Wb (AF s i) (hs i hi)).2.2.2.2.1
 exact (Wb (AF s i) (hs i hi)).2.2.2.1
theorem dB{m h:Int}(hok:1≤m∧m≤64∧1≤h∧h≤64){M:Nat}(hM:(M:Int)=m*h):C8 (List.replicate M 128) m h=List.replicate (Aa m h*64) 0:=by
 refine Bz (by unfold C8;rw [Bb,List.length_replicate]) fun i hi=>?_
 unfold C8 at hi⊢
 rw [Bb] at hi
 rw [Cm _ _ _ hi,BS _ _ _ hi]
 unfold KF
 have hp:=G8 m h ⟨hok.1,hok.2.1⟩ ⟨hok.2.2.1,hok.2.2.2⟩ (i/64:Nat) (i%64:Nat) (by omega) (by omega)
 have h1:0≤min (FH ((m+7)/8) (i/64:Nat) (i%64:Nat)) (m-1):=by omega
 rw [BS _ _ _ (by omega)]
 rfl
theorem aw:Gp (List.replicate 64 0)=List.replicate 64 0:=by kernel_rfl
theorem Tk:Em (List.replicate 64 0)=List.replicate 64 0:=by kernel_rfl
theorem Mw{d:Int}(hd:1≤d):FI 0 d=0:=by
 unfold FI
 rw [if_neg (by omega)]
 exact Int.ediv_eq_zero_of_lt (by omega) (by omega)
theorem Ct(g:Int→Int→Int)(b q:List Int)(hb:b.length=64)(hq:q.length=64)(i:Nat)(hi:i<64):AF (Cg g b q) i=g (AF b i) (AF q i):=by
 unfold Cg AF List.getD
 rw [List.getElem?_zipWith,List.getElem?_eq_getElem (by omega),List.getElem?_eq_getElem (by omega)]
 rfl
theorem Ld{q:List Int}(hq:q.length=64)(h:Ej q=true)(i:Nat)(hi:i<64):1≤AF q i∧AF q i≤255:=by
 have hm:AF q i∈q:=by unfold AF List.getD;rw [List.getElem?_eq_getElem (by omega)];exact List.getElem_mem _
 unfold Ej By at h
 have h2:(q.any fun n=>decide (n<1)||decide (255<n))=false:=by simpa using h
 have:=List.any_eq_false.1 h2 _ hm
 simp at this
 omega
theorem WQ{q:List Int}(hq:q.length=64):Bc (List.replicate 64 0) q=List.replicate 64 0:=by
 unfold Bc
 by_cases h:(Ej q&&By (List.replicate 64 0) (-40000) 40000)=true
 ·rw [if_pos h]
  have hk:Ej q=true:=by
   rw [Bool.and_eq_true] at h;exact h.1
  have hl:(Cg dn (List.replicate 64 0) q).length=64:=by unfold Cg;rw [List.length_zipWith,List.length_replicate,hq];rfl
  refine Bz (by rw [hl,List.length_replicate]) fun i hi=>?_
  rw [hl] at hi
  rw [Ct _ _ _ List.length_replicate hq i hi,BS _ _ _ hi]
  unfold dn
  rw [Mw (Ld hq hk i hi).1]
  rfl
 rw [if_neg h];rfl
theorem eZ{q:List Int}(hq:q.length=64):It (List.replicate 64 0) q=List.replicate 64 0:=by
 unfold It
 by_cases h:(Ej q&&By (List.replicate 64 0) (-2047) 2047)=true
 ·rw [if_pos h]
  have hl:(Cg SI (List.replicate 64 0) q).length=64:=by unfold Cg;rw [List.length_zipWith,List.length_replicate,hq];rfl
  refine Bz (by rw [hl,List.length_replicate]) fun i hi=>?_
  rw [hl] at hi
  rw [Ct _ _ _ List.length_replicate hq i hi,BS _ _ _ hi]
  unfold SI
  rw [Int.zero_mul]
  rfl
 rw [if_neg h];rfl
theorem Le{n k:Nat}(hk:k<n)(z:Int):BY (List.replicate (n*64) z) 64 k=List.replicate 64 z:=by
 unfold BY
 rw [List.drop_replicate,List.take_replicate]
 congr 1
 omega
theorem Yi{q:List Int}(hq:q.length=64):Jz q (List.replicate 64 0)=List.replicate 64 0:=by
 unfold Jz;rw [aw,WQ hq]
theorem ai{q:List Int}(hq:q.length=64):Oq q (List.replicate 64 0)=List.replicate 64 0:=by
 unfold Oq;rw [eZ hq,Tk]
 rfl
theorem Qb{q:List Int}(hq:q.length=64){K:Nat}:∀n,n≤K→JD q (List.replicate (K*64) 0) n=List.replicate (n*64) 0
 | 0,_=>rfl
 | n+1,h=>by
   rw [JD,Qb hq n (by omega),Le (by omega),Yi hq,List.replicate_append_replicate]
   congr 1
   omega
theorem NN{q:List Int}(hq:q.length=64){K:Nat}:∀n,n≤K→Ke q (List.replicate (K*64) 0) n=List.replicate (n*64) 0
 | 0,_=>rfl
 | n+1,h=>by
   rw [Ke,NN hq n (by omega),Le (by omega),ai hq,List.replicate_append_replicate]
   congr 1
   omega
theorem Qv{m h:Int}{q s:List Int}{M:Nat}(hok:1≤m∧m≤64∧1≤h∧h≤64)(hM:(M:Int)=m*h)(hq:q.length=64)(hl:s.length=M)(hs:∀i,i<M→0≤AF s i∧AF s i≤255):
 FX m h q [s,s,s]=FX m h q [s]++List.replicate (2*Aa m h*64) 0:=by
 have e1:FX m h q [s]=JD q (C8 s m h) (Aa m h):=by
  show JD q (C8 s m h) (Aa m h)++[]=_
  rw [List.append_nil]
 rw [e1]
 unfold FX
 rw [dX (by rw [hl];exact hs),hl]
 show JD q (C8 s m h) (Aa m h)++(JD q (C8 (List.replicate M 128) m h) (Aa m h)++(JD q (C8 (List.replicate M 128) m h) (Aa m h)++[]))=_
 rw [dB hok hM,Qb hq _ (Nat.le_refl _),List.append_nil,List.replicate_append_replicate]
 congr 2
 omega
theorem Yz{m h:Int}{q s:List Int}:Gg m h q [s,s,s]=Gg m h q [s]:=by
 have:F6 m h [s,s,s]=F6 m h [s]:=by
  unfold F6
  rw [if_pos (show [s,s,s].length=1∨[s,s,s].length=3 from .inr rfl),if_pos (show [s].length=1∨[s].length=3 from .inl rfl)]
  have:IK m h [s,s,s]=IK m h [s]:=by
   simp only [IK]
   by_cases h0:Cw s s.length m h=0
   ·simp [h0]
   simp [h0]
  rw [this]
 unfold Gg
 rw [this]
theorem ZQ{m h:Int}(hok:1≤m∧m≤64∧1≤h∧h≤64){M:Nat}(hM:(M:Int)=m*h):C6 (List.replicate (Aa m h*64) 0) m h=List.replicate M 128:=by
 have hMn:(m*h).toNat=M:=by omega
 refine Bz (by unfold C6;rw [Bb,List.length_replicate,hMn]) fun i hi=>?_
 unfold C6 at hi⊢
 rw [Bb] at hi
 rw [Cm _ _ _ hi,BS _ _ _ (by omega)]
 unfold JK
 have hb:=GU m h ⟨hok.1,hok.2.1⟩ ⟨hok.2.2.1,hok.2.2.2⟩ i (by omega)
 rw [BS _ _ _ (by omega)]
 rfl
theorem aL(p:List Int)(M:Nat)(m h:Int)(m0:1≤m∧m≤64)(m1:1≤h∧h≤64)(hM:m*h=(M:Int))(hp:∀i,0≤AF p i∧AF p i≤255):Cw p M m h=0:=by
 have:Z7 p=true:=(Aw _ _ _).2 fun i _=>hp i
 rw [Cw,if_pos ⟨m0.1,m0.2,m1.1,m1.2⟩,if_pos hM.symm,if_pos this]
theorem Li(p:List Int)(M:Nat)(m h:Int)(q:List Int)(m0:1≤m∧m≤64)(m1:1≤h∧h≤64)(hM:m*h=(M:Int))(hl:p.length=M)(hp:∀i,0≤AF p i∧AF p i≤255):Gg m h q [p]=if Ej q then 0 else 1:=by
 have h1:F6 m h [p]=0:=by
  unfold F6
  rw [if_pos ⟨m0.1,m0.2,m1.1,m1.2⟩,if_pos (show [p].length=1∨[p].length=3 from .inl rfl)]
  refine Uu fun l hl2=>?_
  simp only [List.mem_cons,List.not_mem_nil,or_false] at hl2
  subst hl2
  rw [hl]
  exact aL l M m h m0 m1 hM hp
 unfold Gg
 rw [if_pos h1]
theorem Cr{W w:World}{rs rs1:List Au}{g k M c9:Nat}{a9:Option Addr}{p:List Int}{cs:List Value}(hS:St W w rs)(p1:AW (blk g cs) rs rs1)(hcs:cs=List.replicate k (.slice a9 M c9))(hl:p.length=M)(hk:k≤maxLen)(hs:Sl w 1 (.slice a9 M c9) M (p.map (Value.int .i64))):A8 w (some ⟨g,0,none⟩) k (List.replicate k ⟨a9,c9,p⟩):=by
 subst hl hcs
 refine ⟨?_,fun r hr=>?_⟩
 ·rw [List.length_replicate,List.map_replicate]
  exact hS.slBlk (n:=k) (s:=1) p1 (by rw [List.length_replicate,Nat.mul_one]) hk
 rw [List.eq_of_mem_replicate hr];exact hs
theorem im{w:World}{s n c:Nat}{a:Option Addr}{cs:List Value}(h:Sl w s (.slice a n c) n cs):n≤c:=by
 obtain ⟨_,a',c',e,h1,_⟩:=h
 cases e
 exact h1
theorem Fv{W w:World}{rs rs1:List Au}{g k:Nat}{cs:List Value}{v:Value}(hS:St W w rs)(p:AW (blk g cs) rs rs1)(hk:cs[k]? =some v):w.cell? ⟨g,k,none⟩=some v:=by
 rw [(hS.blk p).1.cell];simpa using hk
end Go.Proofs.YtohacgmhmbijmaaGreatDoor
namespace Go.Proofs.YtohacgmhmbijmaaGreatDoor
attribute [local irreducible] Region.wanted
open Go.ChangeShapes Go.WideShapes Go.ChangeAt Go.RowKit
set_option linter.unusedVariables false
set_option maxRecDepth 100000
set_option maxHeartbeats 8000000
theorem JT{W:World}{base:Nat}{v:Value}(ho:Value.okWide Tryz.prog W .any base 26 v):
 ∃l:List Int,l.length=64∧v= .agg (iv l)∧∀i,i<64→ -9223372036854775808≤AF l i∧AF l i≤9223372036854775807:=by
 obtain ⟨l,hl,hv,hb⟩:=iV (ts:=List.replicate 64 3) (by rw [Tryz.underlying26]) AA (fun u hu=>by rw [List.eq_of_mem_replicate hu];exact Tryz.underlying3) ho
 have hc:Tryz.prog.cellsOf 26=64:=by kernel_rfl
 rw [hc] at hl
 exact ⟨l,hl,hv,fun i hi=>hb i (by omega)⟩
end Go.Proofs.YtohacgmhmbijmaaGreatDoor
namespace Go.Proofs.YtohacgmhmbijmaaGreatDoor
attribute [local irreducible] Region.wanted
open Go.RowKit
set_option linter.unusedVariables false
set_option maxRecDepth 100000
set_option maxHeartbeats 8000000
theorem LX(w:World)(m h:Int)(hm: -9223372036854775808≤m∧m≤9223372036854775807)(a:Option Addr)(c:Nat)(R:List Rw)(hR:R.length≤9223372036854775807)(hP:A8 w a c R)(q:List Int)(hq:Ae q 64)(ev:Nat)(hev:ev≤100):
 Calls Tryz.prog 17 #[.agg #[.int .i64 m, .int .i64 h, .slice a R.length c], .agg (iv q), .int .i64 ev] w (Dp w (DM m h q (R.map (·.xs)) ev) m h q R.length ev (FX m h q (R.map (·.xs))) (R.length*Aa m h)):=by
 by_cases hz:Gg m h q (R.map (·.xs))=0
 ·exact Kr w m h hm a c R hR hP q hq ev hev hz
 exact Sk w m h hm a c R hR hP q hq ev (.inl hz)
theorem Wt{m h:Int}{q:List Int}{L:List (List Int)}{e:Int}(h0:DM m h q L e=0):Gg m h q L=0:=by
 unfold DM at h0
 by_cases hz:Gg m h q L=0
 ·exact hz
 rw [if_neg hz] at h0;exact absurd h0 hz
def ff(w:World)(m h:Int)(np:Nat)(q:List Int)(ev:Nat)(B:List Int)(n:Nat)(e:Ending)(w':World):Prop:=∃(C1 S1 C2 S2 D:List Int) (a1 a2 ad:Option Addr) (n1 k1 n2 k2 nd kd:Nat),Tu B n ev C1 S1 C2 S2 D∧e= .returned (.tuple #[.agg (AH [.val (.int .i64 m), .val (.int .i64 h), .val (.int .i64 np), .ints q, .ints C1, .val (.slice a1 n1 k1), .ints C2, .val (.slice a2 n2 k2), .val (.int .i64 ev), .val (.slice ad nd kd)]).toArray, .int .i64 0])∧St w w' [own 3 1 a1 n1 k1 (S1.map (Value.int .i64)),own 3 1 a2 n2 k2 (S2.map (Value.int .i64)),own 5 1 ad nd kd (D.map (Value.int .u8))]
theorem Dp.out{w:World}{m h:Int}{np ev n:Nat}{q B:List Int}{e:Ending}{w':World}(hh:Dp w 0 m h q np ev B n e w'):ff w m h np q ev B n e w':=by
 obtain ⟨C1,S1,C2,S2,D,a1,a2,ad,n1,k1,n2,k2,nd,kd,h1,_,_,_,h2,h3⟩:=hh.2 rfl
 exact ⟨C1,S1,C2,S2,D,a1,a2,ad,n1,k1,n2,k2,nd,kd,h1,h2,h3⟩
def fe(w:World)(m h:Int)(L:List (List Int))(e:Ending)(w':World):Prop:=∃(a:Option Addr) (c:Nat) (R:List Rw),R.map (·.xs)=L∧e= .returned (.tuple #[.agg #[.int .i64 m, .int .i64 h, .slice a R.length c], .int .i64 0])∧Dd w w' a c R []
def eg(m h:Int)(np:Nat)(q B:List Int)(n ev:Nat)(L:List (List Int)):Prop:=∀w (C1 S1 C2 S2 D:List Int) (a1 a2 ad:Option Addr) (n1 k1 n2 k2 nd kd:Nat),(∃m,w.cell? ⟨0,0,none⟩=some (.int .i64 m))→Tu B n ev C1 S1 C2 S2 D→Sl w 1 (.slice a1 n1 k1) n1 (S1.map (Value.int .i64))→Sl w 1 (.slice a2 n2 k2) n2 (S2.map (Value.int .i64))→Sl w 1 (.slice ad nd kd) nd (D.map (Value.int .u8))→Calls Tryz.prog 21 #[.agg (AH [.val (.int .i64 m), .val (.int .i64 h), .val (.int .i64 np), .ints q, .ints C1, .val (.slice a1 n1 k1), .ints C2, .val (.slice a2 n2 k2), .val (.int .i64 ev), .val (.slice ad nd kd)]).toArray] w (fe w m h L)
theorem O7{m h:Int}{q:List Int}{L:List (List Int)}{ev:Nat}(hq:Ae q 64)(hev:ev≤100)(hz:Gg m h q L=0):eg m h L.length q (FX m h q L) (L.length*Aa m h) ev (WY m h q (FX m h q L) (Aa m h) L.length):=by
 obtain ⟨hpz,hqk⟩:=JI hz
 obtain ⟨hok,hlen,_⟩:=Hz hpz
 intro w C1 S1 C2 S2 D a1 a2 ad n1 k1 n2 k2 nd kd hm he s1 s2 sd
 exact O8 w hok hlen hq hqk hev rfl rfl (FY m h q hq L) (MW m h q hq L) he s1 s2 sd hm
theorem KM{m h:Int}{M:Nat}(hM:(M:Int)=m*h)(l:List Int):(C6 l m h).length=M:=by
 unfold C6;rw [Bb];omega
theorem Q5{m h:Int}(l:List Int)(i:Nat)(hi:i<(C6 l m h).length):0≤AF (C6 l m h) i∧AF (C6 l m h) i≤255:=by
 unfold C6 at hi⊢
 rw [Bb] at hi
 rw [Cm _ _ _ hi]
 unfold JK
 omega
theorem ZA{m h:Int}{q s:List Int}{M:Nat}(hok:1≤m∧m≤64∧1≤h∧h≤64)(hM:(M:Int)=m*h)(hq:q.length=64)(hl:s.length=M)(hs:∀i,i<M→0≤AF s i∧AF s i≤255):
 ∃x,x.length=M∧WY m h q (FX m h q [s,s,s]) (Aa m h) 3=[x,x,x]:=by
 rw [Qv hok hM hq hl hs]
 have hB:=FY m h q hq [s]
 rw [show [s].length=1 from rfl,Nat.one_mul] at hB
 obtain ⟨n,hn⟩:∃n,Aa m h=n:=⟨_,rfl⟩
 obtain ⟨B,hBe⟩:∃B,FX m h q [s]=B:=⟨_,rfl⟩
 rw [hBe,hn] at hB
 rw [hBe,hn]
 have hj:=ZQ hok hM
 rw [hn] at hj
 refine ⟨C6 (Ke q B n) m h,KM hM _,?_⟩
 unfold WY
 rw [Jd]
 show C7 Fb Fa FZ [Pm m h q _ n 0,Pm m h q _ n 1,Pm m h q _ n 2]=_
 have e0:Pm m h q (B++List.replicate (2*n*64) 0) n 0=C6 (Ke q B n) m h:=by
  unfold Pm
  rw [show 0*n*64=0 by omega,List.drop_zero,List.take_append_of_le_length (by omega),List.take_of_length_le (by omega)]
 have e1:Pm m h q (B++List.replicate (2*n*64) 0) n 1=List.replicate M 128:=by
  unfold Pm
  rw [show 1*n*64=B.length by omega,List.drop_left,List.take_replicate,show min (n*64) (2*n*64)=n*64 by omega,NN hq n (Nat.le_refl _),hj]
 have e2:Pm m h q (B++List.replicate (2*n*64) 0) n 2=List.replicate M 128:=by
  unfold Pm
  rw [show 2*n*64=B.length+n*64 by omega,←List.drop_drop,List.drop_left,List.drop_replicate,List.take_replicate,show min (n*64) (B.length+n*64-n*64)=n*64 by omega,NN hq n (Nat.le_refl _),hj]
 rw [e0,e1,e2]
 have hg:=Wc (s:=C6 (Ke q B n) m h) (Q5 _)
 rw [KM hM] at hg
 exact hg
theorem kJ{R:List Rw}{x y z:List Int}(h:R.map (·.xs)=[x,y,z]):∃(a0 a1 a2:Option Addr) (k0 k1 k2:Nat),R=[⟨a0,k0,x⟩,⟨a1,k1,y⟩,⟨a2,k2,z⟩]:=by
 match R,h with
 | [⟨a0,k0,x0⟩,⟨a1,k1,x1⟩,⟨a2,k2,x2⟩],h=>
   simp only [List.map_cons,List.map_nil,List.cons.injEq,and_true] at h
   obtain ⟨rfl,rfl,rfl⟩:=h
   exact ⟨a0,a1,a2,k0,k1,k2,rfl⟩
theorem Z6{R:List Rw}{x:List Int}(h:R.map (·.xs)=[x]):∃(a0:Option Addr) (k0:Nat),R=[⟨a0,k0,x⟩]:=by
 match R,h with
 | [⟨a0,k0,x0⟩],h=>
   simp only [List.map_cons,List.map_nil,List.cons.injEq,and_true] at h
   obtain rfl:=h
   exact ⟨a0,k0,rfl⟩
theorem Id{m h:Int}{q p:List Int}{ev:Nat}(hq:q.length=64)(hev:ev≤100)(hz:Gg m h q [p]=0):DM m h q [p] ev=0:=by
 obtain ⟨hpz,_⟩:=JI hz
 obtain ⟨hok,_,_⟩:=Hz hpz
 have hB:=FY m h q hq [p]
 have hK:=(FE hok).2.1
 have h1:=TY hB _ (Nat.le_refl _)
 unfold DM
 rw [if_pos hz,if_pos (by omega)]
 refine if_pos (KE ?_)
 have h2:[p].length*Aa m h=Aa m h:=by show 1*_=_;omega
 rw [h2] at h1⊢
 omega
theorem Lc{m h:Int}{p:List Int}{M:Nat}(hok:1≤m∧m≤64∧1≤h∧h≤64)(hM:(M:Int)=m*h){x:Nat}(hx:x<M):
 ∃k i:Nat,k<Aa m h∧i<64∧Eg m x=(k:Int)∧GV m x=(i:Int)∧AF (BY (C8 p m h) 64 k) i=AF p x-128:=by
 have m0:1≤m∧m≤64:=⟨hok.1,hok.2.1⟩
 obtain ⟨a1,a2,a3,a4,a5,a6⟩:=GU m h m0 ⟨hok.2.2.1,hok.2.2.2⟩ x (by omega)
 obtain ⟨e1,e2⟩:=Q7 m (Eg m x) (GV m x) m0 x rfl rfl
 obtain ⟨k,hk⟩:∃k:Nat,Eg m x=(k:Int):=⟨(Eg m x).toNat,by omega⟩
 obtain ⟨i,hi⟩:∃i:Nat,GV m x=(i:Int):=⟨(GV m x).toNat,by omega⟩
 rw [hk,hi] at e1 e2
 refine ⟨k,i,by omega,by omega,hk,hi,?_⟩
 rw [Db _ _ _ _ (by omega),C8,Cm _ _ _ (by omega),KF,show (k*64+i)/64=k by omega,show (k*64+i)%64=i by omega,e1,e2]
 have q3:=Int.emod_nonneg (x:Int) (b:=m) (by omega)
 have q6:=Int.mul_ediv_add_emod (x:Int) m
 rw [Int.mul_comm] at q6
 rw [show min ((x:Int)/m) (h-1)=(x:Int)/m by omega,show min ((x:Int)%m) (m-1)=(x:Int)%m by omega,q6,Int.toNat_natCast]
def Ei(m h:Int)(q p:List Int):List Int:=C6 (Ke q (FX m h q [p]) (Aa m h)) m h
theorem PP{m h:Int}{q p:List Int}(hq:q.length=64):WY m h q (FX m h q [p]) (Aa m h) 1=[Ei m h q p]:=by
 have hB:=FY m h q hq [p]
 rw [show [p].length=1 from rfl,Nat.one_mul] at hB
 unfold WY
 rw [Jd]
 show C7 Fb Fa FZ [Pm m h q _ _ 0]=_
 show [Pm m h q _ _ 0]=_
 unfold Pm Ei
 rw [show 0*Aa m h*64=0 by omega,List.drop_zero,List.take_of_length_le (by omega)]
theorem JW{m h:Int}{M:Nat}{q p:List Int}(hM:(M:Int)=m*h):(Ei m h q p).length=M:=KM hM _
theorem dy{m h:Int}{q p:List Int}(i:Nat)(hi:i<(Ei m h q p).length):0≤AF (Ei m h q p) i∧AF (Ei m h q p) i≤255:=Q5 _ i hi
theorem PZ{m h:Int}{q p:List Int}{M x k i:Nat}(hq:q.length=64)(hM:(M:Int)=m*h)(hx:x<M)(hk:Eg m x=(k:Int))(hi:GV m x=(i:Int))(hkK:k<Aa m h)(hi64:i<64):
 AF (Ei m h q p) x=min (max (AF (Oq q (Jz q (BY (C8 p m h) 64 k))) i+128) 0) 255:=by
 have e1:FX m h q [p]=JD q (C8 p m h) (Aa m h):=by
  show JD q (C8 p m h) (Aa m h)++[]=_
  rw [List.append_nil]
 unfold Ei C6
 rw [Cm _ _ _ (by omega)]
 unfold JK
 rw [hk,hi,show ((k:Int)*64+(i:Int)).toNat=k*64+i by omega,←Db _ _ _ _ hi64,VR _ _ _ _ hkK,e1,JE _ _ hq _ _ hkK]
theorem Pq(f g:Nat→Int)(n:Nat):CX (fun i=>f i+g i) n=CX f n+CX g n:=by
 induction n with
 | zero=>rfl
 | succ n ih=>simp only [CX];rw [ih];omega
theorem io(f:Nat→Int)(n:Nat):CX (fun i=> -f i) n= -CX f n:=by
 induction n with
 | zero=>rfl
 | succ n ih=>simp only [CX];rw [ih];omega
theorem Lh{f:Nat→Int}{n:Nat}(h:∀i,i<n→f i=0):CX f n=0:=by
 induction n with
 | zero=>rfl
 | succ n ih=>simp only [CX];rw [ih fun i hi=>h i (by omega),h n (by omega)];rfl
theorem Jg(f:Nat→Int)(c:Int)(n:Nat):CX (fun i=>f i*c) n=CX f n*c:=by
 induction n with
 | zero=>simp [CX]
 | succ n ih=>simp only [CX];rw [ih,Int.add_mul]
theorem Jf(f:Nat→Int)(c:Int)(n:Nat):CX (fun i=>c*f i) n=c*CX f n:=by
 induction n with
 | zero=>simp [CX]
 | succ n ih=>simp only [CX];rw [ih,Int.mul_add]
theorem VA(F:Nat→Nat→Int)(n m:Nat):CX (fun r=>CX (fun k=>F r k) m) n=CX (fun k=>CX (fun r=>F r k) n) m:=by
 induction n with
 | zero=>exact (Lh fun i _=>rfl).symm
 | succ n ih=>simp only [CX];rw [ih,←Pq]
theorem TV{f:Nat→Int}{n a:Nat}(ha:a<n)(h:∀i,i<n→i≠a→f i=0):CX f n=f a:=by
 induction n with
 | zero=>omega
 | succ n ih=>
   simp only [CX]
   by_cases h1:a=n
   ·subst h1;rw [Lh fun i hi=>h i (by omega) (by omega)];omega
   rw [ih (by omega) fun i hi=>h i (by omega),h n (by omega) (by omega)];omega
def iN(cf:Int→Int→Int)(b:List Int)(j r:Nat):Int:=CX (fun k=>AF b (8*r+k)*cf j k) 8
def dD(cf:Int→Int→Int)(b:List Int)(i j:Nat):Int:=CX (fun r=>iN cf b j r*cf i r) 8
theorem Uo(cf:Int→Int→Int)(b:List Int)(p:Nat)(hp:p<64):AF (Nf (Nf b cf) cf) p=dD cf b (p/8) (p%8):=by
 rw [Nf,Cm _ _ _ hp,jN,dD]
 refine BE fun r hr=>?_
 rw [YK,Nf,Cm _ _ _ (by omega),jN,iN]
 congr 1
 refine BE fun k hk=>?_
 rw [YK,show (8*(p%8)+r)%8=r by omega,show (8*(p%8)+r)/8=p%8 by omega]
theorem i8(cf:Int→Int→Int)(b:List Int)(p:Nat)(hp:p<64):i7 cf b p=FI (dD cf b (p/8) (p%8)) 67108864:=by rw [i7,Uo _ _ _ hp]
theorem EU(cf:Int→Int→Int)(b:List Int)(h:GD b=true)(p:Nat)(hp:p<64):AF (Xe cf b) p=FI (dD cf b (p/8) (p%8)) 67108864:=by
 rw [Xe,if_pos h,Cm _ _ _ hp,i8 _ _ _ hp]
theorem FQ(b:List Int)(hb:b.length=64):GD b=true↔∀i,i<64→ -40000≤AF b i∧AF b i≤40000:=by
 unfold GD;rw [Aw,hb]
theorem j6{cf:Int→Int→Int}{b c:List Int}(h:∀p,p<64→AF b p=AF c p)(i j:Nat):dD cf b i j=dD cf c i j:=by
 refine BE fun r hr=>?_
 congr 1
 exact BE fun k hk=>by rw [h _ (by omega)]
theorem MD:∀j:Nat,j<8→∀k:Nat,k<8→At j (7-k:Nat)=if j%2=0 then At j k else-At j k:=by decide+kernel
theorem OU{b c:List Int}(h:∀r k,r<8→k<8→AF b (8*r+k)=AF c (8*r+(7-k)))(j r:Nat)(hj:j<8)(hr:r<8):iN At b j r=if j%2=0 then iN At c j r else-iN At c j r:=by
 have e:∀f:Nat→Int,CX f 8=f 0+f 1+f 2+f 3+f 4+f 5+f 6+f 7:=fun f=>by simp [CX]
 have hm:=MD j hj
 unfold iN
 rw [e,e,h r 0 hr (by omega),h r 1 hr (by omega),h r 2 hr (by omega),h r 3 hr (by omega),h r 4 hr (by omega),h r 5 hr (by omega),h r 6 hr (by omega),h r 7 hr (by omega)]
 have m0:=hm 0 (by omega)
 have m1:=hm 1 (by omega)
 have m2:=hm 2 (by omega)
 have m3:=hm 3 (by omega)
 simp only [Nat.reduceSub] at m0 m1 m2 m3⊢
 rw [m0,m1,m2,m3]
 split
 ·omega
 simp only [Int.mul_neg];omega
theorem WK{b c:List Int}(h:∀r k,r<8→k<8→AF b (8*r+k)=AF c (8*r+(7-k)))(i j:Nat)(hj:j<8):dD At b i j=if j%2=0 then dD At c i j else-dD At c i j:=by
 unfold dD
 split
 ·rename_i h0
  refine BE fun r hr=>?_
  rw [OU h j r hj hr,if_pos h0]
 rename_i h0
 rw [←io]
 refine BE fun r hr=>?_
 rw [OU h j r hj hr,if_neg h0,Int.neg_mul]
theorem UD:∀j:Nat,j<8→1≤j→CX (fun k=>At j k) 8=0:=by decide+kernel
theorem dF{b:List Int}(h:∀r k,r<8→k<8→AF b (8*r+k)=AF b k)(i j:Nat)(hi:i<8)(h1:1≤i):dD At b i j=0:=by
 have:dD At b i j=CX (fun r=>iN At b j 0*At i r) 8:=by
  refine BE fun r hr=>?_
  congr 1
  exact BE fun k hk=>by rw [h r k hr hk];simp
 rw [this,Jf,UD i hi h1,Int.mul_zero]
theorem dC{b:List Int}{n:Int}(h:∀p,p<64→AF b p=n)(i j:Nat)(hj:j<8)(h1:1≤j):dD At b i j=0:=by
 unfold dD
 refine Lh fun r hr=>?_
 have:iN At b j r=0:=by
  have:iN At b j r=CX (fun k=>n*At j k) 8:=BE fun k hk=>by rw [h _ (by omega)]
  rw [this,Jf,UD j hj h1,Int.mul_zero]
 rw [this,Int.zero_mul]
theorem dE{b:List Int}{n:Int}(h:∀p,p<64→AF b p=n):dD At b 0 0=n*536756224:=by
 have e1:∀r,r<8→iN At b 0 r=n*23168:=fun r hr=>by
  have:iN At b 0 r=CX (fun k=>n*At 0 k) 8:=BE fun k hk=>by rw [h _ (by omega)];rfl
  rw [this,Jf];congr 1
 have:dD At b 0 0=CX (fun r=>n*23168*At 0 r) 8:=BE fun r hr=>by rw [e1 r hr];rfl
 rw [this,Jf,show CX (fun r=>At 0 r) 8=23168 by decide+kernel,Int.mul_assoc,show (23168*23168:Int)=536756224 from rfl]
theorem WL{cf:Int→Int→Int}{b:List Int}{n:Int}{a:Nat}(ha:a<64)(h:∀p,p<64→AF b p=if p=a then n else 0)(i j:Nat):dD cf b i j=n*cf j (a%8:Nat)*cf i (a/8:Nat):=by
 have e1:iN cf b j (a/8)=n*cf j (a%8:Nat):=by
  unfold iN
  rw [TV (a:=a%8) (by omega) fun k hk hne=>by rw [h _ (by omega),if_neg (by omega),Int.zero_mul],h _ (by omega),if_pos (by omega)]
 unfold dD
 rw [TV (a:=a/8) (by omega) fun r hr hne=>?_,e1]
 have:iN cf b j r=0:=Lh fun k hk=>by rw [h _ (by omega),if_neg (by omega),Int.zero_mul]
 rw [this,Int.zero_mul]
def ab(z:Int):Int:=max z (-z)
theorem KZ(f g:Nat→Int)(B:Int)(n:Nat)(hf:∀i,i<n→ -B≤f i∧f i≤B)(hB:0≤B): -(B*CX (fun i=>ab (g i)) n)≤CX (fun i=>f i*g i) n∧CX (fun i=>f i*g i) n≤B*CX (fun i=>ab (g i)) n:=by
 induction n with
 | zero=>simp [CX]
 | succ n ih=>
   have h1:=ih fun i hi=>hf i (by omega)
   have h2:=Un (f n) (g n) B (ab (g n)) (hf n (by omega)) (by unfold ab;omega)
   simp only [CX,Int.mul_add]
   omega
def gG(x j:Nat):Int:=CX (fun k=>At k x*At k j) 8
def gd(x j:Nat):Int:=gG x j-(if x=j then 67108864 else 0)
theorem ZZ:∀j:Nat,j<8→CX (fun k=>ab (At k j)) 8=21641:=by decide+kernel
theorem Za:∀j:Nat,j<8→CX (fun x=>ab (gd x j)) 8=17168:=by decide+kernel
theorem RD(f:Nat→Int)(j:Nat)(hj:j<8):CX (fun k=>CX (fun x=>f x*At k x) 8*At k j) 8=f j*67108864+CX (fun x=>f x*gd x j) 8:=by
 have e1:CX (fun k=>CX (fun x=>f x*At k x) 8*At k j) 8=CX (fun x=>f x*gG x j) 8:=by
  have:∀k:Nat,CX (fun x=>f x*At k x) 8*At k j=CX (fun x=>f x*At k x*At k j) 8:=fun k=>(Jg _ _ _).symm
  rw [BE fun k _=>this k,VA]
  refine BE fun x hx=>?_
  unfold gG
  rw [←Jf]
  exact BE fun k hk=>by rw [Int.mul_assoc]
 have e2:CX (fun x=>f x*(if x=j then 67108864 else 0)) 8=f j*67108864:=by
  rw [TV (a:=j) hj fun x hx hne=>by rw [if_neg hne,Int.mul_zero],if_pos rfl]
 rw [e1,←e2,←Pq]
 refine BE fun x hx=>?_
 unfold gd
 rw [←Int.mul_add]
 congr 1
 omega
theorem Tl(b:List Int)(hb:b.length=64)(h:∀p,p<64→ -255≤AF b p∧AF b p≤255):
 ed b=0∧ed (Gp b)=0∧∀p,p<64→ -4≤AF (Em (Gp b)) p-AF b p∧AF (Em (Gp b)) p-AF b p≤4:=by
 have ob:GD b=true:=(FQ _ hb).2 fun p hp=>by have:=h p hp;omega
 have hb0:∀p,-255≤AF b p∧AF b p≤255:=fun p=>by
  by_cases hp:p<64
  ·exact h p hp
  rw [Bp _ _ (by omega)];omega
 have hw:∀p,-40000≤AF (Gp b) p∧AF (Gp b) p≤40000:=fun p=>by
  by_cases hp:p<64
  ·unfold Gp
   rw [EU _ _ ob _ hp,←Uo _ _ _ hp]
   have h1:=O4 (Nf b At) At LS _ (O4 b At LS 255 hb0) p
   have h2:=CL (AF (Nf (Nf b At) At) p) 67108864 (by omega)
   omega
  have:=B7 At b
  rw [Bp _ _ (by unfold Gp;rw [this.out];omega)];omega
 have ow:GD (Gp b)=true:=(FQ _ (B7 _ _).out).2 fun p _=>hw p
 refine ⟨by unfold ed;rw [ob];rfl,by unfold ed;rw [ow];rfl,fun p hp=>?_⟩
 obtain ⟨i,hi⟩:∃i,p/8=i:=⟨_,rfl⟩
 obtain ⟨j,hj⟩:∃j,p%8=j:=⟨_,rfl⟩
 have hi8:i<8:=by omega
 have hj8:j<8:=by omega
 have hpe:p=8*i+j:=by omega
 -- the numbers behind the first way
 obtain ⟨W,hW⟩:∃W:Nat→Nat→Int,W=fun r k=>AF (Gp b) (8*r+k):=⟨_,rfl⟩
 obtain ⟨E,hE⟩:∃E:Nat→Nat→Int,E=fun r k=>W r k*67108864-dD At b r k:=⟨_,rfl⟩
 have hEb:∀r k,r<8→k<8→ -33554432≤E r k∧E r k≤33554432:=fun r k hr hk=>by
  have e1:W r k=FI (dD At b r k) 67108864:=by
   rw [hW];dsimp only;unfold Gp
   rw [EU _ _ ob _ (by omega),show (8*r+k)/8=r by omega,show (8*r+k)%8=k by omega]
  have h2:=CL (dD At b r k) 67108864 (by omega)
  rw [hE];dsimp only
  rw [e1];omega
 obtain ⟨V,hV⟩:∃V,dD YY (Gp b) i j=V:=⟨_,rfl⟩
 -- V times 2^26 is P + Q
 obtain ⟨P,hP⟩:∃P,CX (fun r=>CX (fun k=>dD At b r k*At k j) 8*At r i) 8=P:=⟨_,rfl⟩
 obtain ⟨Q,hQ⟩:∃Q,CX (fun r=>CX (fun k=>E r k*At k j) 8*At r i) 8=Q:=⟨_,rfl⟩
 have e1:V*67108864=P+Q:=by
  rw [←hV,←hP,←hQ,←Pq]
  unfold dD
  rw [←Jg]
  refine BE fun r hr=>?_
  rw [Int.mul_assoc,Int.mul_comm (YY (i:Nat) (r:Nat)),←Int.mul_assoc,←Int.add_mul]
  show _*At r i=_
  congr 1
  rw [←Pq]
  unfold iN
  rw [←Jg]
  refine BE fun k hk=>?_
  show AF (Gp b) (8*r+k)*At k j*67108864=_
  rw [Int.mul_assoc,Int.mul_comm (At k j),←Int.mul_assoc,←Int.add_mul]
  congr 1
  rw [hE,hW]
  show AF (Gp b) (8*r+k)*67108864=dD At b r k+(AF (Gp b) (8*r+k)*67108864-dD At b r k)
  omega
 -- Q is small
 have hq1:∀r,r<8→ -(33554432*21641)≤CX (fun k=>E r k*At k j) 8∧CX (fun k=>E r k*At k j) 8≤33554432*21641:=fun r hr=>by
  have:=KZ (fun k=>E r k) (fun k=>At k j) 33554432 8 (fun k hk=>hEb r k hr hk) (by omega)
  rwa [ZZ j hj8] at this
 have hq:=KZ (fun r=>CX (fun k=>E r k*At k j) 8) (fun r=>At r i) (33554432*21641) 8 hq1 (by omega)
 rw [ZZ i hi8,hQ] at hq
 -- P is near
 obtain ⟨H,hH⟩:∃H:Nat→Int,H=fun y=>AF b (8*y+j)*67108864+CX (fun x=>AF b (8*y+x)*gd x j) 8:=⟨_,rfl⟩
 have hp1:∀r,CX (fun k=>dD At b r k*At k j) 8=CX (fun y=>H y*At r y) 8:=fun r=>by
  have:∀k:Nat,dD At b r k*At k j=CX (fun y=>iN At b k y*At k j*At r y) 8:=fun k=>by
   unfold dD;rw [←Jg]
   exact BE fun y hy=>by rw [Int.mul_assoc,Int.mul_comm (At r y),←Int.mul_assoc]
  rw [BE fun k _=>this k,VA]
  refine BE fun y hy=>?_
  rw [Jg]
  congr 1
  rw [hH]
  exact RD (fun x=>AF b (8*y+x)) j hj8
 have hp2:P=H i*67108864+CX (fun y=>H y*gd y i) 8:=by
  rw [←hP,BE fun r _=>by rw [hp1 r]]
  exact RD H i hi8
 have hh:∀y,-(255*17168)≤CX (fun x=>AF b (8*y+x)*gd x j) 8∧CX (fun x=>AF b (8*y+x)*gd x j) 8≤255*17168:=fun y=>by
  have:=KZ (fun x=>AF b (8*y+x)) (fun x=>gd x j) 255 8 (fun x hx=>hb0 _) (by omega)
  rwa [Za j hj8] at this
 have hHb:∀y,y<8→ -17200000000≤H y∧H y≤17200000000:=fun y hy=>by
  have h1:=hh y
  have h2:=hb0 (8*y+j)
  rw [hH];dsimp only;omega
 have hp3:=KZ H (fun y=>gd y i) 17200000000 8 hHb (by omega)
 rw [Za i hi8] at hp3
 have hHi:H i=AF b p*67108864+CX (fun x=>AF b (8*i+x)*gd x j) 8:=by rw [hH,hpe]
 have hhi:=hh i
 have hc:=CL V 67108864 (by omega)
 unfold Em
 rw [EU _ _ ow _ hp,hi,hj,hV]
 omega
end Go.Proofs.YtohacgmhmbijmaaGreatDoor
