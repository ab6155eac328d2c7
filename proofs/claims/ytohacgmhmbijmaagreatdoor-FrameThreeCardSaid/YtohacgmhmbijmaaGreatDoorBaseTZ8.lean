/- What the laws FrameThree need, part 8. -/
import Derived.Test.YtohacgmhmbijmaaGreatDoorBaseTZ2
import Derived.Test.YtohacgmhmbijmaaGreatDoorBaseTZ3
import Derived.Test.YtohacgmhmbijmaaGreatDoorBaseTZ5
import Derived.Test.YtohacgmhmbijmaaGreatDoorBaseTZ6
import Derived.Test.YtohacgmhmbijmaaGreatDoorBaseTZ7
namespace Go.Proofs.YtohacgmhmbijmaaGreatDoor
attribute [local irreducible] Region.wanted
open Go.RowKit
set_option linter.unusedVariables false
set_option maxRecDepth 100000
set_option maxHeartbeats 8000000
theorem Ja:Db []=[]:=rfl
theorem Dh(x:Int)(l:List Int):Db (x::l)=(if x=255 then [255,0] else [x])++Db l:=by simp [Db,Gi]
theorem JZ:∀(a b:List Int),Db a=Db b→a=b
 | [],[],_=>rfl
 | [],y::b,h=>by rw [Ja,Dh] at h;split at h<;>simp at h
 | x::a,[],h=>by rw [Ja,Dh] at h;split at h<;>simp at h
 | x::a,y::b,h=>by
   rw [Dh,Dh] at h
   by_cases hx:x=255
   ·by_cases hy:y=255
    ·rw [if_pos hx,if_pos hy] at h
     simp only [List.cons_append,List.nil_append,List.cons.injEq,true_and] at h
     rw [hx,hy,JZ a b h]
    rw [if_pos hx,if_neg hy] at h
    simp only [List.cons_append,List.nil_append,List.cons.injEq] at h
    exact absurd h.1.symm hy
   by_cases hy:y=255
   ·rw [if_neg hx,if_pos hy] at h
    simp only [List.cons_append,List.nil_append,List.cons.injEq] at h
    exact absurd h.1 hx
   rw [if_neg hx,if_neg hy] at h
   simp only [List.cons_append,List.nil_append,List.cons.injEq] at h
   rw [h.1,JZ a b h.2]
theorem Ht:∀(c:List Int)(o:List (List Int))(m p:List Int),Dk (Db c) o m p=some (o++[p++Db c],m)
 | [],o,m,p=>by rw [Ja,Dk,List.append_nil]
 | x::c,o,m,p=>by
   rw [Dh]
   by_cases h:x=255
   ·subst h
    rw [if_pos rfl,Dk.eq_def]
    simp only [List.cons_append,List.nil_append,if_true]
    rw [if_neg (by decide),Ht c]
    simp
   rw [if_neg h,Dk.eq_def]
   simp only [List.cons_append,List.nil_append]
   rw [if_neg h,Ht c]
   simp
theorem Hs:∀(k:Nat)(b:List Int)(o:List (List Int))(m p:List Int)(ps:List (List Int))(ms:List Int),b.length≤k→Dk b o m p=some (ps,ms)→
 ∃(q:List Int) (r:List (Int×List Int)),ps=o++((p++q)::r.map (·.2))∧ms=m++r.map (·.1)∧b=q++r.flatMap (fun y=>255::y.1::y.2)∧(∃c,q=Db c)∧∀y∈r,y.1≠0∧y.1≠255∧∃c,y.2=Db c
 | k,[],o,m,p,ps,ms,hk,h=>by
   rw [Dk] at h
   cases h
   exact ⟨[],[],by simp,by simp,by simp,⟨[],rfl⟩,fun y hy=>by cases hy⟩
 | 0,x::b,o,m,p,ps,ms,hk,h=>by simp at hk
 | k+1,x::b,o,m,p,ps,ms,hk,h=>by
   rw [Dk.eq_def] at h
   dsimp only at h
   by_cases hx:x=255
   ·rw [if_pos hx] at h
    cases b with
    | nil=>cases h
    | cons y b=>
      dsimp only at h
      by_cases h1:y=255
      ·rw [if_pos h1] at h;cases h
      rw [if_neg h1] at h
      by_cases h2:y=0
      ·rw [if_pos h2] at h
       obtain ⟨q,r,e1,e2,e3,⟨c,e4⟩,e5⟩:=Hs k b _ _ _ _ _ (by simp at hk;omega) h
       refine ⟨255::0::q,r,by rw [e1];simp,e2,by rw [hx,h2,e3];simp,⟨255::c,by rw [Dh,if_pos rfl,e4];rfl⟩,e5⟩
      rw [if_neg h2] at h
      obtain ⟨q,r,e1,e2,e3,e4,e5⟩:=Hs k b _ _ _ _ _ (by simp at hk;omega) h
      refine ⟨[],(y,q)::r,by rw [e1];simp,by rw [e2];simp,by rw [hx,e3];simp,⟨[],rfl⟩,fun z hz=>?_⟩
      rcases List.mem_cons.1 hz with rfl|hz
      ·exact ⟨h2,h1,e4⟩
      exact e5 z hz
   rw [if_neg hx] at h
   obtain ⟨q,r,e1,e2,e3,⟨c,e4⟩,e5⟩:=Hs k b _ _ _ _ _ (by simp at hk;omega) h
   exact ⟨x::q,r,by rw [e1];simp,e2,by rw [e3];simp,⟨x::c,by rw [Dh,if_neg hx,e4];rfl⟩,e5⟩
theorem Sh{b:List Int}{ps:List (List Int)}(h:Dk b [] [] []=some (ps,[])):∃c,b=Db c:=by
 obtain ⟨q,r,e1,e2,e3,⟨c,e4⟩,e5⟩:=Hs b.length b _ _ _ _ _ (Nat.le_refl _) h
 have hr:r=[]:=by
  have:=congrArg List.length e2
  simp at this
  exact List.eq_nil_of_length_eq_zero (by omega)
 subst hr
 exact ⟨c,by rw [e3,e4];simp⟩
theorem Qc{x:Int}(hx:0≤x∧x<256)(h:x≠255):((255:UInt8)==UInt8.ofNat x.toNat)=false:=by
 rw [beq_eq_false_iff_ne]
 intro e
 have:=congrArg UInt8.toNat e
 simp at this
 omega
theorem Zy:∀(p T:List Int),(∀x∈p,0≤x∧x<256)→(255:Int)∉p→Lib.index (Lib.bytesOf (p++255::0::T)) (Lib.bytesOf [255,0])=(p.length:Nat)
 | [],T,_,_=>by
   simp only [List.nil_append,Lib.bytesOf,List.map_cons,List.map_nil]
   unfold Lib.index
   rw [if_pos (by simp [List.isPrefixOf])]
   rfl
 | x::p,T,h,hn=>by
   have ih:=Zy p T (fun y hy=>h y (by simp [hy])) (fun e=>hn (by simp [e]))
   have hx:x≠255:=fun e=>hn (by simp [e])
   have hb:=Qc (h x (by simp)) hx
   simp only [List.cons_append,Lib.bytesOf,List.map_cons,List.map_nil] at ih⊢
   unfold Lib.index
   rw [if_neg,ih,if_neg]
   ·simp
   ·simp
   simp only [List.isPrefixOf]
   have:(UInt8.ofNat (Int.toNat 255)==UInt8.ofNat x.toNat)=false:=hb
   rw [this];simp
theorem Q1:∀(p:List Int),(∀x∈p,0≤x∧x<256)→(255:Int)∉p→Lib.index (Lib.bytesOf p) (Lib.bytesOf [255,0])= -1
 | [],_,_=>rfl
 | x::p,h,hn=>by
   have ih:=Q1 p (fun y hy=>h y (by simp [hy])) (fun e=>hn (by simp [e]))
   have hx:x≠255:=fun e=>hn (by simp [e])
   have hb:=Qc (h x (by simp)) hx
   simp only [Lib.bytesOf,List.map_cons,List.map_nil] at ih⊢
   unfold Lib.index
   rw [if_neg,ih]
   ·rfl
   simp only [List.isPrefixOf]
   have:(UInt8.ofNat (Int.toNat 255)==UInt8.ofNat x.toNat)=false:=hb
   rw [this];simp
theorem bx:∀(ps:List (List Int))(last:List Int)(f:Nat),(∀p∈ps,(∀x∈p,0≤x∧x<256)∧(255:Int)∉p)→(∀x∈last,0≤x∧x<256)→(255:Int)∉last→ps.length<f→
 Lib.countFrom (Lib.bytesOf [255,0]) f (Lib.bytesOf (ps.flatMap (· ++[255,0])++last))=ps.length
 | _,_,0,_,_,_,hf=>by omega
 | [],last,f+1,_,h1,h2,_=>by
   simp only [List.flatMap_nil,List.nil_append]
   rw [Lib.countFrom,Q1 last h1 h2];rfl
 | p::ps,last,f+1,h,h1,h2,hf=>by
   obtain ⟨k1,k2⟩:=h p (by simp)
   have e:(p::ps).flatMap (· ++[255,0])++last=p++255::0::(ps.flatMap (· ++[255,0])++last):=by simp
   have e2:(Lib.bytesOf (p++255::0::(ps.flatMap (· ++[255,0])++last))).drop (((p.length:Nat):Int).toNat+(Lib.bytesOf [255,0]).length)=Lib.bytesOf (ps.flatMap (· ++[255,0])++last):=by
    have e0:p.length+2=(Lib.bytesOf (p++[255,0])).length:=by simp [Lib.bytesOf]
    have e3:p++255::0::(ps.flatMap (· ++[255,0])++last)=(p++[255,0])++(ps.flatMap (· ++[255,0])++last):=by simp
    have e4:∀a b:List Int,Lib.bytesOf (a++b)=Lib.bytesOf a++Lib.bytesOf b:=fun a b=>by simp [Lib.bytesOf]
    rw [Int.toNat_natCast,show (Lib.bytesOf [255,0]).length=2 from rfl,e0,e3,e4 (p++[255,0]),List.drop_left' rfl]
   rw [e,Lib.countFrom,Zy p _ k1 k2,e2,if_neg (by simp),bx ps last f (fun q hq=>h q (by simp [hq])) h1 h2 (by simp at hf;omega),List.length_cons]
   omega
theorem Xb(b:Int):∀(l:List Int),(∀x∈l,0≤x∧x<256)→(∀p∈(GJ b l).1,∀x∈p,0≤x∧x<256)∧(∀x∈(GJ b l).2,0≤x∧x<256)∧b∉(GJ b l).2:=by
 intro l h
 obtain ⟨h1,_,h3,h4⟩:=Hr b [] l
 have hm:∀p∈(GJ b l).1,∀x∈p,x∈l:=fun p hp x hx=>by
  rw [←h1];exact List.mem_append_left _ (List.mem_flatMap.2 ⟨p,hp,List.mem_append_left _ hx⟩)
 refine ⟨fun p hp x hx=>h x (hm p hp x hx),fun x hx=>h x (by rw [←h1];exact List.mem_append_right _ hx),fun hb=>?_⟩
 have hc:=congrArg (List.count b) h1
 rw [List.count_append] at hc
 have e:∀ps:List (List Int),(∀p∈ps,b∉p)→(ps.flatMap (· ++[b])).count b=ps.length:=by
  intro ps
  induction ps with
  | nil=>intro _;rfl
  | cons p ps ih=>
    intro hp
    rw [List.flatMap_cons,List.count_append,List.count_append,ih fun q hq=>hp q (by simp [hq]),List.count_eq_zero.2 (hp p (by simp)),List.length_cons]
    simp;omega
 rw [e _ h4,h3] at hc
 have:=List.count_pos_iff.2 hb
 omega
theorem Lb{w w':World}(h:∃q,w'=w.drewN q):Al w w':=by obtain ⟨q,rfl⟩:=h;exact (Al.refl w).drewN
theorem Nh{w:World}{a:Addr}{n c k:Nat}{xs:List Int}(hv:Sl w 1 (.slice (some a) n c) n (xs.map (Value.int .u8))):n≤c∧c≤9223372036854775807:=by
 obtain ⟨_,_,_,e,h1,h2,_⟩:=hv
 cases e
 unfold maxLen at h2
 exact ⟨h1,h2⟩
theorem Ox(w0:World)(a:Option Addr)(g1 g2:Nat)(n c:Nat)(xs cc:List Int)(hs:Sl w0 1 (.slice a n c) n (xs.map (Value.int .u8)))(hnil:a=none→c=0)(he:xs=Db cc)
 (ho:Sl w0 1 (.slice (some ⟨g1,0,none⟩) 2 2) 2 (([255,0]:List Int).map (Value.int .u8))) (hw:Sl w0 1 (.slice (some ⟨g2,0,none⟩) 1 1) 1 (([255]:List Int).map (Value.int .u8)))
 (hx:∀x∈xs,0≤x∧x<256) (hb1:n≤1000000000) (hml:∃m,w0.cell? ⟨0,0,none⟩=some (.int .i64 m)):
 Calls Tryz.prog 119 #[.slice a n c, .slice (some ⟨g1,0,none⟩) 2 2, .slice (some ⟨g2,0,none⟩) 1 1] w0 fun e w=>∃(ao:Option Addr) (c':Nat),e= .returned (.slice ao cc.length c')∧St w0 w [own 5 1 ao cc.length c' (cc.map (Value.int .u8))]:=by
 obtain ⟨ml,hml⟩:=hml
 have hxc:∀x∈cc,0≤x∧x<256:=fun x hxm=>by
  by_cases h:x=255
  ·omega
  refine hx x ?_
  rw [he,Db,Gi,List.mem_flatMap]
  exact ⟨x,hxm,by rw [if_neg h];simp⟩
 obtain ⟨h1,h2,h3,h4⟩:=Hr 255 [255,0] cc
 obtain ⟨r1,r2,r3⟩:=Xb 255 cc hxc
 obtain ⟨ps,hps⟩:∃ps,(GJ 255 cc).1=ps:=⟨_,rfl⟩
 obtain ⟨last,hlast⟩:∃l,(GJ 255 cc).2=l:=⟨_,rfl⟩
 rw [hps,hlast] at h1 h2
 rw [hps] at h3 h4 r1
 rw [hlast] at r2 r3
 have h2':ps.flatMap (· ++[255,0])++last=xs:=by rw [he];exact h2
 have h5:=h2'
 rw [←RC] at h1 h2'
 have hln:xs.length=n:=by have:=hs.1;simpa using this
 have hadd:∀(g i:Nat),((⟨g,0,none⟩:Addr).add i)=⟨g,0+i,none⟩:=fun g i=>Addr.add_mid ..
 have hmem:∀k (h:k<ps.length),∃T,xs.drop (pre [255,0] ps k).length=ps[k]++255::0::T:=fun k h=>by
  obtain ⟨T,hT⟩:=Ib [255,0] ps k ps.length rfl h
  refine ⟨T++last,?_⟩
  rw [←h2',hT,List.append_assoc,List.drop_left' rfl]
  simp
 have hpl:ps.length≤n:=by
  have hq:∀qs:List (List Int),qs.length≤(qs.flatMap (· ++[255,0])).length:=fun qs=>by
   induction qs with
   | nil=>exact Nat.le_refl _
   | cons q qs ih=>rw [List.flatMap_cons,List.length_append,List.length_append,List.length_cons,List.length_cons];omega
  have:=hq ps
  have e:=congrArg List.length h5
  rw [List.length_append] at e
  omega
 have HC:Bw (∀w,Al w0 w→Calls Tryz.prog 141 #[.slice a n c, .slice (some ⟨g1,0,none⟩) 2 2] w fun e w'=>e= .returned (.int .i64 (ps.length:Nat))∧Al w w'):=⟨fun w hE=>by
  cases a with
  | none=>
    have hc0:=hnil rfl
    subst hc0
    have hn0:n=0:=by obtain ⟨_,_,_,h1,h2,_⟩:=hs;cases h1;omega
    subst hn0
    have:ps.length=0:=by omega
    rw [this]
    exact (Tryz.bytes_Count_nil (some ⟨g1,0,none⟩) 2 2 w (by decide) (by decide)).mono fun e w' ⟨e1,e2⟩=>⟨e1,e2▸ Al.refl _⟩
  | some a=>
    obtain ⟨c1,c2⟩:=Nh (k:=0) (hs.ext hE)
    refine (Tryz.bytes_Count_at a ⟨g1,0,none⟩ n c 2 2 xs [255,0] ml w hln rfl hx (by intro y hy;simp at hy;rcases hy with rfl|rfl<;>omega) (Fv (hs.ext hE)) (Fv (ho.ext hE)) c1 (by omega) (by decide) (by decide) (hE.cell hml)).mono fun e w' ⟨e1,e2⟩=>⟨?_,Lb e2⟩
    rw [e1]
    have:Lib.count (Lib.bytesOf xs) (Lib.bytesOf [255,0])=ps.length:=by
     rw [←h5,Lib.count]
     refine bx ps last _ (fun p hp=>⟨r1 p hp,h4 p hp⟩) r2 r3 ?_
     rw [h5];simp [Lib.bytesOf];omega
    rw [this]⟩
 have HI:Bw (∀k (h:k<ps.length) w,Al w0 w→Calls Tryz.prog 142 #[.slice (cutAt a c (pre [255,0] ps k).length 1) (n-(pre [255,0] ps k).length) (c-(pre [255,0] ps k).length), .slice (some ⟨g1,0,none⟩) 2 2] w fun e w'=>e= .returned (.int .i64 (ps[k].length:Nat))∧Al w w'):=⟨fun k h w hE=>by
  obtain ⟨T,hT⟩:=hmem k h
  have hle:(pre [255,0] ps k).length≤n:=by
   have:=Mi [255,0] ps k ps.length (by omega)
   have h6:=congrArg List.length h2'
   rw [List.length_append] at h6
   omega
  have hsl:=(hs.ext hE).cutAt (pre [255,0] ps k).length n hle (Nat.le_refl _)
  have h6:((xs.map (Value.int .u8)).drop ((pre [255,0] ps k).length*1)).take ((n-(pre [255,0] ps k).length)*1)=(ps[k]++255::0::T).map (Value.int .u8):=by
   rw [Nat.mul_one,Nat.mul_one,←List.map_drop,←List.map_take,List.take_of_length_le (by rw [List.length_drop];omega),hT]
  rw [h6] at hsl
  have hlen:=hsl.1
  have hrng:∀x∈ps[k]++255::0::T,0≤x∧x<256:=fun x hxm=>hx x (by rw [←hT] at hxm;exact List.mem_of_mem_drop hxm)
  cases hca:cutAt a c (pre [255,0] ps k).length 1 with
  | none=>
    rw [hca] at hsl
    obtain ⟨_,_,_,k1,k2,k3,k4⟩:=hsl
    cases k1
    rcases k4 with k4|⟨_,_,k4,_⟩
    ·simp at hlen;omega
    cases k4
  | some a1=>
    rw [hca] at hsl
    obtain ⟨c1,c2⟩:=Nh (k:=0) hsl
    refine (Tryz.bytes_Index_at a1 ⟨g1,0,none⟩ _ _ 2 2 (ps[k]++255::0::T) [255,0] ml w (by simpa using hlen) rfl hrng (by intro y hy;simp at hy;rcases hy with rfl|rfl<;>omega) (Fv hsl) (Fv (ho.ext hE)) c1 (by omega) (by decide) (hE.cell hml)).mono fun e w' ⟨e1,e2⟩=>⟨?_,Lb e2⟩
    rw [e1,Zy ps[k] T (fun x hxm=>r1 _ (List.getElem_mem h) x hxm) (h4 _ (List.getElem_mem h))]⟩
 have HRp:=I3 w0 a (some ⟨g1,0,none⟩) (some ⟨g2,0,none⟩) n c 2 2 1 1 ps.length ps last [255,0] [255] rfl (h2'.symm▸ hs) ho hw (by decide) hb1 (by decide) (by decide) HC HI
 rw [h1] at HRp
 have HRv:Bw _:=⟨HRp⟩
 have hS:=St.start w0
 clear HC HI HRp hmem h1 h2 h2' h3 h4 h5 hps hlast r1 r2 r3 hx hxc he hpl
 go_enter Tryz.func119,Tryz.ntmps119
 repeat' (first
  | (refine A3 135 ?_);refine A4 AA Tryz.call135 (HRv.out) ?_;rintro e w ⟨ao,c',rfl,hS2⟩;replace hS:=hS2;clear hS2;refine Ae ?_;go_step|refine X0 ?_|refine AG ?_;go_step|fail)
 go_ret
 exact ⟨ao,c',rfl,hS⟩
theorem Ia(w0:World)(a:Option Addr)(n c:Nat)(xs:List Int)(hs:Sl w0 1 (.slice a n c) n (xs.map (Value.int .u8)))(hnil:a=none→c=0)(hx:∀x∈xs,0≤x∧x<256)(hb1:n≤1000000000)(hml:∃m,w0.cell? ⟨0,0,none⟩=some (.int .i64 m)):
 Calls Tryz.prog 86 #[.slice a n c] w0 fun e w=>(∀cc,xs=Db cc→∃(ao:Option Addr) (c':Nat),e= .returned (.tuple #[.slice ao cc.length c', .int .i64 0])∧St w0 w [own 5 1 ao cc.length c' (cc.map (Value.int .u8))])∧
  ((∀cc,xs≠Db cc)→e= .returned (.tuple #[.slice none 0 0, .int .i64 4])∧Al w0 w):=by
 have hS:=St.start w0
 have HSP:=AD (Ih w0 a n c xs hs hx hb1)
 obtain ⟨T,hT⟩:∃T,Dk xs [] [] []=T:=⟨_,rfl⟩
 rw [hT] at HSP
 have HX:Bw (∀x∈xs,0≤x∧x<256):=⟨hx⟩
 have HML:Bw _:=⟨hml⟩
 clear hx hml
 cases T with
 | none=>
   have hno:∀cc,xs≠Db cc:=fun cc e=>by rw [e,Ht] at hT;cases hT
   have HNO:Bw _:=⟨hno⟩
   clear hno hT
   go_enter Tryz.func86,Tryz.ntmps86
   repeat' (first
    | (refine A3 60 ?_);refine A4 AA Tryz.call60 (HSP.out) ?_;rintro e w ⟨hR1,-⟩;obtain ⟨rfl,hE⟩:=hR1 rfl;clear hR1;replace hS:=hS.ext hE;clear hE;refine Ae ?_;go_step|go_skip|refine X0 ?_|refine Gz ?_|refine IA 14 ?_ ?_<;>intro hB<;>(try exact AW)<;>go_step|refine X5 10 ?_|refine X5 11 ?_|refine X5 12 ?_|refine AG ?_;go_step|fail)
   all_goals
    repeat' (first
     | refine X0 ?_|refine JE 21 ?_|refine AG ?_;go_step|fail)
   all_goals
    refine AM (xs:=[_,_]) rfl (.cons (AC.tmp rfl) (.cons (AC.tmp rfl) (.nil))) (by simp) rfl ?_
    exact ⟨fun cc e=>absurd e (HNO.out cc),fun _=>⟨rfl,hS.1⟩⟩
 | some T=>
   obtain ⟨ps,ms⟩:=T
   by_cases hm:ms=[]
   ·subst hm
    obtain ⟨cc,he⟩:=Sh hT
    have HE:=AD he
    clear hT he
    go_enter Tryz.func86,Tryz.ntmps86
    repeat' (first
     | (refine A3 60 ?_);refine A4 AA Tryz.call60 (HSP.out) ?_;rintro e w ⟨-,hR1⟩;obtain ⟨pcs,ao,am,co,cm,lo,lm,hlo,hlm,-,rfl,hS2⟩:=hR1 ps [] rfl;clear hR1;rw [List.length_nil] at hlm;subst hlm;replace hS:=hS.call hS2;clear hS2;simp only [List.cons_append,List.nil_append] at hS;refine Ae ?_;go_step|refine X0 ?_|refine FJ ?_|refine IA 14 ?_ ?_<;>intro hB<;>(try exact AW)<;>go_step|refine X5 10 ?_|refine X5 11 ?_|refine X5 12 ?_|refine TH 17 ?_|refine ME 18 ?_|refine AG ?_;go_step|fail)
    all_goals
     repeat' (first
      | refine X1 ?_|refine JE 21 ?_|refine AG ?_;go_step|fail)
    all_goals
     repeat' (first
      | (refine A3 119 ?_);refine A4 AA Tryz.call119 (Ox _ a _ _ n c xs cc (hs.ext hS.1) hnil HE.out (hS.slBlk (n:=2) (cs:=[.int .u8 255, .int .u8 0]) AJ (by rfl) (by decide)) (hS.slBlk (n:=1) (cs:=[.int .u8 255]) AJ (by rfl) (by decide)) HX.out hb1 (HML.out.imp fun m h=>hS.1.cell h)) ?_;rintro e w ⟨ao,c',rfl,hS2⟩;replace hS:=hS.call1 hS2;clear hS2;refine Ae ?_;go_step|refine X8 ?_|refine V6 24 ?_;clear hS;intro g24 w hS|refine Yt 25 ?_;clear hS;intro g25 w hS|refine AG ?_;go_step|fail)
    all_goals
     refine AM (xs:=[_,_]) rfl (.cons (AC.tmp rfl) (.cons (AC.tmp rfl) (.nil))) (by simp) rfl ?_
     refine ⟨fun cc2 e=>?_,fun h=>absurd HE.out (h cc)⟩
     obtain rfl:=JZ _ _ (HE.out.symm.trans e)
     exact ⟨_,_,rfl,hS.sub AV⟩
   have hno:∀cc,xs≠Db cc:=fun cc e=>by rw [e,Ht] at hT;cases hT;exact hm rfl
   have HNO:Bw _:=⟨hno⟩
   have hml2:0<ms.length:=List.length_pos_iff.2 hm
   clear hno hT hm
   go_enter Tryz.func86,Tryz.ntmps86
   repeat' (first
    | (refine A3 60 ?_);refine A4 AA Tryz.call60 (HSP.out) ?_;rintro e w ⟨-,hR1⟩;obtain ⟨pcs,ao,am,co,cm,lo,lm,hlo,hlm,-,rfl,hS2⟩:=hR1 ps ms rfl;clear hR1;replace hS:=hS.call hS2;clear hS2;simp only [List.cons_append,List.nil_append] at hS;refine Ae ?_;go_step|refine X0 ?_|refine FJ ?_|refine IA 14 ?_ ?_<;>intro hB<;>(try exact AW)<;>go_step|refine X5 10 ?_|refine X5 11 ?_|refine X5 12 ?_|refine TH 17 ?_|refine ME 18 ?_|refine AG ?_;go_step|fail)
   all_goals
    repeat' (first
     | refine X0 ?_|refine JE 21 ?_|refine AG ?_;go_step|fail)
   all_goals
    refine AM (xs:=[_,_]) rfl (.cons (AC.tmp rfl) (.cons (AC.tmp rfl) (.nil))) (by simp) rfl ?_
    exact ⟨fun cc e=>absurd e (HNO.out cc),fun _=>⟨rfl,hS.1⟩⟩
def Ba(L1 L2:List (Int×Nat×Nat))(x:CF×Bool):List Bool:=wb (if x.2 then L1 else L2) x.1.1++A2 x.1.2.1.toNat x.1.2.2.toNat
def BR(L1 L2:List (Int×Nat×Nat))(bs:List Bool)(t:CF)(b:Bool):Int×List Bool:=if (symW (if b then L1 else L2) t.1).isSome then (0,bs++Ba L1 L2 (t,b)) else (5,bs)
theorem IU(W w0:World)(rs rs':List Au)(g g1 g2:Nat)(b:Bool)(hS:St W w0 rs)(hp:AT (blk g [.pointer (some ⟨g1,0,none⟩), .pointer (some ⟨g2,0,none⟩)]) rs rs'):
 Calls Tryz.prog 109 #[.pointer (some ⟨g,0,none⟩), .bool b] w0 fun e w=>e= .returned (.pointer (some ⟨if b then g1 else g2,0,none⟩))∧Al w0 w:=by
 have h0:=St.start w0
 have hc:=(hS.blk hp).1
 have c0:w0.cell? ⟨g,0,none⟩=some (.pointer (some ⟨g1,0,none⟩)):=by rw [hc.cell];rfl
 have c1:w0.cell? ⟨g,1,none⟩=some (.pointer (some ⟨g2,0,none⟩)):=by rw [hc.cell];rfl
 clear hS hc hp
 have hS:=h0
 clear h0
 cases b
 ·go_enter Tryz.func109,Tryz.ntmps109
  repeat' (first
   | refine X0 ?_|refine AG ?_;go_step|fail)
  repeat' (first
   | refine X8 ?_|refine Ze ?_|(with_reducible refine An _ (.fieldAddr 181 _ 1) ?_);(refine As AA (V.fieldAddr W0 rfl BO) ?_;go_step)|refine bT ?_|refine AG ?_;go_step|fail)
  all_goals (go_ret;exact ⟨rfl,hS.1⟩)
 go_enter Tryz.func109,Tryz.ntmps109
 repeat' (first
  | refine X0 ?_|refine Ze ?_|(with_reducible refine An _ (.fieldAddr 181 _ 0) ?_);(refine As AA (V.fieldAddr Wz rfl BO) ?_;go_step)|refine bT ?_|refine AG ?_;go_step|fail)
 all_goals (go_ret;exact ⟨rfl,hS.1⟩)
def SB(g6 g8 gc gw:Nat)(L1 L2:List (Int×Nat×Nat))(bs:List Bool):Au:=star [blk g6 [.pointer (some ⟨gc,0,none⟩)],blk g8 [.pointer (some ⟨gw,0,none⟩)],YQ gc L1 L2,wr gw bs]
theorem PW(W w0:World)(rs rs':List Au)(g6 g8 gc gw:Nat)(L1 L2:List (Int×Nat×Nat))(bs:List Bool)(t0 t1 t2:Int)(b:Bool)(hL1:Ci L1)(hL2:Ci L2)(hS:St W w0 rs)(hp:AT (SB g6 g8 gc gw L1 L2 bs) rs rs')(hb:bs.length≤1000000000)(ht:P0 (t0,t1,t2)):
 Calls Tryz.prog 108 #[.agg #[.int .i64 t0, .int .i64 t1, .int .i64 t2], .bool b, .pointer (some ⟨g6,0,none⟩), .pointer (some ⟨g8,0,none⟩)] w0 fun e w=>e= .returned (.int .i64 (BR L1 L2 bs (t0,t1,t2) b).1)∧St W w (SB g6 g8 gc gw L1 L2 (BR L1 L2 bs (t0,t1,t2) b).2::rs'):=by
 obtain ⟨_,hS⟩:=(hS.pull hp).open
 obtain ⟨⟨g1,g2⟩,hS⟩:=(hS.pull (.tail (.tail .head))).open
 replace hS:St W w0 (blk gc [.pointer (some ⟨g1,0,none⟩), .pointer (some ⟨g2,0,none⟩)]::Ju g1 L1::Ju g2 L2::blk g6 [.pointer (some ⟨gc,0,none⟩)]::blk g8 [.pointer (some ⟨gw,0,none⟩)]::wr gw bs::rs'):=hS
 clear hp
 obtain ⟨h1,h2,h3,h4⟩:=ht
 dsimp only at h1 h2 h3 h4
 obtain ⟨k,rfl⟩:∃k:Nat,t1=(k:Int):=⟨t1.toNat,by omega⟩
 obtain ⟨v,rfl⟩:∃v:Nat,t2=(v:Int):=⟨t2.toNat,by omega⟩
 have hv:v<2^k:=by rw [Int.toNat_natCast] at h4;exact_mod_cast h4
 clear h4 h3
 obtain ⟨L,hL⟩:∃L,(if b then L1 else L2)=L:=⟨_,rfl⟩
 obtain ⟨gb,hgb⟩:∃x,(if b then g1 else g2)=x:=⟨_,rfl⟩
 have hGL:Ci L:=by rw [←hL];cases b<;>assumption
 have HL:=AD hL
 have HGB:=AD hgb
 have HLen:=AD (NG hGL t0)
 obtain ⟨r2,hS2,hC⟩:∃r2,St W w0 (Ju gb L::r2::blk gc [.pointer (some ⟨g1,0,none⟩), .pointer (some ⟨g2,0,none⟩)]::blk g6 [.pointer (some ⟨gc,0,none⟩)]::blk g8 [.pointer (some ⟨gw,0,none⟩)]::wr gw bs::rs')∧∀w rs,St W w (Ju gb L::r2::blk gc [.pointer (some ⟨g1,0,none⟩), .pointer (some ⟨g2,0,none⟩)]::rs)→St W w (YQ gc L1 L2::rs):=by
  cases b
  ·obtain rfl:L2=L:=by simpa using hL
   obtain rfl:g2=gb:=by simpa using hgb
   refine ⟨Ju g1 L1,hS.sub AV,fun w rs h=>St.close (g1,g2) ?_⟩
   dsimp only [List.cons_append,List.nil_append]
   exact h.sub AV
  obtain rfl:L1=L:=by simpa using hL
  obtain rfl:g1=gb:=by simpa using hgb
  refine ⟨Ju g2 L2,hS.sub AV,fun w rs h=>St.close (g1,g2) ?_⟩
  dsimp only [List.cons_append,List.nil_append]
  exact h.sub AV
 clear hS hL hgb
 have hS:=hS2
 have HC:=AD hC
 clear hS2 hC
 obtain ⟨I,hI⟩:∃I,(symW L t0).isSome=I:=⟨_,rfl⟩
 have HI:=AD hI
 cases I
 ·have HR:=AD (show BR L1 L2 bs (t0,(k:Int),(v:Int)) b=(5,bs) by unfold BR;dsimp only;rw [HL.out,hI];rfl)
  clear hI
  go_enter Tryz.func108,Tryz.ntmps108
  repeat' (first
   | refine X8 ?_|refine V5 4 ?_;clear hS;intro g4 w hS|refine AG ?_;go_step|fail)
  refine AQ [6] (fun w=>St W w [blk g6 [.pointer (some ⟨gc,0,none⟩)],blk g8 [.pointer (some ⟨gw,0,none⟩)],blk g4 [.int .i64 t0, .int .i64 (k:Nat), .int .i64 (v:Nat)]]) AA ?_
  replace hS:=hS.drew
  focus
   refine au 0 [2,6,7] ?_
   refine Ab 1 ?_
   refine dP 3 [6,7] ?_
   refine Bf 4 BU (V.fieldAddr JS rfl BO) ?_;go_step
   refine Y7 5 [6,7] ?_
   refine Aa 2 ?_
   refine Af (f:=109) rfl Tryz.call109 (IU W _ _ _ gc g1 g2 b hS AJ) ?_;rintro e w ⟨rfl,hE⟩;replace hS:=hS.ext hE;clear hE;rw [HGB.out];refine ⟨_,rfl,?_⟩
   refine ⟨fun _ _=>hS.sub AV,?_⟩
   refine AF ?_
   go_step
   refine Aa 6 ?_
   refine Af (f:=110) rfl Tryz.call110 (Jv W _ _ _ _ gb gw L bs t0 hGL hS AJ AJ (by omega)) ?_;clear hS;rintro e w ⟨rfl,hS⟩;rw [HI.out];refine ⟨_,rfl,?_⟩
   refine ⟨fun h=>absurd (by decide) h,?_⟩
   refine AF ?_
   go_step
   refine Bf 7 BU (V.not rfl) ?_;go_step
   refine AE AA ?_ _
  all_goals
   repeat' (first
    | refine X8 ?_|refine AG ?_;go_step|fail)
   go_ret
   rw [HR.out]
   have hwb:wb L t0=[]:=by unfold wb;cases hs:symW L t0 with
    | none=>rfl
    | some y=>have:=HI.out;rw [hs] at this;cases this
   rw [hwb,List.append_nil] at hS
   refine ⟨rfl,St.close () ?_⟩
   dsimp only [List.cons_append,List.nil_append]
   exact (HC.out _ _ (hS.sub (xs:=Ju gb L::r2::blk gc [.pointer (some ⟨g1,0,none⟩), .pointer (some ⟨g2,0,none⟩)]::blk g6 [.pointer (some ⟨gc,0,none⟩)]::blk g8 [.pointer (some ⟨gw,0,none⟩)]::wr gw bs::rs') AV)).sub AV
 have HR:=AD (show BR L1 L2 bs (t0,(k:Int),(v:Int)) b=(0,bs++(wb L t0++A2 k v)) by unfold BR Ba;dsimp only;rw [HL.out,hI,Int.toNat_natCast,Int.toNat_natCast];rfl)
 clear hI
 go_enter Tryz.func108,Tryz.ntmps108
 repeat' (first
  | refine X8 ?_|refine V5 4 ?_;clear hS;intro g4 w hS|refine AG ?_;go_step|fail)
 refine AQ [6] (fun w=>St W w [blk g6 [.pointer (some ⟨gc,0,none⟩)],blk g8 [.pointer (some ⟨gw,0,none⟩)],blk g4 [.int .i64 t0, .int .i64 (k:Nat), .int .i64 (v:Nat)]]) AA ?_
 replace hS:=hS.drew
 focus
  refine au 0 [2,6,7] ?_
  refine Ab 1 ?_
  refine dP 3 [6,7] ?_
  refine Bf 4 BU (V.fieldAddr JS rfl BO) ?_;go_step
  refine Y7 5 [6,7] ?_
  refine Aa 2 ?_
  refine Af (f:=109) rfl Tryz.call109 (IU W _ _ _ gc g1 g2 b hS AJ) ?_;rintro e w ⟨rfl,hE⟩;replace hS:=hS.ext hE;clear hE;rw [HGB.out];refine ⟨_,rfl,?_⟩
  refine ⟨fun _ _=>hS.sub AV,?_⟩
  refine AF ?_
  go_step
  refine Aa 6 ?_
  refine Af (f:=110) rfl Tryz.call110 (Jv W _ _ _ _ gb gw L bs t0 hGL hS AJ AJ (by omega)) ?_;clear hS;rintro e w ⟨rfl,hS⟩;rw [HI.out];refine ⟨_,rfl,?_⟩
  refine ⟨fun h=>absurd (by decide) h,?_⟩
  refine AF ?_
  go_step
  refine Bf 7 BU (V.not rfl) ?_;go_step
  refine AE AA ?_ _
 all_goals
  repeat' (first
   | (refine AS 20 ?_);refine AN (f:=111) Tryz.call111 AA ?_;refine ⟨_,(Ml W _ _ _ gw (bs++wb L t0) k v hS AJ (by omega) hv (by have:=HLen.out;rw [List.length_append];omega)),?_⟩;clear hS;rintro e w ⟨rfl,hS⟩;refine Ae ?_;go_step|refine X8 ?_|refine QS ?_|refine Zb ?_|refine bS ?_|refine X9 ?_|refine AG ?_;go_step|fail)
  go_ret
  rw [HR.out]
  refine ⟨rfl,St.close () ?_⟩
  dsimp only [List.cons_append,List.nil_append]
  rw [List.append_assoc] at hS
  exact (HC.out _ _ (hS.sub (xs:=Ju gb L::r2::blk gc [.pointer (some ⟨g1,0,none⟩), .pointer (some ⟨g2,0,none⟩)]::blk g6 [.pointer (some ⟨gc,0,none⟩)]::blk g8 [.pointer (some ⟨gw,0,none⟩)]::wr gw (bs++(wb L t0++A2 k v))::rs') AV)).sub AV
theorem Ke{L1 L2:List (Int×Nat×Nat)}(h1:Ci L1)(h2:Ci L2)(t:CF)(b:Bool)(ht:P0 t):(Ba L1 L2 (t,b)).length≤28:=by
 obtain ⟨_,h3,_⟩:=ht
 unfold Ba
 dsimp only
 rw [List.length_append,At]
 have h4:(wb (if b then L1 else L2) t.1).length≤16:=NG (by cases b<;>assumption) _
 omega
theorem GQ(L1 L2:List (Int×Nat×Nat))(bs:List Bool)(t:CF)(b:Bool):(BR L1 L2 bs t b).2=bs++Ba L1 L2 (t,b)∨(BR L1 L2 bs t b).2=bs:=by
 unfold BR
 by_cases h:(symW (if b then L1 else L2) t.1).isSome=true
 ·rw [if_pos h];exact .inl rfl
 rw [if_neg h];exact .inr rfl
theorem Qo{W w:World}{g6 g8 gc gw:Nat}{L1 L2:List (Int×Nat×Nat)}{rs:List Au}(h:St W w rs)(s:NV [blk gw [.slice none 0 0, .int .u64 0, .int .i64 0],blk g6 [.pointer (some ⟨gc,0,none⟩)],blk g8 [.pointer (some ⟨gw,0,none⟩)],YQ gc L1 L2] rs):St W w [SB g6 g8 gc gw L1 L2 []]:=by
 have h2:=aK (h.sub s)
 refine St.close () ?_
 dsimp only [List.cons_append,List.nil_append]
 exact h2.sub AV
def Tw(W:World)(g6 g8 gc gw:Nat)(L1 L2:List (Int×Nat×Nat))(h1:Ci L1)(h2:Ci L2):aS W (List Bool) where
 step:=BR L1 L2
 res:=SB g6 g8 gc gw L1 L2
 ok bs m:=bs.length+28*m≤1000000000
 K:=108
 caps:=#[.pointer (some ⟨g6,0,none⟩), .pointer (some ⟨g8,0,none⟩)]
 inv:=Tryz.call108
 okS s m t b h ht _:=by
  have:=Ke h1 h2 t b ht
  rcases GQ L1 L2 s t b with h4|h4
  ·rw [h4,List.length_append];omega
  rw [h4];omega
 okM s m k h hk:=by omega
 call w rs rs' s m t0 t1 t2 b er s' hS hp h ht hst:=by
  have h3:=PW W w rs rs' g6 g8 gc gw L1 L2 s t0 t1 t2 b h1 h2 hS hp (by omega) ht
  rw [hst] at h3
  exact h3
def Cj(C1 S1 C2 S2 l:List Int)(n:Nat):Int:=if Dw C1 S1 C2 S2=0 then if Bb l n=0 then (DX (BR (Bu C1 S1) (Bu C2 S2)) (DH l 0 n) []).1 else Bb l n else Dw C1 S1 C2 S2
def Br(C1 S1 C2 S2 l:List Int)(n:Nat):List Bool:=(DX (BR (Bu C1 S1) (Bu C2 S2)) (DH l 0 n) []).2
def FU(l:List Nat):List Int:=l.map fun (x:Nat)=>(x:Int)
theorem Tg(l:List Nat):bv l=(FU l).map (Value.int .u8):=by simp [bv,FU]
def DT(C1 S1 C2 S2 l:List Int)(n:Nat):List Int:=if Cj C1 S1 C2 S2 l n=0 then Db (FU (bytesOf (Br C1 S1 C2 S2 l n))) else []
theorem Tt{σ:Type}(step:σ→CF→Bool→Int×σ)(ok:σ→Nat→Prop)(h1:∀s m t b,ok s (m+1)→P0 t→ok (step s t b).2 m)(hm:∀s m k,ok s m→k≤m→ok s k):∀(T:List (CF×Bool))(s:σ)(m:Nat),(∀x∈T,P0 x.1)→T.length≤m→ok s m→ok (DX step T s).2 0
 | [],s,m,_,_,h=>hm s m 0 h (by omega)
 | x::r,s,m,ht,hl,h=>by
   rw [List.length_cons] at hl
   have h2:=h1 s (m-1) x.1 x.2 (by rw [show m-1+1=m by omega];exact h) (ht x (by simp))
   rw [DX]
   split
   ·exact Tt step ok h1 hm r _ (m-1) (fun y hy=>ht y (by simp [hy])) (by omega) h2
   exact hm _ _ 0 h2 (by omega)
theorem Hy{l:List Int}{n:Nat}(hl:l.length=n*64):∀(f k:Nat),k+f≤n→(∀x∈DH l k f,P0 x.1)∧(DH l k f).length≤64*f
 | 0,k,_=>⟨fun x hx=>(by cases hx),by simp [DH]⟩
 | f+1,k,h=>by
   obtain ⟨h1,h2⟩:=Hy hl f (k+1) (by omega)
   have hs:(Bm l 64 k).length=64:=CM l 64 k n hl (by omega)
   have h3:∀t∈Sq l k,P0 t:=Ot hs
   have h4:(Sq l k).length≤64:=M7 hs
   refine ⟨fun x hx=>?_,by rw [DH,List.length_append,OK];omega⟩
   rw [DH] at hx
   rcases List.mem_append.1 hx with hx|hx
   ·unfold Ej at hx
    split at hx
    ·cases hx
    rename_i t r heq
    rcases List.mem_cons.1 hx with rfl|hx
    ·exact h3 t (by rw [heq];simp)
    obtain ⟨y,hy,rfl⟩:=List.mem_map.1 hx
    exact h3 y (by rw [heq];simp [hy])
   exact h1 x hx
theorem I4{C1 S1 C2 S2 l:List Int}{n:Nat}(h1:BA C1 S1=0)(h2:BA C2 S2=0)(hl:l.length=n*64)(hn:n≤400):(Br C1 S1 C2 S2 l n).length≤1000000:=by
 have h3:=Tt (BR (Bu C1 S1) (Bu C2 S2)) (fun bs m=>bs.length+28*m≤1000000) (fun s m t b h ht=>by
  have:=Ke (Bp h1) (Bp h2) t b ht
  rcases GQ (Bu C1 S1) (Bu C2 S2) s t b with h4|h4
  ·rw [h4,List.length_append];omega
  rw [h4];omega) (fun s m k h hk=>by omega) (DH l 0 n) [] 25600 (Hy hl n 0 (by omega)).1 (by have:=(Hy hl n 0 (by omega)).2;omega) (by simp)
 unfold Br
 have h4:(DX (BR (Bu C1 S1) (Bu C2 S2)) (DH l 0 n) []).2.length+28*0≤1000000:=h3
 omega
theorem Zp(bs:List Bool):∀x∈FU (bytesOf bs),0≤x∧x<256:=fun x hx=>by
 obtain ⟨y,hy,rfl⟩:=List.mem_map.1 hx
 have:=D4 bs y hy
 omega
theorem G4{l:List Int}{n:Nat}(h:Bb l n=0):n≤400:=by
 unfold Bb at h
 split at h
 ·cases h
 omega
def PD(w0:World)(E:Int)(B:List Int)(e:Ending)(w:World):Prop:=
 ∃ao c m,B.length=m∧e= .returned (.tuple #[.slice ao m c, .int .i64 E])∧St w0 w [own 5 1 ao m c (B.map (Value.int .u8))]
theorem EQ{w0 w:World}{E:Int}{B:List Int}(E':Int)(h:E=E')(hB:B=[])(hE:Al w0 w):PD w0 E B (.returned (.tuple #[.slice none 0 0, .int .i64 E'])) w:=by
 subst h;subst hB
 exact ⟨none,0,0,rfl,rfl,(St.of_ext hE).nil _ _⟩
theorem Qn(W w0:World)(rs rs':List Au)(g6 g8 gc gw:Nat)(L1 L2:List (Int×Nat×Nat))(h1:Ci L1)(h2:Ci L2)(ad:Option Addr)(n c:Nat)(l:List Int)(E:Int)(bs:List Bool)(hE:Bb l n=0→DX (BR L1 L2) (DH l 0 n) []=(E,bs))(hE2:Bb l n≠0→Bb l n=E)(hn:n≤9223372036854775807)(hv:Sl W 64 (.slice ad n c) n (l.map (Value.int .i64)))(hS:St W w0 rs)(hp:AT (SB g6 g8 gc gw L1 L2 []) rs rs'):
 Calls Tryz.prog 100 #[.slice ad n c, .func (.func 108) #[] #[.pointer (some ⟨g6,0,none⟩), .pointer (some ⟨g8,0,none⟩)]] w0 fun e w=>e= .returned (.int .i64 E)∧∃s',(E=0→s'=bs)∧St W w (SB g6 g8 gc gw L1 L2 s'::rs'):=by
 refine (Nq (Tw W g6 g8 gc gw L1 L2 h1 h2) w0 rs rs' [] ad n c l hn hv hS hp (by show (0+28*25600≤1000000000);omega)).mono ?_
 rintro e w ⟨s',hs',rfl,hS⟩
 by_cases h0:Bb l n=0
 ·have h3:DX (Tw W g6 g8 gc gw L1 L2 h1 h2).step (DH l 0 n) []=(E,bs):=hE h0
  rw [h3] at hs'⊢
  rw [if_pos h0]
  exact ⟨rfl,s',fun _=>hs' h0,hS⟩
 rw [if_neg h0,hE2 h0]
 exact ⟨rfl,s',fun h=>absurd ((hE2 h0).trans h) h0,hS⟩
theorem GT(w0:World)(C1 C2 S1 S2:List Int)(a1 a2:Option Addr)(n1 n2 k1 k2:Nat)(hC1:Ap C1 16)(hC2:Ap C2 16)(hs1:Sl w0 1 (.slice a1 n1 k1) n1 (S1.map (Value.int .i64)))(hs2:Sl w0 1 (.slice a2 n2 k2) n2 (S2.map (Value.int .i64)))(hn1:n1≤9223372036854775807)(hn2:n2≤9223372036854775807)(ad:Option Addr)(n c:Nat)(l:List Int)(hn:n≤9223372036854775807)(hv:Sl w0 64 (.slice ad n c) n (l.map (Value.int .i64))):
 Calls Tryz.prog 75 #[.agg (AI [.ints C1, .val (.slice a1 n1 k1), .ints C2, .val (.slice a2 n2 k2)]).toArray, .slice ad n c] w0 (PD w0 (Cj C1 S1 C2 S2 l n) (DT C1 S1 C2 S2 l n)):=by
 have hl:l.length=n*64:=by have:=hv.1;simpa using this
 have HLl:=AD hl
 have hS:=St.start w0
 by_cases hT:Dw C1 S1 C2 S2=0
 case neg=>
  obtain ⟨E,hE⟩:∃E,Dw C1 S1 C2 S2=E:=⟨_,rfl⟩
  have h0:E≠0:=by rw [←hE];exact hT
  have HE:=AD hE
  have HR:=AD (show Cj C1 S1 C2 S2 l n=E by unfold Cj;rw [if_neg hT];exact hE)
  have HB:=AD (show DT C1 S1 C2 S2 l n=[] by unfold DT;rw [if_neg (by rw [HR.out];exact h0)])
  clear hE hT hl
  go_enter Tryz.func75,Tryz.ntmps75
  repeat' (first
   | (refine AS 11 ?_);refine AN (f:=85) Tryz.call85 AA ?_;refine ⟨_,(OI _ C1 C2 S1 S2 a1 a2 n1 n2 k1 k2 hC1 hC2 (hs1.ext hS.1) (hs2.ext hS.1) hn1 hn2 E HE.out h0),?_⟩;rintro e w ⟨rfl,hE2⟩;replace hS:=hS.ext hE2;clear hE2;refine Ae ?_;go_step|refine X0 ?_|refine X6 ?_|refine X3 ?_|refine PG 2 ?_;clear hS;intro g2 w hS|refine QU ?_|refine Yp 6 ?_;clear hS;intro g6 w hS|refine Yu ?_;clear hS;intro w hS|refine AG ?_;go_step|fail)
  all_goals (try exact AW)
  refine AM (xs:=[_,_]) rfl (.cons (AC.tmp rfl) (.cons (AC.tmp rfl) (.nil))) (by simp) rfl ?_
  exact EQ E HR.out HB.out hS.1
 have hT1:BA C1 S1=0:=by
  unfold Dw at hT
  split at hT
  ·assumption
  assumption
 have hT2:BA C2 S2=0:=by
  unfold Dw at hT
  rw [if_pos hT1] at hT;exact hT
 obtain ⟨⟨E,bs⟩,hech⟩:∃y,(if Bb l n=0 then DX (BR (Bu C1 S1) (Bu C2 S2)) (DH l 0 n) [] else (Bb l n,[]))=y:=⟨_,rfl⟩
 have HA:=AD (show Bb l n=0→DX (BR (Bu C1 S1) (Bu C2 S2)) (DH l 0 n) []=(E,bs) from fun h=>by rw [if_pos h] at hech;exact hech)
 have HA2:=AD (show Bb l n≠0→Bb l n=E from fun h=>by rw [if_neg h] at hech;exact congrArg Prod.fst hech)
 have HR:=AD (show Cj C1 S1 C2 S2 l n=E by
  unfold Cj
  rw [if_pos hT]
  by_cases h0:Bb l n=0
  ·rw [if_pos h0,HA.out h0]
  rw [if_neg h0];exact HA2.out h0)
 have HG1:=AD (Bp hT1)
 have HG2:=AD (Bp hT2)
 have HT1:=AD hT1
 have HT2:=AD hT2
 clear hT hech
 by_cases h0:E=0
 case neg=>
  have HB:=AD (show DT C1 S1 C2 S2 l n=[] by unfold DT;rw [if_neg (by rw [HR.out];exact h0)])
  clear hl hT1 hT2
  go_enter Tryz.func75,Tryz.ntmps75
  repeat' (first
   | (refine AS 11 ?_);refine AN (f:=85) Tryz.call85 AA ?_;refine ⟨_,(Hf _ C1 C2 S1 S2 a1 a2 n1 n2 k1 k2 hC1 hC2 (hs1.ext hS.1) (hs2.ext hS.1) hn1 hn2 HT1.out HT2.out),?_⟩;rintro e w ⟨gc,rfl,hS2⟩;replace hS:=hS.call1 hS2;clear hS2;refine Ae ?_;go_step|refine X0 ?_|refine X6 ?_|refine X3 ?_|refine PG 2 ?_;clear hS;intro g2 w hS|refine QU ?_|refine Yp 6 ?_;clear hS;intro g6 w hS|refine Yu ?_;clear hS;intro w hS|refine AG ?_;go_step|fail)
  all_goals (try exact AW)
  repeat' (first
   | refine be 20 ?_|(refine AS 21 ?_);refine AN (f:=100) Tryz.call100 AA ?_;refine ⟨_,(Qn w0 w _ _ g6 g8 gc g18 _ _ HG1.out HG2.out ad n c l E bs HA.out HA2.out hn hv (Qo hS AV) AT.head),?_⟩;clear hS;rintro e w ⟨rfl,s',hs',hS⟩;clear hs';refine Ae ?_;go_step|refine X0 ?_|(refine AS 17 ?_);(refine As AA (V.build (vs:=[]) rfl (Td)) ?_;go_step)|refine X3 ?_|(refine AS 18 ?_);(refine Ag ?_;apply CP (o:=⟨some 18,_,_,_,_,_⟩) hS 171 _ rfl _ rfl;clear hS;intro g18 w hS;refine AB ?_;go_step)|(refine AS 8 ?_);(refine Ag ?_;apply B3 (o:=⟨some 8,_,_,_,_,_⟩) hS 168 rfl (.pointer none) [.pointer none] (fun w=>Tryz.zeroValue168 w) rfl;clear hS;intro g8 w hS;refine AB ?_;go_step)|refine bL ?_;clear hS;intro w hS|refine AG ?_;go_step|fail)
  all_goals (try exact AW)
  refine AM (xs:=[_,_]) rfl (.cons (AC.tmp rfl) (.cons (AC.tmp rfl) (.nil))) (by simp) rfl ?_
  exact EQ E HR.out HB.out hS.1
 subst h0
 have hz:Bb l n=0:=by
  by_cases h0:Bb l n=0
  ·exact h0
  exact HA2.out h0
 have hbs:Br C1 S1 C2 S2 l n=bs:=by unfold Br;rw [HA.out hz]
 have hbl:bs.length≤1000000:=by rw [←hbs];exact I4 hT1 hT2 hl (G4 hz)
 have HB:=AD (show DT C1 S1 C2 S2 l n=Db (FU (bytesOf bs)) by unfold DT;rw [if_pos HR.out,hbs])
 have hbyl:(FU (bytesOf bs)).length=(bs.length+7)/8:=by unfold FU;rw [List.length_map,FV]
 have HBI:=AD (Zp bs)
 have HBV:=AD (Tg (bytesOf bs))
 clear hl hT1 hT2 hbs hz
 go_enter Tryz.func75,Tryz.ntmps75
 repeat' (first
  | (refine AS 11 ?_);refine AN (f:=85) Tryz.call85 AA ?_;refine ⟨_,(Hf _ C1 C2 S1 S2 a1 a2 n1 n2 k1 k2 hC1 hC2 (hs1.ext hS.1) (hs2.ext hS.1) hn1 hn2 HT1.out HT2.out),?_⟩;rintro e w ⟨gc,rfl,hS2⟩;replace hS:=hS.call1 hS2;clear hS2;refine Ae ?_;go_step|refine X0 ?_|refine X6 ?_|refine X3 ?_|refine PG 2 ?_;clear hS;intro g2 w hS|refine QU ?_|refine Yp 6 ?_;clear hS;intro g6 w hS|refine Yu ?_;clear hS;intro w hS|refine AG ?_;go_step|fail)
 all_goals (try exact AW)
 repeat' (first
  | refine be 20 ?_|(refine AS 21 ?_);refine AN (f:=100) Tryz.call100 AA ?_;refine ⟨_,(Qn w0 w _ _ g6 g8 gc g18 _ _ HG1.out HG2.out ad n c l 0 bs HA.out HA2.out hn hv (Qo hS AV) AT.head),?_⟩;clear hS;rintro e w ⟨rfl,s',hs',hS⟩;obtain rfl:=hs' rfl;clear hs';obtain ⟨_,hS⟩:=hS.open;dsimp only [List.cons_append,List.nil_append] at hS;refine Ae ?_;go_step|refine X0 ?_|(refine AS 17 ?_);(refine As AA (V.build (vs:=[]) rfl (Td)) ?_;go_step)|refine X3 ?_|(refine AS 18 ?_);(refine Ag ?_;apply CP (o:=⟨some 18,_,_,_,_,_⟩) hS 171 _ rfl _ rfl;clear hS;intro g18 w hS;refine AB ?_;go_step)|(refine AS 8 ?_);(refine Ag ?_;apply B3 (o:=⟨some 8,_,_,_,_,_⟩) hS 168 rfl (.pointer none) [.pointer none] (fun w=>Tryz.zeroValue168 w) rfl;clear hS;intro g8 w hS;refine AB ?_;go_step)|refine bL ?_;clear hS;intro w hS|refine AG ?_;go_step|fail)
 all_goals (try exact AW)
 repeat' (first
  | (refine AS 26 ?_);refine AN (f:=113) Tryz.call113 AA ?_;refine ⟨_,(Rs w0 _ _ _ g18 s' hS AJ (by omega)),?_⟩;clear hS;rintro e w ⟨ab,cb,rfl,hS⟩;rw [HBV.out] at hS;refine Ae ?_;go_step|(refine AS 27 ?_);refine AN (f:=112) Tryz.call112 AA ?_;refine ⟨_,(Si _ ab _ cb (FU (bytesOf s')) (hS.sl AJ) (fun h=>Q7 hS AT.head h) HBI.out (by omega)),?_⟩;rintro e w ⟨ao,co,rfl,hS2⟩;replace hS:=hS.call1 hS2;clear hS2;refine Ae ?_;go_step|refine X8 ?_|refine bS ?_|refine AG ?_;go_step|fail)
 refine AM (xs:=[_,_]) rfl (.cons (AC.tmp rfl) (.cons (AC.tmp rfl) (.nil))) (by simp) rfl ?_
 refine ⟨ao,co,_,by rw [HB.out],by rw [HR.out];rfl,?_⟩
 rw [HB.out]
 exact hS.sub AV
def RE(g:Nat)(ad:Option Addr)(n c i:Nat)(l:List Nat):Au:=star [rd g ad n c i,own 5 1 ad n c (bv l)]
def Yo(W:World)(rs:List Au)(g:Nat)(ad:Option Addr)(n c i m:Nat)(l:List Nat)(e:Ending)(w:World):Prop:=
 (8*n<i+m→e= .returned (.tuple #[.int .i64 0, .bool false])∧St W w (RE g ad n c i l::rs))∧
 (i+m≤8*n→e= .returned (.tuple #[.int .i64 (BF l i m:Nat), .bool true])∧St W w (RE g ad n c (i+m) l::rs))
theorem DY(W w0:World)(rs rs':List Au)(g n c i m:Nat)(ad:Option Addr)(l:List Nat)(hS:St W w0 rs)(hp:AT (RE g ad n c i l) rs rs')(hl:∀x∈l,x<256)(hn:n≤1000000000000000000)(hi:i≤8*n)(hm:m≤60):
 Calls Tryz.prog 90 #[.pointer (some ⟨g,0,none⟩), .int .i64 m] w0 (Yo W rs' g ad n c i m l):=by
 obtain ⟨_,hS⟩:=(hS.pull hp).open
 dsimp only [List.cons_append,List.nil_append] at hS
 have hll:l.length=n:=by have:=hS.ownLen (.tail .head);simpa [bv] using this
 have HLt:=AD hl
 have HLen:=AD hll
 clear hl hll
 by_cases hb:8*n<i+m
 ·have c0:w0.cell? ⟨g,0,none⟩=some (.slice ad n c):=by rw [(hS.blk AT.head).1.cell];rfl
  have c1:w0.cell? ⟨g,1,none⟩=some (.int .i64 (i:Nat)):=by rw [(hS.blk AT.head).1.cell];rfl
  have HL:=AD (J7 w0 g n c i ad c0 c1 hn hi)
  clear c0 c1
  go_enter Tryz.func90,Tryz.ntmps90
  repeat' (first
   | (refine A3 89 ?_);refine A4 AA Tryz.call89 (HL.out) (Gb hS ?_);clear hS;intro w hS;go_step|refine X0 ?_|refine Gv ?_|refine AG ?_;go_step|fail)
  go_ret2
  exact ⟨fun _=>⟨rfl,St.close () (by dsimp only [List.cons_append,List.nil_append];exact hS)⟩,fun h=>absurd h (by omega)⟩
 have hb2:i+m≤8*n:=by omega
 have c0:w0.cell? ⟨g,0,none⟩=some (.slice ad n c):=by rw [(hS.blk AT.head).1.cell];rfl
 have c1:w0.cell? ⟨g,1,none⟩=some (.int .i64 (i:Nat)):=by rw [(hS.blk AT.head).1.cell];rfl
 have HL:=AD (J7 w0 g n c i ad c0 c1 hn hi)
 clear c0 c1
 go_enter Tryz.func90,Tryz.ntmps90
 repeat' (first
  | (refine A3 89 ?_);refine A4 AA Tryz.call89 (HL.out) (Gb hS ?_);clear hS;intro w hS;go_step|refine X0 ?_|refine Gv ?_|refine AG ?_;go_step|fail)
 go_loopg [6,12] m (fun gk nv kv w=>∃(k:Nat),gk+k=m∧kv= .int .i64 k∧nv= .int .i64 (BF l i k:Nat)∧St W w (rd g ad n c (i+k)::own 5 1 ad n c (bv l)::rs'))
 case atStart=>exact ⟨0,rfl,rfl,rfl,hS⟩
 case round=>
  clear hS
  obtain ⟨k,hk,rfl,rfl,hS⟩:=hrel
  by_cases hlt:k<m
  ·have hN:BF l i k<4611686018427387904:=by
    refine Nat.lt_of_lt_of_le (KC l i k) ?_
    exact Nat.le_trans (Nat.pow_le_pow_right (n:=2) (by omega) (show k≤62 by omega)) (by decide)
   have HOr:=AD (Ud (BF l i k) (FT l (i+k)) hN (Nat.mod_lt _ (by omega)))
   have HOr2:=AD (Q6 (BF l i k) (FT l (i+k)) hN (Nat.mod_lt _ (by omega)))
   have HAnd:=AD (Wf l (i+k) HLt.out)
   have HSucc:=AD (Gg l i k (by rw [HLen.out];omega))
   have hbit:FT l (i+k)<2:=Nat.mod_lt _ (by omega)
   have h8:(i+k)/8<n:=by omega
   unfold rd at hS
   obtain ⟨b,rfl⟩:=CE (a:=ad) hS AJ (by omega)
   have hcell:(bv l)[(i+k)/8]? =some (.int .u8 ((l.getD ((i+k)/8) 0:Nat):Int)):=by
    unfold bv
    rw [List.getElem?_map,List.getElem?_eq_getElem (by rw [HLen.out];exact h8)]
    simp [List.getD,HLen.out,h8]
   clear HL
   repeat' (first
    | refine X2 ?_|refine AG ?_;go_step|fail)
   refine AQ [] (fun w=>St W w (blk g [.slice (some ⟨b,0,none⟩) n c, .int .i64 ((i+k:Nat):Int)]::own 5 1 (some ⟨b,0,none⟩) n c (bv l)::rs')) AA ?_
   replace hS:=hS.drew
   focus
    refine Ab 0 ?_
    refine Bf 1 BU (V.shlI rfl rfl BI (by omega) (by omega)) ?_;go_step
    refine Ab 2 ?_
    refine Bf 3 BU (V.nilCheck rfl) ?_;go_step
    refine Bf 4 BU (V.fieldAddr Qt rfl BO) ?_;go_step
    apply Cb 5 Am AA AA AA Ch [11,12,19,20,21,22,23] AA (hS.sub AV)
    case hfr=>intro w hS;((refine Ag ?_;apply AY hS 35 _ rfl _ _ rfl (AH rfl) _;(case hp=>exact AJ);(case hc=>rfl);refine AB ?_;go_step));refine wpList_nil ?_;exact ⟨rfl,rfl⟩
    case hd=>rfl
    refine Ab 6 ?_
    refine Bf 7 BU (V.nilCheck rfl) ?_;go_step
    refine Bf 8 BU (V.fieldAddr JT rfl BO) ?_;go_step
    refine Y7 9 [10,11,12,19,20,21,22,23] ?_
    refine Bf 10 BU (V.quo rfl rfl (by omega) (by omega)) ?_;go_step
    refine Bf 11 BU (V.indexSl Tryz.underlying35 UF rfl rfl BI (by omega) (Nat.mul_one _) BO) ?_;go_step
    apply Cb 12 Am AA AA AA Ch [19,20,21,22,23] AA (hS.sub AV)
    case hfr=>intro w hS;((refine Ag ?_;apply Ai hS 5 _ rfl _ _ rfl (AH rfl) _ _ _ _ _;(case hp=>exact AJ);(case hv=>with_reducible assumption);refine AB ?_;go_step));refine wpList_nil ?_;exact ⟨rfl,rfl⟩
    case hd=>rfl
    refine Ab 13 ?_
    refine Bf 14 BU (V.nilCheck rfl) ?_;go_step
    refine Bf 15 BU (V.fieldAddr JT rfl BO) ?_;go_step
    refine Y7 16 [17,18,19,20,21,22,23] ?_
    refine Bf 17 BU (V.rem rfl rfl (by omega) (by omega)) ?_;go_step
    refine Bf 18 BU (V.subI rfl rfl (by omega)) ?_;go_step
    refine Bf 19 BU (V.shrB (N:=8) rfl rfl BI (by omega) rfl) ?_;go_step
    (refine Bo 20 (.int _ (((FT l (i+k):Nat):Int))) Am AA AA AA Ch (V.as (V.and rfl rfl) (by exact HAnd.out)) AA ?_)
    go_step
    refine Bf 21 BU (V.convI (by rw [Tryz.underlying5];rfl) Tryz.underlying3 rfl (IntWalk.i64_in _ (by omega))) ?_;go_step
    (refine Bo 22 (.int _ (((2*BF l i k+FT l (i+k):Nat):Int))) Am AA AA AA Ch (V.as (V.or rfl rfl) (by exact HOr2.out)) AA ?_)
    go_step
    refine Ab 23 ?_
    refine AE AA ?_ _
   repeat' (first
    | refine X1 ?_|refine Ze ?_|(with_reducible refine An _ (.fieldAddr 184 _ 1) ?_);(refine As AA (V.fieldAddr JT rfl BO) ?_;go_step)|refine X7 ?_|refine X9 ?_|refine aU ?_;clear hS;intro w hS|refine AG ?_;go_step|fail)
   go_roundg (gk-1)
   case measure=>omega
   case rel=>exact ⟨k+1,by omega,by go_num,by rw [HSucc.out],by unfold rd;exact hS⟩
  obtain rfl:k=m:=by omega
  repeat' (first
   | refine X0 ?_|refine X2 ?_|refine AG ?_;go_step|fail)
  go_ret2
  exact ⟨fun h=>absurd h (by omega),fun _=>⟨rfl,St.close () (by dsimp only [List.cons_append,List.nil_append];exact hS)⟩⟩
theorem RF{W w0:World}{rs rs' rs2:List Au}{r:Au}{g n c i:Nat}{ad:Option Addr}{l:List Nat}(hS:St W w0 rs)(hp:AT r rs rs')(hp2:AT (RE g ad n c i l) rs' rs2):l.length=n:=by
 obtain ⟨_,h⟩:=((hS.pull hp).drop.pull hp2).open
 have:=h.ownLen (.tail .head)
 simpa [bv] using this
theorem E7(W w0:World)(rs rs' rs2:List Au)(g g2 n c i:Nat)(ad:Option Addr)(L:List (Int×Nat×Nat))(l:List Nat)(hS:St W w0 rs)(hp:AT (Ju g L) rs rs')(hp2:AT (RE g2 ad n c i l) rs' rs2)
 (hl:∀x∈l,x<256) (hn:n≤1000000000000000000) (hi:i≤8*n):
 Calls Tryz.prog 176 #[.pointer (some ⟨g,0,none⟩), .pointer (some ⟨g2,0,none⟩)] w0 fun e w=>e= .returned (.tuple #[.int .i64 (GH L l i 16 0).1, .int .i64 (GH L l i 16 0).2.1])∧(GH L l i 16 0).2.2≤8*n∧St W w (Ju g L::RE g2 ad n c (GH L l i 16 0).2.2 l::rs2):=by
 have hll:l.length=n:=RF hS hp hp2
 obtain ⟨⟨m1,m2⟩,hS⟩:=(hS.pull hp).open
 dsimp only [List.cons_append,List.nil_append] at hS
 have hp3:AT (RE g2 ad n c i l) (blk g [.map (some m1), .map (some m2)]::mp ik m1 (Gl L)::mp pk m2 (GZ L)::rs') (blk g [.map (some m1), .map (some m2)]::mp ik m1 (Gl L)::mp pk m2 (GZ L)::rs2):= .tail (.tail (.tail hp2))
 replace hS:=hS.pull hp3
 have HLt:=AD hl
 have HLl:=AD hll
 clear hl hll hp hp2 hp3
 obtain ⟨R,hR⟩:∃R,GH L l i 16 0=R:=⟨_,rfl⟩
 rw [hR]
 have HR:=AD hR
 clear hR
 go_enter Tryz.func176,Tryz.ntmps176
 repeat' (first
  | refine X8 ?_|refine AG ?_;go_step|fail)
 go_loopg [6,7] 16 (fun gk cv kv w=>∃d:Nat,gk+d=16∧kv= .int .i64 ((d:Int)+1)∧cv= .int .i64 (BF l i d:Nat)∧i+d≤8*n∧Hid (GH L l i gk d=R)∧St W w (RE g2 ad n c (i+d) l::blk g [.map (some m1), .map (some m2)]::mp ik m1 (Gl L)::mp pk m2 (GZ L)::rs2))
 case atStart=>exact ⟨0,rfl,rfl,by rw [show BF l i 0=0 by unfold BF;rw [List.take_zero];rfl];rfl,hi,HR,hS⟩
 case round=>
  clear hS
  obtain ⟨d,hd,rfl,rfl,hid2,HG,hS⟩:=hrel
  by_cases hlt:d<16
  ·obtain ⟨gk',rfl⟩:∃k,gk=k+1:=⟨gk-1,by omega⟩
   have hg:=HG.out
   rw [GH,HLl.out] at hg
   by_cases hsh:8*n<i+d+1
   ·rw [if_pos (by omega)] at hg
    have HG2:=AD hg
    clear hg HG
    repeat' (first
     | (refine AS 18 ?_);refine AN (f:=90) Tryz.call90 AA ?_;refine ⟨_,(DY W _ _ _ g2 n c (i+d) 1 ad l hS AJ HLt.out hn hid2 (by omega)),?_⟩;rintro e w ⟨hG,_⟩;obtain ⟨rfl,hS2⟩:=hG (by omega);clear hG hS;have hS:=hS2;clear hS2;refine Ae ?_;go_step|refine X0 ?_|refine YB ?_|refine X6 ?_|refine NW ?_|refine AG ?_;go_step|fail)
    refine AM (xs:=[_,_]) rfl (.cons (AC.tmp rfl) (.cons (AC.tmp rfl) (.nil))) (by simp) rfl ?_
    rw [←HG2.out]
    refine ⟨rfl,hid2,St.close (m1,m2) ?_⟩
    exact hS.sub AV
   rw [if_neg (by omega)] at hg
   have HCat:=AD (SU l i d (by rw [HLl.out];omega))
   have hb1:BF l (i+d) 1<2:=KC l (i+d) 1
   have hN:BF l i d<65536:=Nat.lt_of_lt_of_le (KC l i d) (Nat.pow_le_pow_right (n:=2) (j:=16) (by omega) (by omega))
   obtain ⟨N1,hN1⟩:∃x,BF l i (d+1)=x:=⟨_,rfl⟩
   rw [hN1] at hg HCat
   have HN1:=AD hN1
   clear hN1
   have HOr:=AD (Q6 (BF l i d) (BF l (i+d) 1) (by omega) hb1)
   rw [←HCat.out] at HOr
   cases hc:codW L (((d+1:Nat):Int),(N1:Int)) with
   | some s=>
     rw [hc] at hg
     dsimp only at hg
     have HG2:=AD hg
     have hf:GZ L ((d:Int)+1,(N1:Int))=some (.int .i64 s):=by
      unfold GZ;rw [show (d:Int)+1=((d+1:Nat):Int) by omega,hc];rfl
     clear hg HG hc
     repeat' (first
      | (refine AS 18 ?_);refine AN (f:=90) Tryz.call90 AA ?_;refine ⟨_,(DY W _ _ _ g2 n c (i+d) 1 ad l hS AJ HLt.out hn hid2 (by omega)),?_⟩;rintro e w ⟨_,hG⟩;obtain ⟨rfl,hS2⟩:=hG (by omega);clear hG hS;have hS:=hS2;clear hS2;refine Ae ?_;go_step|(refine AS 26 ?_);(refine Ak (.int _ (((N1:Nat):Int))) (V.as (V.or rfl rfl) (by exact HOr.out)) (by kernel_rfl) ?_;go_step)|refine X0 ?_|refine YB ?_|refine X6 ?_|refine NW ?_|refine ZA ?_|refine Ze ?_|(with_reducible refine An _ (.fieldAddr 202 _ 1) ?_);(refine As AA (V.fieldAddr MW rfl BO) ?_;go_step)|(refine AS 34 ?_);(refine As AA (V.build (vs:=[(0,_),(1,_)]) rfl (IN _ _)) ?_;go_step)|refine bV ?_|(refine AS 35 ?_);(refine Ag ?_;apply I9 (enc:=pk) hS 200 _ _ rfl _ rfl (_,_) rfl Tryz.underlying200 (FZ Tryz.underlying206 Tryz.underlying3 EL) (.int .i64 0) (fun w=>Tryz.zeroValue3 w) _;(case hp=>exact AJ);(case hf=>with_reducible assumption);refine AB ?_;go_step)|refine AG ?_;go_step|fail)
     refine AM (xs:=[_,_]) rfl (.cons (AC.tmp rfl) (.cons (AC.tmp rfl) (.nil))) (by simp) rfl ?_
     rw [←HG2.out]
     refine ⟨rfl,by show i+(d+1)≤8*n;omega,St.close (m1,m2) ?_⟩
     dsimp only
     rw [show i+d+1=i+(d+1) by omega] at hS
     exact hS.sub AV
   | none=>
     rw [hc] at hg
     dsimp only at hg
     have HG2:=AD hg
     have hf:GZ L ((d:Int)+1,(N1:Int))=none:=by
      unfold GZ;rw [show (d:Int)+1=((d+1:Nat):Int) by omega,hc];rfl
     clear hg HG hc
     repeat' (first
      | (refine AS 18 ?_);refine AN (f:=90) Tryz.call90 AA ?_;refine ⟨_,(DY W _ _ _ g2 n c (i+d) 1 ad l hS AJ HLt.out hn hid2 (by omega)),?_⟩;rintro e w ⟨_,hG⟩;obtain ⟨rfl,hS2⟩:=hG (by omega);clear hG hS;have hS:=hS2;clear hS2;refine Ae ?_;go_step|(refine AS 26 ?_);(refine Ak (.int _ (((N1:Nat):Int))) (V.as (V.or rfl rfl) (by exact HOr.out)) (by kernel_rfl) ?_;go_step)|refine X0 ?_|refine YB ?_|refine X7 ?_|refine X6 ?_|refine NW ?_|refine ZA ?_|refine Ze ?_|(with_reducible refine An _ (.fieldAddr 202 _ 1) ?_);(refine As AA (V.fieldAddr MW rfl BO) ?_;go_step)|(refine AS 34 ?_);(refine As AA (V.build (vs:=[(0,_),(1,_)]) rfl (IN _ _)) ?_;go_step)|refine bV ?_|(refine AS 35 ?_);(refine Ag ?_;apply I8 (enc:=pk) hS 200 _ _ rfl _ rfl (_,_) rfl Tryz.underlying200 (FZ Tryz.underlying206 Tryz.underlying3 EL) (.int .i64 0) (fun w=>Tryz.zeroValue3 w) _;(case hp=>exact AJ);(case hf=>with_reducible assumption);refine AB ?_;go_step)|refine AG ?_;go_step|fail)
     go_roundg gk'
     case measure=>omega
     case rel=>exact ⟨d+1,by omega,by go_num,by rw [HN1.out],by omega,HG2,(by rw [show i+d+1=i+(d+1) by omega] at hS;exact hS.sub AV)⟩
  obtain rfl:d=16:=by omega
  obtain rfl:gk=0:=by omega
  have hg:=HG.out
  rw [GH] at hg
  have HG2:=AD hg
  clear hg HG
  repeat' (first
   | refine X0 ?_|refine YB ?_|refine AG ?_;go_step|fail)
  refine AM (xs:=[_,_]) rfl (.cons (AC.tmp rfl) (.cons (AC.tmp rfl) (.nil))) (by simp) rfl ?_
  rw [←HG2.out]
  refine ⟨rfl,hid2,St.close (m1,m2) ?_⟩
  exact hS.sub AV
end Go.Proofs.YtohacgmhmbijmaaGreatDoor
namespace Go.Proofs.YtohacgmhmbijmaaGreatDoor
attribute [local irreducible] Region.wanted
set_option linter.unusedVariables false
set_option maxRecDepth 100000
set_option maxHeartbeats 8000000
theorem SV(l:List Nat)(i k m:Nat)(h:k≤m)(hm:i+m≤8*l.length):BF l i m/2^(m-k)=BF l i k:=by
 unfold BF
 have e:((BK l).drop i).take m=((BK l).drop i).take k++((((BK l).drop i).drop k).take (m-k)):=by
  conv=>lhs;rw [show m=k+(m-k) by omega,List.take_add]
 have hl:((((BK l).drop i).drop k).take (m-k)).length=m-k:=by
  rw [List.length_take,List.length_drop,List.length_drop,CO];omega
 have hlt:=Gh ((((BK l).drop i).drop k).take (m-k))
 rw [e,DS]
 rw [hl] at hlt⊢
 rw [Nat.mul_comm,Nat.mul_add_div (Nat.two_pow_pos _),Nat.div_eq_of_lt hlt,Nat.add_zero]
theorem W8{L:List (Int×Nat×Nat)}(hG:Ci L)(l:List Nat)(i:Nat)(x:Int×Nat×Nat)(hx:x∈L)(hi:i+x.2.1≤8*l.length)(hb:BF l i x.2.1=x.2.2):
 ∀f d,d+f=16→d<x.2.1→GH L l i f d=(x.1,0,i+x.2.1):=by
 have hl:=hG.long x hx
 intro f
 induction f with
 | zero=>intro d h1 h2;omega
 | succ f ih=>
   intro d h1 h2
   rw [GH,if_neg (by omega)]
   cases hc:codW L (((d+1:Nat):Int),(BF l i (d+1):Int)) with
   | some s=>
     have hm:=Jw hc
     have e:=hG.pre _ hm x hx (by show d+1≤x.2.1;omega) (by show x.2.2/2^(x.2.1-(d+1))=BF l i (d+1);rw [←hb];exact SV l i (d+1) x.2.1 (by omega) hi)
     dsimp only
     have e1:s=x.1:=by rw [←e]
     have e2:d+1=x.2.1:=by rw [←e]
     rw [e1,e2]
   | none=>
     dsimp only
     refine ih (d+1) (by omega) ?_
     have hne:d+1≠x.2.1:=fun e=>by
      rw [e,hb] at hc
      rw [hG.codW hx] at hc;cases hc
     omega
theorem YU{L:List (Int×Nat×Nat)}(l:List Nat)(i:Nat):∀f d,(GH L l i f d).2.1=0→∃m,d<m∧m≤d+f∧(GH L l i f d).2.2=i+m∧i+m≤8*l.length∧((GH L l i f d).1,m,BF l i m)∈L:=by
 intro f
 induction f with
 | zero=>intro d h;exact absurd h (by show (4:Int)≠0;decide)
 | succ f ih=>
   intro d h
   rw [GH] at h⊢
   by_cases hs:8*l.length<i+(d+1)
   ·rw [if_pos hs] at h;exact absurd h (by show (3:Int)≠0;decide)
   rw [if_neg hs] at h⊢
   cases hc:codW L (((d+1:Nat):Int),(BF l i (d+1):Int)) with
   | some s=>exact ⟨d+1,by omega,by omega,rfl,by omega,Jw hc⟩
   | none=>
     rw [hc] at h
     obtain ⟨m,h1,h2,h3,h4,h5⟩:=ih (d+1) h
     exact ⟨m,by omega,by omega,h3,h4,h5⟩
theorem Yl{L:List (Int×Nat×Nat)}(hG:Ci L){x:Int×Nat×Nat}(hx:x∈L):wb L x.1=A2 x.2.1 x.2.2:=by
 unfold wb;rw [hG.symW hx]
end Go.Proofs.YtohacgmhmbijmaaGreatDoor
namespace Go.Proofs.YtohacgmhmbijmaaGreatDoor
attribute [local irreducible] Region.wanted
open Go.RowKit
set_option linter.unusedVariables false
set_option maxRecDepth 100000
set_option maxHeartbeats 8000000
theorem Zm(m0:Int)(w:World):(Instr.build 26 #[(0, .int .i64 m0)]).run Tryz.prog w= .ok (.agg (iv (((List.replicate 64 0).set 0 m0)))) w:=by kernel_rfl
structure bC(W:World)(σ:Type) where
 next:σ→Bool→CF×Int×σ
 res:σ→Au
 tid:TypeId
 ptr:Value
 f:FuncId
 inv:∀(b:Bool)(w:World),(invoke (.fn (.method "Token") #[]) [.iface tid ptr, .bool b].toArray).run Tryz.prog w= .ok (.enter f #[ptr, .bool b]) w
 call:∀(w:World)(rs rs':List Au)(s:σ)(b:Bool)(t0 t1 t2 er:Int)(s':σ),St W w rs→AT (res s) rs rs'→next s b=((t0,t1,t2),er,s')→
  Calls Tryz.prog f #[ptr, .bool b] w fun e w'=>e= .returned (.tuple #[.agg #[.int .i64 t0, .int .i64 t1, .int .i64 t2], .int .i64 er])∧St W w' (res s'::rs')
structure Ji(p:Prop):Prop where
 out:p
def BY:List Int:=List.replicate 64 0
theorem CR(w0:World)(e0:Int):Calls Tryz.prog 120 #[.int .i64 e0] w0 fun e w=>e= .returned (.tuple #[.agg (iv BY), .slice none 0 0, .int .i64 e0])∧Al w0 w:=by
 have hS:=St.start w0
 have hZ:Ap BY 64:=List.length_replicate
 go_enter Tryz.func120,Tryz.ntmps120
 repeat' (first
  | refine X0 ?_|(refine AS 5 ?_);(refine As AA (V.build (vs:=[]) rfl (YO)) ?_;go_step)|refine JL 2 ?_;clear hS;intro g2 w hS|refine Ew ?_;clear hS;intro w hS|refine AG ?_;go_step|fail)
 refine AM (xs:=[_,_,_]) rfl (.cons (AC.arr hS rfl (AP (n:=64) rfl) AJ) (.cons (AC.tmp rfl) (.cons (AC.tmp rfl) (.nil)))) (by simp) rfl ?_
 exact ⟨rfl,hS.1⟩
def OP(k v:Int):Bool:=decide (0≤k∧k≤12)&&decide (0≤v∧v<2^k.toNat)
theorem QX(k v:Int)(w:World)(h:OP k v=false):Calls Tryz.prog 121 #[.int .i64 k, .int .i64 v] w fun e w'=>e= .returned (.tuple #[.int .i64 0, .int .i64 1])∧w=w':=by
 by_cases hk:0≤k∧k≤12
 case neg=>
  have hk2:k<0∨12<k:=by omega
  clear hk h
  go_enter Tryz.func121,Tryz.ntmps121
  repeat' (first
   | go_skip|((first|(with_reducible refine JG ?_)|(with_reducible refine QW ?_));(first|go_big_want|go_step);go_step)|((with_reducible refine An _ (.pick _ _ _) ?_);first|(refine BJ rfl AA ?_;go_step)|(refine BC rfl AA ?_;go_step))|((refine AS 8 ?_);(refine Cg _ (V.lss rfl rfl) AA (fun hB=>?_) (fun hB=>?_)<;>(try exact AW)<;>go_step))|((refine AS 11 ?_);(refine Cg _ (V.gtr rfl rfl) AA (fun hB=>?_) (fun hB=>?_)<;>(try exact AW)<;>go_step))|(refine AG ?_;go_step)|fail)
  all_goals (try exact AW)
  all_goals
   refine AM (xs:=[_,_]) rfl (.cons (AC.tmp rfl) (.cons (AC.tmp rfl) (.nil))) (by simp) rfl ?_
   exact ⟨rfl,rfl⟩
 obtain ⟨n,rfl⟩:∃n:Nat,k=(n:Int):=⟨k.toNat,by omega⟩
 obtain ⟨p,hp⟩:∃p,2^n=p:=⟨_,rfl⟩
 have HP:Hid ((2:Int)^n=(p:Int)):=AD (by rw [←hp];push_cast;rfl)
 have hp2:p≤4096:=by rw [←hp];exact Nat.pow_le_pow_right (n:=2) (j:=12) (by omega) (by omega)
 have hv:v<0∨(p:Int)≤v:=by
  unfold OP at h
  rw [decide_eq_true hk,Bool.true_and,decide_eq_false_iff_not,Int.toNat_natCast,HP.out] at h
  omega
 clear h hp
 go_enter Tryz.func121,Tryz.ntmps121
 repeat' (first
  | (refine AS 20 ?_);(refine Ak (.int _ (((p:Nat):Int))) (V.as (V.shl1 rfl rfl BI (by omega)) (by exact HP.out)) (by kernel_rfl) ?_;go_step)|go_skip|refine X0 ?_|refine IL ?_|refine EN 8 ?_ ?_<;>intro hB<;>(try exact AW)<;>go_step|refine JM 11 ?_ ?_<;>intro hB<;>(try exact AW)<;>go_step|refine EN 15 ?_ ?_<;>intro hB<;>(try exact AW)<;>go_step|refine WE ?_|refine AG ?_;go_step|fail)
 all_goals (try exact AW)
 all_goals
  refine AM (xs:=[_,_]) rfl (.cons (AC.tmp rfl) (.cons (AC.tmp rfl) (.nil))) (by simp) rfl ?_
  exact ⟨rfl,rfl⟩
theorem Cn(k v:Int)(w:World)(h:OP k v=true):Calls Tryz.prog 121 #[.int .i64 k, .int .i64 v] w fun e w'=>e= .returned (.tuple #[.int .i64 (Df k.toNat v.toNat), .int .i64 0])∧w=w':=by
 unfold OP at h
 simp only [Bool.and_eq_true,decide_eq_true_eq] at h
 obtain ⟨n,rfl⟩:∃n:Nat,k=(n:Int):=⟨k.toNat,by omega⟩
 obtain ⟨m,rfl⟩:∃m:Nat,v=(m:Int):=⟨v.toNat,by omega⟩
 rw [Int.toNat_natCast,Int.toNat_natCast]
 refine Mq n m w (by omega) ?_
 have h2:=h.2.2
 rw [Int.toNat_natCast] at h2
 have:((m:Int))<((2^n:Nat):Int):=by push_cast;exact h2
 omega
theorem Ur(k v:Nat)(h:v<2^k): -(2^k:Nat)<Df k v∧Df k v<(2^k:Nat):=by
 unfold Df
 split<;>omega
theorem JV(t0 t1 t2:Int)(h:OP t1 t2=true): -4096<Cw (t0,t1,t2)∧Cw (t0,t1,t2)<4096∧(t1≤11→ -2048<Cw (t0,t1,t2)∧Cw (t0,t1,t2)<2048):=by
 unfold OP at h
 simp only [Bool.and_eq_true,decide_eq_true_eq] at h
 obtain ⟨n,rfl⟩:∃n:Nat,t1=(n:Int):=⟨t1.toNat,by omega⟩
 obtain ⟨m,rfl⟩:∃m:Nat,t2=(m:Int):=⟨t2.toNat,by omega⟩
 rw [Int.toNat_natCast] at h
 have h2:m<2^n:=by
  have:((m:Int))<((2^n:Nat):Int):=by push_cast;exact h.2.2
  omega
 have h3:=Ur n m h2
 unfold Cw
 dsimp only
 rw [Int.toNat_natCast,Int.toNat_natCast]
 have h4:2^n≤4096:=Nat.pow_le_pow_right (n:=2) (j:=12) (by omega) (by omega)
 refine ⟨by omega,by omega,fun h5=>?_⟩
 have h6:2^n≤2048:=Nat.pow_le_pow_right (n:=2) (j:=11) (by omega) (by omega)
 omega
theorem QY(t0 t1 t2:Int):K5 (t0,t1,t2)=true↔OP t1 t2=false∨11<t1∨t0<0∨255<t0∨t1≠t0%16∨(t1=0∧t0≠0∧t0≠240):=by
 unfold K5 OP
 dsimp only
 generalize hB:(decide (0≤t2∧t2<2^t1.toNat))=B
 clear hB
 cases B
 ·simp
 rw [Bool.and_true,Bool.and_true,Bool.not_eq_true']
 rw [show (decide (0≤t1∧t1≤11)&&decide (0≤t0∧t0≤255)&&decide (t1=t0%16)&&(decide (t1≠0)||decide (t0=0∨t0=240)))=decide ((0≤t1∧t1≤11)∧(0≤t0∧t0≤255)∧t1=t0%16∧(t1≠0∨t0=0∨t0=240)) by
  rw [Bool.eq_iff_iff];simp only [Bool.and_eq_true,Bool.or_eq_true,decide_eq_true_eq];omega]
 rw [decide_eq_false_iff_not,decide_eq_false_iff_not]
 omega
theorem TZ(t0:Int)(h:0≤t0∧t0≤255):bits .and .i64 t0 15=t0%16:=by
 obtain ⟨n,rfl⟩:∃n:Nat,t0=(n:Int):=⟨t0.toNat,by omega⟩
 rw [show (15:Int)=((15:Nat):Int) from rfl,bits_and_i64_nat n 15 (by omega) (by omega)]
 rw [show (15:Nat)=2^4-1 from rfl,Nat.and_two_pow_sub_one_eq_mod]
 omega
theorem Kw(l:List Int)(h:∀i,i<64→ -2047≤AK l i∧AK l i≤2047)(j:Nat)(hj:j<64): -2047≤AK (CX l) j∧AK (CX l) j≤2047:=by
 obtain ⟨h1,h2⟩:=Rf j hj
 have h3:=NI l 64 (by omega) _ h1
 rw [h2] at h3
 have h4:AK (CX l) j=AK l (O5.idxOf j):=h3
 rw [h4];exact h _ h1
def IF{W:World}{σ:Type}(Z:bC W σ)(before:Int)(s0:σ)(rs':List Au)(e:Ending)(w:World):Prop:=
 ∃ad c,e= .returned (.tuple #[.agg (iv (DM Z.next before s0).2.1), .slice ad (DM Z.next before s0).2.2.1.length c, .int .i64 (DM Z.next before s0).1])∧
  St W w (own 155 3 ad (DM Z.next before s0).2.2.1.length c ((EI (DM Z.next before s0).2.2.1).map (Value.int .i64))::Z.res (DM Z.next before s0).2.2.2::rs')
theorem Cr{W w:World}{σ:Type}{Z:bC W σ}{before:Int}{s0 s1:σ}{rs' rs:List Au}(E:Int)(h:DM Z.next before s0=(E,BY,[],s1))(hS:St W w rs)(hp:NV (Z.res s1::rs') rs):
 IF Z before s0 rs' (.returned (.tuple #[.agg (iv BY), .slice none 0 0, .int .i64 E])) w:=by
 refine ⟨none,0,by rw [h];rfl,?_⟩
 rw [h]
 exact (hS.sub hp).nil _ _
theorem T7{W:World}{σ:Type}(Z:bC W σ)(w0:World)(rs rs':List Au)(s0:σ)(before:Int)(hb: -2047≤before∧before≤2047)(hS:St W w0 rs)(hp:AT (Z.res s0) rs rs')(hbad:¬((Z.next s0 true).2.1=0∧Bk before (Z.next s0 true).1=true)):
 Calls Tryz.prog 88 #[.int .i64 before, .iface Z.tid Z.ptr] w0 (IF Z before s0 rs'):=by
 replace hS:=hS.pull hp
 have hbad:=Ji.mk hbad
 have hZ0:Ap BY 64:=List.length_replicate
 clear hp
 obtain ⟨⟨⟨t0,t1,t2⟩,er,s1⟩,hn⟩:∃x,Z.next s0 true=x:=⟨_,rfl⟩
 by_cases he:er=0
 case neg=>
  have HF:Hid (DM Z.next before s0=(er,BY,[],s1)):=AD (by unfold DM;rw [hn];exact if_pos he)
  have HN:=AD hn
  clear hn
  go_enter Tryz.func88,Tryz.ntmps88
  repeat' (first
   | (refine AS 19 ?_);refine Ag ?_;refine B4 rfl (.iface Z.tid Z.ptr) rfl [.bool true] rfl Z.f #[Z.ptr, .bool true] (Z.inv true) (Z.call _ _ _ s0 true _ _ _ _ _ hS AJ HN.out) ?_;clear hS;rintro e w ⟨rfl,hS⟩;refine Ae ?_;go_step|(refine AS 26 ?_);refine Ag ?_;refine BQ (f:=120) rfl rfl Tryz.call120 (CR _ _) ?_;rintro e w ⟨rfl,hE⟩;replace hS:=hS.ext hE;clear hE;refine Ae ?_;go_step|refine X0 ?_|refine X6 ?_|refine X3 ?_|refine JL 4 ?_;clear hS;intro g4 w hS|refine II 8 ?_;clear hS;intro g8 w hS|refine H9 ?_;clear hS;intro w hS|refine Ew ?_;clear hS;intro w hS|refine AG ?_;go_step|fail)
  refine AM (xs:=[_,_,_]) rfl (.cons (AC.arr hS rfl (AP (n:=64) rfl) AJ) (.cons (AC.tmp rfl) (.cons (AC.tmp rfl) (.nil)))) (by simp) rfl ?_
  exact Cr er HF.out hS AV
 subst he
 have HN:=AD hn
 obtain ⟨F,hF⟩:∃F,Bk before (t0,t1,t2)=F:=⟨_,rfl⟩
 by_cases hB:OP t1 t2=true
 case neg=>
  have hB2:OP t1 t2=false:=by simpa using hB
  have HF:Hid (DM Z.next before s0=(4,BY,[],s1)):=AD (by
   have:Bk before (t0,t1,t2)=false:=by
    unfold Bk;dsimp only
    rw [show (decide (0≤t1∧t1≤12)&&decide (0≤t2∧t2<2^t1.toNat))=false from hB2];rfl
   unfold DM;rw [hn]
   rw [if_neg (by simp),if_pos this];rfl)
  clear hn hF hB
  go_enter Tryz.func88,Tryz.ntmps88
  repeat' (first
   | (refine AS 19 ?_);refine Ag ?_;refine B4 rfl (.iface Z.tid Z.ptr) rfl [.bool true] rfl Z.f #[Z.ptr, .bool true] (Z.inv true) (Z.call _ _ _ s0 true _ _ _ _ _ hS AJ HN.out) ?_;clear hS;rintro e w ⟨rfl,hS⟩;refine Ae ?_;go_step|(refine AS 37 ?_);refine AN (f:=121) Tryz.call121 AA ?_;refine ⟨_,(QX t1 t2 _ hB2),?_⟩;rintro e w' ⟨rfl,rfl⟩;refine Ae ?_;go_step|(refine AS 57 ?_);refine Ag ?_;refine BQ (f:=120) rfl rfl Tryz.call120 (CR _ _) ?_;rintro e w ⟨rfl,hE⟩;replace hS:=hS.ext hE;clear hE;refine Ae ?_;go_step|go_skip|refine X0 ?_|refine FJ ?_|refine Es 41 ?_ ?_<;>intro hB<;>(try exact AW)<;>go_step|refine X6 ?_|refine X3 ?_|refine QS ?_|refine Zb ?_|refine JL 4 ?_;clear hS;intro g4 w hS|refine II 8 ?_;clear hS;intro g8 w hS|refine H9 ?_;clear hS;intro w hS|refine Ew ?_;clear hS;intro w hS|refine QT ?_|refine QR 31 ?_;clear hS;intro g31 w hS|refine X9 ?_|refine AG ?_;go_step|fail)
  all_goals (try exact AW)
  refine AM (xs:=[_,_,_]) rfl (.cons (AC.arr hS rfl (AP (n:=64) rfl) AJ) (.cons (AC.tmp rfl) (.cons (AC.tmp rfl) (.nil)))) (by simp) rfl ?_
  exact Cr 4 HF.out hS AV
 obtain ⟨n,hnum⟩:∃n,Cw (t0,t1,t2)=n:=⟨_,rfl⟩
 have hnb:=JV t0 t1 t2 hB
 rw [hnum] at hnb
 obtain ⟨hn1,hn2,_⟩:=hnb
 have HNum:Hid (Df t1.toNat t2.toNat=n):=AD hnum
 obtain ⟨q,hq⟩:∃q,Vo (before+n)=q:=⟨_,rfl⟩
 have HQ:=AD hq
 by_cases hok:t0=t1∧q=true
 case neg=>
  have HF:Hid (DM Z.next before s0=(4,BY,[],s1)):=AD (by
   have:Bk before (t0,t1,t2)=false:=by
    unfold Bk;rw [hnum];dsimp only
    by_cases h1:t0=t1
    ·rw [show decide (-2047≤before+n∧before+n≤2047)=false from decide_eq_false (fun h=>hok ⟨h1,by rw [←hq];exact (Fz _).2 h⟩)];simp
    rw [decide_eq_false h1];simp
   unfold DM;rw [hn]
   rw [if_neg (by simp),if_pos this];rfl)
  clear hn hF hnum hq
  by_cases h1:t0=t1
  case pos=>
   obtain rfl:q=false:=by cases q<;>simp_all
   clear hok
   go_enter Tryz.func88,Tryz.ntmps88
   repeat' (first
    | (refine AS 19 ?_);refine Ag ?_;refine B4 rfl (.iface Z.tid Z.ptr) rfl [.bool true] rfl Z.f #[Z.ptr, .bool true] (Z.inv true) (Z.call _ _ _ s0 true _ _ _ _ _ hS AJ HN.out) ?_;clear hS;rintro e w ⟨rfl,hS⟩;refine Ae ?_;go_step|(refine AS 37 ?_);refine AN (f:=121) Tryz.call121 AA ?_;refine ⟨_,(Cn t1 t2 _ hB),?_⟩;rintro e w' ⟨rfl,rfl⟩;rw [HNum.out];refine Ae ?_;go_step|(refine A3 122 ?_);refine A4 AA Tryz.call122 (DQ (before+n) _) ?_;rintro e w' ⟨rfl,rfl⟩;rw [HQ.out];refine Ae ?_;go_step|(refine AS 57 ?_);refine Ag ?_;refine BQ (f:=120) rfl rfl Tryz.call120 (CR _ _) ?_;rintro e w ⟨rfl,hE⟩;replace hS:=hS.ext hE;clear hE;refine Ae ?_;go_step|refine X0 ?_|refine Gz ?_|refine Es 41 ?_ ?_<;>intro hB<;>(try exact AW)<;>go_step|refine Es 47 ?_ ?_<;>intro hB<;>(try exact AW)<;>go_step|refine X6 ?_|refine X3 ?_|refine QS ?_|refine Zb ?_|refine bm ?_|refine X7 ?_|refine NW ?_|refine JL 4 ?_;clear hS;intro g4 w hS|refine II 8 ?_;clear hS;intro g8 w hS|refine H9 ?_;clear hS;intro w hS|refine Ew ?_;clear hS;intro w hS|refine QT ?_|refine QR 31 ?_;clear hS;intro g31 w hS|refine X9 ?_|refine AG ?_;go_step|fail)
   all_goals (try exact AW)
   refine AM (xs:=[_,_,_]) rfl (.cons (AC.arr hS rfl (AP (n:=64) rfl) AJ) (.cons (AC.tmp rfl) (.cons (AC.tmp rfl) (.nil)))) (by simp) rfl ?_
   exact Cr 4 HF.out hS AV
  case neg=>
   clear hok
   go_enter Tryz.func88,Tryz.ntmps88
   repeat' (first
    | (refine AS 19 ?_);refine Ag ?_;refine B4 rfl (.iface Z.tid Z.ptr) rfl [.bool true] rfl Z.f #[Z.ptr, .bool true] (Z.inv true) (Z.call _ _ _ s0 true _ _ _ _ _ hS AJ HN.out) ?_;clear hS;rintro e w ⟨rfl,hS⟩;refine Ae ?_;go_step|(refine AS 37 ?_);refine AN (f:=121) Tryz.call121 AA ?_;refine ⟨_,(Cn t1 t2 _ hB),?_⟩;rintro e w' ⟨rfl,rfl⟩;rw [HNum.out];refine Ae ?_;go_step|(refine AS 57 ?_);refine Ag ?_;refine BQ (f:=120) rfl rfl Tryz.call120 (CR _ _) ?_;rintro e w ⟨rfl,hE⟩;replace hS:=hS.ext hE;clear hE;refine Ae ?_;go_step|go_skip|refine X0 ?_|refine IL ?_|refine Es 41 ?_ ?_<;>intro hB<;>(try exact AW)<;>go_step|refine Es 47 ?_ ?_<;>intro hB<;>(try exact AW)<;>go_step|refine X6 ?_|refine X3 ?_|refine QS ?_|refine Zb ?_|refine bm ?_|refine JL 4 ?_;clear hS;intro g4 w hS|refine II 8 ?_;clear hS;intro g8 w hS|refine H9 ?_;clear hS;intro w hS|refine Ew ?_;clear hS;intro w hS|refine QT ?_|refine QR 31 ?_;clear hS;intro g31 w hS|refine X9 ?_|refine AG ?_;go_step|fail)
   all_goals (try exact AW)
   refine AM (xs:=[_,_,_]) rfl (.cons (AC.arr hS rfl (AP (n:=64) rfl) AJ) (.cons (AC.tmp rfl) (.cons (AC.tmp rfl) (.nil)))) (by simp) rfl ?_
   exact Cr 4 HF.out hS AV
 obtain ⟨rfl,rfl⟩:=hok
 have hco:=(Fz _).1 hq
 have HFirst:Hid (Bk before (t0,t0,t2)=true):=AD (by
  unfold Bk;rw [hnum];dsimp only
  rw [show (decide (0≤t0∧t0≤12)&&decide (0≤t2∧t2<2^t0.toNat))=true from hB,decide_eq_true (rfl:t0=t0),decide_eq_true hco];rfl)
 exact absurd ⟨by rw [hn],by rw [hn];exact HFirst.out⟩ hbad.out
end Go.Proofs.YtohacgmhmbijmaaGreatDoor
