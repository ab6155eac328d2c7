/- What the laws RescueHurt need, part 8. -/
import Derived.Test.YtohacgmhmbijmaaGreatDoorBaseHZ2
import Derived.Test.YtohacgmhmbijmaaGreatDoorBaseHZ3
import Derived.Test.YtohacgmhmbijmaaGreatDoorBaseHZ5
import Derived.Test.YtohacgmhmbijmaaGreatDoorBaseHZ6
import Derived.Test.YtohacgmhmbijmaaGreatDoorBaseHZ7
namespace Go.Proofs.YtohacgmhmbijmaaGreatDoor
attribute [local irreducible] Region.wanted
open Go.RowKit
set_option linter.unusedVariables false
set_option maxRecDepth 100000
set_option maxHeartbeats 8000000
theorem J9:Dg []=[]:=rfl
theorem Dy(x:Int)(l:List Int):Dg (x::l)=(if x=255 then [255,0] else [x])++Dg l:=by simp [Dg,Hl]
theorem J7:∀(a b:List Int),Dg a=Dg b→a=b
 | [],[],_=>rfl
 | [],y::b,h=>by rw [J9,Dy] at h;split at h<;>simp at h
 | x::a,[],h=>by rw [J9,Dy] at h;split at h<;>simp at h
 | x::a,y::b,h=>by
   rw [Dy,Dy] at h
   by_cases hx:x=255
   ·by_cases hy:y=255
    ·rw [if_pos hx,if_pos hy] at h
     simp only [List.cons_append,List.nil_append,List.cons.injEq,true_and] at h
     rw [hx,hy,J7 a b h]
    rw [if_pos hx,if_neg hy] at h
    simp only [List.cons_append,List.nil_append,List.cons.injEq] at h
    exact absurd h.1.symm hy
   by_cases hy:y=255
   ·rw [if_neg hx,if_pos hy] at h
    simp only [List.cons_append,List.nil_append,List.cons.injEq] at h
    exact absurd h.1 hx
   rw [if_neg hx,if_neg hy] at h
   simp only [List.cons_append,List.nil_append,List.cons.injEq] at h
   rw [h.1,J7 a b h.2]
theorem IY:∀(c:List Int)(o:List (List Int))(m p:List Int),Df (Dg c) o m p=some (o++[p++Dg c],m)
 | [],o,m,p=>by rw [J9,Df,List.append_nil]
 | x::c,o,m,p=>by
   rw [Dy]
   by_cases h:x=255
   ·subst h
    rw [if_pos rfl,Df.eq_def]
    simp only [List.cons_append,List.nil_append,if_true]
    rw [if_neg (by decide),IY c]
    simp
   rw [if_neg h,Df.eq_def]
   simp only [List.cons_append,List.nil_append]
   rw [if_neg h,IY c]
   simp
theorem IX:∀(k:Nat)(b:List Int)(o:List (List Int))(m p:List Int)(ps:List (List Int))(ms:List Int),b.length≤k→Df b o m p=some (ps,ms)→
 ∃(q:List Int) (r:List (Int×List Int)),ps=o++((p++q)::r.map (·.2))∧ms=m++r.map (·.1)∧b=q++r.flatMap (fun y=>255::y.1::y.2)∧(∃c,q=Dg c)∧∀y∈r,y.1≠0∧y.1≠255∧∃c,y.2=Dg c
 | k,[],o,m,p,ps,ms,hk,h=>by
   rw [Df] at h
   cases h
   exact ⟨[],[],by simp,by simp,by simp,⟨[],rfl⟩,fun y hy=>by cases hy⟩
 | 0,x::b,o,m,p,ps,ms,hk,h=>by simp at hk
 | k+1,x::b,o,m,p,ps,ms,hk,h=>by
   rw [Df.eq_def] at h
   dsimp only at h
   by_cases hx:x=255
   ·rw [if_pos hx] at h
    cases b with
    | nil=>cases h
    | cons y b=>
      dsimp only at h
      by_cases h1:y=255
      ·rw [if_pos h1] at h;cases h
      rw [if_neg h1] at h
      by_cases h2:y=0
      ·rw [if_pos h2] at h
       obtain ⟨q,r,e1,e2,e3,⟨c,e4⟩,e5⟩:=IX k b _ _ _ _ _ (by simp at hk;omega) h
       refine ⟨255::0::q,r,by rw [e1];simp,e2,by rw [hx,h2,e3];simp,⟨255::c,by rw [Dy,if_pos rfl,e4];rfl⟩,e5⟩
      rw [if_neg h2] at h
      obtain ⟨q,r,e1,e2,e3,e4,e5⟩:=IX k b _ _ _ _ _ (by simp at hk;omega) h
      refine ⟨[],(y,q)::r,by rw [e1];simp,by rw [e2];simp,by rw [hx,e3];simp,⟨[],rfl⟩,fun z hz=>?_⟩
      rcases List.mem_cons.1 hz with rfl|hz
      ·exact ⟨h2,h1,e4⟩
      exact e5 z hz
   rw [if_neg hx] at h
   obtain ⟨q,r,e1,e2,e3,⟨c,e4⟩,e5⟩:=IX k b _ _ _ _ _ (by simp at hk;omega) h
   exact ⟨x::q,r,by rw [e1];simp,e2,by rw [e3];simp,⟨x::c,by rw [Dy,if_neg hx,e4];rfl⟩,e5⟩
theorem T2{b:List Int}{ps:List (List Int)}(h:Df b [] [] []=some (ps,[])):∃c,b=Dg c:=by
 obtain ⟨q,r,e1,e2,e3,⟨c,e4⟩,e5⟩:=IX b.length b _ _ _ _ _ (Nat.le_refl _) h
 have hr:r=[]:=by
  have:=congrArg List.length e2
  simp at this
  exact List.eq_nil_of_length_eq_zero (by omega)
 subst hr
 exact ⟨c,by rw [e3,e4];simp⟩
theorem Rd{x:Int}(hx:0≤x∧x<256)(h:x≠255):((255:UInt8)==UInt8.ofNat x.toNat)=false:=by
 rw [beq_eq_false_iff_ne]
 intro e
 have:=congrArg UInt8.toNat e
 simp at this
 omega
theorem b6:∀(p T:List Int),(∀x∈p,0≤x∧x<256)→(255:Int)∉p→Lib.index (Lib.bytesOf (p++255::0::T)) (Lib.bytesOf [255,0])=(p.length:Nat)
 | [],T,_,_=>by
   simp only [List.nil_append,Lib.bytesOf,List.map_cons,List.map_nil]
   unfold Lib.index
   rw [if_pos (by simp [List.isPrefixOf])]
   rfl
 | x::p,T,h,hn=>by
   have ih:=b6 p T (fun y hy=>h y (by simp [hy])) (fun e=>hn (by simp [e]))
   have hx:x≠255:=fun e=>hn (by simp [e])
   have hb:=Rd (h x (by simp)) hx
   simp only [List.cons_append,Lib.bytesOf,List.map_cons,List.map_nil] at ih⊢
   unfold Lib.index
   rw [if_neg,ih,if_neg]
   ·simp
   ·simp
   simp only [List.isPrefixOf]
   have:(UInt8.ofNat (Int.toNat 255)==UInt8.ofNat x.toNat)=false:=hb
   rw [this];simp
theorem SA:∀(p:List Int),(∀x∈p,0≤x∧x<256)→(255:Int)∉p→Lib.index (Lib.bytesOf p) (Lib.bytesOf [255,0])= -1
 | [],_,_=>rfl
 | x::p,h,hn=>by
   have ih:=SA p (fun y hy=>h y (by simp [hy])) (fun e=>hn (by simp [e]))
   have hx:x≠255:=fun e=>hn (by simp [e])
   have hb:=Rd (h x (by simp)) hx
   simp only [Lib.bytesOf,List.map_cons,List.map_nil] at ih⊢
   unfold Lib.index
   rw [if_neg,ih]
   ·rfl
   simp only [List.isPrefixOf]
   have:(UInt8.ofNat (Int.toNat 255)==UInt8.ofNat x.toNat)=false:=hb
   rw [this];simp
theorem d8:∀(ps:List (List Int))(last:List Int)(f:Nat),(∀p∈ps,(∀x∈p,0≤x∧x<256)∧(255:Int)∉p)→(∀x∈last,0≤x∧x<256)→(255:Int)∉last→ps.length<f→
 Lib.countFrom (Lib.bytesOf [255,0]) f (Lib.bytesOf (ps.flatMap (· ++[255,0])++last))=ps.length
 | _,_,0,_,_,_,hf=>by omega
 | [],last,f+1,_,h1,h2,_=>by
   simp only [List.flatMap_nil,List.nil_append]
   rw [Lib.countFrom,SA last h1 h2];rfl
 | p::ps,last,f+1,h,h1,h2,hf=>by
   obtain ⟨k1,k2⟩:=h p (by simp)
   have e:(p::ps).flatMap (· ++[255,0])++last=p++255::0::(ps.flatMap (· ++[255,0])++last):=by simp
   have e2:(Lib.bytesOf (p++255::0::(ps.flatMap (· ++[255,0])++last))).drop (((p.length:Nat):Int).toNat+(Lib.bytesOf [255,0]).length)=Lib.bytesOf (ps.flatMap (· ++[255,0])++last):=by
    have e0:p.length+2=(Lib.bytesOf (p++[255,0])).length:=by simp [Lib.bytesOf]
    have e3:p++255::0::(ps.flatMap (· ++[255,0])++last)=(p++[255,0])++(ps.flatMap (· ++[255,0])++last):=by simp
    have e4:∀a b:List Int,Lib.bytesOf (a++b)=Lib.bytesOf a++Lib.bytesOf b:=fun a b=>by simp [Lib.bytesOf]
    rw [Int.toNat_natCast,show (Lib.bytesOf [255,0]).length=2 from rfl,e0,e3,e4 (p++[255,0]),List.drop_left' rfl]
   rw [e,Lib.countFrom,b6 p _ k1 k2,e2,if_neg (by simp),d8 ps last f (fun q hq=>h q (by simp [hq])) h1 h2 (by simp at hf;omega),List.length_cons]
   omega
theorem ZL(b:Int):∀(l:List Int),(∀x∈l,0≤x∧x<256)→(∀p∈(Gs b l).1,∀x∈p,0≤x∧x<256)∧(∀x∈(Gs b l).2,0≤x∧x<256)∧b∉(Gs b l).2:=by
 intro l h
 obtain ⟨h1,_,h3,h4⟩:=IW b [] l
 have hm:∀p∈(Gs b l).1,∀x∈p,x∈l:=fun p hp x hx=>by
  rw [←h1];exact List.mem_append_left _ (List.mem_flatMap.2 ⟨p,hp,List.mem_append_left _ hx⟩)
 refine ⟨fun p hp x hx=>h x (hm p hp x hx),fun x hx=>h x (by rw [←h1];exact List.mem_append_right _ hx),fun hb=>?_⟩
 have hc:=congrArg (List.count b) h1
 rw [List.count_append] at hc
 have e:∀ps:List (List Int),(∀p∈ps,b∉p)→(ps.flatMap (· ++[b])).count b=ps.length:=by
  intro ps
  induction ps with
  | nil=>intro _;rfl
  | cons p ps ih=>
    intro hp
    rw [List.flatMap_cons,List.count_append,List.count_append,ih fun q hq=>hp q (by simp [hq]),List.count_eq_zero.2 (hp p (by simp)),List.length_cons]
    simp;omega
 rw [e _ h4,h3] at hc
 have:=List.count_pos_iff.2 hb
 omega
theorem MM{w w':World}(h:∃q,w'=w.drewN q):Ai w w':=by obtain ⟨q,rfl⟩:=h;exact (Ai.refl w).drewN
theorem OT{w:World}{a:Addr}{n c k:Nat}{xs:List Int}(hv:Sl w 1 (.slice (some a) n c) n (xs.map (Value.int .u8))):n≤c∧c≤9223372036854775807:=by
 obtain ⟨_,_,_,e,h1,h2,_⟩:=hv
 cases e
 unfold maxLen at h2
 exact ⟨h1,h2⟩
theorem Pq(w0:World)(a:Option Addr)(g1 g2:Nat)(n c:Nat)(xs cc:List Int)(hs:Sl w0 1 (.slice a n c) n (xs.map (Value.int .u8)))(hnil:a=none→c=0)(he:xs=Dg cc)
 (ho:Sl w0 1 (.slice (some ⟨g1,0,none⟩) 2 2) 2 (([255,0]:List Int).map (Value.int .u8))) (hw:Sl w0 1 (.slice (some ⟨g2,0,none⟩) 1 1) 1 (([255]:List Int).map (Value.int .u8)))
 (hx:∀x∈xs,0≤x∧x<256) (hb1:n≤1000000000) (hml:∃m,w0.cell? ⟨0,0,none⟩=some (.int .i64 m)):
 Calls Tryz.prog 119 #[.slice a n c, .slice (some ⟨g1,0,none⟩) 2 2, .slice (some ⟨g2,0,none⟩) 1 1] w0 fun e w=>∃(ao:Option Addr) (c':Nat),e= .returned (.slice ao cc.length c')∧St w0 w [own 5 1 ao cc.length c' (cc.map (Value.int .u8))]:=by
 obtain ⟨ml,hml⟩:=hml
 have hxc:∀x∈cc,0≤x∧x<256:=fun x hxm=>by
  by_cases h:x=255
  ·omega
  refine hx x ?_
  rw [he,Dg,Hl,List.mem_flatMap]
  exact ⟨x,hxm,by rw [if_neg h];simp⟩
 obtain ⟨h1,h2,h3,h4⟩:=IW 255 [255,0] cc
 obtain ⟨r1,r2,r3⟩:=ZL 255 cc hxc
 obtain ⟨ps,He⟩:∃ps,(Gs 255 cc).1=ps:=⟨_,rfl⟩
 obtain ⟨last,hlast⟩:∃l,(Gs 255 cc).2=l:=⟨_,rfl⟩
 rw [He,hlast] at h1 h2
 rw [He] at h3 h4 r1
 rw [hlast] at r2 r3
 have h2':ps.flatMap (· ++[255,0])++last=xs:=by rw [he];exact h2
 have h5:=h2'
 rw [←SO] at h1 h2'
 have hln:xs.length=n:=by have:=hs.1;simpa using this
 have hadd:∀(g i:Nat),((⟨g,0,none⟩:Addr).add i)=⟨g,0+i,none⟩:=fun g i=>Addr.add_mid ..
 have hmem:∀k (h:k<ps.length),∃T,xs.drop (pre [255,0] ps k).length=ps[k]++255::0::T:=fun k h=>by
  obtain ⟨T,hT⟩:=I7 [255,0] ps k ps.length rfl h
  refine ⟨T++last,?_⟩
  rw [←h2',hT,List.append_assoc,List.drop_left' rfl]
  simp
 have hpl:ps.length≤n:=by
  have hq:∀qs:List (List Int),qs.length≤(qs.flatMap (· ++[255,0])).length:=fun qs=>by
   induction qs with
   | nil=>exact Nat.le_refl _
   | cons q qs ih=>rw [List.flatMap_cons,List.length_append,List.length_append,List.length_cons,List.length_cons];omega
  have:=hq ps
  have e:=congrArg List.length h5
  rw [List.length_append] at e
  omega
 have HC:By (∀w,Ai w0 w→Calls Tryz.prog 141 #[.slice a n c, .slice (some ⟨g1,0,none⟩) 2 2] w fun e w'=>e= .returned (.int .i64 (ps.length:Nat))∧Ai w w'):=⟨fun w hE=>by
  cases a with
  | none=>
    have hc0:=hnil rfl
    subst hc0
    have hn0:n=0:=by obtain ⟨_,_,_,h1,h2,_⟩:=hs;cases h1;omega
    subst hn0
    have:ps.length=0:=by omega
    rw [this]
    exact (Tryz.bytes_Count_nil (some ⟨g1,0,none⟩) 2 2 w (by decide) (by decide)).mono fun e w' ⟨e1,e2⟩=>⟨e1,e2▸ Ai.refl _⟩
  | some a=>
    obtain ⟨c1,c2⟩:=OT (k:=0) (hs.ext hE)
    refine (Tryz.bytes_Count_at a ⟨g1,0,none⟩ n c 2 2 xs [255,0] ml w hln rfl hx (by intro y hy;simp at hy;rcases hy with rfl|rfl<;>omega) (GR (hs.ext hE)) (GR (ho.ext hE)) c1 (by omega) (by decide) (by decide) (hE.cell hml)).mono fun e w' ⟨e1,e2⟩=>⟨?_,MM e2⟩
    rw [e1]
    have:Lib.count (Lib.bytesOf xs) (Lib.bytesOf [255,0])=ps.length:=by
     rw [←h5,Lib.count]
     refine d8 ps last _ (fun p hp=>⟨r1 p hp,h4 p hp⟩) r2 r3 ?_
     rw [h5];simp [Lib.bytesOf];omega
    rw [this]⟩
 have HI:By (∀k (h:k<ps.length) w,Ai w0 w→Calls Tryz.prog 142 #[.slice (cutAt a c (pre [255,0] ps k).length 1) (n-(pre [255,0] ps k).length) (c-(pre [255,0] ps k).length), .slice (some ⟨g1,0,none⟩) 2 2] w fun e w'=>e= .returned (.int .i64 (ps[k].length:Nat))∧Ai w w'):=⟨fun k h w hE=>by
  obtain ⟨T,hT⟩:=hmem k h
  have hle:(pre [255,0] ps k).length≤n:=by
   have:=Nd [255,0] ps k ps.length (by omega)
   have h6:=congrArg List.length h2'
   rw [List.length_append] at h6
   omega
  have hsl:=(hs.ext hE).cutAt (pre [255,0] ps k).length n hle (Nat.le_refl _)
  have h6:((xs.map (Value.int .u8)).drop ((pre [255,0] ps k).length*1)).take ((n-(pre [255,0] ps k).length)*1)=(ps[k]++255::0::T).map (Value.int .u8):=by
   rw [Nat.mul_one,Nat.mul_one,←List.map_drop,←List.map_take,List.take_of_length_le (by rw [List.length_drop];omega),hT]
  rw [h6] at hsl
  have hlen:=hsl.1
  have hrng:∀x∈ps[k]++255::0::T,0≤x∧x<256:=fun x hxm=>hx x (by rw [←hT] at hxm;exact List.mem_of_mem_drop hxm)
  cases hca:cutAt a c (pre [255,0] ps k).length 1 with
  | none=>
    rw [hca] at hsl
    obtain ⟨_,_,_,k1,k2,k3,k4⟩:=hsl
    cases k1
    rcases k4 with k4|⟨_,_,k4,_⟩
    ·simp at hlen;omega
    cases k4
  | some a1=>
    rw [hca] at hsl
    obtain ⟨c1,c2⟩:=OT (k:=0) hsl
    refine (Tryz.bytes_Index_at a1 ⟨g1,0,none⟩ _ _ 2 2 (ps[k]++255::0::T) [255,0] ml w (by simpa using hlen) rfl hrng (by intro y hy;simp at hy;rcases hy with rfl|rfl<;>omega) (GR hsl) (GR (ho.ext hE)) c1 (by omega) (by decide) (hE.cell hml)).mono fun e w' ⟨e1,e2⟩=>⟨?_,MM e2⟩
    rw [e1,b6 ps[k] T (fun x hxm=>r1 _ (List.getElem_mem h) x hxm) (h4 _ (List.getElem_mem h))]⟩
 have HRp:=Jb w0 a (some ⟨g1,0,none⟩) (some ⟨g2,0,none⟩) n c 2 2 1 1 ps.length ps last [255,0] [255] rfl (h2'.symm▸ hs) ho hw (by decide) hb1 (by decide) (by decide) HC HI
 rw [h1] at HRp
 have HRv:By _:=⟨HRp⟩
 have hS:=St.start w0
 clear HC HI HRp hmem h1 h2 h2' h3 h4 h5 He hlast r1 r2 r3 hx hxc he hpl
 go_enter Tryz.func119,Tryz.ntmps119
 repeat' (first
  | (refine As 135 ?_);refine At AA Tryz.call135 (HRv.out) ?_;rintro e w ⟨ao,c',rfl,hS2⟩;replace hS:=hS2;clear hS2;refine Ac ?_;go_step|refine X0 ?_|refine AG ?_;go_step|fail)
 go_ret
 exact ⟨ao,c',rfl,hS⟩
theorem I6(w0:World)(a:Option Addr)(n c:Nat)(xs:List Int)(hs:Sl w0 1 (.slice a n c) n (xs.map (Value.int .u8)))(hnil:a=none→c=0)(hx:∀x∈xs,0≤x∧x<256)(hb1:n≤1000000000)(hml:∃m,w0.cell? ⟨0,0,none⟩=some (.int .i64 m)):
 Calls Tryz.prog 86 #[.slice a n c] w0 fun e w=>(∀cc,xs=Dg cc→∃(ao:Option Addr) (c':Nat),e= .returned (.tuple #[.slice ao cc.length c', .int .i64 0])∧St w0 w [own 5 1 ao cc.length c' (cc.map (Value.int .u8))])∧
  ((∀cc,xs≠Dg cc)→e= .returned (.tuple #[.slice none 0 0, .int .i64 4])∧Ai w0 w):=by
 have hS:=St.start w0
 have HSP:=AD (FE w0 a n c xs hs hx hb1)
 obtain ⟨T,hT⟩:∃T,Df xs [] [] []=T:=⟨_,rfl⟩
 rw [hT] at HSP
 have HX:By (∀x∈xs,0≤x∧x<256):=⟨hx⟩
 have HML:By _:=⟨hml⟩
 clear hx hml
 cases T with
 | none=>
   have hno:∀cc,xs≠Dg cc:=fun cc e=>by rw [e,IY] at hT;cases hT
   have HNO:By _:=⟨hno⟩
   clear hno hT
   go_enter Tryz.func86,Tryz.ntmps86
   repeat' (first
    | (refine As 60 ?_);refine At AA Tryz.call60 (HSP.out) ?_;rintro e w ⟨hR1,-⟩;obtain ⟨rfl,hE⟩:=hR1 rfl;clear hR1;replace hS:=hS.ext hE;clear hE;refine Ac ?_;go_step|go_skip|refine X0 ?_|refine H7 ?_|refine H6 14 ?_ ?_<;>intro hB<;>(try exact AR)<;>go_step|refine X3 10 ?_|refine X3 11 ?_|refine X3 12 ?_|refine AG ?_;go_step|fail)
   all_goals
    repeat' (first
     | refine X0 ?_|refine Fe 21 ?_|refine AG ?_;go_step|fail)
   all_goals
    refine AK (xs:=[_,_]) rfl (.cons (AC.tmp rfl) (.cons (AC.tmp rfl) (.nil))) (by simp) rfl ?_
    exact ⟨fun cc e=>absurd e (HNO.out cc),fun _=>⟨rfl,hS.1⟩⟩
 | some T=>
   obtain ⟨ps,ms⟩:=T
   by_cases hm:ms=[]
   ·subst hm
    obtain ⟨cc,he⟩:=T2 hT
    have HE:=AD he
    clear hT he
    go_enter Tryz.func86,Tryz.ntmps86
    repeat' (first
     | (refine As 60 ?_);refine At AA Tryz.call60 (HSP.out) ?_;rintro e w ⟨-,hR1⟩;obtain ⟨pcs,ao,am,co,cm,lo,lm,hlo,hlm,-,rfl,hS2⟩:=hR1 ps [] rfl;clear hR1;rw [List.length_nil] at hlm;subst hlm;replace hS:=hS.call hS2;clear hS2;simp only [List.cons_append,List.nil_append] at hS;refine Ac ?_;go_step|refine X0 ?_|refine Fi ?_|refine H6 14 ?_ ?_<;>intro hB<;>(try exact AR)<;>go_step|refine X3 10 ?_|refine X3 11 ?_|refine X3 12 ?_|refine TA 17 ?_|refine KN 18 ?_|refine AG ?_;go_step|fail)
    all_goals
     repeat' (first
      | refine X1 ?_|refine Fe 21 ?_|refine AG ?_;go_step|fail)
    all_goals
     repeat' (first
      | (refine As 119 ?_);refine At AA Tryz.call119 (Pq _ a _ _ n c xs cc (hs.ext hS.1) hnil HE.out (hS.slBlk (n:=2) (cs:=[.int .u8 255, .int .u8 0]) AL (by rfl) (by decide)) (hS.slBlk (n:=1) (cs:=[.int .u8 255]) AL (by rfl) (by decide)) HX.out hb1 (HML.out.imp fun m h=>hS.1.cell h)) ?_;rintro e w ⟨ao,c',rfl,hS2⟩;replace hS:=hS.call1 hS2;clear hS2;refine Ac ?_;go_step|refine X8 ?_|refine Xc 24 ?_;clear hS;intro g24 w hS|refine aN 25 ?_;clear hS;intro g25 w hS|refine AG ?_;go_step|fail)
    all_goals
     refine AK (xs:=[_,_]) rfl (.cons (AC.tmp rfl) (.cons (AC.tmp rfl) (.nil))) (by simp) rfl ?_
     refine ⟨fun cc2 e=>?_,fun h=>absurd HE.out (h cc)⟩
     obtain rfl:=J7 _ _ (HE.out.symm.trans e)
     exact ⟨_,_,rfl,hS.sub AV⟩
   have hno:∀cc,xs≠Dg cc:=fun cc e=>by rw [e,IY] at hT;cases hT;exact hm rfl
   have HNO:By _:=⟨hno⟩
   have hml2:0<ms.length:=List.length_pos_iff.2 hm
   clear hno hT hm
   go_enter Tryz.func86,Tryz.ntmps86
   repeat' (first
    | (refine As 60 ?_);refine At AA Tryz.call60 (HSP.out) ?_;rintro e w ⟨-,hR1⟩;obtain ⟨pcs,ao,am,co,cm,lo,lm,hlo,hlm,-,rfl,hS2⟩:=hR1 ps ms rfl;clear hR1;replace hS:=hS.call hS2;clear hS2;simp only [List.cons_append,List.nil_append] at hS;refine Ac ?_;go_step|refine X0 ?_|refine Fi ?_|refine H6 14 ?_ ?_<;>intro hB<;>(try exact AR)<;>go_step|refine X3 10 ?_|refine X3 11 ?_|refine X3 12 ?_|refine TA 17 ?_|refine KN 18 ?_|refine AG ?_;go_step|fail)
   all_goals
    repeat' (first
     | refine X0 ?_|refine Fe 21 ?_|refine AG ?_;go_step|fail)
   all_goals
    refine AK (xs:=[_,_]) rfl (.cons (AC.tmp rfl) (.cons (AC.tmp rfl) (.nil))) (by simp) rfl ?_
    exact ⟨fun cc e=>absurd e (HNO.out cc),fun _=>⟨rfl,hS.1⟩⟩
def BR(L1 L2:List (Int×Nat×Nat))(x:CH×Bool):List Bool:=wb (if x.2 then L1 else L2) x.1.1++Ax x.1.2.1.toNat x.1.2.2.toNat
def BK(L1 L2:List (Int×Nat×Nat))(bs:List Bool)(t:CH)(b:Bool):Int×List Bool:=if (symW (if b then L1 else L2) t.1).isSome then (0,bs++BR L1 L2 (t,b)) else (5,bs)
theorem I3(W w0:World)(rs rs':List Ar)(g g1 g2:Nat)(b:Bool)(hS:St W w0 rs)(hp:AT (blk g [.pointer (some ⟨g1,0,none⟩), .pointer (some ⟨g2,0,none⟩)]) rs rs'):
 Calls Tryz.prog 109 #[.pointer (some ⟨g,0,none⟩), .bool b] w0 fun e w=>e= .returned (.pointer (some ⟨if b then g1 else g2,0,none⟩))∧Ai w0 w:=by
 have h0:=St.start w0
 have hc:=(hS.blk hp).1
 have c0:w0.cell? ⟨g,0,none⟩=some (.pointer (some ⟨g1,0,none⟩)):=by rw [hc.cell];rfl
 have c1:w0.cell? ⟨g,1,none⟩=some (.pointer (some ⟨g2,0,none⟩)):=by rw [hc.cell];rfl
 clear hS hc hp
 have hS:=h0
 clear h0
 cases b
 ·go_enter Tryz.func109,Tryz.ntmps109
  repeat' (first
   | refine X0 ?_|refine AG ?_;go_step|fail)
  repeat' (first
   | refine X8 ?_|refine bR ?_|(with_reducible refine Ak _ (.fieldAddr 181 _ 1) ?_);(refine An AA (V.fieldAddr Yf rfl A7) ?_;go_step)|refine dg ?_|refine AG ?_;go_step|fail)
  all_goals (go_ret;exact ⟨rfl,hS.1⟩)
 go_enter Tryz.func109,Tryz.ntmps109
 repeat' (first
  | refine X0 ?_|refine bR ?_|(with_reducible refine Ak _ (.fieldAddr 181 _ 0) ?_);(refine An AA (V.fieldAddr Ye rfl A7) ?_;go_step)|refine dg ?_|refine AG ?_;go_step|fail)
 all_goals (go_ret;exact ⟨rfl,hS.1⟩)
def TX(g6 g8 gc gw:Nat)(L1 L2:List (Int×Nat×Nat))(bs:List Bool):Ar:=star [blk g6 [.pointer (some ⟨gc,0,none⟩)],blk g8 [.pointer (some ⟨gw,0,none⟩)],Zv gc L1 L2,wr gw bs]
theorem QS(W w0:World)(rs rs':List Ar)(g6 g8 gc gw:Nat)(L1 L2:List (Int×Nat×Nat))(bs:List Bool)(t0 t1 t2:Int)(b:Bool)(hL1:Cj L1)(hL2:Cj L2)(hS:St W w0 rs)(hp:AT (TX g6 g8 gc gw L1 L2 bs) rs rs')(hb:bs.length≤1000000000)(ht:Qw (t0,t1,t2)):
 Calls Tryz.prog 108 #[.agg #[.int .i64 t0, .int .i64 t1, .int .i64 t2], .bool b, .pointer (some ⟨g6,0,none⟩), .pointer (some ⟨g8,0,none⟩)] w0 fun e w=>e= .returned (.int .i64 (BK L1 L2 bs (t0,t1,t2) b).1)∧St W w (TX g6 g8 gc gw L1 L2 (BK L1 L2 bs (t0,t1,t2) b).2::rs'):=by
 obtain ⟨_,hS⟩:=(hS.pull hp).open
 obtain ⟨⟨g1,g2⟩,hS⟩:=(hS.pull (.tail (.tail .head))).open
 replace hS:St W w0 (blk gc [.pointer (some ⟨g1,0,none⟩), .pointer (some ⟨g2,0,none⟩)]::KW g1 L1::KW g2 L2::blk g6 [.pointer (some ⟨gc,0,none⟩)]::blk g8 [.pointer (some ⟨gw,0,none⟩)]::wr gw bs::rs'):=hS
 clear hp
 obtain ⟨h1,h2,h3,h4⟩:=ht
 dsimp only at h1 h2 h3 h4
 obtain ⟨k,rfl⟩:∃k:Nat,t1=(k:Int):=⟨t1.toNat,by omega⟩
 obtain ⟨v,rfl⟩:∃v:Nat,t2=(v:Int):=⟨t2.toNat,by omega⟩
 have hv:v<2^k:=by rw [Int.toNat_natCast] at h4;exact_mod_cast h4
 clear h4 h3
 obtain ⟨L,hL⟩:∃L,(if b then L1 else L2)=L:=⟨_,rfl⟩
 obtain ⟨gb,hgb⟩:∃x,(if b then g1 else g2)=x:=⟨_,rfl⟩
 have hGL:Cj L:=by rw [←hL];cases b<;>assumption
 have HL:=AD hL
 have HGB:=AD hgb
 have HLen:=AD (N6 hGL t0)
 obtain ⟨r2,hS2,hC⟩:∃r2,St W w0 (KW gb L::r2::blk gc [.pointer (some ⟨g1,0,none⟩), .pointer (some ⟨g2,0,none⟩)]::blk g6 [.pointer (some ⟨gc,0,none⟩)]::blk g8 [.pointer (some ⟨gw,0,none⟩)]::wr gw bs::rs')∧∀w rs,St W w (KW gb L::r2::blk gc [.pointer (some ⟨g1,0,none⟩), .pointer (some ⟨g2,0,none⟩)]::rs)→St W w (Zv gc L1 L2::rs):=by
  cases b
  ·obtain rfl:L2=L:=by simpa using hL
   obtain rfl:g2=gb:=by simpa using hgb
   refine ⟨KW g1 L1,hS.sub AV,fun w rs h=>St.close (g1,g2) ?_⟩
   dsimp only [List.cons_append,List.nil_append]
   exact h.sub AV
  obtain rfl:L1=L:=by simpa using hL
  obtain rfl:g1=gb:=by simpa using hgb
  refine ⟨KW g2 L2,hS.sub AV,fun w rs h=>St.close (g1,g2) ?_⟩
  dsimp only [List.cons_append,List.nil_append]
  exact h.sub AV
 clear hS hL hgb
 have hS:=hS2
 have HC:=AD hC
 clear hS2 hC
 obtain ⟨I,hI⟩:∃I,(symW L t0).isSome=I:=⟨_,rfl⟩
 have HI:=AD hI
 cases I
 ·have HR:=AD (show BK L1 L2 bs (t0,(k:Int),(v:Int)) b=(5,bs) by unfold BK;dsimp only;rw [HL.out,hI];rfl)
  clear hI
  go_enter Tryz.func108,Tryz.ntmps108
  repeat' (first
   | refine X8 ?_|refine Xa 4 ?_;clear hS;intro g4 w hS|refine AG ?_;go_step|fail)
  refine AP [6] (fun w=>St W w [blk g6 [.pointer (some ⟨gc,0,none⟩)],blk g8 [.pointer (some ⟨gw,0,none⟩)],blk g4 [.int .i64 t0, .int .i64 (k:Nat), .int .i64 (v:Nat)]]) AA ?_
  replace hS:=hS.drew
  focus
   refine dG 0 [2,6,7] ?_
   refine AZ 1 ?_
   refine fQ 3 [6,7] ?_
   refine BZ 4 BN (V.fieldAddr J1 rfl A7) ?_;go_step
   refine Y5 5 [6,7] ?_
   refine Av 2 ?_
   refine AY (f:=109) rfl Tryz.call109 (I3 W _ _ _ gc g1 g2 b hS AL) ?_;rintro e w ⟨rfl,hE⟩;replace hS:=hS.ext hE;clear hE;rw [HGB.out];refine ⟨_,rfl,?_⟩
   refine ⟨fun _ _=>hS.sub AV,?_⟩
   refine AI ?_
   go_step
   refine Av 6 ?_
   refine AY (f:=110) rfl Tryz.call110 (KX W _ _ _ _ gb gw L bs t0 hGL hS AL AL (by omega)) ?_;clear hS;rintro e w ⟨rfl,hS⟩;rw [HI.out];refine ⟨_,rfl,?_⟩
   refine ⟨fun h=>absurd (by decide) h,?_⟩
   refine AI ?_
   go_step
   refine BZ 7 BN (V.not rfl) ?_;go_step
   refine AE AA ?_ _
  all_goals
   repeat' (first
    | refine X8 ?_|refine AG ?_;go_step|fail)
   go_ret
   rw [HR.out]
   have hwb:wb L t0=[]:=by unfold wb;cases hs:symW L t0 with
    | none=>rfl
    | some y=>have:=HI.out;rw [hs] at this;cases this
   rw [hwb,List.append_nil] at hS
   refine ⟨rfl,St.close () ?_⟩
   dsimp only [List.cons_append,List.nil_append]
   exact (HC.out _ _ (hS.sub (xs:=KW gb L::r2::blk gc [.pointer (some ⟨g1,0,none⟩), .pointer (some ⟨g2,0,none⟩)]::blk g6 [.pointer (some ⟨gc,0,none⟩)]::blk g8 [.pointer (some ⟨gw,0,none⟩)]::wr gw bs::rs') AV)).sub AV
 have HR:=AD (show BK L1 L2 bs (t0,(k:Int),(v:Int)) b=(0,bs++(wb L t0++Ax k v)) by unfold BK BR;dsimp only;rw [HL.out,hI,Int.toNat_natCast,Int.toNat_natCast];rfl)
 clear hI
 go_enter Tryz.func108,Tryz.ntmps108
 repeat' (first
  | refine X8 ?_|refine Xa 4 ?_;clear hS;intro g4 w hS|refine AG ?_;go_step|fail)
 refine AP [6] (fun w=>St W w [blk g6 [.pointer (some ⟨gc,0,none⟩)],blk g8 [.pointer (some ⟨gw,0,none⟩)],blk g4 [.int .i64 t0, .int .i64 (k:Nat), .int .i64 (v:Nat)]]) AA ?_
 replace hS:=hS.drew
 focus
  refine dG 0 [2,6,7] ?_
  refine AZ 1 ?_
  refine fQ 3 [6,7] ?_
  refine BZ 4 BN (V.fieldAddr J1 rfl A7) ?_;go_step
  refine Y5 5 [6,7] ?_
  refine Av 2 ?_
  refine AY (f:=109) rfl Tryz.call109 (I3 W _ _ _ gc g1 g2 b hS AL) ?_;rintro e w ⟨rfl,hE⟩;replace hS:=hS.ext hE;clear hE;rw [HGB.out];refine ⟨_,rfl,?_⟩
  refine ⟨fun _ _=>hS.sub AV,?_⟩
  refine AI ?_
  go_step
  refine Av 6 ?_
  refine AY (f:=110) rfl Tryz.call110 (KX W _ _ _ _ gb gw L bs t0 hGL hS AL AL (by omega)) ?_;clear hS;rintro e w ⟨rfl,hS⟩;rw [HI.out];refine ⟨_,rfl,?_⟩
  refine ⟨fun h=>absurd (by decide) h,?_⟩
  refine AI ?_
  go_step
  refine BZ 7 BN (V.not rfl) ?_;go_step
  refine AE AA ?_ _
 all_goals
  repeat' (first
   | (refine AQ 20 ?_);refine AM (f:=111) Tryz.call111 AA ?_;refine ⟨_,(Ng W _ _ _ gw (bs++wb L t0) k v hS AL (by omega) hv (by have:=HLen.out;rw [List.length_append];omega)),?_⟩;clear hS;rintro e w ⟨rfl,hS⟩;refine Ac ?_;go_step|refine X8 ?_|refine RU ?_|refine bM ?_|refine df ?_|refine X9 ?_|refine AG ?_;go_step|fail)
  go_ret
  rw [HR.out]
  refine ⟨rfl,St.close () ?_⟩
  dsimp only [List.cons_append,List.nil_append]
  rw [List.append_assoc] at hS
  exact (HC.out _ _ (hS.sub (xs:=KW gb L::r2::blk gc [.pointer (some ⟨g1,0,none⟩), .pointer (some ⟨g2,0,none⟩)]::blk g6 [.pointer (some ⟨gc,0,none⟩)]::blk g8 [.pointer (some ⟨gw,0,none⟩)]::wr gw (bs++(wb L t0++Ax k v))::rs') AV)).sub AV
theorem LL{L1 L2:List (Int×Nat×Nat)}(h1:Cj L1)(h2:Cj L2)(t:CH)(b:Bool)(ht:Qw t):(BR L1 L2 (t,b)).length≤28:=by
 obtain ⟨_,h3,_⟩:=ht
 unfold BR
 dsimp only
 rw [List.length_append,Ao]
 have h4:(wb (if b then L1 else L2) t.1).length≤16:=N6 (by cases b<;>assumption) _
 omega
theorem Gw(L1 L2:List (Int×Nat×Nat))(bs:List Bool)(t:CH)(b:Bool):(BK L1 L2 bs t b).2=bs++BR L1 L2 (t,b)∨(BK L1 L2 bs t b).2=bs:=by
 unfold BK
 by_cases h:(symW (if b then L1 else L2) t.1).isSome=true
 ·rw [if_pos h];exact .inl rfl
 rw [if_neg h];exact .inr rfl
theorem Rs{W w:World}{g6 g8 gc gw:Nat}{L1 L2:List (Int×Nat×Nat)}{rs:List Ar}(h:St W w rs)(s:OH [blk gw [.slice none 0 0, .int .u64 0, .int .i64 0],blk g6 [.pointer (some ⟨gc,0,none⟩)],blk g8 [.pointer (some ⟨gw,0,none⟩)],Zv gc L1 L2] rs):St W w [TX g6 g8 gc gw L1 L2 []]:=by
 have h2:=cS (h.sub s)
 refine St.close () ?_
 dsimp only [List.cons_append,List.nil_append]
 exact h2.sub AV
def VJ(W:World)(g6 g8 gc gw:Nat)(L1 L2:List (Int×Nat×Nat))(h1:Cj L1)(h2:Cj L2):ce W (List Bool) where
 step:=BK L1 L2
 res:=TX g6 g8 gc gw L1 L2
 ok bs m:=bs.length+28*m≤1000000000
 K:=108
 caps:=#[.pointer (some ⟨g6,0,none⟩), .pointer (some ⟨g8,0,none⟩)]
 inv:=Tryz.call108
 okS s m t b h ht _:=by
  have:=LL h1 h2 t b ht
  rcases Gw L1 L2 s t b with h4|h4
  ·rw [h4,List.length_append];omega
  rw [h4];omega
 okM s m k h hk:=by omega
 call w rs rs' s m t0 t1 t2 b er s' hS hp h ht hst:=by
  have h3:=QS W w rs rs' g6 g8 gc gw L1 L2 s t0 t1 t2 b h1 h2 hS hp (by omega) ht
  rw [hst] at h3
  exact h3
def Cg(C1 S1 C2 S2 l:List Int)(n:Nat):Int:=if D4 C1 S1 C2 S2=0 then if BX l n=0 then (Dk (BK (Bh C1 S1) (Bh C2 S2)) (DA l 0 n) []).1 else BX l n else D4 C1 S1 C2 S2
def Bm(C1 S1 C2 S2 l:List Int)(n:Nat):List Bool:=(Dk (BK (Bh C1 S1) (Bh C2 S2)) (DA l 0 n) []).2
def Fo(l:List Nat):List Int:=l.map fun (x:Nat)=>(x:Int)
theorem U5(l:List Nat):bv l=(Fo l).map (Value.int .u8):=by simp [bv,Fo]
def C6(C1 S1 C2 S2 l:List Int)(n:Nat):List Int:=if Cg C1 S1 C2 S2 l n=0 then Dg (Fo (bytesOf (Bm C1 S1 C2 S2 l n))) else []
theorem VG{σ:Type}(step:σ→CH→Bool→Int×σ)(ok:σ→Nat→Prop)(h1:∀s m t b,ok s (m+1)→Qw t→ok (step s t b).2 m)(hm:∀s m k,ok s m→k≤m→ok s k):∀(T:List (CH×Bool))(s:σ)(m:Nat),(∀x∈T,Qw x.1)→T.length≤m→ok s m→ok (Dk step T s).2 0
 | [],s,m,_,_,h=>hm s m 0 h (by omega)
 | x::r,s,m,ht,hl,h=>by
   rw [List.length_cons] at hl
   have h2:=h1 s (m-1) x.1 x.2 (by rw [show m-1+1=m by omega];exact h) (ht x (by simp))
   rw [Dk]
   split
   ·exact VG step ok h1 hm r _ (m-1) (fun y hy=>ht y (by simp [hy])) (by omega) h2
   exact hm _ _ 0 h2 (by omega)
theorem Id{l:List Int}{n:Nat}(hl:l.length=n*64):∀(f k:Nat),k+f≤n→(∀x∈DA l k f,Qw x.1)∧(DA l k f).length≤64*f
 | 0,k,_=>⟨fun x hx=>(by cases hx),by simp [DA]⟩
 | f+1,k,h=>by
   obtain ⟨h1,h2⟩:=Id hl f (k+1) (by omega)
   have hs:(Bi l 64 k).length=64:=CP l 64 k n hl (by omega)
   have h3:∀t∈UA l k,Qw t:=Pm hs
   have h4:(UA l k).length≤64:=Nw hs
   refine ⟨fun x hx=>?_,by rw [DA,List.length_append,PC];omega⟩
   rw [DA] at hx
   rcases List.mem_append.1 hx with hx|hx
   ·unfold El at hx
    split at hx
    ·cases hx
    rename_i t r heq
    rcases List.mem_cons.1 hx with rfl|hx
    ·exact h3 t (by rw [heq];simp)
    obtain ⟨y,hy,rfl⟩:=List.mem_map.1 hx
    exact h3 y (by rw [heq];simp [hy])
   exact h1 x hx
theorem Jc{C1 S1 C2 S2 l:List Int}{n:Nat}(h1:Ay C1 S1=0)(h2:Ay C2 S2=0)(hl:l.length=n*64)(hn:n≤400):(Bm C1 S1 C2 S2 l n).length≤1000000:=by
 have h3:=VG (BK (Bh C1 S1) (Bh C2 S2)) (fun bs m=>bs.length+28*m≤1000000) (fun s m t b h ht=>by
  have:=LL (Bb h1) (Bb h2) t b ht
  rcases Gw (Bh C1 S1) (Bh C2 S2) s t b with h4|h4
  ·rw [h4,List.length_append];omega
  rw [h4];omega) (fun s m k h hk=>by omega) (DA l 0 n) [] 25600 (Id hl n 0 (by omega)).1 (by have:=(Id hl n 0 (by omega)).2;omega) (by simp)
 unfold Bm
 have h4:(Dk (BK (Bh C1 S1) (Bh C2 S2)) (DA l 0 n) []).2.length+28*0≤1000000:=h3
 omega
theorem bn(bs:List Bool):∀x∈Fo (bytesOf bs),0≤x∧x<256:=fun x hx=>by
 obtain ⟨y,hy,rfl⟩:=List.mem_map.1 hx
 have:=EO bs y hy
 omega
theorem H9{l:List Int}{n:Nat}(h:BX l n=0):n≤400:=by
 unfold BX at h
 split at h
 ·cases h
 omega
def P5(w0:World)(E:Int)(B:List Int)(e:Ending)(w:World):Prop:=
 ∃ao c m,B.length=m∧e= .returned (.tuple #[.slice ao m c, .int .i64 E])∧St w0 w [own 5 1 ao m c (B.map (Value.int .u8))]
theorem Er{w0 w:World}{E:Int}{B:List Int}(E':Int)(h:E=E')(hB:B=[])(hE:Ai w0 w):P5 w0 E B (.returned (.tuple #[.slice none 0 0, .int .i64 E'])) w:=by
 subst h;subst hB
 exact ⟨none,0,0,rfl,rfl,(St.of_ext hE).nil _ _⟩
theorem Rq(W w0:World)(rs rs':List Ar)(g6 g8 gc gw:Nat)(L1 L2:List (Int×Nat×Nat))(h1:Cj L1)(h2:Cj L2)(ad:Option Addr)(n c:Nat)(l:List Int)(E:Int)(bs:List Bool)(hE:BX l n=0→Dk (BK L1 L2) (DA l 0 n) []=(E,bs))(hE2:BX l n≠0→BX l n=E)(hn:n≤9223372036854775807)(hv:Sl W 64 (.slice ad n c) n (l.map (Value.int .i64)))(hS:St W w0 rs)(hp:AT (TX g6 g8 gc gw L1 L2 []) rs rs'):
 Calls Tryz.prog 100 #[.slice ad n c, .func (.func 108) #[] #[.pointer (some ⟨g6,0,none⟩), .pointer (some ⟨g8,0,none⟩)]] w0 fun e w=>e= .returned (.int .i64 E)∧∃s',(E=0→s'=bs)∧St W w (TX g6 g8 gc gw L1 L2 s'::rs'):=by
 refine (Ob (VJ W g6 g8 gc gw L1 L2 h1 h2) w0 rs rs' [] ad n c l hn hv hS hp (by show (0+28*25600≤1000000000);omega)).mono ?_
 rintro e w ⟨s',hs',rfl,hS⟩
 by_cases h0:BX l n=0
 ·have h3:Dk (VJ W g6 g8 gc gw L1 L2 h1 h2).step (DA l 0 n) []=(E,bs):=hE h0
  rw [h3] at hs'⊢
  rw [if_pos h0]
  exact ⟨rfl,s',fun _=>hs' h0,hS⟩
 rw [if_neg h0,hE2 h0]
 exact ⟨rfl,s',fun h=>absurd ((hE2 h0).trans h) h0,hS⟩
theorem Gz(w0:World)(C1 C2 S1 S2:List Int)(a1 a2:Option Addr)(n1 n2 k1 k2:Nat)(hC1:Al C1 16)(hC2:Al C2 16)(hs1:Sl w0 1 (.slice a1 n1 k1) n1 (S1.map (Value.int .i64)))(hs2:Sl w0 1 (.slice a2 n2 k2) n2 (S2.map (Value.int .i64)))(hn1:n1≤9223372036854775807)(hn2:n2≤9223372036854775807)(ad:Option Addr)(n c:Nat)(l:List Int)(hn:n≤9223372036854775807)(hv:Sl w0 64 (.slice ad n c) n (l.map (Value.int .i64))):
 Calls Tryz.prog 75 #[.agg (AF [.ints C1, .val (.slice a1 n1 k1), .ints C2, .val (.slice a2 n2 k2)]).toArray, .slice ad n c] w0 (P5 w0 (Cg C1 S1 C2 S2 l n) (C6 C1 S1 C2 S2 l n)):=by
 have hl:l.length=n*64:=by have:=hv.1;simpa using this
 have HLl:=AD hl
 have hS:=St.start w0
 by_cases hT:D4 C1 S1 C2 S2=0
 case neg=>
  obtain ⟨E,hE⟩:∃E,D4 C1 S1 C2 S2=E:=⟨_,rfl⟩
  have h0:E≠0:=by rw [←hE];exact hT
  have HE:=AD hE
  have HR:=AD (show Cg C1 S1 C2 S2 l n=E by unfold Cg;rw [if_neg hT];exact hE)
  have HB:=AD (show C6 C1 S1 C2 S2 l n=[] by unfold C6;rw [if_neg (by rw [HR.out];exact h0)])
  clear hE hT hl
  go_enter Tryz.func75,Tryz.ntmps75
  repeat' (first
   | (refine AQ 11 ?_);refine AM (f:=85) Tryz.call85 AA ?_;refine ⟨_,(PA _ C1 C2 S1 S2 a1 a2 n1 n2 k1 k2 hC1 hC2 (hs1.ext hS.1) (hs2.ext hS.1) hn1 hn2 E HE.out h0),?_⟩;rintro e w ⟨rfl,hE2⟩;replace hS:=hS.ext hE2;clear hE2;refine Ac ?_;go_step|refine X0 ?_|refine X6 ?_|refine X4 ?_|refine OI 2 ?_;clear hS;intro g2 w hS|refine P0 ?_|refine aK 6 ?_;clear hS;intro g6 w hS|refine aO ?_;clear hS;intro w hS|refine AG ?_;go_step|fail)
  all_goals (try exact AR)
  refine AK (xs:=[_,_]) rfl (.cons (AC.tmp rfl) (.cons (AC.tmp rfl) (.nil))) (by simp) rfl ?_
  exact Er E HR.out HB.out hS.1
 have hT1:Ay C1 S1=0:=by
  unfold D4 at hT
  split at hT
  ·assumption
  assumption
 have hT2:Ay C2 S2=0:=by
  unfold D4 at hT
  rw [if_pos hT1] at hT;exact hT
 obtain ⟨⟨E,bs⟩,hech⟩:∃y,(if BX l n=0 then Dk (BK (Bh C1 S1) (Bh C2 S2)) (DA l 0 n) [] else (BX l n,[]))=y:=⟨_,rfl⟩
 have HA:=AD (show BX l n=0→Dk (BK (Bh C1 S1) (Bh C2 S2)) (DA l 0 n) []=(E,bs) from fun h=>by rw [if_pos h] at hech;exact hech)
 have HA2:=AD (show BX l n≠0→BX l n=E from fun h=>by rw [if_neg h] at hech;exact congrArg Prod.fst hech)
 have HR:=AD (show Cg C1 S1 C2 S2 l n=E by
  unfold Cg
  rw [if_pos hT]
  by_cases h0:BX l n=0
  ·rw [if_pos h0,HA.out h0]
  rw [if_neg h0];exact HA2.out h0)
 have HG1:=AD (Bb hT1)
 have HG2:=AD (Bb hT2)
 have HT1:=AD hT1
 have HT2:=AD hT2
 clear hT hech
 by_cases h0:E=0
 case neg=>
  have HB:=AD (show C6 C1 S1 C2 S2 l n=[] by unfold C6;rw [if_neg (by rw [HR.out];exact h0)])
  clear hl hT1 hT2
  go_enter Tryz.func75,Tryz.ntmps75
  repeat' (first
   | (refine AQ 11 ?_);refine AM (f:=85) Tryz.call85 AA ?_;refine ⟨_,(II _ C1 C2 S1 S2 a1 a2 n1 n2 k1 k2 hC1 hC2 (hs1.ext hS.1) (hs2.ext hS.1) hn1 hn2 HT1.out HT2.out),?_⟩;rintro e w ⟨gc,rfl,hS2⟩;replace hS:=hS.call1 hS2;clear hS2;refine Ac ?_;go_step|refine X0 ?_|refine X6 ?_|refine X4 ?_|refine OI 2 ?_;clear hS;intro g2 w hS|refine P0 ?_|refine aK 6 ?_;clear hS;intro g6 w hS|refine aO ?_;clear hS;intro w hS|refine AG ?_;go_step|fail)
  all_goals (try exact AR)
  repeat' (first
   | refine du 20 ?_|(refine AQ 21 ?_);refine AM (f:=100) Tryz.call100 AA ?_;refine ⟨_,(Rq w0 w _ _ g6 g8 gc g18 _ _ HG1.out HG2.out ad n c l E bs HA.out HA2.out hn hv (Rs hS AV) AT.head),?_⟩;clear hS;rintro e w ⟨rfl,s',hs',hS⟩;clear hs';refine Ac ?_;go_step|refine X0 ?_|(refine AQ 17 ?_);(refine An AA (V.build (vs:=[]) rfl (Uz)) ?_;go_step)|refine X4 ?_|(refine AQ 18 ?_);(refine Ad ?_;apply CS (o:=⟨some 18,_,_,_,_,_⟩) hS 171 _ rfl _ rfl;clear hS;intro g18 w hS;refine AB ?_;go_step)|(refine AQ 8 ?_);(refine Ad ?_;apply B4 (o:=⟨some 8,_,_,_,_,_⟩) hS 168 rfl (.pointer none) [.pointer none] (fun w=>Tryz.zeroValue168 w) rfl;clear hS;intro g8 w hS;refine AB ?_;go_step)|refine dY ?_;clear hS;intro w hS|refine AG ?_;go_step|fail)
  all_goals (try exact AR)
  refine AK (xs:=[_,_]) rfl (.cons (AC.tmp rfl) (.cons (AC.tmp rfl) (.nil))) (by simp) rfl ?_
  exact Er E HR.out HB.out hS.1
 subst h0
 have hz:BX l n=0:=by
  by_cases h0:BX l n=0
  ·exact h0
  exact HA2.out h0
 have hbs:Bm C1 S1 C2 S2 l n=bs:=by unfold Bm;rw [HA.out hz]
 have hbl:bs.length≤1000000:=by rw [←hbs];exact Jc hT1 hT2 hl (H9 hz)
 have HB:=AD (show C6 C1 S1 C2 S2 l n=Dg (Fo (bytesOf bs)) by unfold C6;rw [if_pos HR.out,hbs])
 have hbyl:(Fo (bytesOf bs)).length=(bs.length+7)/8:=by unfold Fo;rw [List.length_map,En]
 have HBI:=AD (bn bs)
 have HBV:=AD (U5 (bytesOf bs))
 clear hl hT1 hT2 hbs hz
 go_enter Tryz.func75,Tryz.ntmps75
 repeat' (first
  | (refine AQ 11 ?_);refine AM (f:=85) Tryz.call85 AA ?_;refine ⟨_,(II _ C1 C2 S1 S2 a1 a2 n1 n2 k1 k2 hC1 hC2 (hs1.ext hS.1) (hs2.ext hS.1) hn1 hn2 HT1.out HT2.out),?_⟩;rintro e w ⟨gc,rfl,hS2⟩;replace hS:=hS.call1 hS2;clear hS2;refine Ac ?_;go_step|refine X0 ?_|refine X6 ?_|refine X4 ?_|refine OI 2 ?_;clear hS;intro g2 w hS|refine P0 ?_|refine aK 6 ?_;clear hS;intro g6 w hS|refine aO ?_;clear hS;intro w hS|refine AG ?_;go_step|fail)
 all_goals (try exact AR)
 repeat' (first
  | refine du 20 ?_|(refine AQ 21 ?_);refine AM (f:=100) Tryz.call100 AA ?_;refine ⟨_,(Rq w0 w _ _ g6 g8 gc g18 _ _ HG1.out HG2.out ad n c l 0 bs HA.out HA2.out hn hv (Rs hS AV) AT.head),?_⟩;clear hS;rintro e w ⟨rfl,s',hs',hS⟩;obtain rfl:=hs' rfl;clear hs';obtain ⟨_,hS⟩:=hS.open;dsimp only [List.cons_append,List.nil_append] at hS;refine Ac ?_;go_step|refine X0 ?_|(refine AQ 17 ?_);(refine An AA (V.build (vs:=[]) rfl (Uz)) ?_;go_step)|refine X4 ?_|(refine AQ 18 ?_);(refine Ad ?_;apply CS (o:=⟨some 18,_,_,_,_,_⟩) hS 171 _ rfl _ rfl;clear hS;intro g18 w hS;refine AB ?_;go_step)|(refine AQ 8 ?_);(refine Ad ?_;apply B4 (o:=⟨some 8,_,_,_,_,_⟩) hS 168 rfl (.pointer none) [.pointer none] (fun w=>Tryz.zeroValue168 w) rfl;clear hS;intro g8 w hS;refine AB ?_;go_step)|refine dY ?_;clear hS;intro w hS|refine AG ?_;go_step|fail)
 all_goals (try exact AR)
 repeat' (first
  | (refine AQ 26 ?_);refine AM (f:=113) Tryz.call113 AA ?_;refine ⟨_,(TI w0 _ _ _ g18 s' hS AL (by omega)),?_⟩;clear hS;rintro e w ⟨ab,cb,rfl,hS⟩;rw [HBV.out] at hS;refine Ac ?_;go_step|(refine AQ 27 ?_);refine AM (f:=112) Tryz.call112 AA ?_;refine ⟨_,(T3 _ ab _ cb (Fo (bytesOf s')) (hS.sl AL) (fun h=>SJ hS AT.head h) HBI.out (by omega)),?_⟩;rintro e w ⟨ao,co,rfl,hS2⟩;replace hS:=hS.call1 hS2;clear hS2;refine Ac ?_;go_step|refine X8 ?_|refine df ?_|refine AG ?_;go_step|fail)
 refine AK (xs:=[_,_]) rfl (.cons (AC.tmp rfl) (.cons (AC.tmp rfl) (.nil))) (by simp) rfl ?_
 refine ⟨ao,co,_,by rw [HB.out],by rw [HR.out];rfl,?_⟩
 rw [HB.out]
 exact hS.sub AV
def SQ(g:Nat)(ad:Option Addr)(n c i:Nat)(l:List Nat):Ar:=star [rd g ad n c i,own 5 1 ad n c (bv l)]
def aJ(W:World)(rs:List Ar)(g:Nat)(ad:Option Addr)(n c i m:Nat)(l:List Nat)(e:Ending)(w:World):Prop:=
 (8*n<i+m→e= .returned (.tuple #[.int .i64 0, .bool false])∧St W w (SQ g ad n c i l::rs))∧
 (i+m≤8*n→e= .returned (.tuple #[.int .i64 (BB l i m:Nat), .bool true])∧St W w (SQ g ad n c (i+m) l::rs))
theorem Dl(W w0:World)(rs rs':List Ar)(g n c i m:Nat)(ad:Option Addr)(l:List Nat)(hS:St W w0 rs)(hp:AT (SQ g ad n c i l) rs rs')(hl:∀x∈l,x<256)(hn:n≤1000000000000000000)(hi:i≤8*n)(hm:m≤60):
 Calls Tryz.prog 90 #[.pointer (some ⟨g,0,none⟩), .int .i64 m] w0 (aJ W rs' g ad n c i m l):=by
 obtain ⟨_,hS⟩:=(hS.pull hp).open
 dsimp only [List.cons_append,List.nil_append] at hS
 have hll:l.length=n:=by have:=hS.ownLen (.tail .head);simpa [bv] using this
 have HLt:=AD hl
 have HLen:=AD hll
 clear hl hll
 by_cases hb:8*n<i+m
 ·have c0:w0.cell? ⟨g,0,none⟩=some (.slice ad n c):=by rw [(hS.blk AT.head).1.cell];rfl
  have c1:w0.cell? ⟨g,1,none⟩=some (.int .i64 (i:Nat)):=by rw [(hS.blk AT.head).1.cell];rfl
  have HL:=AD (Kl w0 g n c i ad c0 c1 hn hi)
  clear c0 c1
  go_enter Tryz.func90,Tryz.ntmps90
  repeat' (first
   | (refine As 89 ?_);refine At AA Tryz.call89 (HL.out) (Fp hS ?_);clear hS;intro w hS;go_step|refine X0 ?_|refine H3 ?_|refine AG ?_;go_step|fail)
  go_ret2
  exact ⟨fun _=>⟨rfl,St.close () (by dsimp only [List.cons_append,List.nil_append];exact hS)⟩,fun h=>absurd h (by omega)⟩
 have hb2:i+m≤8*n:=by omega
 have c0:w0.cell? ⟨g,0,none⟩=some (.slice ad n c):=by rw [(hS.blk AT.head).1.cell];rfl
 have c1:w0.cell? ⟨g,1,none⟩=some (.int .i64 (i:Nat)):=by rw [(hS.blk AT.head).1.cell];rfl
 have HL:=AD (Kl w0 g n c i ad c0 c1 hn hi)
 clear c0 c1
 go_enter Tryz.func90,Tryz.ntmps90
 repeat' (first
  | (refine As 89 ?_);refine At AA Tryz.call89 (HL.out) (Fp hS ?_);clear hS;intro w hS;go_step|refine X0 ?_|refine H3 ?_|refine AG ?_;go_step|fail)
 go_loopg [6,12] m (fun gk nv kv w=>∃(k:Nat),gk+k=m∧kv= .int .i64 k∧nv= .int .i64 (BB l i k:Nat)∧St W w (rd g ad n c (i+k)::own 5 1 ad n c (bv l)::rs'))
 case atStart=>exact ⟨0,rfl,rfl,rfl,hS⟩
 case round=>
  clear hS
  obtain ⟨k,hk,rfl,rfl,hS⟩:=hrel
  by_cases hlt:k<m
  ·have hN:BB l i k<4611686018427387904:=by
    refine Nat.lt_of_lt_of_le (Kr l i k) ?_
    exact Nat.le_trans (Nat.pow_le_pow_right (n:=2) (by omega) (show k≤62 by omega)) (by decide)
   have HOr:=AD (V7 (BB l i k) (Fv l (i+k)) hN (Nat.mod_lt _ (by omega)))
   have HOr2:=AD (SH (BB l i k) (Fv l (i+k)) hN (Nat.mod_lt _ (by omega)))
   have HAnd:=AD (YM l (i+k) HLt.out)
   have HSucc:=AD (Hi l i k (by rw [HLen.out];omega))
   have hbit:Fv l (i+k)<2:=Nat.mod_lt _ (by omega)
   have h8:(i+k)/8<n:=by omega
   unfold rd at hS
   obtain ⟨b,rfl⟩:=Ba (a:=ad) hS AL (by omega)
   have hcell:(bv l)[(i+k)/8]? =some (.int .u8 ((l.getD ((i+k)/8) 0:Nat):Int)):=by
    unfold bv
    rw [List.getElem?_map,List.getElem?_eq_getElem (by rw [HLen.out];exact h8)]
    simp [List.getD,HLen.out,h8]
   clear HL
   repeat' (first
    | refine X2 ?_|refine AG ?_;go_step|fail)
   refine AP [] (fun w=>St W w (blk g [.slice (some ⟨b,0,none⟩) n c, .int .i64 ((i+k:Nat):Int)]::own 5 1 (some ⟨b,0,none⟩) n c (bv l)::rs')) AA ?_
   replace hS:=hS.drew
   focus
    refine AZ 0 ?_
    refine BZ 1 BN (V.shlI rfl rfl A9 (by omega) (by omega)) ?_;go_step
    refine AZ 2 ?_
    refine BZ 3 BN (V.nilCheck rfl) ?_;go_step
    refine BZ 4 BN (V.fieldAddr Ry rfl A7) ?_;go_step
    apply Ct 5 Aj AA AA AA Be [11,12,19,20,21,22,23] AA (hS.sub AV)
    case hfr=>intro w hS;((refine Ad ?_;apply AX hS 35 _ rfl _ _ rfl (AH rfl) _;(case hp=>exact AL);(case hc=>rfl);refine AB ?_;go_step));refine wpList_nil ?_;exact ⟨rfl,rfl⟩
    case hd=>rfl
    refine AZ 6 ?_
    refine BZ 7 BN (V.nilCheck rfl) ?_;go_step
    refine BZ 8 BN (V.fieldAddr J2 rfl A7) ?_;go_step
    refine Y5 9 [10,11,12,19,20,21,22,23] ?_
    refine bf 10 ?_
    refine BZ 11 BN (V.indexSl Tryz.underlying35 Ve rfl rfl A9 (by omega) (Nat.mul_one _) A7) ?_;go_step
    apply Ct 12 Aj AA AA AA Be [19,20,21,22,23] AA (hS.sub AV)
    case hfr=>intro w hS;((refine Ad ?_;apply Ah hS 5 _ rfl _ _ rfl (AH rfl) _ _ _ _ _;(case hp=>exact AL);(case hv=>with_reducible assumption);refine AB ?_;go_step));refine wpList_nil ?_;exact ⟨rfl,rfl⟩
    case hd=>rfl
    refine AZ 13 ?_
    refine BZ 14 BN (V.nilCheck rfl) ?_;go_step
    refine BZ 15 BN (V.fieldAddr J2 rfl A7) ?_;go_step
    refine Y5 16 [17,18,19,20,21,22,23] ?_
    refine BZ 17 BN (V.rem rfl rfl (by omega) (by omega)) ?_;go_step
    refine BZ 18 BN (V.subI rfl rfl (by omega)) ?_;go_step
    refine BZ 19 BN (V.shrB (N:=8) rfl rfl A9 (by omega) rfl) ?_;go_step
    (refine BV 20 (.int _ (((Fv l (i+k):Nat):Int))) Aj AA AA AA Be (V.as (V.and rfl rfl) (by exact HAnd.out)) AA ?_)
    go_step
    refine BZ 21 BN (V.convI (by rw [Tryz.underlying5];rfl) Tryz.underlying3 rfl (IntWalk.i64_in _ (by omega))) ?_;go_step
    (refine BV 22 (.int _ (((2*BB l i k+Fv l (i+k):Nat):Int))) Aj AA AA AA Be (V.as (V.or rfl rfl) (by exact HOr2.out)) AA ?_)
    go_step
    refine AZ 23 ?_
    refine AE AA ?_ _
   repeat' (first
    | refine X1 ?_|refine bR ?_|(with_reducible refine Ak _ (.fieldAddr 184 _ 1) ?_);(refine An AA (V.fieldAddr J2 rfl A7) ?_;go_step)|refine X7 ?_|refine X9 ?_|refine cr ?_;clear hS;intro w hS|refine AG ?_;go_step|fail)
   go_roundg (gk-1)
   case measure=>omega
   case rel=>exact ⟨k+1,by omega,by go_num,by rw [HSucc.out],by unfold rd;exact hS⟩
  obtain rfl:k=m:=by omega
  repeat' (first
   | refine X0 ?_|refine X2 ?_|refine AG ?_;go_step|fail)
  go_ret2
  exact ⟨fun h=>absurd h (by omega),fun _=>⟨rfl,St.close () (by dsimp only [List.cons_append,List.nil_append];exact hS)⟩⟩
theorem SR{W w0:World}{rs rs' rs2:List Ar}{r:Ar}{g n c i:Nat}{ad:Option Addr}{l:List Nat}(hS:St W w0 rs)(hp:AT r rs rs')(hp2:AT (SQ g ad n c i l) rs' rs2):l.length=n:=by
 obtain ⟨_,h⟩:=((hS.pull hp).drop.pull hp2).open
 have:=h.ownLen (.tail .head)
 simpa [bv] using this
theorem FR(W w0:World)(rs rs' rs2:List Ar)(g g2 n c i:Nat)(ad:Option Addr)(L:List (Int×Nat×Nat))(l:List Nat)(hS:St W w0 rs)(hp:AT (KW g L) rs rs')(hp2:AT (SQ g2 ad n c i l) rs' rs2)
 (hl:∀x∈l,x<256) (hn:n≤1000000000000000000) (hi:i≤8*n):
 Calls Tryz.prog 176 #[.pointer (some ⟨g,0,none⟩), .pointer (some ⟨g2,0,none⟩)] w0 fun e w=>e= .returned (.tuple #[.int .i64 (Gq L l i 16 0).1, .int .i64 (Gq L l i 16 0).2.1])∧(Gq L l i 16 0).2.2≤8*n∧St W w (KW g L::SQ g2 ad n c (Gq L l i 16 0).2.2 l::rs2):=by
 have hll:l.length=n:=SR hS hp hp2
 obtain ⟨⟨m1,m2⟩,hS⟩:=(hS.pull hp).open
 dsimp only [List.cons_append,List.nil_append] at hS
 have hp3:AT (SQ g2 ad n c i l) (blk g [.map (some m1), .map (some m2)]::mp ik m1 (Hp L)::mp pk m2 (G9 L)::rs') (blk g [.map (some m1), .map (some m2)]::mp ik m1 (Hp L)::mp pk m2 (G9 L)::rs2):= .tail (.tail (.tail hp2))
 replace hS:=hS.pull hp3
 have HLt:=AD hl
 have HLl:=AD hll
 clear hl hll hp hp2 hp3
 obtain ⟨R,hR⟩:∃R,Gq L l i 16 0=R:=⟨_,rfl⟩
 rw [hR]
 have HR:=AD hR
 clear hR
 go_enter Tryz.func176,Tryz.ntmps176
 repeat' (first
  | refine X8 ?_|refine AG ?_;go_step|fail)
 go_loopg [6,7] 16 (fun gk cv kv w=>∃d:Nat,gk+d=16∧kv= .int .i64 ((d:Int)+1)∧cv= .int .i64 (BB l i d:Nat)∧i+d≤8*n∧Hid (Gq L l i gk d=R)∧St W w (SQ g2 ad n c (i+d) l::blk g [.map (some m1), .map (some m2)]::mp ik m1 (Hp L)::mp pk m2 (G9 L)::rs2))
 case atStart=>exact ⟨0,rfl,rfl,by rw [show BB l i 0=0 by unfold BB;rw [List.take_zero];rfl];rfl,hi,HR,hS⟩
 case round=>
  clear hS
  obtain ⟨d,hd,rfl,rfl,hid2,HG,hS⟩:=hrel
  by_cases hlt:d<16
  ·obtain ⟨gk',rfl⟩:∃k,gk=k+1:=⟨gk-1,by omega⟩
   have hg:=HG.out
   rw [Gq,HLl.out] at hg
   by_cases hsh:8*n<i+d+1
   ·rw [if_pos (by omega)] at hg
    have HG2:=AD hg
    clear hg HG
    repeat' (first
     | (refine AQ 18 ?_);refine AM (f:=90) Tryz.call90 AA ?_;refine ⟨_,(Dl W _ _ _ g2 n c (i+d) 1 ad l hS AL HLt.out hn hid2 (by omega)),?_⟩;rintro e w ⟨hG,_⟩;obtain ⟨rfl,hS2⟩:=hG (by omega);clear hG hS;have hS:=hS2;clear hS2;refine Ac ?_;go_step|refine X0 ?_|refine Zm ?_|refine X6 ?_|refine RW ?_|refine AG ?_;go_step|fail)
    refine AK (xs:=[_,_]) rfl (.cons (AC.tmp rfl) (.cons (AC.tmp rfl) (.nil))) (by simp) rfl ?_
    rw [←HG2.out]
    refine ⟨rfl,hid2,St.close (m1,m2) ?_⟩
    exact hS.sub AV
   rw [if_neg (by omega)] at hg
   have HCat:=AD (Tq l i d (by rw [HLl.out];omega))
   have hb1:BB l (i+d) 1<2:=Kr l (i+d) 1
   have hN:BB l i d<65536:=Nat.lt_of_lt_of_le (Kr l i d) (Nat.pow_le_pow_right (n:=2) (j:=16) (by omega) (by omega))
   obtain ⟨N1,hN1⟩:∃x,BB l i (d+1)=x:=⟨_,rfl⟩
   rw [hN1] at hg HCat
   have HN1:=AD hN1
   clear hN1
   have HOr:=AD (SH (BB l i d) (BB l (i+d) 1) (by omega) hb1)
   rw [←HCat.out] at HOr
   cases hc:codW L (((d+1:Nat):Int),(N1:Int)) with
   | some s=>
     rw [hc] at hg
     dsimp only at hg
     have HG2:=AD hg
     have hf:G9 L ((d:Int)+1,(N1:Int))=some (.int .i64 s):=by
      unfold G9;rw [show (d:Int)+1=((d+1:Nat):Int) by omega,hc];rfl
     clear hg HG hc
     repeat' (first
      | (refine AQ 18 ?_);refine AM (f:=90) Tryz.call90 AA ?_;refine ⟨_,(Dl W _ _ _ g2 n c (i+d) 1 ad l hS AL HLt.out hn hid2 (by omega)),?_⟩;rintro e w ⟨_,hG⟩;obtain ⟨rfl,hS2⟩:=hG (by omega);clear hG hS;have hS:=hS2;clear hS2;refine Ac ?_;go_step|(refine AQ 26 ?_);(refine Ag (.int _ (((N1:Nat):Int))) (V.as (V.or rfl rfl) (by exact HOr.out)) (by kernel_rfl) ?_;go_step)|refine X0 ?_|refine Zm ?_|refine X6 ?_|refine RW ?_|refine aS ?_|refine bR ?_|(with_reducible refine Ak _ (.fieldAddr 202 _ 1) ?_);(refine An AA (V.fieldAddr NL rfl A7) ?_;go_step)|(refine AQ 34 ?_);(refine An AA (V.build (vs:=[(0,_),(1,_)]) rfl (Iw _ _)) ?_;go_step)|refine di ?_|(refine AQ 35 ?_);(refine Ad ?_;apply Jh (enc:=pk) hS 200 _ _ rfl _ rfl (_,_) rfl Tryz.underlying200 (F0 Tryz.underlying206 Tryz.underlying3 ET) (.int .i64 0) (fun w=>Tryz.zeroValue3 w) _;(case hp=>exact AL);(case hf=>with_reducible assumption);refine AB ?_;go_step)|refine AG ?_;go_step|fail)
     refine AK (xs:=[_,_]) rfl (.cons (AC.tmp rfl) (.cons (AC.tmp rfl) (.nil))) (by simp) rfl ?_
     rw [←HG2.out]
     refine ⟨rfl,by show i+(d+1)≤8*n;omega,St.close (m1,m2) ?_⟩
     dsimp only
     rw [show i+d+1=i+(d+1) by omega] at hS
     exact hS.sub AV
   | none=>
     rw [hc] at hg
     dsimp only at hg
     have HG2:=AD hg
     have hf:G9 L ((d:Int)+1,(N1:Int))=none:=by
      unfold G9;rw [show (d:Int)+1=((d+1:Nat):Int) by omega,hc];rfl
     clear hg HG hc
     repeat' (first
      | (refine AQ 18 ?_);refine AM (f:=90) Tryz.call90 AA ?_;refine ⟨_,(Dl W _ _ _ g2 n c (i+d) 1 ad l hS AL HLt.out hn hid2 (by omega)),?_⟩;rintro e w ⟨_,hG⟩;obtain ⟨rfl,hS2⟩:=hG (by omega);clear hG hS;have hS:=hS2;clear hS2;refine Ac ?_;go_step|(refine AQ 26 ?_);(refine Ag (.int _ (((N1:Nat):Int))) (V.as (V.or rfl rfl) (by exact HOr.out)) (by kernel_rfl) ?_;go_step)|refine X0 ?_|refine Zm ?_|refine X7 ?_|refine X6 ?_|refine RW ?_|refine aS ?_|refine bR ?_|(with_reducible refine Ak _ (.fieldAddr 202 _ 1) ?_);(refine An AA (V.fieldAddr NL rfl A7) ?_;go_step)|(refine AQ 34 ?_);(refine An AA (V.build (vs:=[(0,_),(1,_)]) rfl (Iw _ _)) ?_;go_step)|refine di ?_|(refine AQ 35 ?_);(refine Ad ?_;apply Jg (enc:=pk) hS 200 _ _ rfl _ rfl (_,_) rfl Tryz.underlying200 (F0 Tryz.underlying206 Tryz.underlying3 ET) (.int .i64 0) (fun w=>Tryz.zeroValue3 w) _;(case hp=>exact AL);(case hf=>with_reducible assumption);refine AB ?_;go_step)|refine AG ?_;go_step|fail)
     go_roundg gk'
     case measure=>omega
     case rel=>exact ⟨d+1,by omega,by go_num,by rw [HN1.out],by omega,HG2,(by rw [show i+d+1=i+(d+1) by omega] at hS;exact hS.sub AV)⟩
  obtain rfl:d=16:=by omega
  obtain rfl:gk=0:=by omega
  have hg:=HG.out
  rw [Gq] at hg
  have HG2:=AD hg
  clear hg HG
  repeat' (first
   | refine X0 ?_|refine Zm ?_|refine AG ?_;go_step|fail)
  refine AK (xs:=[_,_]) rfl (.cons (AC.tmp rfl) (.cons (AC.tmp rfl) (.nil))) (by simp) rfl ?_
  rw [←HG2.out]
  refine ⟨rfl,hid2,St.close (m1,m2) ?_⟩
  exact hS.sub AV
end Go.Proofs.YtohacgmhmbijmaaGreatDoor
namespace Go.Proofs.YtohacgmhmbijmaaGreatDoor
attribute [local irreducible] Region.wanted
set_option linter.unusedVariables false
set_option maxRecDepth 100000
set_option maxHeartbeats 8000000
theorem Tr(l:List Nat)(i k m:Nat)(h:k≤m)(hm:i+m≤8*l.length):BB l i m/2^(m-k)=BB l i k:=by
 unfold BB
 have e:((BE l).drop i).take m=((BE l).drop i).take k++((((BE l).drop i).drop k).take (m-k)):=by
  conv=>lhs;rw [show m=k+(m-k) by omega,List.take_add]
 have hl:((((BE l).drop i).drop k).take (m-k)).length=m-k:=by
  rw [List.length_take,List.length_drop,List.length_drop,CR];omega
 have hlt:=Hj ((((BE l).drop i).drop k).take (m-k))
 rw [e,De]
 rw [hl] at hlt⊢
 rw [Nat.mul_comm,Nat.mul_add_div (Nat.two_pow_pos _),Nat.div_eq_of_lt hlt,Nat.add_zero]
theorem Yh{L:List (Int×Nat×Nat)}(hG:Cj L)(l:List Nat)(i:Nat)(x:Int×Nat×Nat)(hx:x∈L)(hi:i+x.2.1≤8*l.length)(hb:BB l i x.2.1=x.2.2):
 ∀f d,d+f=16→d<x.2.1→Gq L l i f d=(x.1,0,i+x.2.1):=by
 have hl:=hG.long x hx
 intro f
 induction f with
 | zero=>intro d h1 h2;omega
 | succ f ih=>
   intro d h1 h2
   rw [Gq,if_neg (by omega)]
   cases hc:codW L (((d+1:Nat):Int),(BB l i (d+1):Int)) with
   | some s=>
     have hm:=KY hc
     have e:=hG.pre _ hm x hx (by show d+1≤x.2.1;omega) (by show x.2.2/2^(x.2.1-(d+1))=BB l i (d+1);rw [←hb];exact Tr l i (d+1) x.2.1 (by omega) hi)
     dsimp only
     have e1:s=x.1:=by rw [←e]
     have e2:d+1=x.2.1:=by rw [←e]
     rw [e1,e2]
   | none=>
     dsimp only
     refine ih (d+1) (by omega) ?_
     have hne:d+1≠x.2.1:=fun e=>by
      rw [e,hb] at hc
      rw [hG.codW hx] at hc;cases hc
     omega
theorem Zy{L:List (Int×Nat×Nat)}(l:List Nat)(i:Nat):∀f d,(Gq L l i f d).2.1=0→∃m,d<m∧m≤d+f∧(Gq L l i f d).2.2=i+m∧i+m≤8*l.length∧((Gq L l i f d).1,m,BB l i m)∈L:=by
 intro f
 induction f with
 | zero=>intro d h;exact absurd h (by show (4:Int)≠0;decide)
 | succ f ih=>
   intro d h
   rw [Gq] at h⊢
   by_cases hs:8*l.length<i+(d+1)
   ·rw [if_pos hs] at h;exact absurd h (by show (3:Int)≠0;decide)
   rw [if_neg hs] at h⊢
   cases hc:codW L (((d+1:Nat):Int),(BB l i (d+1):Int)) with
   | some s=>exact ⟨d+1,by omega,by omega,rfl,by omega,KY hc⟩
   | none=>
     rw [hc] at h
     obtain ⟨m,h1,h2,h3,h4,h5⟩:=ih (d+1) h
     exact ⟨m,by omega,by omega,h3,h4,h5⟩
theorem Wr{L:List (Int×Nat×Nat)}(hG:Cj L){x:Int×Nat×Nat}(hx:x∈L):wb L x.1=Ax x.2.1 x.2.2:=by
 unfold wb;rw [hG.symW hx]
end Go.Proofs.YtohacgmhmbijmaaGreatDoor
namespace Go.Proofs.YtohacgmhmbijmaaGreatDoor
attribute [local irreducible] Region.wanted
open Go.RowKit
set_option linter.unusedVariables false
set_option maxRecDepth 100000
set_option maxHeartbeats 8000000
theorem bi(m0:Int)(w:World):(Instr.build 26 #[(0, .int .i64 m0)]).run Tryz.prog w= .ok (.agg (iv (((List.replicate 64 0).set 0 m0)))) w:=by kernel_rfl
structure dR(W:World)(σ:Type) where
 next:σ→Bool→CH×Int×σ
 res:σ→Ar
 tid:TypeId
 ptr:Value
 f:FuncId
 inv:∀(b:Bool)(w:World),(invoke (.fn (.method "Token") #[]) [.iface tid ptr, .bool b].toArray).run Tryz.prog w= .ok (.enter f #[ptr, .bool b]) w
 call:∀(w:World)(rs rs':List Ar)(s:σ)(b:Bool)(t0 t1 t2 er:Int)(s':σ),St W w rs→AT (res s) rs rs'→next s b=((t0,t1,t2),er,s')→
  Calls Tryz.prog f #[ptr, .bool b] w fun e w'=>e= .returned (.tuple #[.agg #[.int .i64 t0, .int .i64 t1, .int .i64 t2], .int .i64 er])∧St W w' (res s'::rs')
structure KI(p:Prop):Prop where
 out:p
def BY:List Int:=List.replicate 64 0
theorem CW(w0:World)(e0:Int):Calls Tryz.prog 120 #[.int .i64 e0] w0 fun e w=>e= .returned (.tuple #[.agg (iv BY), .slice none 0 0, .int .i64 e0])∧Ai w0 w:=by
 have hS:=St.start w0
 have hZ:Al BY 64:=List.length_replicate
 go_enter Tryz.func120,Tryz.ntmps120
 repeat' (first
  | refine X0 ?_|(refine AQ 5 ?_);(refine An AA (V.build (vs:=[]) rfl (Zu)) ?_;go_step)|refine KK 2 ?_;clear hS;intro g2 w hS|refine Fd ?_;clear hS;intro w hS|refine AG ?_;go_step|fail)
 refine AK (xs:=[_,_,_]) rfl (.cons (AC.arr hS rfl (AO (n:=64) rfl) AL) (.cons (AC.tmp rfl) (.cons (AC.tmp rfl) (.nil)))) (by simp) rfl ?_
 exact ⟨rfl,hS.1⟩
def PH(k v:Int):Bool:=decide (0≤k∧k≤12)&&decide (0≤v∧v<2^k.toNat)
theorem RY(k v:Int)(w:World)(h:PH k v=false):Calls Tryz.prog 121 #[.int .i64 k, .int .i64 v] w fun e w'=>e= .returned (.tuple #[.int .i64 0, .int .i64 1])∧w=w':=by
 by_cases hk:0≤k∧k≤12
 case neg=>
  have hk2:k<0∨12<k:=by omega
  clear hk h
  go_enter Tryz.func121,Tryz.ntmps121
  repeat' (first
   | go_skip|((first|(with_reducible refine Io ?_)|(with_reducible refine QC ?_));(first|go_big_want|go_step);go_step)|((with_reducible refine Ak _ (.pick _ _ _) ?_);first|(refine A6 rfl AA ?_;go_step)|(refine A3 rfl AA ?_;go_step))|((refine AQ 8 ?_);(refine CG _ (V.lss rfl rfl) AA (fun hB=>?_) (fun hB=>?_)<;>(try exact AR)<;>go_step))|((refine AQ 11 ?_);(refine CG _ (V.gtr rfl rfl) AA (fun hB=>?_) (fun hB=>?_)<;>(try exact AR)<;>go_step))|(refine AG ?_;go_step)|fail)
  all_goals (try exact AR)
  all_goals
   refine AK (xs:=[_,_]) rfl (.cons (AC.tmp rfl) (.cons (AC.tmp rfl) (.nil))) (by simp) rfl ?_
   exact ⟨rfl,rfl⟩
 obtain ⟨n,rfl⟩:∃n:Nat,k=(n:Int):=⟨k.toNat,by omega⟩
 obtain ⟨p,hp⟩:∃p,2^n=p:=⟨_,rfl⟩
 have HP:Hid ((2:Int)^n=(p:Int)):=AD (by rw [←hp];push_cast;rfl)
 have hp2:p≤4096:=by rw [←hp];exact Nat.pow_le_pow_right (n:=2) (j:=12) (by omega) (by omega)
 have hv:v<0∨(p:Int)≤v:=by
  unfold PH at h
  rw [decide_eq_true hk,Bool.true_and,decide_eq_false_iff_not,Int.toNat_natCast,HP.out] at h
  omega
 clear h hp
 go_enter Tryz.func121,Tryz.ntmps121
 repeat' (first
  | (refine AQ 20 ?_);(refine Ag (.int _ (((p:Nat):Int))) (V.as (V.shl1 rfl rfl A9 (by omega)) (by exact HP.out)) (by kernel_rfl) ?_;go_step)|go_skip|refine X0 ?_|refine Iu ?_|refine Ei 8 ?_ ?_<;>intro hB<;>(try exact AR)<;>go_step|refine Jt 11 ?_ ?_<;>intro hB<;>(try exact AR)<;>go_step|refine Ei 15 ?_ ?_<;>intro hB<;>(try exact AR)<;>go_step|refine Xk ?_|refine AG ?_;go_step|fail)
 all_goals (try exact AR)
 all_goals
  refine AK (xs:=[_,_]) rfl (.cons (AC.tmp rfl) (.cons (AC.tmp rfl) (.nil))) (by simp) rfl ?_
  exact ⟨rfl,rfl⟩
theorem Cp(k v:Int)(w:World)(h:PH k v=true):Calls Tryz.prog 121 #[.int .i64 k, .int .i64 v] w fun e w'=>e= .returned (.tuple #[.int .i64 (Dw k.toNat v.toNat), .int .i64 0])∧w=w':=by
 unfold PH at h
 simp only [Bool.and_eq_true,decide_eq_true_eq] at h
 obtain ⟨n,rfl⟩:∃n:Nat,k=(n:Int):=⟨k.toNat,by omega⟩
 obtain ⟨m,rfl⟩:∃m:Nat,v=(m:Int):=⟨v.toNat,by omega⟩
 rw [Int.toNat_natCast,Int.toNat_natCast]
 refine Nm n m w (by omega) ?_
 have h2:=h.2.2
 rw [Int.toNat_natCast] at h2
 have:((m:Int))<((2^n:Nat):Int):=by push_cast;exact h2
 omega
theorem WM(k v:Nat)(h:v<2^k): -(2^k:Nat)<Dw k v∧Dw k v<(2^k:Nat):=by
 unfold Dw
 split<;>omega
theorem J3(t0 t1 t2:Int)(h:PH t1 t2=true): -4096<C0 (t0,t1,t2)∧C0 (t0,t1,t2)<4096∧(t1≤11→ -2048<C0 (t0,t1,t2)∧C0 (t0,t1,t2)<2048):=by
 unfold PH at h
 simp only [Bool.and_eq_true,decide_eq_true_eq] at h
 obtain ⟨n,rfl⟩:∃n:Nat,t1=(n:Int):=⟨t1.toNat,by omega⟩
 obtain ⟨m,rfl⟩:∃m:Nat,t2=(m:Int):=⟨t2.toNat,by omega⟩
 rw [Int.toNat_natCast] at h
 have h2:m<2^n:=by
  have:((m:Int))<((2^n:Nat):Int):=by push_cast;exact h.2.2
  omega
 have h3:=WM n m h2
 unfold C0
 dsimp only
 rw [Int.toNat_natCast,Int.toNat_natCast]
 have h4:2^n≤4096:=Nat.pow_le_pow_right (n:=2) (j:=12) (by omega) (by omega)
 refine ⟨by omega,by omega,fun h5=>?_⟩
 have h6:2^n≤2048:=Nat.pow_le_pow_right (n:=2) (j:=11) (by omega) (by omega)
 omega
theorem RZ(t0 t1 t2:Int):Ll (t0,t1,t2)=true↔PH t1 t2=false∨11<t1∨t0<0∨255<t0∨t1≠t0%16∨(t1=0∧t0≠0∧t0≠240):=by
 unfold Ll PH
 dsimp only
 generalize hB:(decide (0≤t2∧t2<2^t1.toNat))=B
 clear hB
 cases B
 ·simp
 rw [Bool.and_true,Bool.and_true,Bool.not_eq_true']
 rw [show (decide (0≤t1∧t1≤11)&&decide (0≤t0∧t0≤255)&&decide (t1=t0%16)&&(decide (t1≠0)||decide (t0=0∨t0=240)))=decide ((0≤t1∧t1≤11)∧(0≤t0∧t0≤255)∧t1=t0%16∧(t1≠0∨t0=0∨t0=240)) by
  rw [Bool.eq_iff_iff];simp only [Bool.and_eq_true,Bool.or_eq_true,decide_eq_true_eq];omega]
 rw [decide_eq_false_iff_not,decide_eq_false_iff_not]
 omega
theorem Uv(t0:Int)(h:0≤t0∧t0≤255):bits .and .i64 t0 15=t0%16:=by
 obtain ⟨n,rfl⟩:∃n:Nat,t0=(n:Int):=⟨t0.toNat,by omega⟩
 rw [show (15:Int)=((15:Nat):Int) from rfl,bits_and_i64_nat n 15 (by omega) (by omega)]
 rw [show (15:Nat)=2^4-1 from rfl,Nat.and_two_pow_sub_one_eq_mod]
 omega
theorem La(l:List Int)(h:∀i,i<64→ -2047≤AJ l i∧AJ l i≤2047)(j:Nat)(hj:j<64): -2047≤AJ (Cc l) j∧AJ (Cc l) j≤2047:=by
 obtain ⟨h1,h2⟩:=Sw j hj
 have h3:=N8 l 64 (by omega) _ h1
 rw [h2] at h3
 have h4:AJ (Cc l) j=AJ l (Py.idxOf j):=h3
 rw [h4];exact h _ h1
def Iq{W:World}{σ:Type}(Z:dR W σ)(before:Int)(s0:σ)(rs':List Ar)(e:Ending)(w:World):Prop:=
 ∃ad c,e= .returned (.tuple #[.agg (iv (DX Z.next before s0).2.1), .slice ad (DX Z.next before s0).2.2.1.length c, .int .i64 (DX Z.next before s0).1])∧
  St W w (own 155 3 ad (DX Z.next before s0).2.2.1.length c ((Ej (DX Z.next before s0).2.2.1).map (Value.int .i64))::Z.res (DX Z.next before s0).2.2.2::rs')
theorem Cv{W w:World}{σ:Type}{Z:dR W σ}{before:Int}{s0 s1:σ}{rs' rs:List Ar}(E:Int)(h:DX Z.next before s0=(E,BY,[],s1))(hS:St W w rs)(hp:OH (Z.res s1::rs') rs):
 Iq Z before s0 rs' (.returned (.tuple #[.agg (iv BY), .slice none 0 0, .int .i64 E])) w:=by
 refine ⟨none,0,by rw [h];rfl,?_⟩
 rw [h]
 exact (hS.sub hp).nil _ _
theorem VT{W:World}{σ:Type}(Z:dR W σ)(w0:World)(rs rs':List Ar)(s0:σ)(before:Int)(hb: -2047≤before∧before≤2047)(hS:St W w0 rs)(hp:AT (Z.res s0) rs rs')(hbad:¬((Z.next s0 true).2.1=0∧Bl before (Z.next s0 true).1=true)):
 Calls Tryz.prog 88 #[.int .i64 before, .iface Z.tid Z.ptr] w0 (Iq Z before s0 rs'):=by
 replace hS:=hS.pull hp
 have hbad:=KI.mk hbad
 have hZ0:Al BY 64:=List.length_replicate
 clear hp
 obtain ⟨⟨⟨t0,t1,t2⟩,er,s1⟩,hn⟩:∃x,Z.next s0 true=x:=⟨_,rfl⟩
 by_cases he:er=0
 case neg=>
  have HF:Hid (DX Z.next before s0=(er,BY,[],s1)):=AD (by unfold DX;rw [hn];exact if_pos he)
  have HN:=AD hn
  clear hn
  go_enter Tryz.func88,Tryz.ntmps88
  repeat' (first
   | (refine AQ 19 ?_);refine Ad ?_;refine B5 rfl (.iface Z.tid Z.ptr) rfl [.bool true] rfl Z.f #[Z.ptr, .bool true] (Z.inv true) (Z.call _ _ _ s0 true _ _ _ _ _ hS AL HN.out) ?_;clear hS;rintro e w ⟨rfl,hS⟩;refine Ac ?_;go_step|(refine AQ 26 ?_);refine Ad ?_;refine BJ (f:=120) rfl rfl Tryz.call120 (CW _ _) ?_;rintro e w ⟨rfl,hE⟩;replace hS:=hS.ext hE;clear hE;refine Ac ?_;go_step|refine X0 ?_|refine X6 ?_|refine X4 ?_|refine KK 4 ?_;clear hS;intro g4 w hS|refine It 8 ?_;clear hS;intro g8 w hS|refine Il ?_;clear hS;intro w hS|refine Fd ?_;clear hS;intro w hS|refine AG ?_;go_step|fail)
  refine AK (xs:=[_,_,_]) rfl (.cons (AC.arr hS rfl (AO (n:=64) rfl) AL) (.cons (AC.tmp rfl) (.cons (AC.tmp rfl) (.nil)))) (by simp) rfl ?_
  exact Cv er HF.out hS AV
 subst he
 have HN:=AD hn
 obtain ⟨F,hF⟩:∃F,Bl before (t0,t1,t2)=F:=⟨_,rfl⟩
 by_cases hB:PH t1 t2=true
 case neg=>
  have hB2:PH t1 t2=false:=by simpa using hB
  have HF:Hid (DX Z.next before s0=(4,BY,[],s1)):=AD (by
   have:Bl before (t0,t1,t2)=false:=by
    unfold Bl;dsimp only
    rw [show (decide (0≤t1∧t1≤12)&&decide (0≤t2∧t2<2^t1.toNat))=false from hB2];rfl
   unfold DX;rw [hn]
   rw [if_neg (by simp),if_pos this];rfl)
  clear hn hF hB
  go_enter Tryz.func88,Tryz.ntmps88
  repeat' (first
   | (refine AQ 19 ?_);refine Ad ?_;refine B5 rfl (.iface Z.tid Z.ptr) rfl [.bool true] rfl Z.f #[Z.ptr, .bool true] (Z.inv true) (Z.call _ _ _ s0 true _ _ _ _ _ hS AL HN.out) ?_;clear hS;rintro e w ⟨rfl,hS⟩;refine Ac ?_;go_step|(refine AQ 37 ?_);refine AM (f:=121) Tryz.call121 AA ?_;refine ⟨_,(RY t1 t2 _ hB2),?_⟩;rintro e w' ⟨rfl,rfl⟩;refine Ac ?_;go_step|(refine AQ 57 ?_);refine Ad ?_;refine BJ (f:=120) rfl rfl Tryz.call120 (CW _ _) ?_;rintro e w ⟨rfl,hE⟩;replace hS:=hS.ext hE;clear hE;refine Ac ?_;go_step|go_skip|refine X0 ?_|refine Fi ?_|refine Fh 41 ?_ ?_<;>intro hB<;>(try exact AR)<;>go_step|refine X6 ?_|refine X4 ?_|refine RU ?_|refine bM ?_|refine KK 4 ?_;clear hS;intro g4 w hS|refine It 8 ?_;clear hS;intro g8 w hS|refine Il ?_;clear hS;intro w hS|refine Fd ?_;clear hS;intro w hS|refine RV ?_|refine RT 31 ?_;clear hS;intro g31 w hS|refine X9 ?_|refine AG ?_;go_step|fail)
  all_goals (try exact AR)
  refine AK (xs:=[_,_,_]) rfl (.cons (AC.arr hS rfl (AO (n:=64) rfl) AL) (.cons (AC.tmp rfl) (.cons (AC.tmp rfl) (.nil)))) (by simp) rfl ?_
  exact Cv 4 HF.out hS AV
 obtain ⟨n,hnum⟩:∃n,C0 (t0,t1,t2)=n:=⟨_,rfl⟩
 have hnb:=J3 t0 t1 t2 hB
 rw [hnum] at hnb
 obtain ⟨hn1,hn2,_⟩:=hnb
 have HNum:Hid (Dw t1.toNat t2.toNat=n):=AD hnum
 obtain ⟨q,hq⟩:∃q,XL (before+n)=q:=⟨_,rfl⟩
 have HQ:=AD hq
 by_cases hok:t0=t1∧q=true
 case neg=>
  have HF:Hid (DX Z.next before s0=(4,BY,[],s1)):=AD (by
   have:Bl before (t0,t1,t2)=false:=by
    unfold Bl;rw [hnum];dsimp only
    by_cases h1:t0=t1
    ·rw [show decide (-2047≤before+n∧before+n≤2047)=false from decide_eq_false (fun h=>hok ⟨h1,by rw [←hq];exact (GY _).2 h⟩)];simp
    rw [decide_eq_false h1];simp
   unfold DX;rw [hn]
   rw [if_neg (by simp),if_pos this];rfl)
  clear hn hF hnum hq
  by_cases h1:t0=t1
  case pos=>
   obtain rfl:q=false:=by cases q<;>simp_all
   clear hok
   go_enter Tryz.func88,Tryz.ntmps88
   repeat' (first
    | (refine AQ 19 ?_);refine Ad ?_;refine B5 rfl (.iface Z.tid Z.ptr) rfl [.bool true] rfl Z.f #[Z.ptr, .bool true] (Z.inv true) (Z.call _ _ _ s0 true _ _ _ _ _ hS AL HN.out) ?_;clear hS;rintro e w ⟨rfl,hS⟩;refine Ac ?_;go_step|(refine AQ 37 ?_);refine AM (f:=121) Tryz.call121 AA ?_;refine ⟨_,(Cp t1 t2 _ hB),?_⟩;rintro e w' ⟨rfl,rfl⟩;rw [HNum.out];refine Ac ?_;go_step|(refine As 122 ?_);refine At AA Tryz.call122 (Db (before+n) _) ?_;rintro e w' ⟨rfl,rfl⟩;rw [HQ.out];refine Ac ?_;go_step|(refine AQ 57 ?_);refine Ad ?_;refine BJ (f:=120) rfl rfl Tryz.call120 (CW _ _) ?_;rintro e w ⟨rfl,hE⟩;replace hS:=hS.ext hE;clear hE;refine Ac ?_;go_step|refine X0 ?_|refine H7 ?_|refine Fh 41 ?_ ?_<;>intro hB<;>(try exact AR)<;>go_step|refine Fh 47 ?_ ?_<;>intro hB<;>(try exact AR)<;>go_step|refine X6 ?_|refine X4 ?_|refine RU ?_|refine bM ?_|refine Uj ?_|refine X7 ?_|refine RW ?_|refine KK 4 ?_;clear hS;intro g4 w hS|refine It 8 ?_;clear hS;intro g8 w hS|refine Il ?_;clear hS;intro w hS|refine Fd ?_;clear hS;intro w hS|refine RV ?_|refine RT 31 ?_;clear hS;intro g31 w hS|refine X9 ?_|refine AG ?_;go_step|fail)
   all_goals (try exact AR)
   refine AK (xs:=[_,_,_]) rfl (.cons (AC.arr hS rfl (AO (n:=64) rfl) AL) (.cons (AC.tmp rfl) (.cons (AC.tmp rfl) (.nil)))) (by simp) rfl ?_
   exact Cv 4 HF.out hS AV
  case neg=>
   clear hok
   go_enter Tryz.func88,Tryz.ntmps88
   repeat' (first
    | (refine AQ 19 ?_);refine Ad ?_;refine B5 rfl (.iface Z.tid Z.ptr) rfl [.bool true] rfl Z.f #[Z.ptr, .bool true] (Z.inv true) (Z.call _ _ _ s0 true _ _ _ _ _ hS AL HN.out) ?_;clear hS;rintro e w ⟨rfl,hS⟩;refine Ac ?_;go_step|(refine AQ 37 ?_);refine AM (f:=121) Tryz.call121 AA ?_;refine ⟨_,(Cp t1 t2 _ hB),?_⟩;rintro e w' ⟨rfl,rfl⟩;rw [HNum.out];refine Ac ?_;go_step|(refine AQ 57 ?_);refine Ad ?_;refine BJ (f:=120) rfl rfl Tryz.call120 (CW _ _) ?_;rintro e w ⟨rfl,hE⟩;replace hS:=hS.ext hE;clear hE;refine Ac ?_;go_step|go_skip|refine X0 ?_|refine Iu ?_|refine Fh 41 ?_ ?_<;>intro hB<;>(try exact AR)<;>go_step|refine Fh 47 ?_ ?_<;>intro hB<;>(try exact AR)<;>go_step|refine X6 ?_|refine X4 ?_|refine RU ?_|refine bM ?_|refine Uj ?_|refine KK 4 ?_;clear hS;intro g4 w hS|refine It 8 ?_;clear hS;intro g8 w hS|refine Il ?_;clear hS;intro w hS|refine Fd ?_;clear hS;intro w hS|refine RV ?_|refine RT 31 ?_;clear hS;intro g31 w hS|refine X9 ?_|refine AG ?_;go_step|fail)
   all_goals (try exact AR)
   refine AK (xs:=[_,_,_]) rfl (.cons (AC.arr hS rfl (AO (n:=64) rfl) AL) (.cons (AC.tmp rfl) (.cons (AC.tmp rfl) (.nil)))) (by simp) rfl ?_
   exact Cv 4 HF.out hS AV
 obtain ⟨rfl,rfl⟩:=hok
 have hco:=(GY _).1 hq
 have HFirst:Hid (Bl before (t0,t0,t2)=true):=AD (by
  unfold Bl;rw [hnum];dsimp only
  rw [show (decide (0≤t0∧t0≤12)&&decide (0≤t2∧t2<2^t0.toNat))=true from hB,decide_eq_true (rfl:t0=t0),decide_eq_true hco];rfl)
 exact absurd ⟨by rw [hn],by rw [hn];exact HFirst.out⟩ hbad.out
end Go.Proofs.YtohacgmhmbijmaaGreatDoor
