/- What the laws RescueHurt need, part 17. -/
import Derived.Test.YtohacgmhmbijmaaGreatDoorBaseHZ1
import Derived.Test.YtohacgmhmbijmaaGreatDoorBaseHZ2
import Derived.Test.YtohacgmhmbijmaaGreatDoorBaseHZ3
import Derived.Test.YtohacgmhmbijmaaGreatDoorBaseHZ4
import Derived.Test.YtohacgmhmbijmaaGreatDoorBaseHZ5
import Derived.Test.YtohacgmhmbijmaaGreatDoorBaseHZ6
import Derived.Test.YtohacgmhmbijmaaGreatDoorBaseHZ7
import Derived.Test.YtohacgmhmbijmaaGreatDoorBaseHZ10
import Derived.Test.YtohacgmhmbijmaaGreatDoorBaseHZ11
import Derived.Test.YtohacgmhmbijmaaGreatDoorBaseHZ16
import Derived.RangeFuncNested
import Derived.RangeFuncBound
import Derived.RangeFuncCalls
import Derived.RangeFuncLeaves
import Derived.RangeFuncFrom
import Derived.OwnWalkIn
import Derived.LoopIn
import Derived.WalkKit
import Derived.TacticsInMore
import Derived.LoopNIn
import Derived.Sort.LoopGhostIn
import Derived.Laws.IdiomStrings
import Derived.Test.YtohacgmhmbijmaaGreatDoorProg
namespace Go.Proofs.YtohacgmhmbijmaaGreatDoor
attribute [local irreducible] Region.wanted
open Go.RowKit
set_option linter.unusedVariables false
set_option maxRecDepth 100000
set_option maxHeartbeats 8000000
section
variable{P:Program}{ops:Array Oper}{Q:Exit→Act→World→Prop}{a:Act}{w:World}{o:Oper}{K:Act→World→Prop}
theorem Yy(l n:Nat)(ho:∀c,o.op≠ .defer c)(h:o.wp P a w K Q):o.wpIn (Fence.wide.inRound l) n P a w K Q:=by
 refine ⟨fun f _=>trivial,?_⟩
 rw [Oper.semAt_plain _ _ _ ho]
 unfold Oper.wp at h
 generalize (execOp a.eval o).run P w=r at h⊢
 match r,h with
 | .ok (.value v) w',h=>exact h
 | .ok .skip w',h=>exact h
 | .ok (.defer d) w',h=>exact h
 | .ok (.enter f args) w',h=>exact ⟨fun h=>(by cases h),CallsIn.inRound l (callsIn_wide.2 h)⟩
 | .ok (.row row args) w',h=>
   refine ⟨fun h=>(by cases h),fun c cs _=>?_⟩
   obtain ⟨v,w'',r,s⟩:=h c cs
   exact ⟨v,w'',r,stepsIn_wide.2 s⟩
 | .halt (.panic v) w',h=>exact h
def NU:Op→Bool
 | .defer _=>false
 | _=>true
theorem DF(l n:Nat)(hout:¬LetsOut Q):∀(L:List Oper)(a:Act)(w:World),(L.all fun o=>NU o.op)=true→wpList P ops Q L a w→wpListIn (Fence.wide.inRound l) n P ops Q L a w
 | [],a,w,_,h=>h
 | o::L,a,w,hd,h=>by
   rw [List.all_cons,Bool.and_eq_true] at hd
   have hd1:∀c,o.op≠ .defer c:=fun c e=>by rw [e] at hd;exact absurd hd.1 (by simp [NU])
   have e:wpList P ops Q L=wpList P ops Q L:=rfl
   simp only [wpList] at h
   simp only [wpListIn]
   split at h
   ·rename_i hw
    rw [if_pos hw]
    rcases h with h|⟨_,h⟩
    ·have h2:=Yy l n hd1 h
     refine ⟨h2.1,?_⟩
     have h3:=h2.2
     revert h3
     have mono:∀(r:Result Next),o.uponIn (Fence.wide.inRound l) n P a (wpList P ops Q L) Q r→o.uponIn (Fence.wide.inRound l) n P a (wpListIn (Fence.wide.inRound l) n P ops Q L) Q r:=fun r hr=>by
      match r,hr with
      | .ok (.value v) w',hr=>exact DF l n hout L _ _ hd.2 hr
      | .ok .skip w',hr=>exact DF l n hout L _ _ hd.2 hr
      | .ok (.defer d) w',hr=>exact DF l n hout L _ _ hd.2 hr
      | .ok (.enter f args) w',hr=>
        refine ⟨hr.1,hr.2.mono ?_⟩
        rintro e w'' he
        match e,he with
        | .returned v,he=>exact DF l n hout L _ _ hd.2 he
        | .panicked chain,he=>exact he
        | .outgrown,he=>exact he
      | .ok (.row row args) w',hr=>exact ⟨hr.1,hr.2.mono fun v w'' he=>DF l n hout L _ _ hd.2 he⟩
      | .ok (.round l' f tmps assign body) w',hr=>
        refine ⟨hr.1,hr.2.mono ?_⟩
        rintro e w'' he
        match e,he with
        | .returned v,he=>exact DF l n hout L _ _ hd.2 he
        | .panicked chain,he=>exact he
        | .outgrown,he=>exact he
      | .halt (.panic v) w',hr=>exact hr
     exact mono _
    exact absurd h hout
   rename_i hw
   rw [if_neg hw]
   exact ⟨fun _ _=>trivial,DF l n hout L _ _ hd.2 h⟩
theorem BG{l n id:Nat}{L:List Oper}(hout:¬LetsOut Q)(hd:(L.all fun o=>NU o.op)=true)(h:wpList P L.toArray Q L a w):(Code.region id L.toArray false).wpIn (Fence.wide.inRound l) n P Q a w:=
 wpIn_region_lit (DF l n hout L a w hd h)
end
def FI(r:Ar):Prop:=∀w f,r.holds w f→∀b∈f,∃o:Obj,w.heap[b]? =some o∧o.isCells=true
theorem Cz(g:Nat)(cs:List Value):FI (blk g cs):=by
 rintro w f ⟨rfl,t,h⟩ b hb
 obtain rfl:b=g:=by simpa using hb
 exact ⟨_,h,rfl⟩
theorem FP(e:TypeId)(s:Nat)(a:Option Addr)(n c:Nat)(xs:List Value):FI (own e s a n c xs):=by
 rintro w f ⟨rfl,h⟩ b hb
 rcases h.2 with h2|⟨g,cap,cur,k1,k2,k3,k4⟩
 ·cases h2.1
  simp [Value.ownBlock] at hb
 rw [k1] at hb
 obtain rfl:b=g:=by simpa [Value.ownBlock] using hb
 exact ⟨_,k3,rfl⟩
theorem Eo{w:World}:∀{rs:List Ar} {f:List Nat},(∀r∈rs,FI r)→Co w rs f→∀b∈f,∃o:Obj,w.heap[b]? =some o∧o.isCells=true
 | [],f,_,h,b,hb=>by have h:f=[]:=h;subst h;cases hb
 | r::rs,f,hc,⟨f1,f2,e,h1,h2⟩,b,hb=>by
   subst e
   rcases List.mem_append.1 hb with hb|hb
   ·exact hc r (by simp) w f1 h1 b hb
   exact Eo (fun x hx=>hc x (by simp [hx])) h2 b hb
theorem JM{rs:List Ar}(h:∀r∈rs,FI r):FI (star rs):=fun w f ⟨_,hf⟩=>Eo h hf
def Kv(w0:World)(B:Nat):List Nat:=((List.range w0.heap.size).filter fun k=>decide (B≤k)&&(match w0.heap[k]? with|some o=>!o.isCells|none=>false))
theorem EX(w0:World)(B k:Nat):k∈Kv w0 B↔B≤k∧∃o:Obj,w0.heap[k]? =some o∧o.isCells=false:=by
 unfold Kv
 rw [List.mem_filter,List.mem_range,Bool.and_eq_true,decide_eq_true_eq]
 constructor
 ·rintro ⟨h1,h2,h3⟩
  refine ⟨h2,?_⟩
  cases ho:w0.heap[k]? with
  | none=>rw [ho] at h3;cases h3
  | some o=>rw [ho] at h3;exact ⟨o,rfl,by simpa using h3⟩
 rintro ⟨h1,o,h2,h3⟩
 refine ⟨(Array.getElem?_eq_some_iff.1 h2).1,h1,?_⟩
 rw [h2];simp [h3]
def fixd(w0:World)(B:Nat):Ar where
 holds w f:=f=Kv w0 B∧∀k∈f,w.heap[k]? =w0.heap[k]?
 lt:=fun {w f} ⟨e,h2⟩ b hb=>by
  have h3:=h2 b hb
  rw [e] at hb
  obtain ⟨_,o,h4,_⟩:=(EX w0 B b).1 hb
  rw [h4] at h3
  exact (Array.getElem?_eq_some_iff.1 h3).1
 loc:=fun ⟨e,h2⟩ hs=>⟨e,fun k hk=>(hs k hk).trans (h2 k hk)⟩
theorem St.grownC{W w w':World}{row:Option Nat}{rs:List Ar}(h:St W w rs)(hg:w.grownBy w' row)(hr:∀r,row=some r→W.heap.size≤r∧∃o:Obj,w.heap[r]? =some o∧o.isCells=false)(hc:∀r∈rs,FI r):St W w' rs:=by
 obtain ⟨h1,f,h2,h3,h4⟩:=h
 have ho:=Ek.grown hg
 refine ⟨ho.ext h1 (fun b hb=>(hr b (by cases row<;>simp_all)).1),f,h2,h3,h4.loc fun b hb=>ho.block b (h4.lt b hb) fun hm=>?_⟩
 obtain ⟨o,k1,k2⟩:=(hr b (by cases row<;>simp_all)).2
 obtain ⟨o',k3,k4⟩:=Eo hc h4 b hb
 rw [k1] at k3
 obtain rfl:=Option.some.inj k3
 rw [k2] at k4
 cases k4
theorem St.fixd{w0 W:World}{rs:List Ar}(h:St w0 W rs)(hc:∀r∈rs,FI r):St w0 W (fixd W w0.heap.size::rs):=by
 obtain ⟨h1,f,h2,h3,h4⟩:=h
 refine ⟨h1,Kv W w0.heap.size++f,List.nodup_append.2 ⟨List.Pairwise.filter _ List.nodup_range,h2,fun a ha b hb hab=>?_⟩,fun b hb=>?_,Kv W w0.heap.size,f,rfl,⟨rfl,fun _ _=>rfl⟩,h4⟩
 ·subst hab
  obtain ⟨_,o,k1,k2⟩:=(EX _ _ _).1 ha
  obtain ⟨o',k3,k4⟩:=Eo hc h4 a hb
  rw [k1] at k3
  obtain rfl:=Option.some.inj k3
  rw [k2] at k4
  cases k4
 rcases List.mem_append.1 hb with hb|hb
 ·exact ((EX _ _ _).1 hb).1
 exact h3 b hb
theorem Lx{w0 W w:World}{rs rs':List Ar}(h:St w0 w rs)(p:AT (Go.Proofs.YtohacgmhmbijmaaGreatDoor.fixd W w0.heap.size) rs rs')(h0:Ai w0 W)(hs:W.heap.size≤w.heap.size):KeepsOthers W w:=by
 obtain ⟨h1,f,h2,h3,f1,f2,e,⟨k1,k2⟩,h5⟩:=h.pull p
 refine ⟨hs,fun k o hk ho=>?_⟩
 by_cases hl:k<w0.heap.size
 ·rw [h1.at hl,←h0.at hl];exact hk
 rw [k2 k (by rw [k1];exact (EX _ _ _).2 ⟨by omega,o,hk,ho⟩)];exact hk
theorem Yb{w0 W w:World}{B k:Nat}{o:Obj}{rs rs':List Ar}(h:St w0 w rs)(p:AT (Go.Proofs.YtohacgmhmbijmaaGreatDoor.fixd W B) rs rs')(hB:B≤k)(hk:W.heap[k]? =some o)(ho:o.isCells=false):w.heap[k]? =some o:=by
 obtain ⟨h1,f,h2,h3,f1,f2,e,⟨k1,k2⟩,h5⟩:=h.pull p
 rw [k2 k (by rw [k1];exact (EX _ _ _).2 ⟨hB,o,hk,ho⟩)];exact hk
theorem V8{W w:World}{rs rs':List Ar}{e:TypeId}{s n c:Nat}{ad:Addr}{xs:List Value}(h:St W w rs)(p:AT (own e s (some ad) n c xs) rs rs'):W.heap.size≤ad.block∧ad.block<w.heap.size:=by
 obtain ⟨h1,f,h2,h3,f1,f2,e9,h9,h5⟩:=h.pull p
 have k1:=h9.1
 have hm:ad.block∈f1:=by rw [k1];simp [Value.ownBlock]
 subst e9
 have hl:=Co.lt (rs:=[own _ s (some ad) n c xs]) (w:=w) (f:=f1) ⟨f1,[],(List.append_nil _).symm,h9,rfl⟩ _ hm
 exact ⟨h3 _ (List.mem_append_left _ hm),hl⟩
section
variable{P:Program}{W w:World}{rs rs':List Ar}{Q:Exit→Act→World→Prop}{K:Act→World→Prop}{o:Oper}{a:Act}
theorem UP(hS:St W w rs)(ty:TypeId)(x y:Operand)(ho:o.op= .store ty x y)(g q:Nat)(hx:a.eval x= .pointer (some ⟨g,q,none⟩))(m:Nat)(h1:Ey P ty m)(e:TypeId)(s n c:Nat)(A old new B:List Value)(hp:AT (own e s (some ⟨g,0,none⟩) n c (A++(old++B))) rs rs')
 (hq:q=A.length) (hol:old.length=m) (hnl:new.length=m) (hone:new.all (·.oneCell')=true) (hy:a.eval y= .agg new.toArray) (hd:o.dst=none) (h:∀w',St W w' (own e s (some ⟨g,0,none⟩) n c (A++(new++B))::rs')→K a w'):o.wp P a w K Q:=by
 subst hq
 have hown:=hS.own hp
 have hlen:=hown.1
 rcases hown.2 with ⟨h2,_⟩|⟨g',cap,cur,h2,hb,hg,hn,hc,hsz,htake⟩
 ·cases h2
 cases h2
 have ecur:cur.toList=A++(old++(B++cur.toList.drop (n*s))):=by
  conv=>lhs;rw [←List.take_append_drop (n*s) cur.toList,htake]
  simp
 refine wp_store_mid ty x y ho g A.length new.toArray hx hy ?_ (by rw [h1.2];simp [hnl]) (by simpa using hone) ?_
 ·intro i hi
  rw [List.size_toArray,hnl] at hi
  refine ⟨?_,frozen_of_row w g _ cur e hg⟩
  have:=F7 hS hp (k:=A.length+i) (v:=(A++(old++B))[A.length+i]'(by simp;omega)) (by rw [List.getElem?_eq_getElem])
  rw [this];rfl
 rw [show a.put o.dst undef=a by rw [hd];rfl]
 refine h _ ?_
 refine St.change (rs1:=[own e s (some ⟨g,0,none⟩) n c (A++(new++B))]) (hS.pull hp) fun f1 k1 _ _=>?_
 obtain ⟨rfl,_⟩:=k1
 obtain ⟨cur',k2,k3,k4⟩:=FY w g e [] [] (B++cur.toList.drop (n*s)) new old A w cur hg ecur (by rw [hol,hnl])
 have hAB:(A++(new++B)).length=n*s:=by rw [←hlen];simp [hol,hnl]
 refine ⟨[g],⟨[g],[],rfl,⟨rfl,hAB, .inr ⟨g,c,cur',rfl,hb,k2,hn,hc,?_,?_⟩⟩,rfl⟩,by simp,fun b hb=> .inl hb,k4⟩
 ·have a1:=congrArg List.length k3
  have a2:=congrArg List.length ecur
  simp only [List.length_append,Array.length_toList,hol,hnl] at a1 a2
  omega
 have a3:cur'.toList=(A++(new++B))++cur.toList.drop (n*s):=by rw [k3];simp
 rw [a3,List.take_left' hAB]
end
section
variable{P:Program}{ops:Array Oper}{Q:Exit→Act→World→Prop}{a:Act}{w:World}{o:Oper}{K:Act→World→Prop}{t ty:TypeId}{x lo hi mx:Operand}
theorem V.slice3{ad:Option Addr}{n c l h m s:Nat}{e:TypeId}{k1 k2 k3:IntKind}(ht:P.underlying t=some (.slice e))(hs:(P.info? e).map (·.size)=some s)(hx:a.eval x= .slice ad n c)(e1:a.eval lo= .int k1 (l:Int))(e2:a.eval hi= .int k2 (h:Int))(e3:a.eval mx= .int k3 (m:Int))(h1:l≤h)(h2:h≤m)(h3:m≤c):
 DW P (.slice t x (some lo) (some hi) (some mx)) ty a (.slice (cutAt ad m l s) (h-l) (m-l)):=fun d pos af g w=>by
 have e0:P.elem t=e:=by simp [Program.elem,ht]
 have ht':P.underlying t=some (.slice (P.elem t)):=by rw [e0];exact ht
 have hr:=run_slice_lhm w t ad n c ht' k1 k2 k3 (l:Int) (h:Int) (m:Int) (by omega) (by omega) (by omega) (by omega)
 rw [Int.toNat_natCast,Int.toNat_natCast,Int.toNat_natCast,e0,Bo w hs,Result.andThen_ok] at hr
 simp only [execOp,hx,e1,e2,e3,Option.map_some,Sem.run_bind,run_sliceAt_slice w t _ _ _ _ ht',hr,Result.andThen_ok,Sem.run_pure,sliced,cutAt]
theorem V6(n:Nat)(h:o.wp P a w K Q):o.wpIn Fence.wide n P a w K Q:=by
 refine ⟨fun f _=>trivial,?_⟩
 show o.uponIn Fence.wide n P a K Q ((o.semAt none a.eval).run P w)
 rw [Oper.semAt_none]
 unfold Oper.wp at h
 generalize (execOp a.eval o).run P w=r at h⊢
 match r,h with
 | .ok (.value v) w',h=>exact h
 | .ok .skip w',h=>exact h
 | .ok (.defer d) w',h=>exact h
 | .ok (.enter f args) w',h=>exact ⟨fun h=>(by cases h),callsIn_wide.2 h⟩
 | .ok (.row row args) w',h=>
   refine ⟨fun h=>(by cases h),fun c cs _=>?_⟩
   obtain ⟨v,w'',r,s⟩:=h c cs
   exact ⟨v,w'',r,stepsIn_wide.2 s⟩
 | .halt (.panic v) w',h=>exact h
theorem Ch(n:Nat)(L2:List Oper)(hout:¬LetsOut Q):∀(L:List Oper)(a:Act)(w:World),wpList P ops (Exit.then (wpListIn Fence.wide n P ops Q L2) Q) L a w→wpListIn Fence.wide n P ops Q (L++L2) a w
 | [],a,w,h=>h
 | o::L,a,w,h=>by
   rw [List.cons_append]
   simp only [wpList] at h
   simp only [wpListIn]
   have ho2:¬LetsOut (Exit.then (wpListIn Fence.wide n P ops Q L2) Q):=fun ⟨a,w,h⟩=>hout ⟨a,w,h⟩
   split at h
   ·rename_i hw
    rw [if_pos hw]
    rcases h with h|⟨_,h⟩
    ·have h2:=V6 n h
     refine ⟨h2.1,?_⟩
     have h3:=h2.2
     revert h3
     have mono:∀(r:Result Next),o.uponIn Fence.wide n P a (wpList P ops (Exit.then (wpListIn Fence.wide n P ops Q L2) Q) L) (Exit.then (wpListIn Fence.wide n P ops Q L2) Q) r→o.uponIn Fence.wide n P a (wpListIn Fence.wide n P ops Q (L++L2)) Q r:=fun r hr=>by
      match r,hr with
      | .ok (.value v) w',hr=>exact Ch n L2 hout L _ _ hr
      | .ok .skip w',hr=>exact Ch n L2 hout L _ _ hr
      | .ok (.defer d) w',hr=>exact Ch n L2 hout L _ _ hr
      | .ok (.enter f args) w',hr=>
        refine ⟨hr.1,hr.2.mono ?_⟩
        rintro e w'' he
        match e,he with
        | .returned v,he=>exact Ch n L2 hout L _ _ he
        | .panicked chain,he=>exact he
        | .outgrown,he=>exact he
      | .ok (.row row args) w',hr=>exact ⟨hr.1,hr.2.mono fun v w'' he=>Ch n L2 hout L _ _ he⟩
      | .ok (.round l' f tmps assign body) w',hr=>
        refine ⟨hr.1,hr.2.mono ?_⟩
        rintro e w'' he
        match e,he with
        | .returned v,he=>exact Ch n L2 hout L _ _ he
        | .panicked chain,he=>exact he
        | .outgrown,he=>exact he
      | .halt (.panic v) w',hr=>exact hr
     exact mono _
    exact absurd h ho2
   rename_i hw
   rw [if_neg hw]
   exact ⟨fun _ _=>trivial,Ch n L2 hout L _ _ h⟩
end
def Ck(np:Nat):Type:={x:Nat // x<np}
def cg(Bs Bn:Nat)(W W':World):Prop:=W'.cell? ⟨Bs,0,none⟩=W.cell? ⟨Bs,0,none⟩∧W'.cell? ⟨Bn,0,none⟩=W.cell? ⟨Bn,0,none⟩
def dK(b off K x:Nat):Value:= .slice (some ⟨b,off+x*K*64,none⟩) K K
theorem WZ{a:Act}{ty:TypeId}{x lo hi mx:Operand}{b off M c q K:Nat}(hx:a.eval x= .slice (some ⟨b,off,none⟩) M c)(h1:a.eval lo= .int .i64 (q:Int))(h2:a.eval hi= .int .i64 ((q+K:Nat):Int))(h3:a.eval mx= .int .i64 ((q+K:Nat):Int))(hK:1≤K)(hc:q+K≤c):
 DW Tryz.prog (.slice 42 x (some lo) (some hi) (some mx)) ty a (.slice (some ⟨b,off+q*64,none⟩) K K):=by
 have h:=V.slice3 (ty:=ty) Tryz.underlying42 JY hx h1 h2 h3 (by omega) (Nat.le_refl _) hc
 rw [show q+K-q=K by omega] at h
 unfold cutAt at h
 rw [if_neg (by omega)] at h
 simpa only [Option.map_some,Addr.add_mid] using h
theorem TK(n:Nat)(hn:1≤n)(l Bs Bn b off c np K M:Nat)(hK:1≤K∧K≤64)(hnp:np≤3)(hM:np*K=M)(hc:M≤c)(hcm:c≤maxLen)(J Jx:List (Ck np)→World→Prop)
 (hA:∀s W W',J s W→Ai W W'→J s W')
 (hY:∀pre (x:Ck np) W,J pre W→pre.length<np→YieldAt Fence.wide (n-1) Tryz.prog l #[dK b off K x.1] W fun e W'=>(e= .returned (.bool true)∧J (pre++[x]) W'∧cg Bs Bn W W')∨(e= .returned (.bool false)∧Jx (pre++[x]) W'))
 (W:World) (hcs:W.cell? ⟨Bs,0,none⟩=some (.slice (some ⟨b,off,none⟩) M c)) (hcn:W.cell? ⟨Bn,0,none⟩=some (.int .i64 (K:Int))) (h0:J [] W):
 CallsIn Fence.wide n Tryz.prog 125 #[.func (.yield l) #[] #[], .pointer (some ⟨Bs,0,none⟩), .pointer (some ⟨Bn,0,none⟩)] W fun e W'=>(∃v,e= .returned v)∧
  ((∃ys:List (Ck np),ys.map (·.1)=List.range np∧J ys W')∨(∃pre,Jx pre W')):=by
 refine callsIn_of_wp Tryz.func125 rfl trivial ?_ rfl
 simp only [Tryz.ntmps125,List.size_toArray,List.length_cons,List.length_nil,Nat.reduceAdd,Nat.reduceSub,Array.replicate_succ,Array.replicate_zero,List.push_toArray,List.append_toArray,List.nil_append,List.cons_append]
 gi_wp2
 gi_loopw [4] (fun i wr=>∃(k q:Nat) (pre:List (Ck np)),k≤np∧k*K=q∧i= .int .i64 (q:Int)∧pre.map (·.1)=List.range k∧J pre wr∧wr.cell? ⟨Bs,0,none⟩=some (.slice (some ⟨b,off,none⟩) M c)∧wr.cell? ⟨Bn,0,none⟩=some (.int .i64 (K:Int))) (fun i _=>M-(intOf i).toNat)
 case atStart=>exact ⟨0,0,[],Nat.zero_le _,by omega,rfl,rfl,h0,hcs,hcn⟩
 case round=>
  obtain ⟨k,q,pre,hk,hq,rfl,hpre,hJ,hs1,hs2⟩:=hrel
  have hkK:q≤192:=by have:=Nat.mul_le_mul (show k≤3 by omega) hK.2;omega
  have hnK:M≤192:=by have:=Nat.mul_le_mul hnp hK.2;omega
  by_cases hlt:k<np
  ·have hlt2:q+K≤M:=by have:=Nat.mul_le_mul_right K (show k+1≤np by omega);rw [Nat.add_mul,Nat.one_mul] at this;omega
   have hckv:dK b off K k= .slice (some ⟨b,off+q*64,none⟩) K K:=by unfold dK;rw [hq]
   have hlen:pre.length<np:=by have:=congrArg List.length hpre;simp at this;omega
   have hS:=St.start wr
   gi_wp2
   refine wpIn_wide.2 ?_
   refine AP [] (fun w=>St wr w []) AA ?_
   replace hS:=hS.drew
   focus
    refine Y8 0 [5,6] ?_
    apply Ct 1 Aj AA AA AA Be [3,4,5,6] AA (hS.sub AV)
    case hfr=>intro w hS;((refine Ad ?_;apply Aa hS 42 _ rfl _ rfl (AH rfl) _;(case hc=>with_reducible assumption);refine AB ?_;go_step));refine wpList_nil ?_;exact ⟨rfl,rfl⟩
    case hd=>rfl
    refine AZ 2 ?_
    refine eu 3 ?_
    refine BZ 4 BN (V.len Tryz.underlying42 rfl) ?_;go_step
    (refine BV 5 (.int _ ((K:Int))) Aj AA AA AA Be (V.as (V.min rfl rfl) (by omega)) AA ?_)
    go_step
    refine AZ 6 ?_
    refine AE AA ?_ _
   all_goals
    dsimp only [Exit.then]
    first|(rename_i hk9;refine hk9 _ _ ?_)|(rename_i hk9 _;refine hk9 _ _ ?_)|(rename_i hk9 _ _;refine hk9 _ _ ?_)|(rename_i hk9 _ _ _;refine hk9 _ _ ?_)|(rename_i hk9 _ _ _ _;refine hk9 _ _ ?_)
    gi_step
    refine wpIn_region_lit ?_
    refine Ch n [_,_] (fun hlo=>?_) [_,_,_,_,_,_,_,_,_,_] _ _ ?_
    case _=>
     obtain ⟨a9,w9,h9⟩:=hlo
     obtain ⟨⟨v9,e9⟩,_⟩:(∃v,Ending.outgrown=Ending.returned v)∧_:=h9
     cases e9
    repeat' (first
     | (refine AQ 24 ?_);refine Ag (.int _ ((q+K:Nat):Int)) (V.as (V.addI rfl rfl (by omega)) (by omega)) (by kernel_rfl) ?_;go_step|(refine AQ 27 ?_);refine Ag (.int _ ((q+K:Nat):Int)) (V.as (V.addI rfl rfl (by omega)) (by omega)) (by kernel_rfl) ?_;go_step|(refine AQ 28 ?_);refine An AA (WZ (K:=K) (q:=q) (M:=M) (c:=c) rfl rfl rfl rfl hK.1 (by omega)) ?_;go_step|refine X1 ?_|(with_reducible refine Ak _ (.load 42 _) ?_);(refine Ad ?_;apply Aa hS 42 _ rfl _ rfl (AH rfl) _;(case hc=>with_reducible assumption);refine AB ?_;go_step)|refine AG ?_;go_step|fail)
    have hJ2:=hA pre wr wr.drew hJ (Ai.refl wr).drew
    have hs3:wr.drew.cell? ⟨Bn,0,none⟩=some (.int .i64 (K:Int)):=(Ai.refl wr).drew.cell hs2
    obtain ⟨fn,tmps,assign,body,hy,hR⟩:=hY pre ⟨k,hlt⟩ wr.drew hJ2 hlen
    dsimp only at hy
    rw [hckv] at hy
    gi_wp2
    refine hR.mono ?_
    rintro e W3 (⟨rfl,hJ3,hb3⟩|⟨rfl,hJx3⟩)
    ·have hs4:W3.cell? ⟨Bn,0,none⟩=some (.int .i64 (K:Int)):=hb3.2.trans hs3
     have hs5:W3.cell? ⟨Bs,0,none⟩=some (.slice (some ⟨b,off,none⟩) M c):=hb3.1.trans ((Ai.refl wr).drew.cell hs1)
     gi_wp2
     go_roundw
     case rel=>exact ⟨k+1,q+K,pre++[⟨k,hlt⟩],by omega,by rw [Nat.add_mul,Nat.one_mul];omega,by go_num,by rw [List.map_append,hpre,List.range_succ];rfl,hJ3,hs5,hs4⟩
     case measure=>simp [intOf];omega
    gi_wp2
    refine bodyPost_ret (results_none rfl _ _ _) rfl ?_
    exact ⟨⟨_,rfl⟩, .inr ⟨_,hJx3⟩⟩
  obtain rfl:k=np:=by omega
  obtain rfl:q=M:=by omega
  gi_wp2
  go_end0
  exact ⟨⟨_,rfl⟩, .inl ⟨pre,hpre,hJ⟩⟩
theorem OU(n:Nat)(hn:1≤n)(Bs Bn b off c np K M:Nat)(hK:1≤K∧K≤64)(hnp:np≤3)(hM:np*K=M)(hc:M≤c)(hcm:c≤maxLen)(w:World)(hcs:w.cell? ⟨Bs,0,none⟩=some (.slice (some ⟨b,off,none⟩) M c))(hcn:w.cell? ⟨Bn,0,none⟩=some (.int .i64 (K:Int))):
 SeqStopsK Fence.wide n Tryz.prog 125 #[.pointer (some ⟨Bs,0,none⟩), .pointer (some ⟨Bn,0,none⟩)] (fun x:Ck np=>#[dK b off K x.1]) (cg Bs Bn) (fun xs=>xs.map (·.1)=List.range np) (fun _=>True) np w:=fun l J Jx W hW hJ hJx hY h0=>by
 have h1:W.cell? ⟨Bs,0,none⟩=some (.slice (some ⟨b,off,none⟩) M c):=(hW.cell (World.block_lt_of_cell? w _ hcs)).trans hcs
 have h2:W.cell? ⟨Bn,0,none⟩=some (.int .i64 (K:Int)):=(hW.cell (World.block_lt_of_cell? w _ hcn)).trans hcn
 refine (TK n hn l Bs Bn b off c np K M hK hnp hM hc hcm J Jx (fun s A B h hE=>hJ s A B none h ⟨hE.os,hE.tape,hE.output,hE.size,fun k hk _=>hE.block k hk⟩ (fun r e=>by cases e)) hY W h1 h2 h0).mono ?_
 rintro e W' ⟨he,⟨ys,h3,h4⟩|⟨pre,h4⟩⟩
 ·exact ⟨he, .inl ⟨ys,h3,h4⟩⟩
 exact ⟨he, .inr ⟨pre,trivial,h4⟩⟩
theorem eJ{Bs Bn:Nat}{A B C:World}(h:cg Bs Bn A B)(k:cg Bs Bn B C):cg Bs Bn A C:=⟨k.1.trans h.1,k.2.trans h.2⟩
theorem eI{Bs Bn:Nat}{w:World}(h1:Bs<w.heap.size)(h2:Bn<w.heap.size)(W:World)(l:Nat)(o o':Obj)(hl:w.heap.size≤l)(h:W.heap[l]? =some o)(_:o.isCells=false)(_:o.isWalk=false):cg Bs Bn W (W.putObj l o'):=
 ⟨World.cell?_of_block (World.putObj_heap_other (by dsimp only;omega)),World.cell?_of_block (World.putObj_heap_other (by dsimp only;omega))⟩
theorem TL(w0:World)(ad:Option Addr)(M c K:Nat)(hK:1≤K∧K≤64):
 Calls Tryz.prog 92 #[.slice ad M c, .int .i64 (K:Int)] w0 fun e w=>∃gs gn,e= .returned (.func (.func 125) #[] #[.pointer (some ⟨gs,0,none⟩), .pointer (some ⟨gn,0,none⟩)])∧St w0 w [blk gs [.slice ad M c],blk gn [.int .i64 (K:Int)]]:=by
 have hS:=St.start w0
 go_enter Tryz.func92,Tryz.ntmps92
 repeat' (first
  | (refine AQ 8 ?_);refine Ag (.func (.func 125) #[] #[.pointer (some ⟨g2,0,none⟩), .pointer (some ⟨g3,0,none⟩)]) (V.makeFunc rfl) AA ?_;go_step|refine X8 ?_|refine X2 ?_|(refine AQ 2 ?_);(refine Ad ?_;apply Sv (o:=⟨some 2,_,_,_,_,_⟩) hS 42 _ rfl _;(case hx=>exact CI);(case h1=>rfl);clear hS;intro g2 w hS;refine AB ?_;go_step)|(refine AQ 3 ?_);(refine Ad ?_;apply Sv (o:=⟨some 3,_,_,_,_,_⟩) hS 3 _ rfl _;(case hx=>exact CI);(case h1=>rfl);clear hS;intro g3 w hS;refine AB ?_;go_step)|refine X9 ?_|refine AG ?_;go_step|fail)
 all_goals (try exact AR)
 go_ret
 exact ⟨g2,g3,rfl,hS.sub AV⟩
theorem Tf(w0:World)(ad:Option Addr)(n c:Nat)(l:List Int)(m h:Int)(hm64: -9223372036854775808≤m∧m≤9223372036854775807)(hn:n≤9223372036854775807)(hv:Sl w0 64 (.slice ad n c) n (l.map (Value.int .i64)))(hj:EU l n m h=0):
 Calls Tryz.prog 95 #[.slice ad n c, .int .i64 m, .int .i64 h] w0 (GK w0 l n m h):=by
 have hl:l.length=n*64:=by have:=hv.1;simpa using this
 have hS:=St.start w0
 have HL:=AD hl
 clear hl
 obtain ⟨hok,hk1,hb⟩:=Ql hj
 have HJ:=AD hj
 have HB:=AD ((BF _ _ _).1 hb)
 obtain ⟨k0,k1⟩:=ED m h 64 64 (by omega) (by omega)
 have k2:0<m*h:=Int.mul_pos (by omega) (by omega)
 obtain ⟨M,hM⟩:∃M:Nat,m*h=(M:Int):=⟨(m*h).toNat,by omega⟩
 have hMs:M≤4096:=by omega
 have HK:=AD hk1
 have HM:=AD hM
 have hK1:(m+7)/8*((h+7)/8)=(n:Int)∧n≤64:=by
  obtain ⟨kk0,kk1⟩:=ED ((m+7)/8) ((h+7)/8) 8 8 (by omega) (by omega)
  have kk2:0≤((m+7)/8)*((h+7)/8):=Int.mul_nonneg (by omega) (by omega)
  rw [hk1,Ae];omega
 have hn64:=hK1.2
 have HK1:=AD hK1.1
 clear hj hb hk1 hK1
 go_enter Tryz.func95,Tryz.ntmps95
 repeat' (first
  | (refine As 58 ?_);refine At AA Tryz.call58 (C4 _ m h) ?_;rintro e w ⟨rfl,hE⟩;replace hS:=hS.ext hE;clear hE;rw [if_pos hok];refine Ac ?_;go_step|(refine As 59 ?_);refine At AA Tryz.call59 (IJ _ m h (by omega) (by omega)) ?_;rintro e w ⟨rfl,hE⟩;replace hS:=hS.ext hE;clear hE;rw [HK1.out];refine Ac ?_;go_step|refine X0 ?_|refine Fi ?_|refine H6 25 ?_ ?_<;>intro hB<;>(try exact AR)<;>go_step|refine bU 21 ?_|refine XD ?_|refine Ju ?_|refine bH 8 ?_;clear hS;intro g8 w hS|refine bI ?_;clear hS;intro w hS|refine XE ?_|refine AG ?_;go_step|fail)
 go_loopg [9,35] n (fun gk ev kv w=>∃(k:Nat),gk+k=n∧kv= .int .i64 k∧ev= .int .i64 0∧St w0 w [blk g8 [.int .i64 m, .int .i64 h]])
 case atStart=>exact ⟨0,rfl,rfl,rfl,hS.sub AV⟩
 case round=>
  clear hS
  obtain ⟨k,hk,rfl,rfl,hS⟩:=hrel
  by_cases hlt:k<n
  ·have ls:Al (Bi l 64 k) 64:=CP l 64 k n HL.out hlt
   have hb:Cd (Bi l 64 k)=true:=(BF _ _ _).2 fun i hi=>by
    rw [ls.out] at hi
    rw [Et _ _ _ _ hi];exact HB.out _ (by rw [HL.out];omega)
   have HBs:=AD hb
   clear hb
   repeat' (first
    | (refine As 76 ?_);refine At AA Tryz.call76 (BC _ _ (Bi l 64 k) (hS.isl AL (by omega)) 128 #[] (fun n=>decide (n< -40000)||decide (40000<n)) Tryz.call128 (fun n=>MP n _)) ?_;rintro e w' ⟨rfl,rfl⟩;rw [KP,HBs.out];refine Ac ?_;go_step|refine X1 ?_|refine Fi ?_|refine H6 40 ?_ ?_<;>intro hB<;>(try exact AR)<;>go_step|refine X2 ?_|refine bJ 37 ?_;intro b37 o37 hl37 hc37;go_step|refine bS ?_|refine X7 ?_|refine ae ?_|refine KK 11 ?_;clear hS;intro g11 w hS|refine Fd ?_;clear hS;intro w hS|refine AG ?_;go_step|fail)
   go_roundg (gk-1)
   case measure=>omega
   case rel=>exact ⟨k+1,by omega,by go_num,rfl,hS.sub AV⟩
  obtain rfl:k=n:=by omega
  clear hk
  repeat' (first
   | (refine AQ 51 ?_);(refine Ag (.int _ ((M:Int))) (V.as (V.mulI rfl rfl (by omega)) (by omega)) (by kernel_rfl) ?_;go_step)|refine X0 ?_|refine X2 ?_|refine X4 ?_|refine XD ?_|refine dV 52 ?_;clear hS;intro g52 w hS|refine AG ?_;go_step|fail)
  go_loopg [55] k (fun gk kv w=>∃(j:Nat) (o:List Int),gk+j=k∧kv= .int .i64 j∧(∀x,x<M→EB m x<j→AJ o x=Kk l m x)∧St w0 w [own 3 1 (some ⟨g52,0,none⟩) M M (o.map (Value.int .i64)),blk g8 [.int .i64 m, .int .i64 h]])
  case atStart=>exact ⟨0,_,rfl,rfl,fun x hx hx2=>absurd (GZ m h ⟨hok.1,hok.2.1⟩ hok.2.2 x (by rw [HM.out];omega)).1 (by omega),hS.sub AV⟩
  case round=>
   clear hS
   obtain ⟨j,o,hj,rfl,ho,hS⟩:=hrel
   have HO:=AD ho
   clear ho
   by_cases hlt2:j<k
   ·obtain ⟨gk1,hgk1⟩:∃x,x=gk:=⟨_,rfl⟩
    subst hgk1
    have ls:Al (Bi l 64 j) 64:=CP l 64 j k HL.out hlt2
    repeat' (first
     | refine X0 ?_|refine X2 ?_|refine bJ 58 ?_;intro b58 o58 hl58 hc58;go_step|refine Xo ?_|refine KK 14 ?_;clear hS;intro g14 w hS|refine Fd ?_;clear hS;intro w hS|refine AG ?_;go_step|fail)
    go_loopg [61] 64 (fun gk kv w=>∃(i:Nat) (o:List Int),gk+i=64∧kv= .int .i64 i∧(∀x,x<M→(EB m x<j∨EB m x=j∧Gr m x<i)→AJ o x=Kk l m x)∧St w0 w [own 3 1 (some ⟨g52,0,none⟩) M M (o.map (Value.int .i64)),blk g8 [.int .i64 m, .int .i64 h]])
    case atStart=>exact ⟨0,o,rfl,rfl,fun x hx hx2=>HO.out x hx (by have:=(GZ m h ⟨hok.1,hok.2.1⟩ hok.2.2 x (by rw [HM.out];omega));omega),hS.sub AV⟩
    case round=>
     clear hS HO
     obtain ⟨i,o,hi,rfl,ho,hS⟩:=hrel
     have HO:=AD ho
     clear ho
     by_cases hlt3:i<64
     ·obtain ⟨R,hR⟩:∃R,IS ((m+7)/8) (j:Int) (i:Int)=R:=⟨_,rfl⟩
      obtain ⟨C,hC⟩:∃C,F9 ((m+7)/8) (j:Int) (i:Int)=C:=⟨_,rfl⟩
      obtain ⟨p0,p1,p2,p3,p4⟩:=K1 m h ⟨hok.1,hok.2.1⟩ hok.2.2 (j:Int) (i:Int) (by omega) (by omega)
      have hx: -40000≤AJ (Bi l 64 j) i∧AJ (Bi l 64 j) i≤40000:=by
       rw [Et _ _ _ _ hlt3];exact HB.out _ (by rw [HL.out];omega)
      have HI:Hid (∀x,x<M→EB m x=j→Gr m x=i→R<h∧C<m∧(x:Int)=R*m+C):=fun x hx h1 h2=>by
       obtain ⟨e1,e2⟩:=O8 m j i ⟨hok.1,hok.2.1⟩ x h1 h2
       have h3:=GZ m h ⟨hok.1,hok.2.1⟩ hok.2.2 x (by rw [HM.out];omega)
       rw [←hR,←hC,e1,e2]
       refine ⟨by omega,by omega,?_⟩
       have:=Int.mul_ediv_add_emod (x:Int) m
       rw [Int.mul_comm] at this;omega
      have HP:Hid (C<m→∀q:Nat,R*m+C=q→Kk l m q=min (max (AJ (Bi l 64 j) i+128) 0) 255):=fun hcm q hq=>by
       obtain ⟨e1,e2⟩:=Yo m j i ⟨hok.1,hok.2.1⟩ (by omega) (by omega) q (by rw [hR,hC];exact hq.symm) (by rw [hC];exact hcm)
       unfold Kk
       rw [e1,e2,Et _ _ _ _ hlt3,show ((j:Int)*64+(i:Int)).toNat=j*64+i by omega]
      rw [hR] at p0 p3 p4
      rw [hC] at p1 p2 p4
      have HR:=AD hR
      have HC:=AD hC
      clear hR hC
      by_cases hin:R<h∧C<m
      ·obtain ⟨q,hq⟩:∃q:Nat,R*m+C=(q:Int):=⟨(R*m+C).toNat,by rw [show min R (h-1)=R by omega] at p3;omega⟩
       have hqM:q<M:=by rw [show min R (h-1)=R by omega,show min C (m-1)=C by omega] at p4;omega
       have HV:=AD (HP.out hin.2 q hq)
       have hRm:R*m+C=(q:Int):=hq
       have hRm0:0≤R*m:=by rw [show min R (h-1)=R by omega] at p3;exact p3
       clear p3 p4 hq
       repeat' (first
        | (refine AQ 85 ?_);(refine Ag (.int _ ((q:Int))) (V.as (V.addI rfl rfl (by omega)) (by omega)) (by kernel_rfl) ?_;go_step)|(refine As 78 ?_);refine At AA Tryz.call78 (I5 _ m h (j:Int) (i:Int) (by omega) (by omega) (by omega)) ?_;rintro e w ⟨rfl,hE⟩;replace hS:=hS.ext hE;clear hE;rw [HR.out,HC.out];refine Ac ?_;go_step|refine X0 ?_|refine Fi ?_|refine Ei 74 ?_ ?_<;>intro hB<;>(try exact AR)<;>go_step|refine X2 ?_|refine Xv 64 ?_|refine X6 ?_|refine Uh ?_|refine X7 ?_|(with_reducible refine Ak _ (.call ⟨.builtin .max,_,_⟩) ?_);(refine An AA (V.max rfl rfl) ?_;go_step)|(with_reducible refine Ak _ (.call ⟨.builtin .min,_,_⟩) ?_);(refine An AA (V.min rfl rfl) ?_;go_step)|refine XJ 90 ?_|refine XE ?_|refine aR ?_;clear hS;intro w hS|refine AG ?_;go_step|fail)
       go_roundg (gk-1)
       case measure=>omega
       case rel=>
        have hol:=hS.ownLen (e:=3) AL
        rw [List.length_map,List.length_set] at hol
        refine ⟨i+1,_,by omega,by go_num,fun x hx hx2=>?_,hS.sub AV⟩
        rw [CN o q x _ (by omega)]
        split
        ·rename_i e;rw [←e,HV.out]
        rename_i e
        refine HO.out x hx ?_
        by_cases h1:EB m x=j∧Gr m x=i
        ·have:=(HI.out x hx h1.1 h1.2).2.2
         omega
        omega
      have hin2:R<h→m≤C:=by omega
      clear HP p3 p4
      have HN:Hid (∀x,x<M→¬(EB m x=j∧Gr m x=i)):=fun x hx h1=>hin ⟨(HI.out x hx h1.1 h1.2).1,(HI.out x hx h1.1 h1.2).2.1⟩
      by_cases hR2:R<h
      all_goals
       (try replace hin2:=hin2 hR2)
       repeat' (first
        | (refine As 78 ?_);refine At AA Tryz.call78 (I5 _ m h (j:Int) (i:Int) (by omega) (by omega) (by omega)) ?_;rintro e w ⟨rfl,hE⟩;replace hS:=hS.ext hE;clear hE;rw [HR.out,HC.out];refine Ac ?_;go_step|go_big_skip|refine X0 ?_|refine Iu ?_|refine Ei 74 ?_ ?_<;>intro hB<;>(try exact AR)<;>go_step|refine X2 ?_|refine Xv 64 ?_|refine X6 ?_|refine X7 ?_|refine XE ?_|refine AG ?_;go_step|fail)
       go_roundg (gk-1)
       case measure=>omega
       case rel=>exact ⟨i+1,o,by omega,by go_num,fun x hx hx2=>HO.out x hx (by have:=HN.out x hx;omega),hS.sub AV⟩
     obtain rfl:i=64:=by omega
     repeat' (first
      | refine X1 ?_|refine X2 ?_|refine X7 ?_|refine AG ?_;go_step|fail)
     go_roundg (gk1-1)
     case measure=>omega
     case rel=>exact ⟨j+1,o,by omega,by go_num,fun x hx hx2=>HO.out x hx (by have:=(GZ m h ⟨hok.1,hok.2.1⟩ hok.2.2 x (by rw [HM.out];omega));have h9:EB m x<(j+1:Nat):=hx2;omega),hS.sub AV⟩
   obtain rfl:j=k:=by omega
   have hol:=hS.ownLen (e:=3) AL
   rw [List.length_map] at hol
   repeat' (first
    | refine X0 ?_|refine X2 ?_|refine AG ?_;go_step|fail)
   go_ret2
   refine ⟨some ⟨g52,0,none⟩,M,?_,?_⟩
   ·rw [HJ.out,if_pos rfl,HM.out];rfl
   rw [if_pos HJ.out,if_pos HJ.out,DL,HM.out,Int.toNat_natCast,←Hs (by omega) fun x hx=>HO.out x hx (by have:=(GZ m h ⟨hok.1,hok.2.1⟩ hok.2.2 x (by rw [HM.out];omega)).2.1;rw [←HK.out] at this;exact this)]
   exact hS.sub AV
theorem Vf(w0:World)(ad:Option Addr)(n c:Nat)(l:List Int)(m h:Int)(hm64: -9223372036854775808≤m∧m≤9223372036854775807)(hn:n≤9223372036854775807)(hv:Sl w0 64 (.slice ad n c) n (l.map (Value.int .i64))):
 Calls Tryz.prog 95 #[.slice ad n c, .int .i64 m, .int .i64 h] w0 (GK w0 l n m h):=by
 by_cases hj:EU l n m h=0
 ·exact Tf w0 ad n c l m h hm64 hn hv hj
 exact Vg w0 ad n c l m h hm64 hn hv hj
theorem O7(w0:World)(ad:Option Addr)(n c:Nat)(l:List Int)(m h:Int)(hm64: -9223372036854775808≤m∧m≤9223372036854775807)(hn:n≤9223372036854775807)(hv:Sl w0 64 (.slice ad n c) n (l.map (Value.int .i64)))(hj:EU l n m h=0)(M:Nat)(hM:m*h=(M:Int)):
 Calls Tryz.prog 95 #[.slice ad n c, .int .i64 m, .int .i64 h] w0 fun e w=>∃ad c,e= .returned (.tuple #[.slice ad M c, .int .i64 0])∧St w0 w [own 3 1 ad M c ((DL l m h).map (Value.int .i64))]:=
 (Vf w0 ad n c l m h hm64 hn hv).mono fun e w ⟨ad2,c2,h1,h2⟩=>by
   rw [if_pos hj,hj,hM,Int.toNat_natCast] at h1
   rw [if_pos hj,if_pos hj,hM,Int.toNat_natCast] at h2
   exact ⟨ad2,c2,h1,h2⟩
theorem U3(m0:Int)(m1:Int)(w:World):(Instr.build 24 #[(0, .int .i64 m0),(1, .int .i64 m1)]).run Tryz.prog w= .ok (.agg #[.int .i64 m0, .int .i64 m1, .slice none 0 0]) w:=by kernel_rfl
def ZJ(m h:Int)(q l:List Int)(n k:Nat):List Int:=DL (JG q ((l.drop (k*n*64)).take (n*64)) n) m h
theorem J6(m h:Int)(q l:List Int)(n:Nat):∀k,ZK m h q l n k=(List.range k).map (ZJ m h q l n)
 | 0=>rfl
 | k+1=>by rw [ZK,J6 m h q l n k,List.range_succ,List.map_append];rfl
theorem Pr(q l:List Int):∀n,Cd (JG q l n)=true
 | 0=>rfl
 | n+1=>by
   have h1:Cd (UJ q (Bi l 64 n))=true:=(BF _ _ _).2 fun i hi=>by
    unfold UJ at hi⊢
    rw [List.length_map] at hi
    rw [SF _ _ _ hi];omega
   have h2:=Pr q l n
   rw [JG]
   unfold Cd Bt at h1 h2⊢
   simp only [List.any_append,Bool.not_or,h1,h2];rfl
def Nl(g2 g4 g5 g6 gs gn:Nat)(m h:Int)(ps:List Af)(v vn:Value)(ao:Option Addr)(co:Nat)(R:List Rw):List Ar:=
 [blk gs [v],blk gn [vn],blk g6 [.slice ao R.length co],own 30 1 ao R.length co (R.map Rw.val),star (R.map Rw.res),blk g5 [.int .i64 m, .int .i64 h, .slice none 0 0],blk g4 [.int .i64 0, .int .i64 0, .slice none 0 0],prt g2 ps]
theorem GF(g2 g4 g5 g6 gs gn:Nat)(m h:Int)(ps:List Af)(v vn:Value)(ao:Option Addr)(co:Nat)(R:List Rw):∀r∈Nl g2 g4 g5 g6 gs gn m h ps v vn ao co R,FI r:=by
 intro r hr
 simp only [Nl,List.mem_cons,List.not_mem_nil,or_false] at hr
 rcases hr with rfl|rfl|rfl|rfl|rfl|rfl|rfl|rfl
 ·exact Cz _ _
 ·exact Cz _ _
 ·exact Cz _ _
 ·exact FP _ _ _ _ _ _
 ·refine JM fun r hr=>?_
  obtain ⟨p,_,rfl⟩:=List.mem_map.1 hr
  exact FP _ _ _ _ _ _
 ·exact Cz _ _
 ·exact Cz _ _
 exact Cz _ _
theorem St.putD{w0 w:World}{rs:List Ar}{D:Nat}{o:Obj}(o':Obj)(h:St w0 w rs)(hc:∀r∈rs,FI r)(hD:w0.heap.size≤D)(ho:w.heap[D]? =some o)(hn:o.isCells=false):St w0 (w.putObj D o') rs:=
 h.grownC (grownBy_putObj' w D o') (fun r e=>by cases e;exact ⟨hD,o,ho,hn⟩) hc
theorem UI(w0:World)(a:Option Addr)(c N:Nat)(hN:N≤9223372036854775807)(h3:N≠3)(K:FuncId):
 Calls Tryz.prog 45 #[.slice a N c, .func (.func K) #[] #[]] w0 fun e w=>e= .returned (.slice a N c)∧Ai w0 w:=by
 have hS:=St.start w0
 have h3':¬(N:Int)=3:=by omega
 go_enter Tryz.func45,Tryz.ntmps45
 repeat' (first
  | refine X0 ?_|refine Zn ?_|refine Ju ?_|refine AG ?_;go_step|fail)
 all_goals (try exact AR)
 go_ret
 exact ⟨rfl,hS.1⟩
theorem RF(w:World)(a:Option Addr)(c:Nat)(R:List Rw)(m h:Int)(hP:BU w a c R)(hR:R.length≤9223372036854775807)(hall:∀l∈R.map (·.xs),Cl l l.length m h=0)(K:FuncId)(f1 f2 f3:Int→Int→Int→Int)(hK:C3 K f1 f2 f3):
 Calls Tryz.prog 45 #[.slice a R.length c, .func (.func K) #[] #[]] w fun e w'=>∃(a':Option Addr) (c':Nat) (R':List Rw),R'.map (·.xs)=DE f1 f2 f3 (R.map (·.xs))∧e= .returned (.slice a' R'.length c')∧Ai w w'∧∀w0 rs,Ca w0 w a c R rs→Ca w0 w' a' c' R' rs:=by
 by_cases h3:R.length=3
 ·obtain ⟨⟨a0,c0,l0⟩,⟨a1,c1,l1⟩,⟨a2,c2,l2⟩,rfl⟩:∃x y z,R=[x,y,z]:=by
   match R,h3 with
   | [x,y,z],_=>exact ⟨x,y,z,rfl⟩
  obtain ⟨h1,e0,s0⟩:=Da (hall l0 (by simp))
  obtain ⟨_,e1,s1⟩:=Da (hall l1 (by simp))
  obtain ⟨_,e2,s2⟩:=Da (hall l2 (by simp))
  obtain ⟨k0,k1⟩:=ED m h 64 64 (by omega) (by omega)
  have b0:=(Eu l0).1 s0
  have b1:=(Eu l1).1 s1
  have b2:=(Eu l2).1 s2
  refine Calls.mono (Ie w a a0 a1 a2 c c0 c1 c2 l0.length l0 l1 l2 hP (by omega) rfl (by omega) (by omega) b0 (fun i hi=>b1 i (by omega)) (fun i hi=>b2 i (by omega)) K f1 f2 f3 hK) fun e w' hh=>?_
  obtain ⟨a',c',R',k1,k2,k3⟩:=hh
  refine ⟨a',c',R',k1,k2,k3.1,fun w0 rs hO=>?_⟩
  have h9:=St.call hO k3
  exact h9.sub (by
   simp only [List.cons_append,List.nil_append]
   exact AV)
 refine Calls.mono (UI w a c R.length hR h3 K) fun e w' hh=>?_
 have hT:DE f1 f2 f3 (R.map (·.xs))=R.map (·.xs):=by
  unfold DE
  split
  ·rename_i x y z e
   have:=congrArg List.length e
   rw [List.length_map] at this
   exact absurd this h3
  rfl
 exact ⟨a,c,R,hT.symm,hh.1,hh.2,fun w0 rs hO=>St.ext hO hh.2⟩
theorem Ma(w0:World)(m h:Int)(hok:1≤m∧m≤64∧1≤h∧h≤64)(np:Nat)(hnp:np=1∨np=3)(q C1 C2:List Int)(hq:Al q 64)(hC1:Al C1 16)(hC2:Al C2 16)(v1 v2 vd:Value)(ev:Int)(K M:Nat)(hK:Ae m h=K)(hM:np*K=M)(ad:Option Addr)(c:Nat)(hc:M≤c)(hcm:c≤maxLen)(l:List Int)(hl:l.length=M*64)(hv:Sl w0 64 (.slice ad M c) M (l.map (Value.int .i64))):
 Calls Tryz.prog 54 #[VU m h np q C1 v1 C2 v2 ev vd, .slice ad M c] w0 fun e w=>∃(a:Option Addr) (co:Nat) (R:List Rw),R.map (·.xs)=Ov m h q l K np∧e= .returned (.agg #[.int .i64 m, .int .i64 h, .slice a R.length co])∧Ca w0 w a co R []:=by
 have hS:=St.start w0
 obtain ⟨q1,q2,q3⟩:=Dv hok
 rw [hK] at q1 q2 q3
 have hn1:M≤192:=by
  have:=Nat.mul_le_mul (show np≤3 by omega) q2
  omega
 have hn0:1≤M:=by
  have:=Nat.mul_le_mul (show 1≤np by omega) q1
  omega
 obtain ⟨pb,po,rfl⟩:∃b off,ad=some ⟨b,off,none⟩:=by
  obtain ⟨z1,a',c',e,z2,z3,z4⟩:=hv
  cases e
  rcases z4 with z4|⟨b,off,z4,_⟩
  ·omega
  exact ⟨b,off,z4⟩
 have HDV:Hid ((M:Int)/(np:Int)=(K:Int)):=by
  show (M:Int)/(np:Int)=(K:Int)
  rw [←hM,Int.natCast_mul,Int.mul_ediv_cancel_left _ (by omega)]
 have HK:=AD hK
 have HM:=AD hM
 clear hK hM q3
 unfold VU
 refine (callsIn_wide (n:=3)).1 ?_
 refine callsIn_of_wp_marks Tryz.func54 rfl trivial ?_
 simp only [Tryz.ntmps54,List.size_toArray,List.length_cons,List.length_nil,Nat.reduceAdd,Nat.reduceSub,Array.replicate_succ,Array.replicate_zero,List.push_toArray,List.append_toArray,List.nil_append,List.cons_append]
 repeat ((fail_if_success with_reducible show (Code.region _ _ _).wpIn _ _ _ _ _ _);gi_step)
 first|refine wpIn_wide.2 ?_|skip
 repeat' (first
  | refine OJ 2 ?_;clear hS;intro g2 w hS|refine UU 4 ?_;clear hS;intro g4 w hS|refine AG ?_;go_step|fail)
 first|refine wpIn_wide.2 ?_|skip
 repeat' (first
  | (refine AQ 15 ?_);(refine An AA (V.fieldAddr Qa rfl A7) ?_;go_step)|(refine AQ 17 ?_);(refine An AA (V.fieldAddr Qb rfl A7) ?_;go_step)|(refine AQ 19 ?_);(refine An AA (V.build (vs:=[(0,_),(1,_)]) rfl (U3 _ _)) ?_;go_step)|refine XF ?_|refine UU 5 ?_;clear hS;intro g5 w hS|refine UV ?_;clear hS;intro w hS|refine AG ?_;go_step|fail)
 repeat ((fail_if_success with_reducible show (Code.region _ _ _).wpIn _ _ _ _ _ _);gi_step)
 first|refine wpIn_wide.2 ?_|skip
 repeat' (first
  | refine X1 ?_|(refine AQ 6 ?_);(refine Ad ?_;apply B4 (o:=⟨some 6,_,_,_,_,_⟩) hS 22 rfl (.slice none 0 0) [.slice none 0 0] (fun w=>Tryz.zeroValue22 w) rfl;clear hS;intro g6 w hS;refine AB ?_;go_step)|refine AG ?_;go_step|fail)
 repeat ((fail_if_success with_reducible show (Code.region _ _ _).wpIn _ _ _ _ _ _);gi_step)
 first|refine wpIn_wide.2 ?_|skip
 repeat' (first
  | (refine AQ 25 ?_);refine Ag (.int _ (K:Int)) (V.as (V.quo rfl rfl (by omega) (by omega)) HDV.out) (by kernel_rfl) ?_;go_step|(refine As 92 ?_);refine At AA Tryz.call92 (TL _ _ M c K (by omega)) ?_;rintro e w ⟨gs,gn,rfl,hS2⟩;replace hS:=Dt hS hS2;clear hS2;refine Ac ?_;go_step|(refine AQ 22 ?_);(refine An AA (V.len Tryz.underlying42 rfl) ?_;go_step)|(refine AQ 23 ?_);(refine An AA (V.fieldAddr VO rfl A7) ?_;go_step)|refine XF ?_|refine AG ?_;go_step|fail)
 have hgs:w0.heap.size≤w.heap.size:=hS.1.sz
 have hcs:w.cell? ⟨gs,0,none⟩=some (.slice (some ⟨pb,po,none⟩) M c):=by rw [(hS.blk (g:=gs) AL).1.cell];rfl
 have hcn:w.cell? ⟨gn,0,none⟩=some (.int .i64 (K:Int)):=by rw [(hS.blk (g:=gn) AL).1.cell];rfl
 have hI0:St w0 w (Nl g2 g4 g5 g6 gs gn m h [.val (.int .i64 m), .val (.int .i64 h), .val (.int .i64 np), .ints q, .ints C1, .val v1, .ints C2, .val v2, .val (.int .i64 ev), .val vd] (.slice (some ⟨pb,po,none⟩) M c) (.int .i64 (K:Int)) none 0 []):=by
  have h9:=hS.star0.nilk 30 1 .i64
  simp only [List.map_nil] at h9
  simp only [Nl,List.length_nil,List.map_nil]
  exact h9.sub AV
 refine (wpIn_wide (n:=3)).1 ?_
 apply wpIn_rangeFunc_ownF rfl (by decide) (gf:=125) (lb:=#[.pointer (some ⟨gs,0,none⟩), .pointer (some ⟨gn,0,none⟩)]) rfl trivial (enters_of Tryz.func125 AA rfl) (OU (3-1) (by decide) gs gn pb po c np K M (by omega) (by omega) HM.out hc hcm w hcs hcn) eJ (eI (World.block_lt_of_cell? w _ hcs) (World.block_lt_of_cell? w _ hcn)) (Below.refl _ _) (fun _=>rfl)
  (fun (pre:List (Ck np)) W=>∃(R:List Rw) (ao:Option Addr) (co:Nat),R.map (·.xs)=pre.map (fun x=>ZJ m h q l K x.1)∧St w0 W (Nl g2 g4 g5 g6 gs gn m h [.val (.int .i64 m), .val (.int .i64 h), .val (.int .i64 np), .ints q, .ints C1, .val v1, .ints C2, .val v2, .val (.int .i64 ev), .val vd] (.slice (some ⟨pb,po,none⟩) M c) (.int .i64 (K:Int)) ao co R))
  (fun _ _ _=>False)
  (fun pre A B row ⟨R,ao,co,h1,h2⟩ hg hr=>⟨R,ao,co,h1,h2.grownC hg (fun r e=>⟨Nat.le_trans hgs (hr r e).1,(hr r e).2⟩) (GF _ _ _ _ _ _ _ _ _ _ _ _ _ _)⟩)
  (fun _ _ _ _ _ hs _ _=>hs)
  ⟨[],none,0,rfl,hI0⟩
 case hassign=>
  intro lw x W Kq hKq
  refine BG (fun ⟨a9,w9,h9⟩=>h9) AA ?_
  repeat' (first
   | refine X8 ?_|refine AG ?_;go_step|fail)
  exact hKq
 case hbody=>
  clear hI0 hS hcs hcn
  rintro lw pre x W ⟨R,ao,co,hR,hI⟩ hlen
  have hIF:=AD (hI.fixd (GF _ _ _ _ _ _ _ _ _ _ _ _ _ _))
  have hEW:Ai w0 W:=hI.1
  have hHI:=AD hI
  dsimp only [Nl] at hI
  have hI2:=hI.pull (r:=prt g2 [.val (.int .i64 m), .val (.int .i64 h), .val (.int .i64 np), .ints q, .ints C1, .val v1, .ints C2, .val v2, .val (.int .i64 ev), .val vd]) AL
  have hg2:=(St.blk (g:=g2) hI2 AT.head).1
  clear hI2
  have hc0:W.cell? ⟨g2,0,none⟩=some (.int .i64 m):=by rw [hg2.cell];rfl
  have hc1:W.cell? ⟨g2,1,none⟩=some (.int .i64 h):=by rw [hg2.cell];rfl
  have hr3:W.rangeAt g2 3 (q.map (Value.int .i64)):=I8 (m:=64) hI AL (by simp [AF,Af.cells];rw [List.take_left' (by simpa using hq.out)])
  have hxl:x.1<np:=x.2
  obtain ⟨xn,hxn⟩:∃xn,x.1=xn:=⟨_,rfl⟩
  have hxK:xn*K+K≤M:=by have:=Nat.mul_le_mul_right K (show xn+1≤np by omega);rw [Nat.add_mul,Nat.one_mul,HM.out] at this;exact this
  obtain ⟨p0,hp0⟩:∃p0,po+xn*K*64=p0:=⟨_,rfl⟩
  obtain ⟨C,hC⟩:∃C,(l.drop (xn*K*64)).take (K*64)=C:=⟨_,rfl⟩
  have hCl:C.length=K*64:=by rw [←hC,List.length_take,List.length_drop,hl];omega
  have hsc:Sl W 64 (.slice (some ⟨pb,p0,none⟩) K K) K (C.map (Value.int .i64)):=by
   obtain ⟨z1,a9,c9,z2,z3,z4,z5⟩:=(hv.ext hEW).cut (xn*K) (xn*K+K) (by omega) hxK
   cases z2
   rw [show xn*K+K-xn*K=K by omega] at z5 z1
   rw [←List.map_drop,←List.map_take,hC] at z5 z1
   rw [hp0] at z5
   exact ⟨z1,_,_,rfl,Nat.le_refl _,by have:K≤64:=q2;unfold maxLen;omega,z5⟩
  have hCK:dK pb po K x.1= .slice (some ⟨pb,p0,none⟩) K K:=by unfold dK;rw [hxn,hp0]
  have HCX:=AD (show ZJ m h q l K x.1=DL (JG q C K) m h by unfold ZJ;rw [hxn,hC])
  obtain ⟨ad9,had9⟩:∃a9,(some ⟨pb,p0,none⟩:Option Addr)=a9:=⟨_,rfl⟩
  rw [had9] at hsc hCK
  rw [hCK]
  clear had9
  have HCL:=AD hCl
  have hgs9:W.cell? ⟨gs,0,none⟩=some (.slice (some ⟨pb,po,none⟩) M c):=by rw [(hI.blk (g:=gs) AL).1.cell];rfl
  have hgn9:W.cell? ⟨gn,0,none⟩=some (.int .i64 (K:Int)):=by rw [(hI.blk (g:=gn) AL).1.cell];rfl
  have hHR:=AD hR
  obtain ⟨k0,k1⟩:=ED m h 64 64 (by omega) (by omega)
  have k2:0<m*h:=Int.mul_pos (by omega) (by omega)
  obtain ⟨N,hN⟩:∃N:Nat,m*h=(N:Int):=⟨(m*h).toNat,by omega⟩
  have hNs:1≤N∧N≤4096:=by omega
  have HN:=AD hN
  have HJ:=AD (show EU (JG q C K) K m h=0 by unfold EU;rw [if_pos hok,if_pos HK.out.symm,if_pos (Pr _ _ _)])
  clear k0 k1 k2 hN
  clear hI hR hg2 hCK hCl hp0 hC
  have hS:=St.start W
  repeat ((fail_if_success with_reducible show (Code.region _ _ _).wpIn _ _ _ _ _ _);gi_step)
  refine BG (fun ⟨a9,w9,h9⟩=>h9) AA ?_
  repeat' (first
   | refine X0 ?_|(refine AQ 29 ?_);(refine An AA (V.len Tryz.underlying42 rfl) ?_;go_step)|refine Xd 30 ?_;clear hS;intro g30 w hS|refine AG ?_;go_step|fail)
  repeat ((fail_if_success with_reducible show (Code.region _ _ _).wpIn _ _ _ _ _ _);gi_step)
  refine BG (fun ⟨a9,w9,h9⟩=>h9) AA ?_
  repeat' (first
   | refine X1 ?_|(refine AQ 32 ?_);(refine An AA (V.len Tryz.underlying42 rfl) ?_;go_step)|refine AG ?_;go_step|fail)
  repeat ((fail_if_success with_reducible show (Code.loop _).wpIn _ _ _ _ _ _);gi_step)
  gi_loopg [33] K (fun gk kv w'=>∃(j:Nat),gk+j=K∧kv= .int .i64 j∧St W w' [own 26 64 (some ⟨g30,0,none⟩) K K ((JG q C j++List.replicate ((K-j)*64) 0).map (Value.int .i64))])
  case atStart=>exact ⟨0,rfl,rfl,by rw [JG,List.nil_append,Nat.sub_zero];exact hS.sub AV⟩
  case round=>
   clear hS
   obtain ⟨j,hj,rfl,hS⟩:=hrel
   by_cases hlt:j<K
   ·have hsgl:Al (Bi C 64 j) 64:=CP _ _ _ K HCL.out hlt
    obtain ⟨X,hX⟩:∃X,OD (Bi C 64 j) q=X:=⟨_,rfl⟩
    have hXl:Al X 64:=hX▸ N4 _ q hsgl.out hq
    obtain ⟨Y,hY⟩:∃Y,Sn X=Y:=⟨_,rfl⟩
    have hYl:Al Y 64:=hY▸ Fc _ _
    have HX:=AD hX
    have HY:=AD hY
    clear hX hY
    repeat ((fail_if_success with_reducible show (Code.region _ _ _).wpIn _ _ _ _ _ _);gi_step)
    refine BG (fun ⟨a9,w9,h9⟩=>h9) AA ?_
    repeat' (first
     | refine X5 34 ?_|refine AG ?_;go_step|fail)
    repeat ((fail_if_success with_reducible show (Code.region _ _ _).wpIn _ _ _ _ _ _);gi_step)
    refine BG (fun ⟨a9,w9,h9⟩=>h9) AA ?_
    repeat' (first
     | refine X0 ?_|refine bJ 36 ?_;intro b36 o36 hl36 hc36;go_step|refine ae ?_|refine KK 10 ?_;clear hS;intro g10 w hS|refine Fd ?_;clear hS;intro w hS|refine AG ?_;go_step|fail)
    repeat ((fail_if_success with_reducible show (Code.region _ _ _).wpIn _ _ _ _ _ _);gi_step)
    refine BG (fun ⟨a9,w9,h9⟩=>h9) AA ?_
    repeat' (first
     | (refine AQ 41 ?_);refine Ad ?_;refine EK hS 26 _ rfl g2 3 rfl 64 (AO rfl) q hq hr3 ?_;refine AB ?_;go_step|(refine As 93 ?_);refine At AA Tryz.call93 (cQ _ (Bi C 64 j) q hsgl.out hq) ?_;rintro e w ⟨rfl,hE⟩;rw [HX.out];replace hS:=hS.ext hE;clear hE;refine Ac ?_;go_step|refine X1 ?_|(refine AQ 40 ?_);(refine An AA (V.fieldAddr Qc rfl A7) ?_;go_step)|refine X3 43 ?_|refine X3 44 ?_|refine Jm ?_|refine Fd ?_;clear hS;intro w hS|refine AG ?_;go_step|fail)
    repeat ((fail_if_success with_reducible show (Code.region _ _ _).wpIn _ _ _ _ _ _);gi_step)
    refine BG (fun ⟨a9,w9,h9⟩=>h9) AA ?_
    repeat' (first
     | (refine As 94 ?_);refine At AA Tryz.call94 (UK _ X hXl) ?_;rintro e w ⟨rfl,hE⟩;rw [HY.out];replace hS:=hS.ext hE;clear hE;refine Ac ?_;go_step|refine X1 ?_|refine X3 48 ?_|refine X3 49 ?_|refine Jm ?_|refine Fd ?_;clear hS;intro w hS|refine AG ?_;go_step|fail)
    repeat ((fail_if_success with_reducible show (Code.region _ _ _).wpIn _ _ _ _ _ _);gi_step)
    refine BG (fun ⟨a9,w9,h9⟩=>h9) AA ?_
    repeat' (first
     | refine X1 ?_|refine Jm ?_|refine AG ?_;go_step|fail)
    repeat ((fail_if_success with_reducible show (Code.loop _).wpIn _ _ _ _ _ _);gi_step)
    obtain ⟨gk1,hgk1⟩:∃x,x=gk:=⟨_,rfl⟩
    subst hgk1
    gi_loopg [51] 64 (fun gk kv w'=>∃(i:Nat) (o:List Int),gk+i=64∧kv= .int .i64 i∧(∀k,k<i→AJ o k=min (max (AJ Y k) (-40000)) 40000)∧St W w' [arr g10 64 o,own 26 64 (some ⟨g30,0,none⟩) K K ((JG q C j++List.replicate ((K-j)*64) 0).map (Value.int .i64))])
    case atStart=>exact ⟨0,Y,rfl,rfl,fun k hk=>absurd hk (by omega),hS.sub AV⟩
    case round=>
     clear hS
     obtain ⟨i,o,hi,rfl,ho,hS⟩:=hrel
     have hol:o.length=64:=(hS.arr (g:=g10) AL).2
     by_cases hlt2:i<64
     ·have HO:=AD ho
      clear ho
      repeat ((fail_if_success with_reducible show (Code.region _ _ _).wpIn _ _ _ _ _ _);gi_step)
      refine BG (fun ⟨a9,w9,h9⟩=>h9) AA ?_
      repeat' (first
       | refine X5 52 ?_|refine AG ?_;go_step|fail)
      repeat ((fail_if_success with_reducible show (Code.region _ _ _).wpIn _ _ _ _ _ _);gi_step)
      refine BG (fun ⟨a9,w9,h9⟩=>h9) AA ?_
      repeat' (first
       | refine X0 ?_|refine Xv 54 ?_|refine AG ?_;go_step|fail)
      repeat ((fail_if_success with_reducible show (Code.region _ _ _).wpIn _ _ _ _ _ _);gi_step)
      refine BG (fun ⟨a9,w9,h9⟩=>h9) AA ?_
      repeat' (first
       | (refine As 83 ?_);refine At AA Tryz.call83 (Hu _ 40000 _ (by omega) (by omega)) ?_;rintro e w ⟨rfl,rfl⟩;refine Ac ?_;go_step|refine X1 ?_|refine YA 58 ?_|refine Xg ?_;clear hS;intro w hS|refine AG ?_;go_step|fail)
      repeat ((fail_if_success with_reducible show (Code.region _ _ _).wpIn _ _ _ _ _ _);gi_step)
      refine BG (fun ⟨a9,w9,h9⟩=>h9) AA ?_
      repeat' (first
       | refine X1 ?_|refine Mx 59 ?_|refine AG ?_;go_step|fail)
      go_roundg (gk-1)
      case measure=>omega
      case rel=>exact ⟨i+1,_,by omega,by go_num,fun k hk=>by
       rw [CN _ _ _ _ (by rw [hol];exact hlt2)]
       split
       ·rename_i e9;subst e9;rfl
       exact HO.out k (by omega),hS.sub AV⟩
     obtain rfl:i=64:=by omega
     have hou:o=UJ q (Bi C 64 j):=by
      refine EV (by rw [hol,KA]) fun k hk=>?_
      rw [ho k (by omega)]
      unfold UJ
      rw [HX.out,HY.out,SF _ _ _ (by rw [hYl.out];omega)]
     subst hou
     clear ho hol
     have hul:(UJ q (Bi C 64 j)).length=64:=KA _ _
     obtain ⟨U,hU⟩:∃U,UJ q (Bi C 64 j)=U:=⟨_,rfl⟩
     have hsp:JG q C (j+1)=JG q C j++U:=by rw [JG,hU]
     have hrp:List.replicate ((K-j)*64) (0:Int)=List.replicate 64 0++List.replicate ((K-(j+1))*64) 0:=by
      rw [List.replicate_append_replicate];congr 1;rw [show K-j=(K-(j+1))+1 by omega,Nat.add_mul];omega
     rw [hU] at hS hul
     rw [hrp,List.map_append,List.map_append] at hS
     have HAL:=AD (show ((JG q C j).map (Value.int .i64)).length=j*64 by rw [List.length_map,KB])
     have HUL:=AD hul
     have HSP:=AD hsp
     clear hul hsp hrp hU
     repeat ((fail_if_success with_reducible show (Code.region _ _ _).wpIn _ _ _ _ _ _);gi_step)
     refine BG (fun ⟨a9,w9,h9⟩=>h9) AA ?_
     repeat' (first
      | refine X5 52 ?_|refine AG ?_;go_step|fail)
     repeat ((fail_if_success with_reducible show (Code.region _ _ _).wpIn _ _ _ _ _ _);gi_step)
     refine BG (fun ⟨a9,w9,h9⟩=>h9) AA ?_
     repeat' (first
      | (with_reducible refine Ak none _ ?_);refine Ad ?_;refine UP hS 26 _ _ rfl g30 (j*64) rfl 64 (AO rfl) _ _ _ _ _ _ (U.map (Value.int .i64)) _ AL HAL.out.symm (by simp) (by rw [List.length_map];exact HUL.out) (by simp [Value.oneCell']) rfl rfl ?_;clear hS;intro w hS|refine X1 ?_|(refine AQ 63 ?_);(refine An AA (V.indexSl Tryz.underlying42 JY rfl rfl A9 (by omega) rfl A7) ?_;go_step)|refine Jm ?_|refine AG ?_;go_step|fail)
     repeat ((fail_if_success with_reducible show (Code.region _ _ _).wpIn _ _ _ _ _ _);gi_step)
     refine BG (fun ⟨a9,w9,h9⟩=>h9) AA ?_
     repeat' (first
      | refine X1 ?_|refine Mx 64 ?_|refine AG ?_;go_step|fail)
     go_roundg (gk1-1)
     case measure=>omega
     case rel=>exact ⟨j+1,by omega,by go_num,by rw [HSP.out,List.append_assoc,List.map_append,List.map_append];exact hS.sub AV⟩
   obtain rfl:j=K:=by omega
   rw [Nat.sub_self,Nat.zero_mul,List.replicate_zero,List.append_nil] at hS
   repeat ((fail_if_success with_reducible show (Code.region _ _ _).wpIn _ _ _ _ _ _);gi_step)
   refine BG (fun ⟨a9,w9,h9⟩=>h9) AA ?_
   repeat' (first
    | refine X5 34 ?_|refine AG ?_;go_step|fail)
   repeat ((fail_if_success with_reducible show (Code.region _ _ _).wpIn _ _ _ _ _ _);gi_step)
   refine BG (fun ⟨a9,w9,h9⟩=>h9) AA ?_
   repeat' (first
    | (refine As 95 ?_);refine At AA Tryz.call95 (O7 _ (some ⟨g30,0,none⟩) j j (JG q C j) m h (by omega) (by omega) (hS.sl AL) HJ.out N HN.out) ?_;rintro e w ⟨aj,cj,rfl,hS2⟩;replace hS:=hS.call1 hS2;clear hS2;refine Ac ?_;go_step|refine X0 ?_|(refine AQ 67 ?_);(refine An AA (V.fieldAddr Qa rfl A7) ?_;go_step)|(refine AQ 69 ?_);(refine An AA (V.fieldAddr Qb rfl A7) ?_;go_step)|refine X3 72 ?_|refine X3 73 ?_|refine XG ?_|refine AG ?_;go_step|fail)
   repeat ((fail_if_success with_reducible show (Code.region _ _ _).wpIn _ _ _ _ _ _);gi_step)
   refine BG (fun ⟨a9,w9,h9⟩=>h9) AA ?_
   have hlo:∃bj oj,aj=some ⟨bj,oj,none⟩∧W.heap.size≤bj:=by
    obtain ⟨b2,rfl⟩:=Ba (a:=aj) hS AL (by omega)
    exact ⟨b2,0,rfl,(V8 hS AL).1⟩
   replace hS:=hIF.out.call hS
   simp only [Nl,List.cons_append,List.nil_append] at hS
   have hRl:R.length<np:=by
    have h9:=congrArg List.length hHR.out
    rw [List.length_map,List.length_map] at h9
    rw [h9];exact hlen
   have hR3:R.length<3:=by omega
   obtain ⟨r,hr⟩:∃r,R.length=r:=⟨_,rfl⟩
   rw [hr] at hS hRl hR3
   have HR9:=AD hr
   clear hr
   repeat' (first
    | refine X1 ?_|refine YF ?_|refine dT 76 ?_;clear hS;intro g76 w hS|(refine AQ 77 ?_);(refine Ad ?_;apply A4 (o:=⟨some 77,_,_,_,_,_⟩) hS _ _ 22 rfl 30 1 24 br _ _ _ _ rfl;(case hp=>exact AL);(case hx=>exact rfl);(case hm=>(first|exact hS.slBlk AL (by rfl) (by decide)|exact hS.sl AL|with_reducible assumption|exact Sl.ext (by with_reducible assumption) hS.1|exact Sl.nil _ _|exact Sl.ext (by assumption) hS.1|assumption));(case h1=>(first|exact CO rfl|exact Bu _ _|(intro u hu;cases hu)));(case h63=>unfold maxLen;omega);(case hb=>omega);clear hS;intro ad77 c77 w hS;(first|simp only [DM] at hS|simp only [DN] at hS|simp only [DO] at hS|simp only [DP] at hS|simp only [DQ] at hS|skip);refine AB ?_;go_step)|refine dZ ?_;clear hS;intro w hS|refine AG ?_;go_step|fail)
   obtain ⟨bj,oj,rfl,hbj⟩:=hlo
   obtain ⟨J,hJe⟩:∃J,DL (JG q C j) m h=J:=⟨_,rfl⟩
   have hJl:J.length=N:=by
    rw [←hJe];unfold DL;rw [DS];have:=HN.out;omega
   rw [hJe] at hS
   subst hJl
   refine ⟨Lx hS AL hEW ?_,⟨?_,?_⟩,R++[⟨some ⟨bj,oj,none⟩,cj,J⟩],ad77,c77,?_,?_⟩
   ·have h9:=(V8 (ad:=⟨bj,oj,none⟩) (xs:=J.map (Value.int .i64)) hS AL).2
    dsimp only at h9
    omega
   ·rw [(hS.blk (g:=gs) AL).1.cell,hgs9];rfl
   ·rw [(hS.blk (g:=gn) AL).1.cell,hgn9];rfl
   ·rw [List.map_append,List.map_append,hHR.out]
    show _++[J]=_++[ZJ m h q l j x.1]
    rw [HCX.out,hJe]
   have h9:=(hS.pull (r:=star (R.map Rw.res)) AL).starPut (r:=own 3 1 (some ⟨bj,oj,none⟩) J.length cj (J.map (Value.int .i64))) AL
   simp only [Nl,List.length_append,HR9.out,List.length_cons,List.length_nil,Nat.zero_add,List.map_append,List.map_cons,List.map_nil,Rw.val,Rw.res]
   exact h9.sub AV
 case hdone=>
  clear hI0 hS hcs hcn
  rintro D xs W hD hxs ⟨R,ao,co,hR,hI⟩ hK9
  have hF:=hI.fixd (GF _ _ _ _ _ _ _ _ _ _ _ _ _ _)
  have hD0:w0.heap.size≤D:=Nat.le_trans hgs hD
  have hRS:R.map (·.xs)=ZK m h q l K np:=by
   rw [hR,J6,←hxs,List.map_map];rfl
  have hRl:R.length=np:=by
   have h9:=congrArg List.length hRS
   rw [List.length_map,SW] at h9
   exact h9
  have hall:∀x∈R.map (·.xs),Cl x x.length m h=0:=by
   rw [hRS,J6]
   intro x hx
   obtain ⟨k,_,rfl⟩:=List.mem_map.1 hx
   refine Ri hok ?_ ((Eu _).2 fun i hi=>?_)
   ·unfold ZJ DL;rw [DS]
    have k2:0<m*h:=Int.mul_pos (by omega) (by omega)
    omega
   unfold ZJ DL at hi⊢
   rw [DS] at hi
   rw [Gb _ _ _ hi];unfold Kk;omega
  dsimp only [Nl] at hF
  have hPI:BU W ao co R:=BU.of hF AL AL
  have HTO:=AD fun (w:World)(hx:Ai W w)=>RF w ao co R m h (hPI.ext hx) (by omega) hall 96 JU JT JS YR
  rw [hRS] at HTO
  have hFS:Ov m h q l K np=DE JU JT JS (ZK m h q l K np):=rfl
  have HFS:=AD hFS
  clear hR hRS hall hPI hFS hI hc hcm hl hv hxs
  obtain ⟨L,hL⟩:∃L,DE JU JT JS (ZK m h q l K np)=L:=⟨_,rfl⟩
  rw [hL] at HTO HFS
  clear hL
  have hWX:=Ai.refl W
  have hS:=hF
  clear hF
  obtain ⟨n9,hn9⟩:∃n9,R.length=n9:=⟨_,rfl⟩
  dsimp only [Exit.inBlock,Exit.then]
  repeat gi_step
  repeat' (first
   | (refine As 45 ?_);refine At AA Tryz.call45 (HTO.out _ hWX) ?_;rintro e w ⟨a2,c2,R2,hR2,rfl,hE2,hO2⟩;replace hS:=hO2 _ _ (show Ca w0 _ ao co R _ from (hS.pull (r:=star (R.map Rw.res)) AL).pull (r:=own 30 1 ao R.length co (R.map Rw.val)) AL);unfold Ca at hS;clear hO2;refine Ac ?_;go_step|refine Uk ?_|refine YF ?_|refine dZ ?_;clear hS;intro w hS|refine Us ?_|refine UV ?_;clear hS;intro w hS|refine AG ?_;go_step|fail)
  have hD9:=Yb hS AL hD0 hK9 rfl
  have hS2:St w0 _ [blk g4 [.int .i64 m, .int .i64 h, .slice a2 R2.length c2],own 30 1 a2 R2.length c2 (R2.map Rw.val),star (R2.map Rw.res)]:=hS.sub AV
  replace hS2:=hS2.putD (.deferred none) (fun r hr=>by
   simp only [List.mem_cons,List.not_mem_nil,or_false] at hr
   rcases hr with rfl|rfl|rfl
   ·exact Cz _ _
   ·exact FP _ _ _ _ _ _
   refine JM fun r hr=>?_
   obtain ⟨p,_,rfl⟩:=List.mem_map.1 hr
   exact FP _ _ _ _ _ _) hD0 hD9 rfl
  refine ⟨by simp, .inl ⟨_,_,rfl,run_takeDeferred hD9,?_⟩⟩
  refine ⟨.agg #[.int .i64 m, .int .i64 h, .slice a2 R2.length c2],?_,a2,c2,R2,hR2.trans HFS.out.symm,rfl,?_⟩
  ·rw [Hm (xs:=[.cell 4 24]) rfl (EM.cons (AC.blk hS2 rfl (AO (n:=3) rfl) AT.head rfl) EM.nil)]
   rfl
  unfold Ca
  exact hS2.sub AV
 case hstop=>
  rintro D c9 pre W _ _ h9 _
  exact h9.elim
end Go.Proofs.YtohacgmhmbijmaaGreatDoor
namespace Go.Proofs.YtohacgmhmbijmaaGreatDoor
attribute [local irreducible] Region.wanted
open Go.ChangeShapes Go.WideShapes Go.ChangeAt Go.RowKit Go.Deep
set_option linter.unusedVariables false
set_option maxRecDepth 100000
set_option maxHeartbeats 8000000
structure CT where
 wide:Int
 high:Int
 parts:Int
 quant:List Int
 c1:List Int
 s1:List Int
 c2:List Int
 s2:List Int
 every:Int
 data:List Nat
def bx(f:CT)(v1 v2 vd:Value):List Af:=[.val (.int .i64 f.wide), .val (.int .i64 f.high), .val (.int .i64 f.parts), .ints f.quant, .ints f.c1, .val v1, .ints f.c2, .val v2, .val (.int .i64 f.every), .val vd]
theorem A1(w0:World)(n lo hi:Int):
 Calls Tryz.prog 91 #[.int .i64 n, .int .i64 lo, .int .i64 hi] w0 fun e w=>e= .returned (.bool (decide (lo≤n∧n≤hi)))∧Ai w0 w:=by
 have hS:=St.start w0
 by_cases h1:lo≤n
 ·by_cases h2:n≤hi
  ·have hD:=AD (show decide (lo≤n∧n≤hi)=true from decide_eq_true ⟨h1,h2⟩)
   go_enter Tryz.func91,Tryz.ntmps91
   repeat' (first
    | refine X0 ?_|refine Fi ?_|(refine AQ 9 ?_);(refine CG _ (V.geq rfl rfl) AA (fun hB=>?_) (fun hB=>?_)<;>(try exact AR)<;>go_step)|refine Zm ?_|refine AG ?_;go_step|fail)
   refine BQ rfl (AC.tmp rfl) rfl ?_
   exact ⟨(by rw [hD.out];first|done|rfl|exact congrArg Ending.returned (congrArg Value.bool (decide_eq_true h2))|exact congrArg Ending.returned (congrArg Value.bool (decide_eq_false h2))),hS.1⟩
  have hD:=AD (show decide (lo≤n∧n≤hi)=false from decide_eq_false fun h=>h2 h.2)
  go_enter Tryz.func91,Tryz.ntmps91
  repeat' (first
   | refine X0 ?_|refine Fi ?_|(refine AQ 9 ?_);(refine CG _ (V.geq rfl rfl) AA (fun hB=>?_) (fun hB=>?_)<;>(try exact AR)<;>go_step)|refine Zm ?_|refine AG ?_;go_step|fail)
  refine BQ rfl (AC.tmp rfl) rfl ?_
  exact ⟨(by rw [hD.out];first|done|rfl|exact congrArg Ending.returned (congrArg Value.bool (decide_eq_true h2))|exact congrArg Ending.returned (congrArg Value.bool (decide_eq_false h2))),hS.1⟩
 have hD:=AD (show decide (lo≤n∧n≤hi)=false from decide_eq_false fun h=>h1 h.1)
 go_enter Tryz.func91,Tryz.ntmps91
 repeat' (first
  | go_skip|((first|(with_reducible refine Io ?_)|(with_reducible refine QC ?_));(first|go_big_want|go_step);go_step)|((with_reducible refine Ak _ (.pick _ _ _) ?_);(refine A3 rfl AA ?_;go_step))|((refine AQ 9 ?_);(refine CG _ (V.geq rfl rfl) AA (fun hB=>?_) (fun hB=>?_)<;>(try exact AR)<;>go_step))|(refine AG ?_;go_step)|fail)
 refine BQ rfl (AC.tmp rfl) rfl ?_
 exact ⟨(by rw [hD.out];first|done|rfl|exact congrArg Ending.returned (congrArg Value.bool (decide_eq_true h2))|exact congrArg Ending.returned (congrArg Value.bool (decide_eq_false h2))),hS.1⟩
def FT(f:CT):Prop:=(1≤f.wide∧f.wide≤64)∧(1≤f.high∧f.high≤64)∧(f.parts=1∨f.parts=3)∧(0≤f.every∧f.every≤100)
instance(f:CT):Decidable (FT f):=by unfold FT;infer_instance
def CB(f:CT):Int:=if FT f then if H4 f.quant then if Ay f.c1 f.s1=0 then if Ay f.c2 f.s2=0 then if f.data.length≤90000 then 0 else 2 else Ay f.c2 f.s2 else Ay f.c1 f.s1 else 1 else 1
def fv(f:CT)(v1 v2 vd:Value):Value:= .agg (AF (bx f v1 v2 vd)).toArray
theorem Og(w0:World)(W H p ev:Int)(Q C1 C2:List Int)(v1 v2 vd:Value)(hQ:Al Q 64)(hC1:Al C1 16)(hC2:Al C2 16)(h:¬((1≤W∧W≤64)∧(1≤H∧H≤64)∧(p=1∨p=3)∧(0≤ev∧ev≤100))):
 Calls Tryz.prog 52 #[.agg (AF [.val (.int .i64 W), .val (.int .i64 H), .val (.int .i64 p), .ints Q, .ints C1, .val v1, .ints C2, .val v2, .val (.int .i64 ev), .val vd]).toArray] w0 fun e w=>e= .returned (.int .i64 1)∧Ai w0 w:=by
 have hS:=St.start w0
 by_cases hw:1≤W∧W≤64
 case neg=>
  have hD:=AD (decide_eq_false hw)
  clear h hw
  go_enter Tryz.func52,Tryz.ntmps52
  repeat' (first
   | (refine As 91 ?_);refine At AA Tryz.call91 (A1 _ _ _ _) ?_;rintro e w ⟨rfl,hE2⟩;rw [hD.out];replace hS:=hS.ext hE2;clear hE2;refine Ac ?_;go_step|go_skip|refine X0 ?_|refine Fi ?_|refine KL 10 ?_ ?_<;>intro hB<;>(try exact Jn hB)<;>go_step|refine Zo ?_|refine OJ 1 ?_;clear hS;intro g1 w hS|refine XF ?_|refine AG ?_;go_step|fail)
  refine BQ rfl (AC.tmp rfl) rfl ?_
  exact ⟨rfl,hS.1⟩
 have hD:=AD (decide_eq_true hw)
 by_cases hh:1≤H∧H≤64
 case neg=>
  have hD2:=AD (decide_eq_false hh)
  clear h hw hh
  go_enter Tryz.func52,Tryz.ntmps52
  repeat' (first
   | (refine As 91 ?_);refine At AA Tryz.call91 (A1 _ _ _ _) ?_;rintro e w ⟨rfl,hE2⟩;rw [hD.out];replace hS:=hS.ext hE2;clear hE2;refine Ac ?_;go_step|(refine As 91 ?_);refine At AA Tryz.call91 (A1 _ _ _ _) ?_;rintro e w ⟨rfl,hE2⟩;rw [hD2.out];replace hS:=hS.ext hE2;clear hE2;refine Ac ?_;go_step|go_skip|refine X0 ?_|refine Iu ?_|refine KL 10 ?_ ?_<;>intro hB<;>(try exact Jn hB)<;>go_step|refine KL 15 ?_ ?_<;>intro hB<;>(try exact Jn hB)<;>go_step|refine Zo ?_|refine bP ?_|refine OJ 1 ?_;clear hS;intro g1 w hS|refine XF ?_|refine AG ?_;go_step|fail)
  refine BQ rfl (AC.tmp rfl) rfl ?_
  exact ⟨rfl,hS.1⟩
 have hD2:=AD (decide_eq_true hh)
 by_cases h1:p=1
 ·subst h1
  have hD3:=AD (decide_eq_false (show ¬(0≤ev∧ev≤100) from fun e=>h ⟨hw,hh, .inl rfl,e⟩))
  clear h hw hh
  go_enter Tryz.func52,Tryz.ntmps52
  repeat' (first
   | (refine As 91 ?_);refine At AA Tryz.call91 (A1 _ _ _ _) ?_;rintro e w ⟨rfl,hE2⟩;rw [hD.out];replace hS:=hS.ext hE2;clear hE2;refine Ac ?_;go_step|(refine As 91 ?_);refine At AA Tryz.call91 (A1 _ _ _ _) ?_;rintro e w ⟨rfl,hE2⟩;rw [hD2.out];replace hS:=hS.ext hE2;clear hE2;refine Ac ?_;go_step|(refine As 91 ?_);refine At AA Tryz.call91 (A1 _ _ _ _) ?_;rintro e w ⟨rfl,hE2⟩;rw [hD3.out];replace hS:=hS.ext hE2;clear hE2;refine Ac ?_;go_step|go_skip|refine X0 ?_|refine H7 ?_|refine KL 10 ?_ ?_<;>intro hB<;>(try exact Jn hB)<;>go_step|refine KL 15 ?_ ?_<;>intro hB<;>(try exact Jn hB)<;>go_step|refine Fh 20 ?_ ?_<;>intro hB<;>(try exact AR)<;>go_step|refine Zo ?_|refine bP ?_|refine dA ?_|refine Xn ?_|refine RW ?_|refine OJ 1 ?_;clear hS;intro g1 w hS|refine XF ?_|refine AG ?_;go_step|fail)
  refine BQ rfl (AC.tmp rfl) rfl ?_
  exact ⟨rfl,hS.1⟩
 by_cases h3:p=3
 ·subst h3
  have hD3:=AD (decide_eq_false (show ¬(0≤ev∧ev≤100) from fun e=>h ⟨hw,hh, .inr rfl,e⟩))
  clear h hw hh h1
  go_enter Tryz.func52,Tryz.ntmps52
  repeat' (first
   | (refine As 91 ?_);refine At AA Tryz.call91 (A1 _ _ _ _) ?_;rintro e w ⟨rfl,hE2⟩;rw [hD.out];replace hS:=hS.ext hE2;clear hE2;refine Ac ?_;go_step|(refine As 91 ?_);refine At AA Tryz.call91 (A1 _ _ _ _) ?_;rintro e w ⟨rfl,hE2⟩;rw [hD2.out];replace hS:=hS.ext hE2;clear hE2;refine Ac ?_;go_step|(refine As 91 ?_);refine At AA Tryz.call91 (A1 _ _ _ _) ?_;rintro e w ⟨rfl,hE2⟩;rw [hD3.out];replace hS:=hS.ext hE2;clear hE2;refine Ac ?_;go_step|refine X0 ?_|refine Iu ?_|refine KL 10 ?_ ?_<;>intro hB<;>(try exact Jn hB)<;>go_step|refine KL 15 ?_ ?_<;>intro hB<;>(try exact Jn hB)<;>go_step|refine Fh 20 ?_ ?_<;>intro hB<;>(try exact AR)<;>go_step|refine Fh 24 ?_ ?_<;>intro hB<;>(try exact AR)<;>go_step|refine Zo ?_|refine bP ?_|refine dA ?_|refine Xn ?_|refine RW ?_|refine OJ 1 ?_;clear hS;intro g1 w hS|refine XF ?_|refine AG ?_;go_step|fail)
  refine BQ rfl (AC.tmp rfl) rfl ?_
  exact ⟨rfl,hS.1⟩
 clear h hw hh
 go_enter Tryz.func52,Tryz.ntmps52
 repeat' (first
  | (refine As 91 ?_);refine At AA Tryz.call91 (A1 _ _ _ _) ?_;rintro e w ⟨rfl,hE2⟩;rw [hD.out];replace hS:=hS.ext hE2;clear hE2;refine Ac ?_;go_step|(refine As 91 ?_);refine At AA Tryz.call91 (A1 _ _ _ _) ?_;rintro e w ⟨rfl,hE2⟩;rw [hD2.out];replace hS:=hS.ext hE2;clear hE2;refine Ac ?_;go_step|go_skip|refine X0 ?_|refine Iu ?_|refine KL 10 ?_ ?_<;>intro hB<;>(try exact Jn hB)<;>go_step|refine KL 15 ?_ ?_<;>intro hB<;>(try exact Jn hB)<;>go_step|refine Fh 20 ?_ ?_<;>intro hB<;>(try exact AR)<;>go_step|refine Fh 24 ?_ ?_<;>intro hB<;>(try exact AR)<;>go_step|refine Zo ?_|refine bP ?_|refine dA ?_|refine OJ 1 ?_;clear hS;intro g1 w hS|refine XF ?_|refine AG ?_;go_step|fail)
 refine BQ rfl (AC.tmp rfl) rfl ?_
 exact ⟨rfl,hS.1⟩
theorem NC(w0:World)(W H p ev:Int)(Q C1 C2:List Int)(v1 v2 vd:Value)(hQ:Al Q 64)(hC1:Al C1 16)(hC2:Al C2 16)(h:(1≤W∧W≤64)∧(1≤H∧H≤64)∧(p=1∨p=3)∧(0≤ev∧ev≤100))(hk:H4 Q=false):
 Calls Tryz.prog 52 #[.agg (AF [.val (.int .i64 W), .val (.int .i64 H), .val (.int .i64 p), .ints Q, .ints C1, .val v1, .ints C2, .val v2, .val (.int .i64 ev), .val vd]).toArray] w0 fun e w=>e= .returned (.int .i64 1)∧Ai w0 w:=by
 have hS:=St.start w0
 have hK:=AD hk
 have hD:=AD (decide_eq_true h.1)
 have hD2:=AD (decide_eq_true h.2.1)
 have hD3:=AD (decide_eq_true h.2.2.2)
 have hp:=h.2.2.1
 clear h hk
 rcases hp with rfl|rfl
 all_goals
  go_enter Tryz.func52,Tryz.ntmps52
  repeat' (first
   | (refine As 91 ?_);refine At AA Tryz.call91 (A1 _ _ _ _) ?_;rintro e w ⟨rfl,hE2⟩;rw [hD.out];replace hS:=hS.ext hE2;clear hE2;refine Ac ?_;go_step|(refine As 91 ?_);refine At AA Tryz.call91 (A1 _ _ _ _) ?_;rintro e w ⟨rfl,hE2⟩;rw [hD2.out];replace hS:=hS.ext hE2;clear hE2;refine Ac ?_;go_step|(refine As 91 ?_);refine At AA Tryz.call91 (A1 _ _ _ _) ?_;rintro e w ⟨rfl,hE2⟩;rw [hD3.out];replace hS:=hS.ext hE2;clear hE2;refine Ac ?_;go_step|(refine As 36 ?_);refine At AA Tryz.call36 (C5 _ Q hQ) ?_;rintro e w ⟨rfl,hE2⟩;rw [hK.out];replace hS:=hS.ext hE2;clear hE2;refine Ac ?_;go_step|go_skip|refine X0 ?_|refine Iu ?_|refine KL 10 ?_ ?_<;>intro hB<;>(try exact Jn hB)<;>go_step|refine KL 15 ?_ ?_<;>intro hB<;>(try exact Jn hB)<;>go_step|refine Fh 20 ?_ ?_<;>intro hB<;>(try exact AR)<;>go_step|refine Fh 24 ?_ ?_<;>intro hB<;>(try exact AR)<;>go_step|refine Zo ?_|refine bP ?_|refine dA ?_|refine Xn ?_|refine RW ?_|(with_reducible refine Ak _ (.fieldAddr 37 _ 3) ?_);(refine An AA (V.fieldAddr Qc rfl A7) ?_;go_step)|refine X4 ?_|refine OJ 1 ?_;clear hS;intro g1 w hS|refine XF ?_|refine dj ?_|refine AG ?_;go_step|fail)
  refine BQ rfl (AC.tmp rfl) rfl ?_
  exact ⟨rfl,hS.1⟩
theorem cI{x y:Int}(h:x=y):Ending.returned (.int .i64 x)= .returned (.int .i64 y):=by rw [h]
theorem Wm(C:List Int)(v:Value)(h:Al C 16):(AF [.ints C, .val v]).length=17:=by
 have:=h.out
 simp [AF,Af.cells,this]
theorem eP(C1 C2:List Int)(v1 v2:Value):AF [.ints C1, .val v1]++(AF [.ints C2, .val v2]++[])=AF [.ints C1, .val v1, .ints C2, .val v2]:=by
 simp [AF,Af.cells]
theorem Wf{W w:World}{rs:List Ar}{g:Nat}{C1 C2:List Int}{v1 v2:Value}(hS:St W w (blk g (AF [.ints C1, .val v1]++(AF [.ints C2, .val v2]++[]))::rs)):St W w (prt g [.ints C1, .val v1, .ints C2, .val v2]::rs):=by
 rw [eP] at hS;exact hS
theorem Oh(w0:World)(W H p ev:Int)(Q C1 C2 S1 S2:List Int)(a1 a2 ad:Option Addr)(n1 n2 nd c1 c2 cd:Nat)(hQ:Al Q 64)(hC1:Al C1 16)(hC2:Al C2 16)(hs1:Sl w0 1 (.slice a1 n1 c1) n1 (S1.map (Value.int .i64)))(hs2:Sl w0 1 (.slice a2 n2 c2) n2 (S2.map (Value.int .i64)))(hn1:n1≤9223372036854775807)(hn2:n2≤9223372036854775807)(hnd:nd≤9223372036854775807)(h:(1≤W∧W≤64)∧(1≤H∧H≤64)∧(p=1∨p=3)∧(0≤ev∧ev≤100))(hk:H4 Q=true):
 Calls Tryz.prog 52 #[.agg (AF [.val (.int .i64 W), .val (.int .i64 H), .val (.int .i64 p), .ints Q, .ints C1, .val (.slice a1 n1 c1), .ints C2, .val (.slice a2 n2 c2), .val (.int .i64 ev), .val (.slice ad nd cd)]).toArray] w0 fun e w=>e= .returned (.int .i64 (if Ay C1 S1=0 then if Ay C2 S2=0 then if nd≤90000 then 0 else 2 else Ay C2 S2 else Ay C1 S1))∧Ai w0 w:=by
 have hS:=St.start w0
 have hL1:=AD (Wm C1 (.slice a1 n1 c1) hC1)
 have hL2:=AD (Wm C2 (.slice a2 n2 c2) hC2)
 have hK:=AD hk
 have hD:=AD (decide_eq_true h.1)
 have hD2:=AD (decide_eq_true h.2.1)
 have hD3:=AD (decide_eq_true h.2.2.2)
 have hp:=h.2.2.1
 clear h hk
 obtain ⟨E1,hE1⟩:∃x,Ay C1 S1=x:=⟨_,rfl⟩
 obtain ⟨E2,hE2⟩:∃x,Ay C2 S2=x:=⟨_,rfl⟩
 have HE1:=AD hE1
 have HE2:=AD hE2
 rw [hE1,hE2]
 clear hE1 hE2
 rcases hp with rfl|rfl
 all_goals
  go_enter Tryz.func52,Tryz.ntmps52
  repeat' (first
   | (refine As 91 ?_);refine At AA Tryz.call91 (A1 _ _ _ _) ?_;rintro e w ⟨rfl,hE2⟩;rw [hD.out];replace hS:=hS.ext hE2;clear hE2;refine Ac ?_;go_step|(refine As 91 ?_);refine At AA Tryz.call91 (A1 _ _ _ _) ?_;rintro e w ⟨rfl,hE2⟩;rw [hD2.out];replace hS:=hS.ext hE2;clear hE2;refine Ac ?_;go_step|(refine As 91 ?_);refine At AA Tryz.call91 (A1 _ _ _ _) ?_;rintro e w ⟨rfl,hE2⟩;rw [hD3.out];replace hS:=hS.ext hE2;clear hE2;refine Ac ?_;go_step|(refine As 36 ?_);refine At AA Tryz.call36 (C5 _ Q hQ) ?_;rintro e w ⟨rfl,hE2⟩;rw [hK.out];replace hS:=hS.ext hE2;clear hE2;refine Ac ?_;go_step|(refine AQ 45 ?_);refine Ad ?_;refine AU (o:=⟨some 45,_,_,_,_,_⟩) hS 115 2 _ rfl 32 17 152 Od _ _ (AW.agg rfl hL1.out (AW.agg rfl hL2.out AW.nil)) rfl (by decide) (by decide) ?_;clear hS;intro g45 w hS;replace hS:=Wf hS|go_skip|refine X0 ?_|refine Iu ?_|refine KL 10 ?_ ?_<;>intro hB<;>(try exact Jn hB)<;>go_step|refine KL 15 ?_ ?_<;>intro hB<;>(try exact Jn hB)<;>go_step|refine Fh 20 ?_ ?_<;>intro hB<;>(try exact AR)<;>go_step|refine Fh 24 ?_ ?_<;>intro hB<;>(try exact AR)<;>go_step|refine Zo ?_|refine bP ?_|refine dA ?_|refine Xn ?_|refine RW ?_|(with_reducible refine Ak _ (.fieldAddr 37 _ 3) ?_);(refine An AA (V.fieldAddr Qc rfl A7) ?_;go_step)|refine X4 ?_|refine aW ?_|refine cy ?_|refine cz ?_|refine Ui ?_|refine OJ 1 ?_;clear hS;intro g1 w hS|refine XF ?_|refine dj ?_|refine Lk ?_|refine AG ?_;go_step|fail)
  clear hL1 hL2 hD hD2 hD3 hK
  go_loopg [47] 2 (fun gk kv w=>∃k:Nat,gk+k=2∧kv= .int .i64 k∧(1≤k→E1=0)∧(2≤k→E2=0)∧St w0 w [prt g1 [.val (.int .i64 W), .val (.int .i64 H), .val (.int .i64 _), .ints Q, .ints C1, .val (.slice a1 n1 c1), .ints C2, .val (.slice a2 n2 c2), .val (.int .i64 ev), .val (.slice ad nd cd)],prt g45 [.ints C1, .val (.slice a1 n1 c1), .ints C2, .val (.slice a2 n2 c2)]])
  case atStart=>exact ⟨0,rfl,rfl,fun h=>absurd h (by omega),fun h=>absurd h (by omega),hS.sub AV⟩
  case round=>
   clear hS
   obtain ⟨k,hk,rfl,HA,HB,hS⟩:=hrel
   by_cases hlt:k<2
   ·obtain rfl|rfl:k=0∨k=1:=by omega
    ·
     repeat' (first
      | (refine As 73 ?_);refine At AA Tryz.call73 (CY _ C1 S1 a1 n1 c1 hC1 (hs1.ext hS.1) hn1) ?_;rintro e w ⟨rfl,hE2⟩;rw [HE1.out];replace hS:=hS.ext hE2;clear hE2;refine Ac ?_;go_step|refine X0 ?_|refine X2 ?_|refine XI 49 ?_|refine X4 ?_|refine X7 ?_|refine Lk ?_|refine RS 5 ?_;clear hS;intro g5 w hS|refine S9 ?_;clear hS;intro w hS|refine AG ?_;go_step|fail)
     ·
      refine BQ rfl (AC.tmp rfl) rfl ?_
      exact ⟨cI (by (repeat' split)<;>omega),hS.1⟩
     ·go_roundg (gk-1)
      case measure=>omega
      case rel=>exact ⟨1,by omega,rfl,fun _=>by omega,fun h=>absurd h (by omega),hS.sub AV⟩
    ·have h0:=HA (by omega)
     subst h0
     repeat' (first
      | (refine As 73 ?_);refine At AA Tryz.call73 (CY _ C2 S2 a2 n2 c2 hC2 (hs2.ext hS.1) hn2) ?_;rintro e w ⟨rfl,hE2⟩;rw [HE2.out];replace hS:=hS.ext hE2;clear hE2;refine Ac ?_;go_step|refine X0 ?_|refine X2 ?_|refine XI 49 ?_|refine X4 ?_|refine X7 ?_|refine Lk ?_|refine RS 5 ?_;clear hS;intro g5 w hS|refine S9 ?_;clear hS;intro w hS|refine AG ?_;go_step|fail)
     ·
      refine BQ rfl (AC.tmp rfl) rfl ?_
      exact ⟨cI (by (repeat' split)<;>omega),hS.1⟩
     ·go_roundg (gk-1)
      case measure=>omega
      case rel=>exact ⟨2,by omega,rfl,fun _=>rfl,fun _=>by omega,hS.sub AV⟩
   obtain rfl:k=2:=by omega
   have h1:=HA (by omega)
   have h2:=HB (by omega)
   subst h1
   subst h2
   repeat' (first
    | refine X8 ?_|refine X2 ?_|refine aX ?_|refine aU ?_|refine H3 ?_|refine Um ?_|refine AG ?_;go_step|fail)
   all_goals
    refine BQ rfl (AC.tmp rfl) rfl ?_
    exact ⟨cI (by (repeat' split)<;>omega),hS.1⟩
end Go.Proofs.YtohacgmhmbijmaaGreatDoor
namespace Go.Proofs.YtohacgmhmbijmaaGreatDoor
attribute [local irreducible] Region.wanted
open Go.RowKit
set_option linter.unusedVariables false
set_option maxRecDepth 100000
set_option maxHeartbeats 8000000
section
variable{P:Program}{W w:World}{rs rs':List Ar}{Q:Exit→Act→World→Prop}{K:Act→World→Prop}{o:Oper}{a:Act}
end
section
variable{P:Program}{a:Act}{x y:Operand}{t ty u:TypeId}
end
end Go.Proofs.YtohacgmhmbijmaaGreatDoor
namespace Go.Proofs.YtohacgmhmbijmaaGreatDoor
attribute [local irreducible] Region.wanted
open Go.ChangeShapes Go.WideShapes Go.ChangeAt Go.RowKit Go.Deep
set_option linter.unusedVariables false
set_option maxRecDepth 100000
set_option maxHeartbeats 8000000
theorem QV(w0:World)(f:CT)(a1 a2 ad:Option Addr)(n1 n2 nd c1 c2 cd:Nat)(hQ:Al f.quant 64)(hC1:Al f.c1 16)(hC2:Al f.c2 16)(hs1:Sl w0 1 (.slice a1 n1 c1) n1 (f.s1.map (Value.int .i64)))(hs2:Sl w0 1 (.slice a2 n2 c2) n2 (f.s2.map (Value.int .i64)))(hn1:n1≤9223372036854775807)(hn2:n2≤9223372036854775807)(hnd:nd≤9223372036854775807)(hd:f.data.length=nd):
 Calls Tryz.prog 52 #[fv f (.slice a1 n1 c1) (.slice a2 n2 c2) (.slice ad nd cd)] w0 fun e w=>e= .returned (.int .i64 (CB f))∧Ai w0 w:=by
 by_cases h1:FT f
 ·by_cases h2:H4 f.quant=true
  ·have e:CB f=if Ay f.c1 f.s1=0 then if Ay f.c2 f.s2=0 then if nd≤90000 then 0 else 2 else Ay f.c2 f.s2 else Ay f.c1 f.s1:=by unfold CB;rw [if_pos h1,if_pos h2,hd]
   rw [e]
   exact Oh w0 _ _ _ _ _ _ _ _ _ a1 a2 ad n1 n2 nd c1 c2 cd hQ hC1 hC2 hs1 hs2 hn1 hn2 hnd h1 h2
  have e:CB f=1:=by unfold CB;rw [if_pos h1,if_neg h2]
  rw [e]
  exact NC w0 _ _ _ _ _ _ _ _ _ _ hQ hC1 hC2 h1 (by simpa using h2)
 have e:CB f=1:=by unfold CB;rw [if_neg h1]
 rw [e]
 exact Og w0 _ _ _ _ _ _ _ _ _ _ hQ hC1 hC2 h1
def cb(C:List Int):Nat→List Int
 | 0=>[]
 | k+1=>cb C k++[AJ C k/256,AJ C k%256]
def D7(f:CT):List Int:=f.data.map fun (x:Nat)=>(x:Int)
theorem Ol{f:CT}(h:CB f=0):FT f∧H4 f.quant=true∧Ay f.c1 f.s1=0∧Ay f.c2 f.s2=0∧f.data.length≤90000:=by
 unfold CB at h
 split at h
 ·rename_i h1
  split at h
  ·rename_i h2
   split at h
   ·rename_i h3
    split at h
    ·rename_i h4
     split at h
     ·rename_i h5
      exact ⟨h1,h2,h3,h4,h5⟩
     cases h
    rename_i h4;exact absurd h h4
   rename_i h3;exact absurd h h3
  cases h
 cases h
end Go.Proofs.YtohacgmhmbijmaaGreatDoor
namespace Go.Proofs.YtohacgmhmbijmaaGreatDoor
attribute [local irreducible] Region.wanted
open Go.RowKit
set_option linter.unusedVariables false
set_option maxRecDepth 100000
set_option maxHeartbeats 8000000
theorem IZ(n every:Nat):((A5 n every).map fun x=>x.2-x.1).sum=n:=by
 have hl:(List.replicate (n*64) (0:Int)).length=n*64:=List.length_replicate
 have h:=congrArg List.length (SZ every hl)
 have key:∀L:List (Nat×Nat),(∀x∈L,x.1≤x.2∧x.2≤n)→(L.flatMap fun x=>Ap (List.replicate (n*64) (0:Int)) x.1 x.2).length=(L.map fun x=>x.2-x.1).sum*64:=by
  intro L
  induction L with
  | nil=>intro _;rfl
  | cons x L ih=>
    intro hx
    obtain ⟨h1,h2⟩:=hx x (by simp)
    rw [List.flatMap_cons,List.length_append,ih fun y hy=>hx y (by simp [hy]),CE hl h1 h2,List.map_cons,List.sum_cons,Nat.add_mul]
 rw [key _ (D5 n every),hl] at h
 omega
theorem ST(C1 S1 C2 S2:List Int):∀(L:List (Nat×Nat))(ps:List (List Int)),(L8 C1 S1 C2 S2 L ps).1=0→(L8 C1 S1 C2 S2 L ps).2.length=(L.map fun x=>x.2-x.1).sum*64
 | [],_,_=>rfl
 | x::L,ps,h=>by
   rw [L8] at h⊢
   by_cases h0:(E5 C1 S1 C2 S2 (ps.headD []) ((x.2-x.1:Nat):Int)).1=0
   ·rw [if_neg (by simpa using h0)] at h⊢
    obtain ⟨n,e,_,hl⟩:=IU h0
    have ih:=ST C1 S1 C2 S2 L ps.tail h
    have:x.2-x.1=n:=by omega
    dsimp only
    rw [List.length_append,ih,hl,List.map_cons,List.sum_cons,Nat.add_mul,this]
   rw [if_pos (by simpa using h0)] at h
   exact absurd h h0
theorem ZE{C1 S1 C2 S2 b:List Int}{n:Nat}{every:Int}(h:(P2 C1 S1 C2 S2 b n every).1=0):(P2 C1 S1 C2 S2 b n every).2.length=n*64:=by
 unfold P2 at h⊢
 by_cases hw:OE C1 S1 C2 S2 b n every=0
 ·rw [if_pos hw] at h⊢
  split at h
  ·cases h
  rename_i y hy
  by_cases h1:(L8 C1 S1 C2 S2 (A5 (n:Int).toNat every.toNat) y.1).1=0
  ·rw [if_pos h1]
   rw [ST _ _ _ _ _ _ h1,IZ,Int.toNat_natCast]
  rw [if_neg h1] at h;exact absurd h h1
 rw [if_neg hw] at h;exact absurd h hw
structure FM(w:World)(f:CT)(a1 a2 ad:Option Addr)(n1 k1 n2 k2 nd kd:Nat):Prop where
 q:Al f.quant 64
 l1:Al f.c1 16
 l2:Al f.c2 16
 s1:Sl w 1 (.slice a1 n1 k1) n1 (f.s1.map (Value.int .i64))
 s2:Sl w 1 (.slice a2 n2 k2) n2 (f.s2.map (Value.int .i64))
 b1:n1≤9223372036854775807
 b2:n2≤9223372036854775807
 sd:Sl w 1 (.slice ad nd kd) nd ((D7 f).map (Value.int .u8))
 bd:nd≤9223372036854775807
 dlt:∀x∈f.data,x<256
theorem FM.ext{w w':World}{f:CT}{a1 a2 ad:Option Addr}{n1 k1 n2 k2 nd kd:Nat}(h:FM w f a1 a2 ad n1 k1 n2 k2 nd kd)(hE:Ai w w'):FM w' f a1 a2 ad n1 k1 n2 k2 nd kd:=
 ⟨h.q,h.l1,h.l2,h.s1.ext hE,h.s2.ext hE,h.b1,h.b2,h.sd.ext hE,h.bd,h.dlt⟩
theorem FM.dl{w:World}{f:CT}{a1 a2 ad:Option Addr}{n1 k1 n2 k2 nd kd:Nat}(h:FM w f a1 a2 ad n1 k1 n2 k2 nd kd):f.data.length=nd:=by
 have:=h.sd.1
 rw [List.length_map,Nat.mul_one] at this
 rw [←this];unfold D7;rw [List.length_map]
theorem FM.chk{w:World}{f:CT}{a1 a2 ad:Option Addr}{n1 k1 n2 k2 nd kd:Nat}(h:FM w f a1 a2 ad n1 k1 n2 k2 nd kd):Calls Tryz.prog 52 #[fv f (.slice a1 n1 k1) (.slice a2 n2 k2) (.slice ad nd kd)] w fun e w'=>e= .returned (.int .i64 (CB f))∧Ai w w':=
 QV w f a1 a2 ad n1 n2 nd k1 k2 kd h.q h.l1 h.l2 h.s1 h.s2 h.b1 h.b2 h.bd h.dl
theorem ID{f:CT}(h:∀x∈f.data,x<256):∀x∈D7 f,0≤x∧x<256:=by
 intro x hx
 obtain ⟨y,hy,rfl⟩:=List.mem_map.1 hx
 have:=h y hy
 omega
theorem d5 (w:World):(Instr.build 24 #[]).run Tryz.prog w= .ok (.agg #[.int .i64 0, .int .i64 0, .slice none 0 0]) w:=by kernel_rfl
theorem Mb(w0:World)(m h:Int)(hok:1≤m∧m≤64∧1≤h∧h≤64)(np K M:Nat)(hnp:np≤3)(hK:Ae m h=K)(hM:np*K=M)(Q C1 C2:List Int)(v1 v2 vd:Value)(ev:Int)(hQ:Al Q 64)(hC1:Al C1 16)(hC2:Al C2 16):
 Calls Tryz.prog 53 #[.agg (AF [.val (.int .i64 m), .val (.int .i64 h), .val (.int .i64 np), .ints Q, .ints C1, .val v1, .ints C2, .val v2, .val (.int .i64 ev), .val vd]).toArray] w0 fun e w=>e= .returned (.int .i64 (M:Int))∧Ai w0 w:=by
 have hS:=St.start w0
 obtain ⟨q1,q2,q3⟩:=Dv hok
 rw [hK] at q1 q2 q3
 have hn1:M≤192:=by
  have:=Nat.mul_le_mul hnp q2
  omega
 have HMU:Hid ((K:Int)*(np:Int)=(M:Int)):=by
  show (K:Int)*(np:Int)=(M:Int)
  rw [←Int.natCast_mul,Nat.mul_comm,hM]
 have HK:=AD q3
 clear q3
 go_enter Tryz.func53,Tryz.ntmps53
 repeat' (first
  | (refine As 32 ?_);refine At AA Tryz.call32 (Fs _ m h) ?_;rintro e w ⟨rfl,hE⟩;replace hS:=hS.ext hE;clear hE;rw [if_pos hok,if_pos hok,HK.out];refine Ac ?_;go_step|(refine AQ 16 ?_);refine Ag (.int _ (M:Int)) (V.as (V.mulI rfl rfl (by rw [HMU.out];omega)) HMU.out) (by kernel_rfl) ?_;go_step|refine X0 ?_|refine Zo ?_|refine bP ?_|refine X6 ?_|refine dA ?_|refine OJ 1 ?_;clear hS;intro g1 w hS|refine XF ?_|refine AG ?_;go_step|fail)
 all_goals (try exact AR)
 go_ret
 exact ⟨rfl,hS.1⟩
noncomputable def QN(f:CT):Int×List Int:=P2 f.c1 f.s1 f.c2 f.s2 (D7 f) ((f.parts.toNat*Ae f.wide f.high:Nat):Int) f.every
noncomputable def Zw(f:CT):Int:=if CB f=0 then (QN f).1 else CB f
noncomputable def bp(f:CT):List (List Int):=Ov f.wide f.high f.quant (QN f).2 (Ae f.wide f.high) f.parts.toNat
def eE:Value:= .agg #[.int .i64 0, .int .i64 0, .slice none 0 0]
def Uc(w0:World)(E m h:Int)(L:List (List Int))(e:Ending)(w:World):Prop:=
 (E≠0→e= .returned (.tuple #[eE, .int .i64 E])∧Ai w0 w)∧
 (E=0→∃(a:Option Addr) (c:Nat) (R:List Rw),R.map (·.xs)=L∧e= .returned (.tuple #[.agg #[.int .i64 m, .int .i64 h, .slice a R.length c], .int .i64 0])∧Ca w0 w a c R [])
theorem QO(w0:World)(f:CT)(a1 a2 ad:Option Addr)(n1 k1 n2 k2 nd kd:Nat)(hF:FM w0 f a1 a2 ad n1 k1 n2 k2 nd kd)(hml:∃m,w0.cell? ⟨0,0,none⟩=some (.int .i64 m)):
 Calls Tryz.prog 21 #[fv f (.slice a1 n1 k1) (.slice a2 n2 k2) (.slice ad nd kd)] w0 (Uc w0 (Zw f) f.wide f.high (bp f)):=by
 have hS:=St.start w0
 have HC:=AD fun (w:World)(hx:Ai w0 w)=>(hF.ext hx).chk
 obtain ⟨E,hE⟩:∃E,CB f=E:=⟨_,rfl⟩
 rw [hE] at HC
 by_cases hz:E=0
 case neg=>
  have HDE:=AD (show Zw f=E by unfold Zw;rw [hE,if_neg hz])
  obtain ⟨L,hL⟩:∃L,bp f=L:=⟨_,rfl⟩
  rw [hL]
  have hQ:=hF.q
  have hC1:=hF.l1
  have hC2:=hF.l2
  clear hF hL hE hml
  obtain ⟨W,H,p,Q,C1,S1,C2,S2,ev,D⟩:=f
  dsimp only at hQ hC1 hC2⊢
  show Calls Tryz.prog 21 #[.agg (AF [.val (.int .i64 W), .val (.int .i64 H), .val (.int .i64 p), .ints Q, .ints C1, .val (.slice a1 n1 k1), .ints C2, .val (.slice a2 n2 k2), .val (.int .i64 ev), .val (.slice ad nd kd)]).toArray] _ _
  go_enter Tryz.func21,Tryz.ntmps21
  repeat' (first
   | (refine As 52 ?_);refine At AA Tryz.call52 (HC.out _ hS.1) (Fp hS ?_);clear hS;intro w hS;go_step|refine X0 ?_|refine X4 ?_|refine Xx 11 ?_|refine OJ 1 ?_;clear hS;intro g1 w hS|refine UU 2 ?_;clear hS;intro g2 w hS|refine P8 ?_|refine UV ?_;clear hS;intro w hS|refine AG ?_;go_step|fail)
  all_goals (try exact AR)
  refine AK (xs:=[_,_]) rfl (.cons (AC.blk hS rfl (AO (n:=3) rfl) AL rfl) (.cons (AC.tmp rfl) (.nil))) (by simp) rfl ?_
  exact ⟨fun _=>⟨by rw [HDE.out];rfl,hS.1⟩,fun h=>by rw [HDE.out] at h;exact absurd h hz⟩
 subst hz
 obtain ⟨⟨d1,d2,d3,d4⟩,hqk,e4,e5,hdl⟩:=Ol hE
 have hdl':nd≤1000000000:=by rw [←hF.dl];omega
 obtain ⟨np,hnp⟩:∃np:Nat,f.parts=(np:Int):=⟨f.parts.toNat,by omega⟩
 have hnp3:np=1∨np=3:=by omega
 have hsz:=fun w=>Mb w f.wide f.high ⟨d1.1,d1.2,d2.1,d2.2⟩ np (Ae f.wide f.high) (np*Ae f.wide f.high) (by omega) rfl rfl f.quant f.c1 f.c2 (.slice a1 n1 k1) (.slice a2 n2 k2) (.slice ad nd kd) f.every hF.q hF.l1 hF.l2
 have HSZ:=AD hsz
 have hpt:f.parts.toNat=np:=by omega
 have hdr:QN f=P2 f.c1 f.s1 f.c2 f.s2 (D7 f) ((np*Ae f.wide f.high:Nat):Int) f.every:=by unfold QN;rw [hpt]
 have hdx:=ID hF.dlt
 have HSC:Hid (∀w,Ai w0 w→Calls Tryz.prog 20 #[.agg (AF [.ints f.c1, .val (.slice a1 n1 k1), .ints f.c2, .val (.slice a2 n2 k2)]).toArray, .slice ad nd kd, .int .i64 ((np*Ae f.wide f.high:Nat):Int), .int .i64 f.every] w (Fu w (QN f).1 (QN f).2)):=fun w hx=>by
  rw [hdr]
  exact K6 w f.c1 f.c2 f.s1 f.s2 a1 a2 n1 n2 k1 k2 hF.l1 hF.l2 (hF.s1.ext hx) (hF.s2.ext hx) hF.b1 hF.b2 ad nd kd (D7 f) _ f.every hdl' (hF.sd.ext hx) hdx (hml.imp fun m h=>hx.cell h)
 have hlen:(QN f).1=0→(QN f).2.length=np*Ae f.wide f.high*64:=fun h=>by
  rw [hdr] at h⊢;exact ZE h
 have HLEN:=AD hlen
 have HDE:=AD (show Zw f=(QN f).1 by unfold Zw;rw [if_pos hE])
 have HDL:=AD (show bp f=Ov f.wide f.high f.quant (QN f).2 (Ae f.wide f.high) np by unfold bp;rw [hpt])
 obtain ⟨D1,hD1⟩:∃x,(QN f).1=x:=⟨_,rfl⟩
 obtain ⟨D2,hD2⟩:∃x,(QN f).2=x:=⟨_,rfl⟩
 rw [hD1] at HDE
 rw [hD2] at HDL
 rw [hD1,hD2] at HSC HLEN
 obtain ⟨E,hEE⟩:∃x,Zw f=x:=⟨_,rfl⟩
 obtain ⟨L,hL⟩:∃x,bp f=x:=⟨_,rfl⟩
 rw [hEE] at HDE⊢
 rw [hL] at HDL⊢
 have hQ:=hF.q
 have hC1:=hF.l1
 have hC2:=hF.l2
 clear e4 e5 hF hL hEE hE hml hdl hsz hdr hlen hD1 hD2 hdx hpt hqk d4 d3 hdl'
 obtain ⟨m,h,p,Q,C1,S1,C2,S2,ev,D⟩:=f
 dsimp only at hQ hC1 hC2 d1 d2 hnp HSZ HSC HLEN HDL⊢
 subst hnp
 have hok:1≤m∧m≤64∧1≤h∧h≤64:=⟨d1.1,d1.2,d2.1,d2.2⟩
 obtain ⟨q1,q2,q3⟩:=Dv hok
 obtain ⟨K,hK⟩:∃K,Ae m h=K:=⟨_,rfl⟩
 obtain ⟨M,hM⟩:∃M,np*K=M:=⟨_,rfl⟩
 rw [hK,hM] at HSZ HSC HLEN
 rw [hK] at HDL
 rw [hK] at q1 q2
 have hn1:M≤192:=by
  have:=Nat.mul_le_mul (show np≤3 by omega) q2
  omega
 have HK:=AD hK
 have HM:=AD hM
 clear q3 hK hM
 show Calls Tryz.prog 21 #[.agg (AF [.val (.int .i64 m), .val (.int .i64 h), .val (.int .i64 np), .ints Q, .ints C1, .val (.slice a1 n1 k1), .ints C2, .val (.slice a2 n2 k2), .val (.int .i64 ev), .val (.slice ad nd kd)]).toArray] _ _
 by_cases h0:D1=0
 ·subst h0
  go_enter Tryz.func21,Tryz.ntmps21
  repeat' (first
   | (refine As 52 ?_);refine At AA Tryz.call52 (HC.out _ hS.1) (Fp hS ?_);clear hS;intro w hS;go_step|refine X0 ?_|refine X4 ?_|refine OJ 1 ?_;clear hS;intro g1 w hS|refine UU 2 ?_;clear hS;intro g2 w hS|refine P8 ?_|refine AG ?_;go_step|fail)
  all_goals (try exact AR)
  refine AP [8] (fun w=>St w0 w [blk g2 [.int .i64 0, .int .i64 0, .slice none 0 0],prt g1 [.val (.int .i64 m), .val (.int .i64 h), .val (.int .i64 np), .ints Q, .ints C1, .val (.slice a1 n1 k1), .ints C2, .val (.slice a2 n2 k2), .val (.int .i64 ev), .val (.slice ad nd kd)]]) AA ?_
  replace hS:=hS.drew
  focus
   refine be 0 ?_
   refine Zs 1 [8,9,10,11,12,13] ?_
   refine dI 2 ?_
   refine dx 3 [8,9,10,11,12,13] ?_
   refine ea 4 [5,8,9,10,11,12,13] ?_
   refine BZ 6 BN (V.fieldAddr Kf rfl A7) ?_;go_step
   refine eb 7 [8,9,10,11,12,13] ?_
   refine Av 5 ?_
   refine AY (f:=53) rfl Tryz.call53 (HSZ.out _) ?_;rintro e w ⟨rfl,hE2⟩;replace hS:=hS.ext hE2;clear hE2;refine ⟨_,rfl,?_⟩
   refine ⟨fun _ _=>hS.sub AV,?_⟩
   refine AI ?_
   go_step
   refine Av 8 ?_
   refine AY (f:=20) rfl Tryz.call20 (HSC.out _ hS.1) ?_;rintro e w ⟨ao,co,mb,hmb,rfl,hS2⟩;replace hS:=hS.call1 hS2;clear hS2;have HMB:=AD hmb;clear hmb;refine ⟨_,rfl,?_⟩
   refine ⟨fun h=>absurd (by decide) h,?_⟩
   refine AI ?_
   go_step
   refine AZ 9 ?_
   refine Y2 10 ?_
   refine Y2 11 ?_
   refine AZ 12 ?_
   refine AZ 13 ?_
   refine AE AA ?_ _
  all_goals
   repeat' (first|(refine AG ?_;go_step)|fail)
   obtain rfl:mb=M:=by
    have e1:=HMB.out
    have e2:=HLEN.out rfl
    omega
   have hcc:mb≤co∧co≤maxLen:=by
    obtain ⟨_,a9,c9,z2,z3,z4,_⟩:=hS.sl (a:=ao) AL
    cases z2
    exact ⟨z3,z4⟩
   obtain ⟨hcc1,hcc2⟩:=hcc
   repeat' (first
    | (refine As 54 ?_);refine At AA Tryz.call54 (Ma _ m h hok np hnp3 Q C1 C2 hQ hC1 hC2 _ _ _ ev K mb HK.out HM.out ao co hcc1 hcc2 D2 HMB.out (hS.sl AL)) ?_;rintro e w ⟨a9,c9,R9,hR9,rfl,hP9⟩;replace hS:=hS.call hP9;clear hP9;simp only [List.cons_append,List.nil_append] at hS;have HR9:=AD hR9;clear hR9;refine Ac ?_;go_step|refine X0 ?_|refine X4 ?_|refine UV ?_;clear hS;intro w hS|refine P8 ?_|refine AG ?_;go_step|fail)
   all_goals (try exact AR)
   refine AK (xs:=[_,_]) rfl (.cons (AC.blk hS rfl (AO (n:=3) rfl) AL rfl) (.cons (AC.tmp rfl) (.nil))) (by simp) rfl ?_
   refine ⟨fun h=>absurd HDE.out h,fun _=>⟨a9,c9,R9,by rw [HR9.out,HDL.out],rfl,?_⟩⟩
   unfold Ca
   exact hS.sub AV
 go_enter Tryz.func21,Tryz.ntmps21
 repeat' (first
  | (refine As 52 ?_);refine At AA Tryz.call52 (HC.out _ hS.1) (Fp hS ?_);clear hS;intro w hS;go_step|refine X0 ?_|refine X4 ?_|refine OJ 1 ?_;clear hS;intro g1 w hS|refine UU 2 ?_;clear hS;intro g2 w hS|refine P8 ?_|refine AG ?_;go_step|fail)
 all_goals (try exact AR)
 refine AP [8] (fun w=>St w0 w [blk g2 [.int .i64 0, .int .i64 0, .slice none 0 0],prt g1 [.val (.int .i64 m), .val (.int .i64 h), .val (.int .i64 np), .ints Q, .ints C1, .val (.slice a1 n1 k1), .ints C2, .val (.slice a2 n2 k2), .val (.int .i64 ev), .val (.slice ad nd kd)]]) AA ?_
 replace hS:=hS.drew
 focus
  refine be 0 ?_
  refine Zs 1 [8,9,10,11,12,13] ?_
  refine dI 2 ?_
  refine dx 3 [8,9,10,11,12,13] ?_
  refine ea 4 [5,8,9,10,11,12,13] ?_
  refine BZ 6 BN (V.fieldAddr Kf rfl A7) ?_;go_step
  refine eb 7 [8,9,10,11,12,13] ?_
  refine Av 5 ?_
  refine AY (f:=53) rfl Tryz.call53 (HSZ.out _) ?_;rintro e w ⟨rfl,hE2⟩;replace hS:=hS.ext hE2;clear hE2;refine ⟨_,rfl,?_⟩
  refine ⟨fun _ _=>hS.sub AV,?_⟩
  refine AI ?_
  go_step
  refine Av 8 ?_
  refine AY (f:=20) rfl Tryz.call20 (HSC.out _ hS.1) ?_;rintro e w ⟨ao,co,mb,hmb,rfl,hS2⟩;replace hS:=hS.call1 hS2;clear hS2;have HMB:=AD hmb;clear hmb;refine ⟨_,rfl,?_⟩
  refine ⟨fun h=>absurd (by decide) h,?_⟩
  refine AI ?_
  go_step
  refine AZ 9 ?_
  refine Y2 10 ?_
  refine Y2 11 ?_
  refine AZ 12 ?_
  refine AZ 13 ?_
  refine AE AA ?_ _
 all_goals
  repeat' (first|(refine AG ?_;go_step)|fail)
  repeat' (first
   | refine X0 ?_|refine X4 ?_|refine Xx 27 ?_|refine UV ?_;clear hS;intro w hS|refine AG ?_;go_step|fail)
  all_goals (try exact AR)
  refine AK (xs:=[_,_]) rfl (.cons (AC.blk hS rfl (AO (n:=3) rfl) AL rfl) (.cons (AC.tmp rfl) (.nil))) (by simp) rfl ?_
  exact ⟨fun _=>⟨by rw [HDE.out];rfl,hS.1⟩,fun h=>by rw [HDE.out] at h;exact absurd h h0⟩
theorem JQ{α β:Type}(f:α→List β)(m:Nat):∀(L:List α),(∀x∈L,(f x).length≤m)→(L.flatMap f).length≤L.length*m
 | [],_=>Nat.zero_le _
 | x::L,h=>by
   have h1:=h x (by simp)
   have h2:=JQ f m L fun y hy=>h y (by simp [hy])
   rw [List.flatMap_cons,List.length_append,List.length_cons,Nat.add_mul]
   omega
theorem Nj{C1 S1 C2 S2 l:List Int}{n:Nat}(hl:l.length=n*64):(C6 C1 S1 C2 S2 l n).length≤448*n:=by
 unfold C6
 split
 ·rename_i h0
  obtain ⟨ht,hb,ha,hw⟩:=Ho h0
  obtain ⟨t1,t2⟩:=GH ht
  obtain ⟨k1,k2⟩:=Id hl n 0 (by omega)
  have e:Bm C1 S1 C2 S2 l n=(DA l 0 n).flatMap (BR (Bh C1 S1) (Bh C2 S2)):=by
   unfold Bm;rw [GU _ _ _ _ hw];rfl
  have h1:(Bm C1 S1 C2 S2 l n).length≤(DA l 0 n).length*28:=by
   rw [e]
   refine JQ _ 28 _ fun x hx=>?_
   obtain ⟨⟨_,_⟩,⟨h3,h4⟩,_⟩:=k1 x hx
   unfold BR
   rw [List.length_append,Ao]
   have h5:(wb (if x.2 then Bh C1 S1 else Bh C2 S2) x.1.1).length≤16:=by
    split
    ·exact N6 (Bb t1) _
    exact N6 (Bb t2) _
   omega
  have h2:(DA l 0 n).length*28≤64*n*28:=Nat.mul_le_mul_right _ k2
  have h3:=List.count_le_length (a:=(255:Int)) (l:=Fo (bytesOf (Bm C1 S1 C2 S2 l n)))
  rw [J8]
  have h4:(Fo (bytesOf (Bm C1 S1 C2 S2 l n))).length=((Bm C1 S1 C2 S2 l n).length+7)/8:=by
   unfold Fo;rw [List.length_map,En]
  omega
 exact Nat.zero_le _
theorem Qi:∀(ps:List (List Int))(k:Nat),(In ps k).length≤(ps.map List.length).sum+2*ps.length
 | [],_=>Nat.zero_le _
 | p::ps,k=>by
   have ih:=Qi ps (k+1)
   have h1:(if k=0 then ([]:List Int) else [255,((208+(k-1)%8:Nat):Int)]).length≤2:=by split<;>simp
   rw [In,List.length_append,List.length_append,List.map_cons,List.sum_cons,List.length_cons]
   omega
theorem Q8{α:Type}(f g:α→Nat)(m:Nat):∀(L:List α),(∀x∈L,f x≤m*g x)→(L.map f).sum≤m*(L.map g).sum
 | [],_=>Nat.zero_le _
 | x::L,h=>by
   have h1:=h x (by simp)
   have h2:=Q8 f g m L fun y hy=>h y (by simp [hy])
   rw [List.map_cons,List.map_cons,List.sum_cons,List.sum_cons,Nat.mul_add]
   omega
theorem YS{C1 S1 C2 S2 l:List Int}{n:Nat}(every:Nat)(hl:l.length=n*64):(In (EE C1 S1 C2 S2 l (A5 n every)) 0).length≤450*n+2:=by
 refine Nat.le_trans (Qi _ _) ?_
 have h1:((EE C1 S1 C2 S2 l (A5 n every)).map List.length).sum≤448*n:=by
  unfold EE
  rw [List.map_map]
  refine Nat.le_trans (Q8 _ (fun x=>x.2-x.1) 448 _ fun x hx=>?_) (by rw [IZ];exact Nat.le_refl _)
  obtain ⟨a1,a2⟩:=D5 n every x hx
  exact Nj (CE hl a1 a2)
 have h2:(EE C1 S1 C2 S2 l (A5 n every)).length≤n+1:=by
  unfold EE;rw [List.length_map];exact Gi n every
 omega
theorem Qj:∀(ps:List (List Int))(k:Nat),(∀p∈ps,∀x∈p,0≤x∧x<256)→∀x∈In ps k,0≤x∧x<256
 | [],_,_,x,hx=>by cases hx
 | p::ps,k,h,x,hx=>by
   rw [In,List.mem_append,List.mem_append] at hx
   rcases hx with hx|hx|hx
   ·split at hx
    ·cases hx
    simp only [List.mem_cons,List.not_mem_nil,or_false] at hx
    rcases hx with rfl|rfl
    ·omega
    omega
   ·exact h p (by simp) x hx
   exact Qj ps (k+1) (fun q hq=>h q (by simp [hq])) x hx
theorem SU{C1 S1 C2 S2 l:List Int}{n:Nat}:∀x∈C6 C1 S1 C2 S2 l n,0≤x∧x<256:=by
 unfold C6
 split
 ·refine Wg fun y hy=>?_
  obtain ⟨z,hz,rfl⟩:=List.mem_map.1 hy
  have:=EO _ z hz
  omega
 intro x hx;cases hx
theorem Rj{C1 S1 C2 S2 l:List Int}{n every:Nat}:∀x∈In (EE C1 S1 C2 S2 l (A5 n every)) 0,0≤x∧x<256:=by
 refine Qj _ _ fun p hp=>?_
 obtain ⟨y,_,rfl⟩:=List.mem_map.1 hp
 exact SU
def Cs(m h:Int)(np:Nat)(q C1 S1 C2 S2:List Int)(ev:Nat)(D:List Int):CT:=⟨m,h,np,q,C1,S1,C2,S2,ev,D.map Int.toNat⟩
theorem FS(m h:Int)(np:Nat)(q C1 S1 C2 S2:List Int)(ev:Nat)(D:List Int)(hD:∀x∈D,0≤x∧x<256):D7 (Cs m h np q C1 S1 C2 S2 ev D)=D:=by
 unfold D7 Cs
 rw [List.map_map]
 conv=>rhs;rw [←List.map_id D]
 refine List.map_congr_left fun x hx=>?_
 have:=hD x hx
 show ((x.toNat:Nat):Int)=x
 omega
theorem VK{m h:Int}{np n K:Nat}{q B C1 S1 C2 S2 D:List Int}{ev:Nat}(hok:1≤m∧m≤64∧1≤h∧h≤64)(hnp:np=1∨np=3)(hqk:H4 q=true)(hev:ev≤100)(hK:Ae m h=K)(hn:np*K=n)(hB:B.length=n*64)(hab:Aw B n=true)(he:Ud B n ev C1 S1 C2 S2 D):
 D7 (Cs m h np q C1 S1 C2 S2 ev D)=D∧CB (Cs m h np q C1 S1 C2 S2 ev D)=0∧QN (Cs m h np q C1 S1 C2 S2 ev D)=(0,B)∧Zw (Cs m h np q C1 S1 C2 S2 ev D)=0∧bp (Cs m h np q C1 S1 C2 S2 ev D)=Ov m h q B K np:=by
 obtain ⟨l1,l2,m1,m2,hD⟩:=he
 obtain ⟨q1,q2,q3⟩:=Dv hok
 rw [hK] at q1 q2
 have hn1:n≤192:=by
  have:=Nat.mul_le_mul (show np≤3 by omega) q2
  omega
 have hlt:∀x∈D,0≤x∧x<256:=by rw [hD];exact Rj
 have hDI:=FS m h np q C1 S1 C2 S2 ev D hlt
 have hdl:D.length≤90000:=by rw [hD];exact Nat.le_trans (YS ev hB) (by omega)
 have hfe:CB (Cs m h np q C1 S1 C2 S2 ev D)=0:=by
  unfold CB
  have hd:FT (Cs m h np q C1 S1 C2 S2 ev D):=by
   unfold FT Cs
   dsimp only
   omega
  rw [if_pos hd,if_pos (show H4 (Cs m h np q C1 S1 C2 S2 ev D).quant=true from hqk),if_pos (show Ay (Cs m h np q C1 S1 C2 S2 ev D).c1 (Cs m h np q C1 S1 C2 S2 ev D).s1=0 from m1.ok),if_pos (show Ay (Cs m h np q C1 S1 C2 S2 ev D).c2 (Cs m h np q C1 S1 C2 S2 ev D).s2=0 from m2.ok),if_pos]
  show (D.map Int.toNat).length≤90000
  rw [List.length_map];exact hdl
 have hso:=JC hB (show n≤400 by omega) hab m1 m2
 have htb:D4 C1 S1 C2 S2=0:=by unfold D4;rw [if_pos m1.ok];exact m2.ok
 have hR:QN (Cs m h np q C1 S1 C2 S2 ev D)=(0,B):=by
  unfold QN
  rw [hDI]
  show P2 C1 S1 C2 S2 D (((np:Int).toNat*Ae m h:Nat):Int) ev=(0,B)
  rw [Int.toNat_natCast,hK,hn,hD]
  exact WN hB hev (by omega) htb hso
 refine ⟨hDI,hfe,hR,?_,?_⟩
 ·unfold Zw;rw [if_pos hfe,hR]
 unfold bp;rw [hR]
 show Ov m h q B (Ae m h) (np:Int).toNat=_
 rw [hK,Int.toNat_natCast]
end Go.Proofs.YtohacgmhmbijmaaGreatDoor
namespace Go.Proofs.YtohacgmhmbijmaaGreatDoor
attribute [local irreducible] Region.wanted
open Go.ChangeShapes Go.WideShapes Go.ChangeAt Go.RowKit Go.Deep
set_option linter.unusedVariables false
set_option maxRecDepth 100000
set_option maxHeartbeats 8000000
section
variable{P:Program}{ops:Array Oper}{Q:Exit→Act→World→Prop}{rest:List Oper}{a:Act}{w W:World}{d:Option Tmp}{ty:TypeId}{pos:String}{af:Array Edge}{g:Option (Nat×Bool)}{x y:Operand}{k:IntKind}{t:TypeId}
end
abbrev gp(W H p:Int)(Q C1:List Int)(v1:Value)(C2:List Int)(v2:Value)(ev:Int)(vd:Value):List Af:=[.val (.int .i64 W), .val (.int .i64 H), .val (.int .i64 p), .ints Q, .ints C1, .val v1, .ints C2, .val v2, .val (.int .i64 ev), .val vd]
end Go.Proofs.YtohacgmhmbijmaaGreatDoor
namespace Go.Proofs.YtohacgmhmbijmaaGreatDoor
attribute [local irreducible] Region.wanted
open Go.RowKit
set_option linter.unusedVariables false
set_option maxRecDepth 100000
set_option maxHeartbeats 8000000
theorem ML(w:World)(va vb:Value)(xs ys:List Int)(ha:OG w va xs)(hb:OG w vb ys):
 Calls Tryz.prog 29 #[va,vb] w fun e w'=>e= .returned (.bool (decide (xs=ys)))∧w=w':=by
 obtain ⟨a,c,rfl,hc1,hc2,ha⟩:=ha.open
 obtain ⟨b,d,rfl,hd1,hd2,hb⟩:=hb.open
 by_cases hl:xs.length=ys.length
 ·have hl':((xs.length:Int) !=(ys.length:Int))=false:=by simp [hl]
  have HL:=AD hl
  clear hl
  go_enter Tryz.func29,Tryz.ntmps29
  go_wp2_with fail
  go_loopg [14] xs.length (fun gk xv wr=>∃(i:Nat),gk+i=xs.length∧xv= .int .i64 i∧xs.take i=ys.take i∧wr=w)
  case atStart=>exact ⟨0,rfl,rfl,rfl,rfl⟩
  case round=>
   obtain ⟨i,hi,rfl,hpre,rfl⟩:=hrel
   have hi':i≤xs.length:=by omega
   have HI:=AD hi
   have HP:=AD hpre
   clear hi hpre
   by_cases hlt:i<xs.length
   ·obtain ⟨ba,oa,rfl,hca⟩:=ha i hlt
    have hlt2:i<ys.length:=by have:=HL.out;omega
    obtain ⟨bb,ob,rfl,hcb⟩:=hb i hlt2
    have h1:=hca i hlt
    have h2:=hcb i hlt2
    clear ha hb hca hcb
    by_cases he:AJ xs i=AJ ys i
    ·have h3:(AJ xs i !=AJ ys i)=false:=by simp [he]
     have HT:=AD (Nr xs ys i hlt hlt2 HP.out he)
     clear he
     have HM:Hid (gk-1+(i+1)=xs.length):=by have:=HI.out;unfold Hid;omega
     have HG:Hid (gk-1<gk):=by have:=HI.out;unfold Hid;omega
     go_wp2_with fail
     go_roundg (gk-1)
     case measure=>exact HG.out
     case rel=>exact ⟨i+1,HM.out,by go_num,HT.out,rfl⟩
    have h3:(AJ xs i !=AJ ys i)=true:=by simp [he]
    have HN:Hid (decide (xs=ys)=false):=by
     unfold Hid;rw [decide_eq_false_iff_not];intro h;exact he (by rw [h])
    clear he
    go_wp2_with fail
    go_ret
    exact ⟨DR HN.out.symm,rfl⟩
   have HN:Hid (decide (xs=ys)=true):=by
    unfold Hid
    have h1:=HP.out
    have h2:=HL.out
    rw [List.take_of_length_le (by omega),List.take_of_length_le (by omega)] at h1
    simp [h1]
   clear ha hb
   go_wp2_with fail
   go_ret
   exact ⟨DR HN.out.symm,rfl⟩
 have hl':((xs.length:Int) !=(ys.length:Int))=true:=by simp;omega
 have HN:Hid (decide (xs=ys)=false):=by
  unfold Hid;rw [decide_eq_false_iff_not];intro h;exact hl (by rw [h])
 clear hl ha hb
 go_enter Tryz.func29,Tryz.ntmps29
 go_wp2_with fail
 go_ret
 exact ⟨DR HN.out.symm,rfl⟩
end Go.Proofs.YtohacgmhmbijmaaGreatDoor
namespace Go.Proofs.YtohacgmhmbijmaaGreatDoor
attribute [local irreducible] Region.wanted
open Go.ChangeShapes Go.WideShapes Go.ChangeAt Go.RowKit Go.Deep
set_option linter.unusedVariables false
set_option maxRecDepth 100000
set_option maxHeartbeats 8000000
theorem Vb{w:World}{ad:Option Addr}{n c:Nat}{xs:List Int}(h:Sl w 1 (.slice ad n c) n (xs.map (Value.int .i64))):OG w (.slice ad n c) xs:=by
 have hl:xs.length=n:=by have:=h.1;simpa using this
 unfold OG;rw [hl];exact h
end Go.Proofs.YtohacgmhmbijmaaGreatDoor
