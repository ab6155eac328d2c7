/- What the laws RescueWhole TopTold FrameBack need, part 17. -/
import Derived.Test.YtohacgmhmbijmaaGreatDoorBaseSZ1
import Derived.Test.YtohacgmhmbijmaaGreatDoorBaseSZ2
import Derived.Test.YtohacgmhmbijmaaGreatDoorBaseSZ3
import Derived.Test.YtohacgmhmbijmaaGreatDoorBaseSZ4
import Derived.Test.YtohacgmhmbijmaaGreatDoorBaseSZ5
import Derived.Test.YtohacgmhmbijmaaGreatDoorBaseSZ6
import Derived.Test.YtohacgmhmbijmaaGreatDoorBaseSZ7
import Derived.Test.YtohacgmhmbijmaaGreatDoorBaseSZ11
import Derived.Test.YtohacgmhmbijmaaGreatDoorBaseSZ16
import Derived.WalkKit
import Derived.TacticsInMore
import Derived.LoopNIn
import Derived.Sort.LoopGhostIn
import Derived.Laws.IdiomStrings
namespace Go.Proofs.YtohacgmhmbijmaaGreatDoor
attribute [local irreducible] Region.wanted
open Go.RowKit
set_option linter.unusedVariables false
set_option maxRecDepth 100000
set_option maxHeartbeats 8000000
theorem St.grownC{W w w':World}{row:Option Nat}{rs:List Aq}(h:St W w rs)(hg:w.grownBy w' row)(hr:∀r,row=some r→W.heap.size≤r∧∃o:Obj,w.heap[r]? =some o∧o.isCells=false)(hc:∀r∈rs,FY r):St W w' rs:=by
 obtain ⟨h1,f,h2,h3,h4⟩:=h
 have ho:=ES.grown hg
 refine ⟨ho.ext h1 (fun b hb=>(hr b (by cases row<;>simp_all)).1),f,h2,h3,h4.loc fun b hb=>ho.block b (h4.lt b hb) fun hm=>?_⟩
 obtain ⟨o,k1,k2⟩:=(hr b (by cases row<;>simp_all)).2
 obtain ⟨o',k3,k4⟩:=Ew hc h4 b hb
 rw [k1] at k3
 obtain rfl:=Option.some.inj k3
 rw [k2] at k4
 cases k4
theorem St.fixd{w0 W:World}{rs:List Aq}(h:St w0 W rs)(hc:∀r∈rs,FY r):St w0 W (fixd W w0.heap.size::rs):=by
 obtain ⟨h1,f,h2,h3,h4⟩:=h
 refine ⟨h1,Li W w0.heap.size++f,List.nodup_append.2 ⟨List.Pairwise.filter _ List.nodup_range,h2,fun a ha b hb hab=>?_⟩,fun b hb=>?_,Li W w0.heap.size,f,rfl,⟨rfl,fun _ _=>rfl⟩,h4⟩
 ·subst hab
  obtain ⟨_,o,k1,k2⟩:=(Ef _ _ _).1 ha
  obtain ⟨o',k3,k4⟩:=Ew hc h4 a hb
  rw [k1] at k3
  obtain rfl:=Option.some.inj k3
  rw [k2] at k4
  cases k4
 rcases List.mem_append.1 hb with hb|hb
 ·exact ((Ef _ _ _).1 hb).1
 exact h3 b hb
theorem Mj{w0 W w:World}{rs rs':List Aq}(h:St w0 w rs)(p:AU (Go.Proofs.YtohacgmhmbijmaaGreatDoor.fixd W w0.heap.size) rs rs')(h0:Af w0 W)(hs:W.heap.size≤w.heap.size):KeepsOthers W w:=by
 obtain ⟨h1,f,h2,h3,f1,f2,e,⟨k1,k2⟩,h5⟩:=h.pull p
 refine ⟨hs,fun k o hk ho=>?_⟩
 by_cases hl:k<w0.heap.size
 ·rw [h1.at hl,←h0.at hl];exact hk
 rw [k2 k (by rw [k1];exact (Ef _ _ _).2 ⟨by omega,o,hk,ho⟩)];exact hk
theorem aD{w0 W w:World}{B k:Nat}{o:Obj}{rs rs':List Aq}(h:St w0 w rs)(p:AU (Go.Proofs.YtohacgmhmbijmaaGreatDoor.fixd W B) rs rs')(hB:B≤k)(hk:W.heap[k]? =some o)(ho:o.isCells=false):w.heap[k]? =some o:=by
 obtain ⟨h1,f,h2,h3,f1,f2,e,⟨k1,k2⟩,h5⟩:=h.pull p
 rw [k2 k (by rw [k1];exact (Ef _ _ _).2 ⟨hB,o,hk,ho⟩)];exact hk
theorem Xd{W w:World}{rs rs':List Aq}{e:TypeId}{s n c:Nat}{ad:Addr}{xs:List Value}(h:St W w rs)(p:AU (own e s (some ad) n c xs) rs rs'):W.heap.size≤ad.block∧ad.block<w.heap.size:=by
 obtain ⟨h1,f,h2,h3,f1,f2,e9,h9,h5⟩:=h.pull p
 have k1:=h9.1
 have hm:ad.block∈f1:=by rw [k1];simp [Value.ownBlock]
 subst e9
 have hl:=Cv.lt (rs:=[own _ s (some ad) n c xs]) (w:=w) (f:=f1) ⟨f1,[],(List.append_nil _).symm,h9,rfl⟩ _ hm
 exact ⟨h3 _ (List.mem_append_left _ hm),hl⟩
section
variable{P:Program}{W w:World}{rs rs':List Aq}{Q:Exit→Act→World→Prop}{K:Act→World→Prop}{o:Oper}{a:Act}
theorem Vs(hS:St W w rs)(ty:TypeId)(x y:Operand)(ho:o.op= .store ty x y)(g q:Nat)(hx:a.eval x= .pointer (some ⟨g,q,none⟩))(m:Nat)(h1:E7 P ty m)(e:TypeId)(s n c:Nat)(A old new B:List Value)(hp:AU (own e s (some ⟨g,0,none⟩) n c (A++(old++B))) rs rs')
 (hq:q=A.length) (hol:old.length=m) (hnl:new.length=m) (hone:new.all (·.oneCell')=true) (hy:a.eval y= .agg new.toArray) (hd:o.dst=none) (h:∀w',St W w' (own e s (some ⟨g,0,none⟩) n c (A++(new++B))::rs')→K a w'):o.wp P a w K Q:=by
 subst hq
 have hown:=hS.own hp
 have hlen:=hown.1
 rcases hown.2 with ⟨h2,_⟩|⟨g',cap,cur,h2,hb,hg,hn,hc,hsz,htake⟩
 ·cases h2
 cases h2
 have ecur:cur.toList=A++(old++(B++cur.toList.drop (n*s))):=by
  conv=>lhs;rw [←List.take_append_drop (n*s) cur.toList,htake]
  simp
 refine wp_store_mid ty x y ho g A.length new.toArray hx hy ?_ (by rw [h1.2];simp [hnl]) (by simpa using hone) ?_
 ·intro i hi
  rw [List.size_toArray,hnl] at hi
  refine ⟨?_,frozen_of_row w g _ cur e hg⟩
  have:=GL hS hp (k:=A.length+i) (v:=(A++(old++B))[A.length+i]'(by simp;omega)) (by rw [List.getElem?_eq_getElem])
  rw [this];rfl
 rw [show a.put o.dst undef=a by rw [hd];rfl]
 refine h _ ?_
 refine St.change (rs1:=[own e s (some ⟨g,0,none⟩) n c (A++(new++B))]) (hS.pull hp) fun f1 k1 _ _=>?_
 obtain ⟨rfl,_⟩:=k1
 obtain ⟨cur',k2,k3,k4⟩:=Fo w g e [] [] (B++cur.toList.drop (n*s)) new old A w cur hg ecur (by rw [hol,hnl])
 have hAB:(A++(new++B)).length=n*s:=by rw [←hlen];simp [hol,hnl]
 refine ⟨[g],⟨[g],[],rfl,⟨rfl,hAB, .inr ⟨g,c,cur',rfl,hb,k2,hn,hc,?_,?_⟩⟩,rfl⟩,by simp,fun b hb=> .inl hb,k4⟩
 ·have a1:=congrArg List.length k3
  have a2:=congrArg List.length ecur
  simp only [List.length_append,Array.length_toList,hol,hnl] at a1 a2
  omega
 have a3:cur'.toList=(A++(new++B))++cur.toList.drop (n*s):=by rw [k3];simp
 rw [a3,List.take_left' hAB]
end
section
variable{P:Program}{ops:Array Oper}{Q:Exit→Act→World→Prop}{a:Act}{w:World}{o:Oper}{K:Act→World→Prop}{t ty:TypeId}{x lo hi mx:Operand}
theorem V.slice3{ad:Option Addr}{n c l h m s:Nat}{e:TypeId}{k1 k2 k3:IntKind}(ht:P.underlying t=some (.slice e))(hs:(P.info? e).map (·.size)=some s)(hx:a.eval x= .slice ad n c)(e1:a.eval lo= .int k1 (l:Int))(e2:a.eval hi= .int k2 (h:Int))(e3:a.eval mx= .int k3 (m:Int))(h1:l≤h)(h2:h≤m)(h3:m≤c):
 DS P (.slice t x (some lo) (some hi) (some mx)) ty a (.slice (cutAt ad m l s) (h-l) (m-l)):=fun d pos af g w=>by
 have e0:P.elem t=e:=by simp [Program.elem,ht]
 have ht':P.underlying t=some (.slice (P.elem t)):=by rw [e0];exact ht
 have hr:=run_slice_lhm w t ad n c ht' k1 k2 k3 (l:Int) (h:Int) (m:Int) (by omega) (by omega) (by omega) (by omega)
 rw [Int.toNat_natCast,Int.toNat_natCast,Int.toNat_natCast,e0,Bb w hs,Result.andThen_ok] at hr
 simp only [execOp,hx,e1,e2,e3,Option.map_some,Sem.run_bind,run_sliceAt_slice w t _ _ _ _ ht',hr,Result.andThen_ok,Sem.run_pure,sliced,cutAt]
theorem Xb(n:Nat)(h:o.wp P a w K Q):o.wpIn Fence.wide n P a w K Q:=by
 refine ⟨fun f _=>trivial,?_⟩
 show o.uponIn Fence.wide n P a K Q ((o.semAt none a.eval).run P w)
 rw [Oper.semAt_none]
 unfold Oper.wp at h
 generalize (execOp a.eval o).run P w=r at h⊢
 match r,h with
 | .ok (.value v) w',h=>exact h
 | .ok .skip w',h=>exact h
 | .ok (.defer d) w',h=>exact h
 | .ok (.enter f args) w',h=>exact ⟨fun h=>(by cases h),callsIn_wide.2 h⟩
 | .ok (.row row args) w',h=>
   refine ⟨fun h=>(by cases h),fun c cs _=>?_⟩
   obtain ⟨v,w'',r,s⟩:=h c cs
   exact ⟨v,w'',r,stepsIn_wide.2 s⟩
 | .halt (.panic v) w',h=>exact h
theorem Cm(n:Nat)(L2:List Oper)(hout:¬LetsOut Q):∀(L:List Oper)(a:Act)(w:World),wpList P ops (Exit.then (wpListIn Fence.wide n P ops Q L2) Q) L a w→wpListIn Fence.wide n P ops Q (L++L2) a w
 | [],a,w,h=>h
 | o::L,a,w,h=>by
   rw [List.cons_append]
   simp only [wpList] at h
   simp only [wpListIn]
   have ho2:¬LetsOut (Exit.then (wpListIn Fence.wide n P ops Q L2) Q):=fun ⟨a,w,h⟩=>hout ⟨a,w,h⟩
   split at h
   ·rename_i hw
    rw [if_pos hw]
    rcases h with h|⟨_,h⟩
    ·have h2:=Xb n h
     refine ⟨h2.1,?_⟩
     have h3:=h2.2
     revert h3
     have mono:∀(r:Result Next),o.uponIn Fence.wide n P a (wpList P ops (Exit.then (wpListIn Fence.wide n P ops Q L2) Q) L) (Exit.then (wpListIn Fence.wide n P ops Q L2) Q) r→o.uponIn Fence.wide n P a (wpListIn Fence.wide n P ops Q (L++L2)) Q r:=fun r hr=>by
      match r,hr with
      | .ok (.value v) w',hr=>exact Cm n L2 hout L _ _ hr
      | .ok .skip w',hr=>exact Cm n L2 hout L _ _ hr
      | .ok (.defer d) w',hr=>exact Cm n L2 hout L _ _ hr
      | .ok (.enter f args) w',hr=>
        refine ⟨hr.1,hr.2.mono ?_⟩
        rintro e w'' he
        match e,he with
        | .returned v,he=>exact Cm n L2 hout L _ _ he
        | .panicked chain,he=>exact he
        | .outgrown,he=>exact he
      | .ok (.row row args) w',hr=>exact ⟨hr.1,hr.2.mono fun v w'' he=>Cm n L2 hout L _ _ he⟩
      | .ok (.round l' f tmps assign body) w',hr=>
        refine ⟨hr.1,hr.2.mono ?_⟩
        rintro e w'' he
        match e,he with
        | .returned v,he=>exact Cm n L2 hout L _ _ he
        | .panicked chain,he=>exact he
        | .outgrown,he=>exact he
      | .halt (.panic v) w',hr=>exact hr
     exact mono _
    exact absurd h ho2
   rename_i hw
   rw [if_neg hw]
   exact ⟨fun _ _=>trivial,Cm n L2 hout L _ _ h⟩
end
def Ck(np:Nat):Type:={x:Nat // x<np}
def ea(Bs Bn:Nat)(W W':World):Prop:=W'.cell? ⟨Bs,0,none⟩=W.cell? ⟨Bs,0,none⟩∧W'.cell? ⟨Bn,0,none⟩=W.cell? ⟨Bn,0,none⟩
def ez(b off K x:Nat):Value:= .slice (some ⟨b,off+x*K*64,none⟩) K K
theorem YG{a:Act}{ty:TypeId}{x lo hi mx:Operand}{b off M c q K:Nat}(hx:a.eval x= .slice (some ⟨b,off,none⟩) M c)(h1:a.eval lo= .int .i64 (q:Int))(h2:a.eval hi= .int .i64 ((q+K:Nat):Int))(h3:a.eval mx= .int .i64 ((q+K:Nat):Int))(hK:1≤K)(hc:q+K≤c):
 DS Tryz.prog (.slice 42 x (some lo) (some hi) (some mx)) ty a (.slice (some ⟨b,off+q*64,none⟩) K K):=by
 have h:=V.slice3 (ty:=ty) Tryz.underlying42 Id hx h1 h2 h3 (by omega) (Nat.le_refl _) hc
 rw [show q+K-q=K by omega] at h
 unfold cutAt at h
 rw [if_neg (by omega)] at h
 simpa only [Option.map_some,Addr.add_mid] using h
theorem Ud(n:Nat)(hn:1≤n)(l Bs Bn b off c np K M:Nat)(hK:1≤K∧K≤64)(hnp:np≤3)(hM:np*K=M)(hc:M≤c)(hcm:c≤maxLen)(J Jx:List (Ck np)→World→Prop)
 (hA:∀s W W',J s W→Af W W'→J s W')
 (hY:∀pre (x:Ck np) W,J pre W→pre.length<np→YieldAt Fence.wide (n-1) Tryz.prog l #[ez b off K x.1] W fun e W'=>(e= .returned (.bool true)∧J (pre++[x]) W'∧ea Bs Bn W W')∨(e= .returned (.bool false)∧Jx (pre++[x]) W'))
 (W:World) (hcs:W.cell? ⟨Bs,0,none⟩=some (.slice (some ⟨b,off,none⟩) M c)) (hcn:W.cell? ⟨Bn,0,none⟩=some (.int .i64 (K:Int))) (h0:J [] W):
 CallsIn Fence.wide n Tryz.prog 125 #[.func (.yield l) #[] #[], .pointer (some ⟨Bs,0,none⟩), .pointer (some ⟨Bn,0,none⟩)] W fun e W'=>(∃v,e= .returned v)∧
  ((∃ys:List (Ck np),ys.map (·.1)=List.range np∧J ys W')∨(∃pre,Jx pre W')):=by
 refine callsIn_of_wp Tryz.func125 rfl trivial ?_ rfl
 simp only [Tryz.ntmps125,List.size_toArray,List.length_cons,List.length_nil,Nat.reduceAdd,Nat.reduceSub,Array.replicate_succ,Array.replicate_zero,List.push_toArray,List.append_toArray,List.nil_append,List.cons_append]
 gi_wp2
 gi_loopw [4] (fun i wr=>∃(k q:Nat) (pre:List (Ck np)),k≤np∧k*K=q∧i= .int .i64 (q:Int)∧pre.map (·.1)=List.range k∧J pre wr∧wr.cell? ⟨Bs,0,none⟩=some (.slice (some ⟨b,off,none⟩) M c)∧wr.cell? ⟨Bn,0,none⟩=some (.int .i64 (K:Int))) (fun i _=>M-(intOf i).toNat)
 case atStart=>exact ⟨0,0,[],Nat.zero_le _,by omega,rfl,rfl,h0,hcs,hcn⟩
 case round=>
  obtain ⟨k,q,pre,hk,hq,rfl,hpre,hJ,hs1,hs2⟩:=hrel
  have hkK:q≤192:=by have:=Nat.mul_le_mul (show k≤3 by omega) hK.2;omega
  have hnK:M≤192:=by have:=Nat.mul_le_mul hnp hK.2;omega
  by_cases hlt:k<np
  ·have hlt2:q+K≤M:=by have:=Nat.mul_le_mul_right K (show k+1≤np by omega);rw [Nat.add_mul,Nat.one_mul] at this;omega
   have hckv:ez b off K k= .slice (some ⟨b,off+q*64,none⟩) K K:=by unfold ez;rw [hq]
   have hlen:pre.length<np:=by have:=congrArg List.length hpre;simp at this;omega
   have hS:=St.start wr
   gi_wp2
   refine wpIn_wide.2 ?_
   refine AR [] (fun w=>St wr w []) AA ?_
   replace hS:=hS.drew
   focus
    refine eu 0 [5,6] ?_
    apply Cr 1 Ar AA AA AA Cp [3,4,5,6] AA (hS.sub AV)
    case hfr=>intro w hS;((refine Ad ?_;apply Aj hS 42 _ rfl _ rfl (AI rfl) _;(case hc=>with_reducible assumption);refine AC ?_;go_step));refine wpList_nil ?_;exact ⟨rfl,rfl⟩
    case hd=>rfl
    refine Ab 2 ?_
    refine gd 3 ?_
    refine BX 4 BU (V.len Tryz.underlying42 rfl) ?_;go_step
    (refine Bt 5 (.int _ ((K:Int))) Ar AA AA AA Cp (V.as (V.min rfl rfl) (by omega)) AA ?_)
    go_step
    refine Ab 6 ?_
    refine AE AA ?_ _
   all_goals
    dsimp only [Exit.then]
    first|(rename_i hk9;refine hk9 _ _ ?_)|(rename_i hk9 _;refine hk9 _ _ ?_)|(rename_i hk9 _ _;refine hk9 _ _ ?_)|(rename_i hk9 _ _ _;refine hk9 _ _ ?_)|(rename_i hk9 _ _ _ _;refine hk9 _ _ ?_)
    gi_step
    refine wpIn_region_lit ?_
    refine Cm n [_,_] (fun hlo=>?_) [_,_,_,_,_,_,_,_,_,_] _ _ ?_
    case _=>
     obtain ⟨a9,w9,h9⟩:=hlo
     obtain ⟨⟨v9,e9⟩,_⟩:(∃v,Ending.outgrown=Ending.returned v)∧_:=h9
     cases e9
    repeat' (first
     | (refine AP 24 ?_);refine Ag (.int _ ((q+K:Nat):Int)) (V.as (V.addI rfl rfl (by omega)) (by omega)) (by kernel_rfl) ?_;go_step|(refine AP 27 ?_);refine Ag (.int _ ((q+K:Nat):Int)) (V.as (V.addI rfl rfl (by omega)) (by omega)) (by kernel_rfl) ?_;go_step|(refine AP 28 ?_);refine Ap AA (YG (K:=K) (q:=q) (M:=M) (c:=c) rfl rfl rfl rfl hK.1 (by omega)) ?_;go_step|refine X1 ?_|(with_reducible refine Ak _ (.load 42 _) ?_);(refine Ad ?_;apply Aj hS 42 _ rfl _ rfl (AI rfl) _;(case hc=>with_reducible assumption);refine AC ?_;go_step)|refine AH ?_;go_step|fail)
    have hJ2:=hA pre wr wr.drew hJ (Af.refl wr).drew
    have hs3:wr.drew.cell? ⟨Bn,0,none⟩=some (.int .i64 (K:Int)):=(Af.refl wr).drew.cell hs2
    obtain ⟨fn,tmps,assign,body,hy,hR⟩:=hY pre ⟨k,hlt⟩ wr.drew hJ2 hlen
    dsimp only at hy
    rw [hckv] at hy
    gi_wp2
    refine hR.mono ?_
    rintro e W3 (⟨rfl,hJ3,hb3⟩|⟨rfl,hJx3⟩)
    ·have hs4:W3.cell? ⟨Bn,0,none⟩=some (.int .i64 (K:Int)):=hb3.2.trans hs3
     have hs5:W3.cell? ⟨Bs,0,none⟩=some (.slice (some ⟨b,off,none⟩) M c):=hb3.1.trans ((Af.refl wr).drew.cell hs1)
     gi_wp2
     go_roundw
     case rel=>exact ⟨k+1,q+K,pre++[⟨k,hlt⟩],by omega,by rw [Nat.add_mul,Nat.one_mul];omega,by go_num,by rw [List.map_append,hpre,List.range_succ];rfl,hJ3,hs5,hs4⟩
     case measure=>simp [intOf];omega
    gi_wp2
    refine bodyPost_ret (results_none rfl _ _ _) rfl ?_
    exact ⟨⟨_,rfl⟩, .inr ⟨_,hJx3⟩⟩
  obtain rfl:k=np:=by omega
  obtain rfl:q=M:=by omega
  gi_wp2
  go_end0
  exact ⟨⟨_,rfl⟩, .inl ⟨pre,hpre,hJ⟩⟩
theorem PS(n:Nat)(hn:1≤n)(Bs Bn b off c np K M:Nat)(hK:1≤K∧K≤64)(hnp:np≤3)(hM:np*K=M)(hc:M≤c)(hcm:c≤maxLen)(w:World)(hcs:w.cell? ⟨Bs,0,none⟩=some (.slice (some ⟨b,off,none⟩) M c))(hcn:w.cell? ⟨Bn,0,none⟩=some (.int .i64 (K:Int))):
 SeqStopsK Fence.wide n Tryz.prog 125 #[.pointer (some ⟨Bs,0,none⟩), .pointer (some ⟨Bn,0,none⟩)] (fun x:Ck np=>#[ez b off K x.1]) (ea Bs Bn) (fun xs=>xs.map (·.1)=List.range np) (fun _=>True) np w:=fun l J Jx W hW hJ hJx hY h0=>by
 have h1:W.cell? ⟨Bs,0,none⟩=some (.slice (some ⟨b,off,none⟩) M c):=(hW.cell (World.block_lt_of_cell? w _ hcs)).trans hcs
 have h2:W.cell? ⟨Bn,0,none⟩=some (.int .i64 (K:Int)):=(hW.cell (World.block_lt_of_cell? w _ hcn)).trans hcn
 refine (Ud n hn l Bs Bn b off c np K M hK hnp hM hc hcm J Jx (fun s A B h hE=>hJ s A B none h ⟨hE.os,hE.tape,hE.output,hE.size,fun k hk _=>hE.block k hk⟩ (fun r e=>by cases e)) hY W h1 h2 h0).mono ?_
 rintro e W' ⟨he,⟨ys,h3,h4⟩|⟨pre,h4⟩⟩
 ·exact ⟨he, .inl ⟨ys,h3,h4⟩⟩
 exact ⟨he, .inr ⟨pre,trivial,h4⟩⟩
theorem fy{Bs Bn:Nat}{A B C:World}(h:ea Bs Bn A B)(k:ea Bs Bn B C):ea Bs Bn A C:=⟨k.1.trans h.1,k.2.trans h.2⟩
theorem fx{Bs Bn:Nat}{w:World}(h1:Bs<w.heap.size)(h2:Bn<w.heap.size)(W:World)(l:Nat)(o o':Obj)(hl:w.heap.size≤l)(h:W.heap[l]? =some o)(_:o.isCells=false)(_:o.isWalk=false):ea Bs Bn W (W.putObj l o'):=
 ⟨World.cell?_of_block (World.putObj_heap_other (by dsimp only;omega)),World.cell?_of_block (World.putObj_heap_other (by dsimp only;omega))⟩
theorem Ue(w0:World)(ad:Option Addr)(M c K:Nat)(hK:1≤K∧K≤64):
 Calls Tryz.prog 92 #[.slice ad M c, .int .i64 (K:Int)] w0 fun e w=>∃gs gn,e= .returned (.func (.func 125) #[] #[.pointer (some ⟨gs,0,none⟩), .pointer (some ⟨gn,0,none⟩)])∧St w0 w [blk gs [.slice ad M c],blk gn [.int .i64 (K:Int)]]:=by
 have hS:=St.start w0
 go_enter Tryz.func92,Tryz.ntmps92
 repeat' (first
  | (refine AP 8 ?_);refine Ag (.func (.func 125) #[] #[.pointer (some ⟨g2,0,none⟩), .pointer (some ⟨g3,0,none⟩)]) (V.makeFunc rfl) AA ?_;go_step|refine X8 ?_|refine X2 ?_|(refine AP 2 ?_);(refine Ad ?_;apply T7 (o:=⟨some 2,_,_,_,_,_⟩) hS 42 _ rfl _;(case hx=>exact CC);(case h1=>rfl);clear hS;intro g2 w hS;refine AC ?_;go_step)|(refine AP 3 ?_);(refine Ad ?_;apply T7 (o:=⟨some 3,_,_,_,_,_⟩) hS 3 _ rfl _;(case hx=>exact CC);(case h1=>rfl);clear hS;intro g3 w hS;refine AC ?_;go_step)|refine ED ?_|refine AH ?_;go_step|fail)
 all_goals (try exact AQ)
 go_ret
 exact ⟨g2,g3,rfl,hS.sub AV⟩
theorem U7(w0:World)(ad:Option Addr)(n c:Nat)(l:List Int)(m h:Int)(hm64: -9223372036854775808≤m∧m≤9223372036854775807)(hn:n≤9223372036854775807)(hv:Sl w0 64 (.slice ad n c) n (l.map (Value.int .i64)))(hj:Ea l n m h=0):
 Calls Tryz.prog 95 #[.slice ad n c, .int .i64 m, .int .i64 h] w0 (Ga w0 l n m h):=by
 have hl:l.length=n*64:=by have:=hv.1;simpa using this
 have hS:=St.start w0
 have HL:=AD hl
 clear hl
 obtain ⟨hok,hk1,hb⟩:=Rl hj
 have HJ:=AD hj
 have HB:=AD ((BG _ _ _).1 hb)
 obtain ⟨k0,k1⟩:=Ee m h 64 64 (by omega) (by omega)
 have k2:0<m*h:=Int.mul_pos (by omega) (by omega)
 obtain ⟨M,hM⟩:∃M:Nat,m*h=(M:Int):=⟨(m*h).toNat,by omega⟩
 have hMs:M≤4096:=by omega
 have HK:=AD hk1
 have HM:=AD hM
 have hK1:(m+7)/8*((h+7)/8)=(n:Int)∧n≤64:=by
  obtain ⟨kk0,kk1⟩:=Ee ((m+7)/8) ((h+7)/8) 8 8 (by omega) (by omega)
  have kk2:0≤((m+7)/8)*((h+7)/8):=Int.mul_nonneg (by omega) (by omega)
  rw [hk1,Ai];omega
 have hn64:=hK1.2
 have HK1:=AD hK1.1
 clear hj hb hk1 hK1
 go_enter Tryz.func95,Tryz.ntmps95
 repeat' (first
  | (refine Al 58 ?_);refine Am AA Tryz.call58 (C9 _ m h) ?_;rintro e w ⟨rfl,hE⟩;replace hS:=hS.ext hE;clear hE;rw [if_pos hok];refine AX ?_;go_step|(refine Al 59 ?_);refine Am AA Tryz.call59 (Ig _ m h (by omega) (by omega)) ?_;rintro e w ⟨rfl,hE⟩;replace hS:=hS.ext hE;clear hE;rw [HK1.out];refine AX ?_;go_step|refine X0 ?_|refine Eu ?_|refine X9 25 ?_ ?_<;>intro hB<;>(try exact AQ)<;>go_step|refine db 21 ?_|refine Vw ?_|refine KR ?_|refine dO 8 ?_;clear hS;intro g8 w hS|refine dP ?_;clear hS;intro w hS|refine Yq ?_|refine AH ?_;go_step|fail)
 go_loopg [9,35] n (fun gk ev kv w=>∃(k:Nat),gk+k=n∧kv= .int .i64 k∧ev= .int .i64 0∧St w0 w [blk g8 [.int .i64 m, .int .i64 h]])
 case atStart=>exact ⟨0,rfl,rfl,rfl,hS.sub AV⟩
 case round=>
  clear hS
  obtain ⟨k,hk,rfl,rfl,hS⟩:=hrel
  by_cases hlt:k<n
  ·have ls:Ac (Bp l 64 k) 64:=CT l 64 k n HL.out hlt
   have hb:Ci (Bp l 64 k)=true:=(BG _ _ _).2 fun i hi=>by
    rw [ls.out] at hi
    rw [OK _ _ _ _ hi];exact HB.out _ (by rw [HL.out];omega)
   have HBs:=AD hb
   clear hb
   repeat' (first
    | (refine Al 76 ?_);refine Am AA Tryz.call76 (BH _ _ (Bp l 64 k) (hS.isl AK (by omega)) 128 #[] (fun n=>decide (n< -40000)||decide (40000<n)) Tryz.call128 (fun n=>NE n _)) ?_;rintro e w' ⟨rfl,rfl⟩;rw [K3,HBs.out];refine AX ?_;go_step|refine X1 ?_|refine Eu ?_|refine X9 40 ?_ ?_<;>intro hB<;>(try exact AQ)<;>go_step|refine X2 ?_|refine bi 37 ?_;intro b37 o37 hl37 hc37;go_step|refine dY ?_|refine X7 ?_|refine ZW ?_|refine KP 11 ?_;clear hS;intro g11 w hS|refine FX ?_;clear hS;intro w hS|refine AH ?_;go_step|fail)
   go_roundg (gk-1)
   case measure=>omega
   case rel=>exact ⟨k+1,by omega,by go_num,rfl,hS.sub AV⟩
  obtain rfl:k=n:=by omega
  clear hk
  repeat' (first
   | (refine AP 51 ?_);(refine Ag (.int _ ((M:Int))) (V.as (V.mulI rfl rfl (by omega)) (by omega)) (by kernel_rfl) ?_;go_step)|refine X0 ?_|refine X2 ?_|refine X3 ?_|refine Vw ?_|refine fG 52 ?_;clear hS;intro g52 w hS|refine AH ?_;go_step|fail)
  go_loopg [55] k (fun gk kv w=>∃(j:Nat) (o:List Int),gk+j=k∧kv= .int .i64 j∧(∀x,x<M→Fz m x<j→AJ o x=LV l m x)∧St w0 w [own 3 1 (some ⟨g52,0,none⟩) M M (o.map (Value.int .i64)),blk g8 [.int .i64 m, .int .i64 h]])
  case atStart=>exact ⟨0,_,rfl,rfl,fun x hx hx2=>absurd (Ie m h ⟨hok.1,hok.2.1⟩ hok.2.2 x (by rw [HM.out];omega)).1 (by omega),hS.sub AV⟩
  case round=>
   clear hS
   obtain ⟨j,o,hj,rfl,ho,hS⟩:=hrel
   have HO:=AD ho
   clear ho
   by_cases hlt2:j<k
   ·obtain ⟨gk1,hgk1⟩:∃x,x=gk:=⟨_,rfl⟩
    subst hgk1
    have ls:Ac (Bp l 64 j) 64:=CT l 64 j k HL.out hlt2
    repeat' (first
     | refine X0 ?_|refine X2 ?_|refine bi 58 ?_;intro b58 o58 hl58 hc58;go_step|refine ZV ?_|refine KP 14 ?_;clear hS;intro g14 w hS|refine FX ?_;clear hS;intro w hS|refine AH ?_;go_step|fail)
    go_loopg [61] 64 (fun gk kv w=>∃(i:Nat) (o:List Int),gk+i=64∧kv= .int .i64 i∧(∀x,x<M→(Fz m x<j∨Fz m x=j∧KU m x<i)→AJ o x=LV l m x)∧St w0 w [own 3 1 (some ⟨g52,0,none⟩) M M (o.map (Value.int .i64)),blk g8 [.int .i64 m, .int .i64 h]])
    case atStart=>exact ⟨0,o,rfl,rfl,fun x hx hx2=>HO.out x hx (by have:=(Ie m h ⟨hok.1,hok.2.1⟩ hok.2.2 x (by rw [HM.out];omega));omega),hS.sub AV⟩
    case round=>
     clear hS HO
     obtain ⟨i,o,hi,rfl,ho,hS⟩:=hrel
     have HO:=AD ho
     clear ho
     by_cases hlt3:i<64
     ·obtain ⟨R,hR⟩:∃R,Is ((m+7)/8) (j:Int) (i:Int)=R:=⟨_,rfl⟩
      obtain ⟨C,hC⟩:∃C,GO ((m+7)/8) (j:Int) (i:Int)=C:=⟨_,rfl⟩
      obtain ⟨p0,p1,p2,p3,p4⟩:=Lp m h ⟨hok.1,hok.2.1⟩ hok.2.2 (j:Int) (i:Int) (by omega) (by omega)
      have hx: -40000≤AJ (Bp l 64 j) i∧AJ (Bp l 64 j) i≤40000:=by
       rw [OK _ _ _ _ hlt3];exact HB.out _ (by rw [HL.out];omega)
      have HI:Hid (∀x,x<M→Fz m x=j→KU m x=i→R<h∧C<m∧(x:Int)=R*m+C):=fun x hx h1 h2=>by
       obtain ⟨e1,e2⟩:=XG m j i ⟨hok.1,hok.2.1⟩ x h1 h2
       have h3:=Ie m h ⟨hok.1,hok.2.1⟩ hok.2.2 x (by rw [HM.out];omega)
       rw [←hR,←hC,e1,e2]
       refine ⟨by omega,by omega,?_⟩
       have:=Int.mul_ediv_add_emod (x:Int) m
       rw [Int.mul_comm] at this;omega
      have HP:Hid (C<m→∀q:Nat,R*m+C=q→LV l m q=min (max (AJ (Bp l 64 j) i+128) 0) 255):=fun hcm q hq=>by
       obtain ⟨e1,e2⟩:=aO m j i ⟨hok.1,hok.2.1⟩ (by omega) (by omega) q (by rw [hR,hC];exact hq.symm) (by rw [hC];exact hcm)
       unfold LV
       rw [e1,e2,OK _ _ _ _ hlt3,show ((j:Int)*64+(i:Int)).toNat=j*64+i by omega]
      rw [hR] at p0 p3 p4
      rw [hC] at p1 p2 p4
      have HR:=AD hR
      have HC:=AD hC
      clear hR hC
      by_cases hin:R<h∧C<m
      ·obtain ⟨q,hq⟩:∃q:Nat,R*m+C=(q:Int):=⟨(R*m+C).toNat,by rw [show min R (h-1)=R by omega] at p3;omega⟩
       have hqM:q<M:=by rw [show min R (h-1)=R by omega,show min C (m-1)=C by omega] at p4;omega
       have HV:=AD (HP.out hin.2 q hq)
       have hRm:R*m+C=(q:Int):=hq
       have hRm0:0≤R*m:=by rw [show min R (h-1)=R by omega] at p3;exact p3
       clear p3 p4 hq
       repeat' (first
        | (refine AP 85 ?_);(refine Ag (.int _ ((q:Int))) (V.as (V.addI rfl rfl (by omega)) (by omega)) (by kernel_rfl) ?_;go_step)|(refine Al 78 ?_);refine Am AA Tryz.call78 (Ja _ m h (j:Int) (i:Int) (by omega) (by omega) (by omega)) ?_;rintro e w ⟨rfl,hE⟩;replace hS:=hS.ext hE;clear hE;rw [HR.out,HC.out];refine AX ?_;go_step|refine X0 ?_|refine Eu ?_|refine Es 74 ?_ ?_<;>intro hB<;>(try exact AQ)<;>go_step|refine X2 ?_|refine Zf 64 ?_|refine X4 ?_|refine WE ?_|refine X7 ?_|(with_reducible refine Ak _ (.call ⟨.builtin .max,_,_⟩) ?_);(refine Ap AA (V.max rfl rfl) ?_;go_step)|(with_reducible refine Ak _ (.call ⟨.builtin .min,_,_⟩) ?_);(refine Ap AA (V.min rfl rfl) ?_;go_step)|refine Ys 90 ?_|refine Yq ?_|refine ch ?_;clear hS;intro w hS|refine AH ?_;go_step|fail)
       go_roundg (gk-1)
       case measure=>omega
       case rel=>
        have hol:=hS.ownLen (e:=3) AK
        rw [List.length_map,List.length_set] at hol
        refine ⟨i+1,_,by omega,by go_num,fun x hx hx2=>?_,hS.sub AV⟩
        rw [CS o q x _ (by omega)]
        split
        ·rename_i e;rw [←e,HV.out]
        rename_i e
        refine HO.out x hx ?_
        by_cases h1:Fz m x=j∧KU m x=i
        ·have:=(HI.out x hx h1.1 h1.2).2.2
         omega
        omega
      have hin2:R<h→m≤C:=by omega
      clear HP p3 p4
      have HN:Hid (∀x,x<M→¬(Fz m x=j∧KU m x=i)):=fun x hx h1=>hin ⟨(HI.out x hx h1.1 h1.2).1,(HI.out x hx h1.1 h1.2).2.1⟩
      by_cases hR2:R<h
      all_goals
       (try replace hin2:=hin2 hR2)
       repeat' (first
        | (refine Al 78 ?_);refine Am AA Tryz.call78 (Ja _ m h (j:Int) (i:Int) (by omega) (by omega) (by omega)) ?_;rintro e w ⟨rfl,hE⟩;replace hS:=hS.ext hE;clear hE;rw [HR.out,HC.out];refine AX ?_;go_step|go_big_skip|refine X0 ?_|refine IR ?_|refine Es 74 ?_ ?_<;>intro hB<;>(try exact AQ)<;>go_step|refine X2 ?_|refine Zf 64 ?_|refine X4 ?_|refine X7 ?_|refine Yq ?_|refine AH ?_;go_step|fail)
       go_roundg (gk-1)
       case measure=>omega
       case rel=>exact ⟨i+1,o,by omega,by go_num,fun x hx hx2=>HO.out x hx (by have:=HN.out x hx;omega),hS.sub AV⟩
     obtain rfl:i=64:=by omega
     repeat' (first
      | refine X1 ?_|refine X2 ?_|refine X7 ?_|refine AH ?_;go_step|fail)
     go_roundg (gk1-1)
     case measure=>omega
     case rel=>exact ⟨j+1,o,by omega,by go_num,fun x hx hx2=>HO.out x hx (by have:=(Ie m h ⟨hok.1,hok.2.1⟩ hok.2.2 x (by rw [HM.out];omega));have h9:Fz m x<(j+1:Nat):=hx2;omega),hS.sub AV⟩
   obtain rfl:j=k:=by omega
   have hol:=hS.ownLen (e:=3) AK
   rw [List.length_map] at hol
   repeat' (first
    | refine X0 ?_|refine X2 ?_|refine AH ?_;go_step|fail)
   go_ret2
   refine ⟨some ⟨g52,0,none⟩,M,?_,?_⟩
   ·rw [HJ.out,if_pos rfl,HM.out];rfl
   rw [if_pos HJ.out,if_pos HJ.out,Fw,HM.out,Int.toNat_natCast,←IC (by omega) fun x hx=>HO.out x hx (by have:=(Ie m h ⟨hok.1,hok.2.1⟩ hok.2.2 x (by rw [HM.out];omega)).2.1;rw [←HK.out] at this;exact this)]
   exact hS.sub AV
theorem XE(w0:World)(ad:Option Addr)(n c:Nat)(l:List Int)(m h:Int)(hm64: -9223372036854775808≤m∧m≤9223372036854775807)(hn:n≤9223372036854775807)(hv:Sl w0 64 (.slice ad n c) n (l.map (Value.int .i64))):
 Calls Tryz.prog 95 #[.slice ad n c, .int .i64 m, .int .i64 h] w0 (Ga w0 l n m h):=by
 by_cases hj:Ea l n m h=0
 ·exact U7 w0 ad n c l m h hm64 hn hv hj
 exact XF w0 ad n c l m h hm64 hn hv hj
theorem P4(w0:World)(ad:Option Addr)(n c:Nat)(l:List Int)(m h:Int)(hm64: -9223372036854775808≤m∧m≤9223372036854775807)(hn:n≤9223372036854775807)(hv:Sl w0 64 (.slice ad n c) n (l.map (Value.int .i64)))(hj:Ea l n m h=0)(M:Nat)(hM:m*h=(M:Int)):
 Calls Tryz.prog 95 #[.slice ad n c, .int .i64 m, .int .i64 h] w0 fun e w=>∃ad c,e= .returned (.tuple #[.slice ad M c, .int .i64 0])∧St w0 w [own 3 1 ad M c ((Fw l m h).map (Value.int .i64))]:=
 (XE w0 ad n c l m h hm64 hn hv).mono fun e w ⟨ad2,c2,h1,h2⟩=>by
   rw [if_pos hj,hj,hM,Int.toNat_natCast] at h1
   rw [if_pos hj,if_pos hj,hM,Int.toNat_natCast] at h2
   exact ⟨ad2,c2,h1,h2⟩
theorem WX(m0:Int)(m1:Int)(w:World):(Instr.build 24 #[(0, .int .i64 m0),(1, .int .i64 m1)]).run Tryz.prog w= .ok (.agg #[.int .i64 m0, .int .i64 m1, .slice none 0 0]) w:=by kernel_rfl
def bF(m h:Int)(q l:List Int)(n k:Nat):List Int:=Fw (Ov q ((l.drop (k*n*64)).take (n*64)) n) m h
theorem Kn(m h:Int)(q l:List Int)(n:Nat):∀k,ZA m h q l n k=(List.range k).map (bF m h q l n)
 | 0=>rfl
 | k+1=>by rw [ZA,Kn m h q l n k,List.range_succ,List.map_append];rfl
theorem Qp(q l:List Int):∀n,Ci (Ov q l n)=true
 | 0=>rfl
 | n+1=>by
   have h1:Ci (bX q (Bp l 64 n))=true:=(BG _ _ _).2 fun i hi=>by
    unfold bX at hi⊢
    rw [List.length_map] at hi
    rw [TS _ _ _ hi];omega
   have h2:=Qp q l n
   rw [Ov]
   unfold Ci B5 at h1 h2⊢
   simp only [List.any_append,Bool.not_or,h1,h2];rfl
def OZ(g2 g4 g5 g6 gs gn:Nat)(m h:Int)(ps:List Ae)(v vn:Value)(ao:Option Addr)(co:Nat)(R:List Rw):List Aq:=
 [blk gs [v],blk gn [vn],blk g6 [.slice ao R.length co],own 30 1 ao R.length co (R.map Rw.val),star (R.map Rw.res),blk g5 [.int .i64 m, .int .i64 h, .slice none 0 0],blk g4 [.int .i64 0, .int .i64 0, .slice none 0 0],prt g2 ps]
theorem GV(g2 g4 g5 g6 gs gn:Nat)(m h:Int)(ps:List Ae)(v vn:Value)(ao:Option Addr)(co:Nat)(R:List Rw):∀r∈OZ g2 g4 g5 g6 gs gn m h ps v vn ao co R,FY r:=by
 intro r hr
 simp only [OZ,List.mem_cons,List.not_mem_nil,or_false] at hr
 rcases hr with rfl|rfl|rfl|rfl|rfl|rfl|rfl|rfl
 ·exact C6 _ _
 ·exact C6 _ _
 ·exact C6 _ _
 ·exact Ff _ _ _ _ _ _
 ·refine Jv fun r hr=>?_
  obtain ⟨p,_,rfl⟩:=List.mem_map.1 hr
  exact Ff _ _ _ _ _ _
 ·exact C6 _ _
 ·exact C6 _ _
 exact C6 _ _
theorem St.putD{w0 w:World}{rs:List Aq}{D:Nat}{o:Obj}(o':Obj)(h:St w0 w rs)(hc:∀r∈rs,FY r)(hD:w0.heap.size≤D)(ho:w.heap[D]? =some o)(hn:o.isCells=false):St w0 (w.putObj D o') rs:=
 h.grownC (grownBy_putObj' w D o') (fun r e=>by cases e;exact ⟨hD,o,ho,hn⟩) hc
theorem Vm(w0:World)(a:Option Addr)(c N:Nat)(hN:N≤9223372036854775807)(h3:N≠3)(K:FuncId):
 Calls Tryz.prog 45 #[.slice a N c, .func (.func K) #[] #[]] w0 fun e w=>e= .returned (.slice a N c)∧Af w0 w:=by
 have hS:=St.start w0
 have h3':¬(N:Int)=3:=by omega
 go_enter Tryz.func45,Tryz.ntmps45
 repeat' (first
  | refine X0 ?_|refine Zo ?_|refine KR ?_|refine AH ?_;go_step|fail)
 all_goals (try exact AQ)
 go_ret
 exact ⟨rfl,hS.1⟩
theorem SK(w:World)(a:Option Addr)(c:Nat)(R:List Rw)(m h:Int)(hP:Av w a c R)(hR:R.length≤9223372036854775807)(hall:∀l∈R.map (·.xs),Ch l l.length m h=0)(K:FuncId)(f1 f2 f3:Int→Int→Int→Int)(hK:C3 K f1 f2 f3):
 Calls Tryz.prog 45 #[.slice a R.length c, .func (.func K) #[] #[]] w fun e w'=>∃(a':Option Addr) (c':Nat) (R':List Rw),R'.map (·.xs)=DI f1 f2 f3 (R.map (·.xs))∧e= .returned (.slice a' R'.length c')∧Af w w'∧∀w0 rs,Cc w0 w a c R rs→Cc w0 w' a' c' R' rs:=by
 by_cases h3:R.length=3
 ·obtain ⟨⟨a0,c0,l0⟩,⟨a1,c1,l1⟩,⟨a2,c2,l2⟩,rfl⟩:∃x y z,R=[x,y,z]:=by
   match R,h3 with
   | [x,y,z],_=>exact ⟨x,y,z,rfl⟩
  obtain ⟨h1,e0,s0⟩:=Df (hall l0 (by simp))
  obtain ⟨_,e1,s1⟩:=Df (hall l1 (by simp))
  obtain ⟨_,e2,s2⟩:=Df (hall l2 (by simp))
  obtain ⟨k0,k1⟩:=Ee m h 64 64 (by omega) (by omega)
  have b0:=(EJ l0).1 s0
  have b1:=(EJ l1).1 s1
  have b2:=(EJ l2).1 s2
  refine Calls.mono (I7 w a a0 a1 a2 c c0 c1 c2 l0.length l0 l1 l2 hP (by omega) rfl (by omega) (by omega) b0 (fun i hi=>b1 i (by omega)) (fun i hi=>b2 i (by omega)) K f1 f2 f3 hK) fun e w' hh=>?_
  obtain ⟨a',c',R',k1,k2,k3⟩:=hh
  refine ⟨a',c',R',k1,k2,k3.1,fun w0 rs hO=>?_⟩
  have h9:=St.call hO k3
  exact h9.sub (by
   simp only [List.cons_append,List.nil_append]
   exact AV)
 refine Calls.mono (Vm w a c R.length hR h3 K) fun e w' hh=>?_
 have hT:DI f1 f2 f3 (R.map (·.xs))=R.map (·.xs):=by
  unfold DI
  split
  ·rename_i x y z e
   have:=congrArg List.length e
   rw [List.length_map] at this
   exact absurd this h3
  rfl
 exact ⟨a,c,R,hT.symm,hh.1,hh.2,fun w0 rs hO=>St.ext hO hh.2⟩
theorem NO(w0:World)(m h:Int)(hok:1≤m∧m≤64∧1≤h∧h≤64)(np:Nat)(hnp:np=1∨np=3)(q C1 C2:List Int)(hq:Ac q 64)(hC1:Ac C1 16)(hC2:Ac C2 16)(v1 v2 vd:Value)(ev:Int)(K M:Nat)(hK:Ai m h=K)(hM:np*K=M)(ad:Option Addr)(c:Nat)(hc:M≤c)(hcm:c≤maxLen)(l:List Int)(hl:l.length=M*64)(hv:Sl w0 64 (.slice ad M c) M (l.map (Value.int .i64))):
 Calls Tryz.prog 54 #[W6 m h np q C1 v1 C2 v2 ev vd, .slice ad M c] w0 fun e w=>∃(a:Option Addr) (co:Nat) (R:List Rw),R.map (·.xs)=Q3 m h q l K np∧e= .returned (.agg #[.int .i64 m, .int .i64 h, .slice a R.length co])∧Cc w0 w a co R []:=by
 have hS:=St.start w0
 obtain ⟨q1,q2,q3⟩:=Ed hok
 rw [hK] at q1 q2 q3
 have hn1:M≤192:=by
  have:=Nat.mul_le_mul (show np≤3 by omega) q2
  omega
 have hn0:1≤M:=by
  have:=Nat.mul_le_mul (show 1≤np by omega) q1
  omega
 obtain ⟨pb,po,rfl⟩:∃b off,ad=some ⟨b,off,none⟩:=by
  obtain ⟨z1,a',c',e,z2,z3,z4⟩:=hv
  cases e
  rcases z4 with z4|⟨b,off,z4,_⟩
  ·omega
  exact ⟨b,off,z4⟩
 have HDV:Hid ((M:Int)/(np:Int)=(K:Int)):=by
  show (M:Int)/(np:Int)=(K:Int)
  rw [←hM,Int.natCast_mul,Int.mul_ediv_cancel_left _ (by omega)]
 have HK:=AD hK
 have HM:=AD hM
 clear hK hM q3
 unfold W6
 refine (callsIn_wide (n:=3)).1 ?_
 refine callsIn_of_wp_marks Tryz.func54 rfl trivial ?_
 simp only [Tryz.ntmps54,List.size_toArray,List.length_cons,List.length_nil,Nat.reduceAdd,Nat.reduceSub,Array.replicate_succ,Array.replicate_zero,List.push_toArray,List.append_toArray,List.nil_append,List.cons_append]
 repeat ((fail_if_success with_reducible show (Code.region _ _ _).wpIn _ _ _ _ _ _);gi_step)
 first|refine wpIn_wide.2 ?_|skip
 repeat' (first
  | refine Js 2 ?_;clear hS;intro g2 w hS|refine GB 4 ?_;clear hS;intro g4 w hS|refine AH ?_;go_step|fail)
 first|refine wpIn_wide.2 ?_|skip
 repeat' (first
  | (refine AP 15 ?_);(refine Ap AA (V.fieldAddr Rf rfl BK) ?_;go_step)|(refine AP 17 ?_);(refine Ap AA (V.fieldAddr Rh rfl BK) ?_;go_step)|(refine AP 19 ?_);(refine Ap AA (V.build (vs:=[(0,_),(1,_)]) rfl (WX _ _)) ?_;go_step)|refine Vx ?_|refine GB 5 ?_;clear hS;intro g5 w hS|refine Ns ?_;clear hS;intro w hS|refine AH ?_;go_step|fail)
 repeat ((fail_if_success with_reducible show (Code.region _ _ _).wpIn _ _ _ _ _ _);gi_step)
 first|refine wpIn_wide.2 ?_|skip
 repeat' (first
  | refine X1 ?_|(refine AP 6 ?_);(refine Ad ?_;apply B9 (o:=⟨some 6,_,_,_,_,_⟩) hS 22 rfl (.slice none 0 0) [.slice none 0 0] (fun w=>Tryz.zeroValue22 w) rfl;clear hS;intro g6 w hS;refine AC ?_;go_step)|refine AH ?_;go_step|fail)
 repeat ((fail_if_success with_reducible show (Code.region _ _ _).wpIn _ _ _ _ _ _);gi_step)
 first|refine wpIn_wide.2 ?_|skip
 repeat' (first
  | (refine AP 25 ?_);refine Ag (.int _ (K:Int)) (V.as (V.quo rfl rfl (by omega) (by omega)) HDV.out) (by kernel_rfl) ?_;go_step|(refine Al 92 ?_);refine Am AA Tryz.call92 (Ue _ _ M c K (by omega)) ?_;rintro e w ⟨gs,gn,rfl,hS2⟩;replace hS:=Dy hS hS2;clear hS2;refine AX ?_;go_step|(refine AP 22 ?_);(refine Ap AA (V.len Tryz.underlying42 rfl) ?_;go_step)|(refine AP 23 ?_);(refine Ap AA (V.fieldAddr Wy rfl BK) ?_;go_step)|refine Vx ?_|refine AH ?_;go_step|fail)
 have hgs:w0.heap.size≤w.heap.size:=hS.1.sz
 have hcs:w.cell? ⟨gs,0,none⟩=some (.slice (some ⟨pb,po,none⟩) M c):=by rw [(hS.blk (g:=gs) AK).1.cell];rfl
 have hcn:w.cell? ⟨gn,0,none⟩=some (.int .i64 (K:Int)):=by rw [(hS.blk (g:=gn) AK).1.cell];rfl
 have hI0:St w0 w (OZ g2 g4 g5 g6 gs gn m h [.val (.int .i64 m), .val (.int .i64 h), .val (.int .i64 np), .ints q, .ints C1, .val v1, .ints C2, .val v2, .val (.int .i64 ev), .val vd] (.slice (some ⟨pb,po,none⟩) M c) (.int .i64 (K:Int)) none 0 []):=by
  have h9:=hS.star0.nilk 30 1 .i64
  simp only [List.map_nil] at h9
  simp only [OZ,List.length_nil,List.map_nil]
  exact h9.sub AV
 refine (wpIn_wide (n:=3)).1 ?_
 apply wpIn_rangeFunc_ownF rfl (by decide) (gf:=125) (lb:=#[.pointer (some ⟨gs,0,none⟩), .pointer (some ⟨gn,0,none⟩)]) rfl trivial (enters_of Tryz.func125 AA rfl) (PS (3-1) (by decide) gs gn pb po c np K M (by omega) (by omega) HM.out hc hcm w hcs hcn) fy (fx (World.block_lt_of_cell? w _ hcs) (World.block_lt_of_cell? w _ hcn)) (Below.refl _ _) (fun _=>rfl)
  (fun (pre:List (Ck np)) W=>∃(R:List Rw) (ao:Option Addr) (co:Nat),R.map (·.xs)=pre.map (fun x=>bF m h q l K x.1)∧St w0 W (OZ g2 g4 g5 g6 gs gn m h [.val (.int .i64 m), .val (.int .i64 h), .val (.int .i64 np), .ints q, .ints C1, .val v1, .ints C2, .val v2, .val (.int .i64 ev), .val vd] (.slice (some ⟨pb,po,none⟩) M c) (.int .i64 (K:Int)) ao co R))
  (fun _ _ _=>False)
  (fun pre A B row ⟨R,ao,co,h1,h2⟩ hg hr=>⟨R,ao,co,h1,h2.grownC hg (fun r e=>⟨Nat.le_trans hgs (hr r e).1,(hr r e).2⟩) (GV _ _ _ _ _ _ _ _ _ _ _ _ _ _)⟩)
  (fun _ _ _ _ _ hs _ _=>hs)
  ⟨[],none,0,rfl,hI0⟩
 case hassign=>
  intro lw x W Kq hKq
  refine BO (fun ⟨a9,w9,h9⟩=>h9) AA ?_
  repeat' (first
   | refine X8 ?_|refine AH ?_;go_step|fail)
  exact hKq
 case hbody=>
  clear hI0 hS hcs hcn
  rintro lw pre x W ⟨R,ao,co,hR,hI⟩ hlen
  have hIF:=AD (hI.fixd (GV _ _ _ _ _ _ _ _ _ _ _ _ _ _))
  have hEW:Af w0 W:=hI.1
  have hHI:=AD hI
  dsimp only [OZ] at hI
  have hI2:=hI.pull (r:=prt g2 [.val (.int .i64 m), .val (.int .i64 h), .val (.int .i64 np), .ints q, .ints C1, .val v1, .ints C2, .val v2, .val (.int .i64 ev), .val vd]) AK
  have hg2:=(St.blk (g:=g2) hI2 AU.head).1
  clear hI2
  have hc0:W.cell? ⟨g2,0,none⟩=some (.int .i64 m):=by rw [hg2.cell];rfl
  have hc1:W.cell? ⟨g2,1,none⟩=some (.int .i64 h):=by rw [hg2.cell];rfl
  have hr3:W.rangeAt g2 3 (q.map (Value.int .i64)):=Je (m:=64) hI AK (by simp [AF,Ae.cells];rw [List.take_left' (by simpa using hq.out)])
  have hxl:x.1<np:=x.2
  obtain ⟨xn,hxn⟩:∃xn,x.1=xn:=⟨_,rfl⟩
  have hxK:xn*K+K≤M:=by have:=Nat.mul_le_mul_right K (show xn+1≤np by omega);rw [Nat.add_mul,Nat.one_mul,HM.out] at this;exact this
  obtain ⟨p0,hp0⟩:∃p0,po+xn*K*64=p0:=⟨_,rfl⟩
  obtain ⟨C,hC⟩:∃C,(l.drop (xn*K*64)).take (K*64)=C:=⟨_,rfl⟩
  have hCl:C.length=K*64:=by rw [←hC,List.length_take,List.length_drop,hl];omega
  have hsc:Sl W 64 (.slice (some ⟨pb,p0,none⟩) K K) K (C.map (Value.int .i64)):=by
   obtain ⟨z1,a9,c9,z2,z3,z4,z5⟩:=(hv.ext hEW).cut (xn*K) (xn*K+K) (by omega) hxK
   cases z2
   rw [show xn*K+K-xn*K=K by omega] at z5 z1
   rw [←List.map_drop,←List.map_take,hC] at z5 z1
   rw [hp0] at z5
   exact ⟨z1,_,_,rfl,Nat.le_refl _,by have:K≤64:=q2;unfold maxLen;omega,z5⟩
  have hCK:ez pb po K x.1= .slice (some ⟨pb,p0,none⟩) K K:=by unfold ez;rw [hxn,hp0]
  have HCX:=AD (show bF m h q l K x.1=Fw (Ov q C K) m h by unfold bF;rw [hxn,hC])
  obtain ⟨ad9,had9⟩:∃a9,(some ⟨pb,p0,none⟩:Option Addr)=a9:=⟨_,rfl⟩
  rw [had9] at hsc hCK
  rw [hCK]
  clear had9
  have HCL:=AD hCl
  have hgs9:W.cell? ⟨gs,0,none⟩=some (.slice (some ⟨pb,po,none⟩) M c):=by rw [(hI.blk (g:=gs) AK).1.cell];rfl
  have hgn9:W.cell? ⟨gn,0,none⟩=some (.int .i64 (K:Int)):=by rw [(hI.blk (g:=gn) AK).1.cell];rfl
  have hHR:=AD hR
  obtain ⟨k0,k1⟩:=Ee m h 64 64 (by omega) (by omega)
  have k2:0<m*h:=Int.mul_pos (by omega) (by omega)
  obtain ⟨N,hN⟩:∃N:Nat,m*h=(N:Int):=⟨(m*h).toNat,by omega⟩
  have hNs:1≤N∧N≤4096:=by omega
  have HN:=AD hN
  have HJ:=AD (show Ea (Ov q C K) K m h=0 by unfold Ea;rw [if_pos hok,if_pos HK.out.symm,if_pos (Qp _ _ _)])
  clear k0 k1 k2 hN
  clear hI hR hg2 hCK hCl hp0 hC
  have hS:=St.start W
  repeat ((fail_if_success with_reducible show (Code.region _ _ _).wpIn _ _ _ _ _ _);gi_step)
  refine BO (fun ⟨a9,w9,h9⟩=>h9) AA ?_
  repeat' (first
   | refine X0 ?_|(refine AP 29 ?_);(refine Ap AA (V.len Tryz.underlying42 rfl) ?_;go_step)|refine ZM 30 ?_;clear hS;intro g30 w hS|refine AH ?_;go_step|fail)
  repeat ((fail_if_success with_reducible show (Code.region _ _ _).wpIn _ _ _ _ _ _);gi_step)
  refine BO (fun ⟨a9,w9,h9⟩=>h9) AA ?_
  repeat' (first
   | refine X1 ?_|(refine AP 32 ?_);(refine Ap AA (V.len Tryz.underlying42 rfl) ?_;go_step)|refine AH ?_;go_step|fail)
  repeat ((fail_if_success with_reducible show (Code.loop _).wpIn _ _ _ _ _ _);gi_step)
  gi_loopg [33] K (fun gk kv w'=>∃(j:Nat),gk+j=K∧kv= .int .i64 j∧St W w' [own 26 64 (some ⟨g30,0,none⟩) K K ((Ov q C j++List.replicate ((K-j)*64) 0).map (Value.int .i64))])
  case atStart=>exact ⟨0,rfl,rfl,by rw [Ov,List.nil_append,Nat.sub_zero];exact hS.sub AV⟩
  case round=>
   clear hS
   obtain ⟨j,hj,rfl,hS⟩:=hrel
   by_cases hlt:j<K
   ·have hsgl:Ac (Bp C 64 j) 64:=CT _ _ _ K HCL.out hlt
    obtain ⟨X,hX⟩:∃X,Q6 (Bp C 64 j) q=X:=⟨_,rfl⟩
    have hXl:Ac X 64:=hX▸ Ow _ q hsgl.out hq
    obtain ⟨Y,hY⟩:∃Y,YW X=Y:=⟨_,rfl⟩
    have hYl:Ac Y 64:=hY▸ Fu _ _
    have HX:=AD hX
    have HY:=AD hY
    clear hX hY
    repeat ((fail_if_success with_reducible show (Code.region _ _ _).wpIn _ _ _ _ _ _);gi_step)
    refine BO (fun ⟨a9,w9,h9⟩=>h9) AA ?_
    repeat' (first
     | refine X5 34 ?_|refine AH ?_;go_step|fail)
    repeat ((fail_if_success with_reducible show (Code.region _ _ _).wpIn _ _ _ _ _ _);gi_step)
    refine BO (fun ⟨a9,w9,h9⟩=>h9) AA ?_
    repeat' (first
     | refine X0 ?_|refine bi 36 ?_;intro b36 o36 hl36 hc36;go_step|refine ZW ?_|refine KP 10 ?_;clear hS;intro g10 w hS|refine FX ?_;clear hS;intro w hS|refine AH ?_;go_step|fail)
    repeat ((fail_if_success with_reducible show (Code.region _ _ _).wpIn _ _ _ _ _ _);gi_step)
    refine BO (fun ⟨a9,w9,h9⟩=>h9) AA ?_
    repeat' (first
     | (refine AP 41 ?_);refine Ad ?_;refine Dl hS 26 _ rfl g2 3 rfl 64 (AO rfl) q hq hr3 ?_;refine AC ?_;go_step|(refine Al 93 ?_);refine Am AA Tryz.call93 (eO _ (Bp C 64 j) q hsgl.out hq) ?_;rintro e w ⟨rfl,hE⟩;rw [HX.out];replace hS:=hS.ext hE;clear hE;refine AX ?_;go_step|refine X1 ?_|(refine AP 40 ?_);(refine Ap AA (V.fieldAddr Wz rfl BK) ?_;go_step)|refine X6 43 ?_|refine X6 44 ?_|refine Jt ?_|refine FX ?_;clear hS;intro w hS|refine AH ?_;go_step|fail)
    repeat ((fail_if_success with_reducible show (Code.region _ _ _).wpIn _ _ _ _ _ _);gi_step)
    refine BO (fun ⟨a9,w9,h9⟩=>h9) AA ?_
    repeat' (first
     | (refine Al 94 ?_);refine Am AA Tryz.call94 (Vn _ X hXl) ?_;rintro e w ⟨rfl,hE⟩;rw [HY.out];replace hS:=hS.ext hE;clear hE;refine AX ?_;go_step|refine X1 ?_|refine X6 48 ?_|refine X6 49 ?_|refine Jt ?_|refine FX ?_;clear hS;intro w hS|refine AH ?_;go_step|fail)
    repeat ((fail_if_success with_reducible show (Code.region _ _ _).wpIn _ _ _ _ _ _);gi_step)
    refine BO (fun ⟨a9,w9,h9⟩=>h9) AA ?_
    repeat' (first
     | refine X1 ?_|refine Jt ?_|refine AH ?_;go_step|fail)
    repeat ((fail_if_success with_reducible show (Code.loop _).wpIn _ _ _ _ _ _);gi_step)
    obtain ⟨gk1,hgk1⟩:∃x,x=gk:=⟨_,rfl⟩
    subst hgk1
    gi_loopg [51] 64 (fun gk kv w'=>∃(i:Nat) (o:List Int),gk+i=64∧kv= .int .i64 i∧(∀k,k<i→AJ o k=min (max (AJ Y k) (-40000)) 40000)∧St W w' [arr g10 64 o,own 26 64 (some ⟨g30,0,none⟩) K K ((Ov q C j++List.replicate ((K-j)*64) 0).map (Value.int .i64))])
    case atStart=>exact ⟨0,Y,rfl,rfl,fun k hk=>absurd hk (by omega),hS.sub AV⟩
    case round=>
     clear hS
     obtain ⟨i,o,hi,rfl,ho,hS⟩:=hrel
     have hol:o.length=64:=(hS.arr (g:=g10) AK).2
     by_cases hlt2:i<64
     ·have HO:=AD ho
      clear ho
      repeat ((fail_if_success with_reducible show (Code.region _ _ _).wpIn _ _ _ _ _ _);gi_step)
      refine BO (fun ⟨a9,w9,h9⟩=>h9) AA ?_
      repeat' (first
       | refine X5 52 ?_|refine AH ?_;go_step|fail)
      repeat ((fail_if_success with_reducible show (Code.region _ _ _).wpIn _ _ _ _ _ _);gi_step)
      refine BO (fun ⟨a9,w9,h9⟩=>h9) AA ?_
      repeat' (first
       | refine X0 ?_|refine Zf 54 ?_|refine AH ?_;go_step|fail)
      repeat ((fail_if_success with_reducible show (Code.region _ _ _).wpIn _ _ _ _ _ _);gi_step)
      refine BO (fun ⟨a9,w9,h9⟩=>h9) AA ?_
      repeat' (first
       | (refine Al 83 ?_);refine Am AA Tryz.call83 (IE _ 40000 _ (by omega) (by omega)) ?_;rintro e w ⟨rfl,rfl⟩;refine AX ?_;go_step|refine X1 ?_|refine WL 58 ?_|refine WD ?_;clear hS;intro w hS|refine AH ?_;go_step|fail)
      repeat ((fail_if_success with_reducible show (Code.region _ _ _).wpIn _ _ _ _ _ _);gi_step)
      refine BO (fun ⟨a9,w9,h9⟩=>h9) AA ?_
      repeat' (first
       | refine X1 ?_|refine WO 59 ?_|refine AH ?_;go_step|fail)
      go_roundg (gk-1)
      case measure=>omega
      case rel=>exact ⟨i+1,_,by omega,by go_num,fun k hk=>by
       rw [CS _ _ _ _ (by rw [hol];exact hlt2)]
       split
       ·rename_i e9;subst e9;rfl
       exact HO.out k (by omega),hS.sub AV⟩
     obtain rfl:i=64:=by omega
     have hou:o=bX q (Bp C 64 j):=by
      refine Eb (by rw [hol,Ou]) fun k hk=>?_
      rw [ho k (by omega)]
      unfold bX
      rw [HX.out,HY.out,TS _ _ _ (by rw [hYl.out];omega)]
     subst hou
     clear ho hol
     have hul:(bX q (Bp C 64 j)).length=64:=Ou _ _
     obtain ⟨U,hU⟩:∃U,bX q (Bp C 64 j)=U:=⟨_,rfl⟩
     have hsp:Ov q C (j+1)=Ov q C j++U:=by rw [Ov,hU]
     have hrp:List.replicate ((K-j)*64) (0:Int)=List.replicate 64 0++List.replicate ((K-(j+1))*64) 0:=by
      rw [List.replicate_append_replicate];congr 1;rw [show K-j=(K-(j+1))+1 by omega,Nat.add_mul];omega
     rw [hU] at hS hul
     rw [hrp,List.map_append,List.map_append] at hS
     have HAL:=AD (show ((Ov q C j).map (Value.int .i64)).length=j*64 by rw [List.length_map,Tz])
     have HUL:=AD hul
     have HSP:=AD hsp
     clear hul hsp hrp hU
     repeat ((fail_if_success with_reducible show (Code.region _ _ _).wpIn _ _ _ _ _ _);gi_step)
     refine BO (fun ⟨a9,w9,h9⟩=>h9) AA ?_
     repeat' (first
      | refine X5 52 ?_|refine AH ?_;go_step|fail)
     repeat ((fail_if_success with_reducible show (Code.region _ _ _).wpIn _ _ _ _ _ _);gi_step)
     refine BO (fun ⟨a9,w9,h9⟩=>h9) AA ?_
     repeat' (first
      | (with_reducible refine Ak none _ ?_);refine Ad ?_;refine Vs hS 26 _ _ rfl g30 (j*64) rfl 64 (AO rfl) _ _ _ _ _ _ (U.map (Value.int .i64)) _ AK HAL.out.symm (by simp) (by rw [List.length_map];exact HUL.out) (by simp [Value.oneCell']) rfl rfl ?_;clear hS;intro w hS|refine X1 ?_|(refine AP 63 ?_);(refine Ap AA (V.indexSl Tryz.underlying42 Id rfl rfl BJ (by omega) rfl BK) ?_;go_step)|refine Jt ?_|refine AH ?_;go_step|fail)
     repeat ((fail_if_success with_reducible show (Code.region _ _ _).wpIn _ _ _ _ _ _);gi_step)
     refine BO (fun ⟨a9,w9,h9⟩=>h9) AA ?_
     repeat' (first
      | refine X1 ?_|refine WO 64 ?_|refine AH ?_;go_step|fail)
     go_roundg (gk1-1)
     case measure=>omega
     case rel=>exact ⟨j+1,by omega,by go_num,by rw [HSP.out,List.append_assoc,List.map_append,List.map_append];exact hS.sub AV⟩
   obtain rfl:j=K:=by omega
   rw [Nat.sub_self,Nat.zero_mul,List.replicate_zero,List.append_nil] at hS
   repeat ((fail_if_success with_reducible show (Code.region _ _ _).wpIn _ _ _ _ _ _);gi_step)
   refine BO (fun ⟨a9,w9,h9⟩=>h9) AA ?_
   repeat' (first
    | refine X5 34 ?_|refine AH ?_;go_step|fail)
   repeat ((fail_if_success with_reducible show (Code.region _ _ _).wpIn _ _ _ _ _ _);gi_step)
   refine BO (fun ⟨a9,w9,h9⟩=>h9) AA ?_
   repeat' (first
    | (refine Al 95 ?_);refine Am AA Tryz.call95 (P4 _ (some ⟨g30,0,none⟩) j j (Ov q C j) m h (by omega) (by omega) (hS.sl AK) HJ.out N HN.out) ?_;rintro e w ⟨aj,cj,rfl,hS2⟩;replace hS:=hS.call1 hS2;clear hS2;refine AX ?_;go_step|refine X0 ?_|(refine AP 67 ?_);(refine Ap AA (V.fieldAddr Rf rfl BK) ?_;go_step)|(refine AP 69 ?_);(refine Ap AA (V.fieldAddr Rh rfl BK) ?_;go_step)|refine X6 72 ?_|refine X6 73 ?_|refine Zs ?_|refine AH ?_;go_step|fail)
   repeat ((fail_if_success with_reducible show (Code.region _ _ _).wpIn _ _ _ _ _ _);gi_step)
   refine BO (fun ⟨a9,w9,h9⟩=>h9) AA ?_
   have hlo:∃bj oj,aj=some ⟨bj,oj,none⟩∧W.heap.size≤bj:=by
    obtain ⟨b2,rfl⟩:=Bq (a:=aj) hS AK (by omega)
    exact ⟨b2,0,rfl,(Xd hS AK).1⟩
   replace hS:=hIF.out.call hS
   simp only [OZ,List.cons_append,List.nil_append] at hS
   have hRl:R.length<np:=by
    have h9:=congrArg List.length hHR.out
    rw [List.length_map,List.length_map] at h9
    rw [h9];exact hlen
   have hR3:R.length<3:=by omega
   obtain ⟨r,hr⟩:∃r,R.length=r:=⟨_,rfl⟩
   rw [hr] at hS hRl hR3
   have HR9:=AD hr
   clear hr
   repeat' (first
    | refine X1 ?_|refine dW ?_|refine cY 76 ?_;clear hS;intro g76 w hS|(refine AP 77 ?_);(refine Ad ?_;apply A7 (o:=⟨some 77,_,_,_,_,_⟩) hS _ _ 22 rfl 30 1 24 dq _ _ _ _ rfl;(case hp=>exact AK);(case hx=>exact rfl);(case hm=>(first|exact hS.slBlk AK (by rfl) (by decide)|exact hS.sl AK|with_reducible assumption|exact Sl.ext (by with_reducible assumption) hS.1|exact Sl.nil _ _|exact Sl.ext (by assumption) hS.1|assumption));(case h1=>(first|exact Cd rfl|exact CE _ _|(intro u hu;cases hu)));(case h63=>unfold maxLen;omega);(case hb=>omega);clear hS;intro ad77 c77 w hS;(first|simp only [DX] at hS|simp only [DY] at hS|simp only [DZ] at hS|simp only [Da] at hS|simp only [Db] at hS|skip);refine AC ?_;go_step)|refine fK ?_;clear hS;intro w hS|refine AH ?_;go_step|fail)
   obtain ⟨bj,oj,rfl,hbj⟩:=hlo
   obtain ⟨J,hJe⟩:∃J,Fw (Ov q C j) m h=J:=⟨_,rfl⟩
   have hJl:J.length=N:=by
    rw [←hJe];unfold Fw;rw [CJ];have:=HN.out;omega
   rw [hJe] at hS
   subst hJl
   refine ⟨Mj hS AK hEW ?_,⟨?_,?_⟩,R++[⟨some ⟨bj,oj,none⟩,cj,J⟩],ad77,c77,?_,?_⟩
   ·have h9:=(Xd (ad:=⟨bj,oj,none⟩) (xs:=J.map (Value.int .i64)) hS AK).2
    dsimp only at h9
    omega
   ·rw [(hS.blk (g:=gs) AK).1.cell,hgs9];rfl
   ·rw [(hS.blk (g:=gn) AK).1.cell,hgn9];rfl
   ·rw [List.map_append,List.map_append,hHR.out]
    show _++[J]=_++[bF m h q l j x.1]
    rw [HCX.out,hJe]
   have h9:=(hS.pull (r:=star (R.map Rw.res)) AK).starPut (r:=own 3 1 (some ⟨bj,oj,none⟩) J.length cj (J.map (Value.int .i64))) AK
   simp only [OZ,List.length_append,HR9.out,List.length_cons,List.length_nil,Nat.zero_add,List.map_append,List.map_cons,List.map_nil,Rw.val,Rw.res]
   exact h9.sub AV
 case hdone=>
  clear hI0 hS hcs hcn
  rintro D xs W hD hxs ⟨R,ao,co,hR,hI⟩ hK9
  have hF:=hI.fixd (GV _ _ _ _ _ _ _ _ _ _ _ _ _ _)
  have hD0:w0.heap.size≤D:=Nat.le_trans hgs hD
  have hRS:R.map (·.xs)=ZA m h q l K np:=by
   rw [hR,Kn,←hxs,List.map_map];rfl
  have hRl:R.length=np:=by
   have h9:=congrArg List.length hRS
   rw [List.length_map,Km] at h9
   exact h9
  have hall:∀x∈R.map (·.xs),Ch x x.length m h=0:=by
   rw [hRS,Kn]
   intro x hx
   obtain ⟨k,_,rfl⟩:=List.mem_map.1 hx
   refine Nv hok ?_ ((EJ _).2 fun i hi=>?_)
   ·unfold bF Fw;rw [CJ]
    have k2:0<m*h:=Int.mul_pos (by omega) (by omega)
    omega
   unfold bF Fw at hi⊢
   rw [CJ] at hi
   rw [Fj _ _ _ hi];unfold LV;omega
  dsimp only [OZ] at hF
  have hPI:Av W ao co R:=Av.of hF AK AK
  have HTO:=AD fun (w:World)(hx:Af W w)=>SK w ao co R m h (hPI.ext hx) (by omega) hall 96 Ic Ib Ia Z5
  rw [hRS] at HTO
  have hFS:Q3 m h q l K np=DI Ic Ib Ia (ZA m h q l K np):=rfl
  have HFS:=AD hFS
  clear hR hRS hall hPI hFS hI hc hcm hl hv hxs
  obtain ⟨L,hL⟩:∃L,DI Ic Ib Ia (ZA m h q l K np)=L:=⟨_,rfl⟩
  rw [hL] at HTO HFS
  clear hL
  have hWX:=Af.refl W
  have hS:=hF
  clear hF
  obtain ⟨n9,hn9⟩:∃n9,R.length=n9:=⟨_,rfl⟩
  dsimp only [Exit.inBlock,Exit.then]
  repeat gi_step
  repeat' (first
   | (refine Al 45 ?_);refine Am AA Tryz.call45 (HTO.out _ hWX) ?_;rintro e w ⟨a2,c2,R2,hR2,rfl,hE2,hO2⟩;replace hS:=hO2 _ _ (show Cc w0 _ ao co R _ from (hS.pull (r:=star (R.map Rw.res)) AK).pull (r:=own 30 1 ao R.length co (R.map Rw.val)) AK);unfold Cc at hS;clear hO2;refine AX ?_;go_step|refine UE ?_|refine dW ?_|refine fK ?_;clear hS;intro w hS|refine PF ?_|refine Ns ?_;clear hS;intro w hS|refine AH ?_;go_step|fail)
  have hD9:=aD hS AK hD0 hK9 rfl
  have hS2:St w0 _ [blk g4 [.int .i64 m, .int .i64 h, .slice a2 R2.length c2],own 30 1 a2 R2.length c2 (R2.map Rw.val),star (R2.map Rw.res)]:=hS.sub AV
  replace hS2:=hS2.putD (.deferred none) (fun r hr=>by
   simp only [List.mem_cons,List.not_mem_nil,or_false] at hr
   rcases hr with rfl|rfl|rfl
   ·exact C6 _ _
   ·exact Ff _ _ _ _ _ _
   refine Jv fun r hr=>?_
   obtain ⟨p,_,rfl⟩:=List.mem_map.1 hr
   exact Ff _ _ _ _ _ _) hD0 hD9 rfl
  refine ⟨by simp, .inl ⟨_,_,rfl,run_takeDeferred hD9,?_⟩⟩
  refine ⟨.agg #[.int .i64 m, .int .i64 h, .slice a2 R2.length c2],?_,a2,c2,R2,hR2.trans HFS.out.symm,rfl,?_⟩
  ·rw [H7 (xs:=[.cell 4 24]) rfl (ER.cons (AB.blk hS2 rfl (AO (n:=3) rfl) AU.head rfl) ER.nil)]
   rfl
  unfold Cc
  exact hS2.sub AV
 case hstop=>
  rintro D c9 pre W _ _ h9 _
  exact h9.elim
end Go.Proofs.YtohacgmhmbijmaaGreatDoor
namespace Go.Proofs.YtohacgmhmbijmaaGreatDoor
attribute [local irreducible] Region.wanted
open Go.ChangeShapes Go.WideShapes Go.ChangeAt Go.RowKit Go.Deep
set_option linter.unusedVariables false
set_option maxRecDepth 100000
set_option maxHeartbeats 8000000
structure A8 where
 wide:Int
 high:Int
 parts:Int
 quant:List Int
 c1:List Int
 s1:List Int
 c2:List Int
 s2:List Int
 every:Int
 data:List Nat
def Hu(f:A8)(v1 v2 vd:Value):List Ae:=[.val (.int .i64 f.wide), .val (.int .i64 f.high), .val (.int .i64 f.parts), .ints f.quant, .ints f.c1, .val v1, .ints f.c2, .val v2, .val (.int .i64 f.every), .val vd]
structure Q9(W:World)(f:A8)(a1 a2 ad:Option Addr)(n1 k1 n2 k2 nd kd:Nat):Prop where
 wide: -9223372036854775808≤f.wide∧f.wide≤9223372036854775807
 high: -9223372036854775808≤f.high∧f.high≤9223372036854775807
 parts: -9223372036854775808≤f.parts∧f.parts≤9223372036854775807
 every: -9223372036854775808≤f.every∧f.every≤9223372036854775807
 quant:Ac f.quant 64
 t1:WA W f.c1 f.s1 a1 n1 k1
 t2:WA W f.c2 f.s2 a2 n2 k2
 dlt:∀x∈f.data,x<256
 dsl:Sl W 1 (.slice ad nd kd) nd (f.data.map fun (x:Nat)=>Value.int .u8 (x:Int))
 dcap:nd≤kd∧kd≤9223372036854775807
theorem Kj{H:Type}{enc:TypeId×Value→H}{W:World}{fuel:Nat}{cs:List Value}{x:DataW H×List MemPlace}(h:DataW.trod enc Tryz.prog W 0 (fun _=>true) true fuel 3 cs=some x):∃n:Int,cs=[.int .i64 n]∧ -9223372036854775808≤n∧n≤9223372036854775807:=by
 obtain ⟨n,rfl,_,hw⟩:=DataW.trod_int Tryz.underlying3 h
 exact ⟨n,rfl,(Em n).1 hw⟩
theorem IU(l:List Value)(i n k:Nat)(h:i+n=k):l.drop i=(l.drop i).take n++l.drop k:=by
 subst h
 rw [←List.drop_drop,List.take_append_drop]
theorem Ra{H:Type}{enc:TypeId×Value→H}{W:World}{fuel:Nat}{cs:List Value}{x:DataW H×List MemPlace}(h:DataW.trod enc Tryz.prog W 0 (fun _=>true) true fuel 37 cs=some x):
 ∃(f:A8) (a1 a2 ad:Option Addr) (n1 k1 n2 k2 nd kd:Nat),cs=AF (Hu f (.slice a1 n1 k1) (.slice a2 n2 k2) (.slice ad nd kd))∧Q9 W f a1 a2 ad n1 k1 n2 k2 nd kd:=by
 obtain ⟨xs,m,_,_,hl,hxl,hf⟩:=DataW.trod_struct Tryz.underlying37 h
 have hl103:cs.length=103:=by rw [hl];kernel_rfl
 have hx7:xs.length=7:=hxl
 have f0:=hf 0 {name:= "Wide",type:=3,offset:=0,embedded:=false,tag:= "",pkgPath:= "",byteOffset:=0} rfl
 have f1:=hf 1 {name:= "High",type:=3,offset:=1,embedded:=false,tag:= "",pkgPath:= "",byteOffset:=8} rfl
 have f2:=hf 2 {name:= "Parts",type:=3,offset:=2,embedded:=false,tag:= "",pkgPath:= "",byteOffset:=16} rfl
 have f3:=hf 3 {name:= "Quant",type:=26,offset:=3,embedded:=false,tag:= "",pkgPath:= "",byteOffset:=24} rfl
 have f4:=hf 4 {name:= "Tables",type:=34,offset:=67,embedded:=false,tag:= "",pkgPath:= "",byteOffset:=536} rfl
 have f5:=hf 5 {name:= "Every",type:=3,offset:=101,embedded:=false,tag:= "",pkgPath:= "",byteOffset:=840} rfl
 have f6:=hf 6 {name:= "Data",type:=35,offset:=102,embedded:=false,tag:= "",pkgPath:= "",byteOffset:=848} rfl
 dsimp only at f0 f1 f2 f3 f4 f5 f6
 rw [List.getElem?_eq_getElem (by omega)] at f0 f1 f2 f3 f4 f5 f6
 have c1:Tryz.prog.cellsOf 3=1:=by kernel_rfl
 have c64:Tryz.prog.cellsOf 26=64:=by kernel_rfl
 have c34:Tryz.prog.cellsOf 34=34:=by kernel_rfl
 have cb:Tryz.prog.cellsOf 35=1:=by kernel_rfl
 have c17:Tryz.prog.cellsOf 32=17:=by kernel_rfl
 rw [c1] at f0 f1 f2 f5
 rw [c64] at f3
 rw [c34] at f4
 rw [cb] at f6
 obtain ⟨w,e0,r0⟩:=Kj f0
 obtain ⟨hh,e1,r1⟩:=Kj f1
 obtain ⟨p,e2,r2⟩:=Kj f2
 obtain ⟨q,hq,e3,_⟩:=TO (dp:=3) AA f3
 rw [c64] at hq
 obtain ⟨ev,e5,r5⟩:=Kj f5
 obtain ⟨ys,m2,_,_,hl2,hy2,hg⟩:=DataW.trod_struct Tryz.underlying34 f4
 have hy2':ys.length=2:=hy2
 have g0:=hg 0 {name:= "First",type:=32,offset:=0,embedded:=false,tag:= "",pkgPath:= "",byteOffset:=0} rfl
 have g1:=hg 1 {name:= "Rest",type:=32,offset:=17,embedded:=false,tag:= "",pkgPath:= "",byteOffset:=152} rfl
 dsimp only at g0 g1
 rw [List.getElem?_eq_getElem (by omega),c17] at g0 g1
 obtain ⟨C1,S1,a1,n1,k1,t1,T1⟩:=NS g0
 obtain ⟨C2,S2,a2,n2,k2,t2,T2⟩:=NS g1
 obtain ⟨vd,hvd⟩:∃v,(cs.drop 102).take 1=[v]:=by
  match hd:(cs.drop 102).take 1,(show ((cs.drop 102).take 1).length=1 by simp [hl103]) with
  | [v],_=>exact ⟨v,rfl⟩
 rw [hvd] at f6
 obtain ⟨nd,ns,hns,hsl,hsr⟩:=H5 .u8 Tryz.underlying35 1 AA 1 AA (by omega) f6
 obtain ⟨ad,kd,rfl,hnc,hcm⟩:∃ad c,vd= .slice ad nd c∧nd≤c∧c≤9223372036854775807:=by
  obtain ⟨_,ad,c,h1,h2,h3,_⟩:=hsl
  exact ⟨ad,c,h1,h2,by unfold maxLen at h3;exact h3⟩
 have hb:∀x∈ns,0≤x∧x≤255:=fun x hx=>by
  obtain ⟨i,hi,rfl⟩:=List.getElem_of_mem hx
  have:=(Vo _).1 (hsr i hi)
  simpa [AJ,List.getD,hi] using this
 have e:ns.map (Value.int .u8)=(ns.map Int.toNat).map fun (x:Nat)=>Value.int .u8 (x:Int):=by
  rw [List.map_map]
  refine List.map_congr_left fun x hx=>?_
  have:=hb x hx
  simp only [Function.comp]
  rw [Int.toNat_of_nonneg (by omega)]
 refine ⟨⟨w,hh,p,q,C1,S1,C2,S2,ev,ns.map Int.toNat⟩,a1,a2,ad,n1,k1,n2,k2,nd,kd,?_,⟨r0,r1,r2,r5,hq,T1,T2,fun x hx=>?_,e▸ hsl,hnc,hcm⟩⟩
 ·have q0:cs=cs.drop 0:=rfl
  have d103:cs.drop 103=[]:=by rw [List.drop_eq_nil_iff];omega
  have tl:((cs.drop 67).take 34).length=34:=by simp [hl103]
  have u0:(cs.drop 67).take 34=((cs.drop 67).take 34).drop 0:=rfl
  have d34:((cs.drop 67).take 34).drop 34=[]:=by rw [List.drop_eq_nil_iff];omega
  rw [q0,IU cs 0 1 1 rfl,e0,IU cs 1 1 2 rfl,e1,IU cs 2 1 3 rfl,e2,IU cs 3 64 67 rfl,e3,IU cs 67 34 101 rfl,IU cs 101 1 102 rfl,e5,IU cs 102 1 103 rfl,hvd,d103]
  rw [u0,IU _ 0 17 17 rfl,t1,IU _ 17 17 34 rfl,t2,d34]
  simp [AF,Hu,Ae.cells]
 obtain ⟨y,hy,rfl⟩:=List.mem_map.1 hx
 have:=hb y hy
 omega
theorem Az(w0:World)(n lo hi:Int):
 Calls Tryz.prog 91 #[.int .i64 n, .int .i64 lo, .int .i64 hi] w0 fun e w=>e= .returned (.bool (decide (lo≤n∧n≤hi)))∧Af w0 w:=by
 have hS:=St.start w0
 by_cases h1:lo≤n
 ·by_cases h2:n≤hi
  ·have hD:=AD (show decide (lo≤n∧n≤hi)=true from decide_eq_true ⟨h1,h2⟩)
   go_enter Tryz.func91,Tryz.ntmps91
   repeat' (first
    | refine X0 ?_|refine Eu ?_|(refine AP 9 ?_);(refine CY _ (V.geq rfl rfl) AA (fun hB=>?_) (fun hB=>?_)<;>(try exact AQ)<;>go_step)|refine bk ?_|refine AH ?_;go_step|fail)
   refine A9 rfl (AB.tmp rfl) rfl ?_
   exact ⟨(by rw [hD.out];first|done|rfl|exact congrArg Ending.returned (congrArg Value.bool (decide_eq_true h2))|exact congrArg Ending.returned (congrArg Value.bool (decide_eq_false h2))),hS.1⟩
  have hD:=AD (show decide (lo≤n∧n≤hi)=false from decide_eq_false fun h=>h2 h.2)
  go_enter Tryz.func91,Tryz.ntmps91
  repeat' (first
   | refine X0 ?_|refine Eu ?_|(refine AP 9 ?_);(refine CY _ (V.geq rfl rfl) AA (fun hB=>?_) (fun hB=>?_)<;>(try exact AQ)<;>go_step)|refine bk ?_|refine AH ?_;go_step|fail)
  refine A9 rfl (AB.tmp rfl) rfl ?_
  exact ⟨(by rw [hD.out];first|done|rfl|exact congrArg Ending.returned (congrArg Value.bool (decide_eq_true h2))|exact congrArg Ending.returned (congrArg Value.bool (decide_eq_false h2))),hS.1⟩
 have hD:=AD (show decide (lo≤n∧n≤hi)=false from decide_eq_false fun h=>h1 h.1)
 go_enter Tryz.func91,Tryz.ntmps91
 repeat' (first
  | go_skip|((first|(with_reducible refine J4 ?_)|(with_reducible refine RI ?_));(first|go_big_want|go_step);go_step)|((with_reducible refine Ak _ (.pick _ _ _) ?_);(refine A6 rfl AA ?_;go_step))|((refine AP 9 ?_);(refine CY _ (V.geq rfl rfl) AA (fun hB=>?_) (fun hB=>?_)<;>(try exact AQ)<;>go_step))|(refine AH ?_;go_step)|fail)
 refine A9 rfl (AB.tmp rfl) rfl ?_
 exact ⟨(by rw [hD.out];first|done|rfl|exact congrArg Ending.returned (congrArg Value.bool (decide_eq_true h2))|exact congrArg Ending.returned (congrArg Value.bool (decide_eq_false h2))),hS.1⟩
def Hr(f:A8):Prop:=(1≤f.wide∧f.wide≤64)∧(1≤f.high∧f.high≤64)∧(f.parts=1∨f.parts=3)∧(0≤f.every∧f.every≤100)
instance(f:A8):Decidable (Hr f):=by unfold Hr;infer_instance
def Bo(f:A8):Int:=if Hr f then if J8 f.quant then if A4 f.c1 f.s1=0 then if A4 f.c2 f.s2=0 then if f.data.length≤90000 then 0 else 2 else A4 f.c2 f.s2 else A4 f.c1 f.s1 else 1 else 1
def fv(f:A8)(v1 v2 vd:Value):Value:= .agg (AF (Hu f v1 v2 vd)).toArray
theorem Pj(w0:World)(W H p ev:Int)(Q C1 C2:List Int)(v1 v2 vd:Value)(hQ:Ac Q 64)(hC1:Ac C1 16)(hC2:Ac C2 16)(h:¬((1≤W∧W≤64)∧(1≤H∧H≤64)∧(p=1∨p=3)∧(0≤ev∧ev≤100))):
 Calls Tryz.prog 52 #[.agg (AF [.val (.int .i64 W), .val (.int .i64 H), .val (.int .i64 p), .ints Q, .ints C1, .val v1, .ints C2, .val v2, .val (.int .i64 ev), .val vd]).toArray] w0 fun e w=>e= .returned (.int .i64 1)∧Af w0 w:=by
 have hS:=St.start w0
 by_cases hw:1≤W∧W≤64
 case neg=>
  have hD:=AD (decide_eq_false hw)
  clear h hw
  go_enter Tryz.func52,Tryz.ntmps52
  repeat' (first
   | (refine Al 91 ?_);refine Am AA Tryz.call91 (Az _ _ _ _) ?_;rintro e w ⟨rfl,hE2⟩;rw [hD.out];replace hS:=hS.ext hE2;clear hE2;refine AX ?_;go_step|go_skip|refine X0 ?_|refine Eu ?_|refine K1 10 ?_ ?_<;>intro hB<;>(try exact Kk hB)<;>go_step|refine Yp ?_|refine Js 1 ?_;clear hS;intro g1 w hS|refine Vx ?_|refine AH ?_;go_step|fail)
  refine A9 rfl (AB.tmp rfl) rfl ?_
  exact ⟨rfl,hS.1⟩
 have hD:=AD (decide_eq_true hw)
 by_cases hh:1≤H∧H≤64
 case neg=>
  have hD2:=AD (decide_eq_false hh)
  clear h hw hh
  go_enter Tryz.func52,Tryz.ntmps52
  repeat' (first
   | (refine Al 91 ?_);refine Am AA Tryz.call91 (Az _ _ _ _) ?_;rintro e w ⟨rfl,hE2⟩;rw [hD.out];replace hS:=hS.ext hE2;clear hE2;refine AX ?_;go_step|(refine Al 91 ?_);refine Am AA Tryz.call91 (Az _ _ _ _) ?_;rintro e w ⟨rfl,hE2⟩;rw [hD2.out];replace hS:=hS.ext hE2;clear hE2;refine AX ?_;go_step|go_skip|refine X0 ?_|refine IR ?_|refine K1 10 ?_ ?_<;>intro hB<;>(try exact Kk hB)<;>go_step|refine K1 15 ?_ ?_<;>intro hB<;>(try exact Kk hB)<;>go_step|refine Yp ?_|refine Zr ?_|refine Js 1 ?_;clear hS;intro g1 w hS|refine Vx ?_|refine AH ?_;go_step|fail)
  refine A9 rfl (AB.tmp rfl) rfl ?_
  exact ⟨rfl,hS.1⟩
 have hD2:=AD (decide_eq_true hh)
 by_cases h1:p=1
 ·subst h1
  have hD3:=AD (decide_eq_false (show ¬(0≤ev∧ev≤100) from fun e=>h ⟨hw,hh, .inl rfl,e⟩))
  clear h hw hh
  go_enter Tryz.func52,Tryz.ntmps52
  repeat' (first
   | (refine Al 91 ?_);refine Am AA Tryz.call91 (Az _ _ _ _) ?_;rintro e w ⟨rfl,hE2⟩;rw [hD.out];replace hS:=hS.ext hE2;clear hE2;refine AX ?_;go_step|(refine Al 91 ?_);refine Am AA Tryz.call91 (Az _ _ _ _) ?_;rintro e w ⟨rfl,hE2⟩;rw [hD2.out];replace hS:=hS.ext hE2;clear hE2;refine AX ?_;go_step|(refine Al 91 ?_);refine Am AA Tryz.call91 (Az _ _ _ _) ?_;rintro e w ⟨rfl,hE2⟩;rw [hD3.out];replace hS:=hS.ext hE2;clear hE2;refine AX ?_;go_step|go_skip|refine X0 ?_|refine IL ?_|refine K1 10 ?_ ?_<;>intro hB<;>(try exact Kk hB)<;>go_step|refine K1 15 ?_ ?_<;>intro hB<;>(try exact Kk hB)<;>go_step|refine Et 20 ?_ ?_<;>intro hB<;>(try exact AQ)<;>go_step|refine Yp ?_|refine Zr ?_|refine bp ?_|refine UG ?_|refine KS ?_|refine Js 1 ?_;clear hS;intro g1 w hS|refine Vx ?_|refine AH ?_;go_step|fail)
  refine A9 rfl (AB.tmp rfl) rfl ?_
  exact ⟨rfl,hS.1⟩
 by_cases h3:p=3
 ·subst h3
  have hD3:=AD (decide_eq_false (show ¬(0≤ev∧ev≤100) from fun e=>h ⟨hw,hh, .inr rfl,e⟩))
  clear h hw hh h1
  go_enter Tryz.func52,Tryz.ntmps52
  repeat' (first
   | (refine Al 91 ?_);refine Am AA Tryz.call91 (Az _ _ _ _) ?_;rintro e w ⟨rfl,hE2⟩;rw [hD.out];replace hS:=hS.ext hE2;clear hE2;refine AX ?_;go_step|(refine Al 91 ?_);refine Am AA Tryz.call91 (Az _ _ _ _) ?_;rintro e w ⟨rfl,hE2⟩;rw [hD2.out];replace hS:=hS.ext hE2;clear hE2;refine AX ?_;go_step|(refine Al 91 ?_);refine Am AA Tryz.call91 (Az _ _ _ _) ?_;rintro e w ⟨rfl,hE2⟩;rw [hD3.out];replace hS:=hS.ext hE2;clear hE2;refine AX ?_;go_step|refine X0 ?_|refine IR ?_|refine K1 10 ?_ ?_<;>intro hB<;>(try exact Kk hB)<;>go_step|refine K1 15 ?_ ?_<;>intro hB<;>(try exact Kk hB)<;>go_step|refine Et 20 ?_ ?_<;>intro hB<;>(try exact AQ)<;>go_step|refine Et 24 ?_ ?_<;>intro hB<;>(try exact AQ)<;>go_step|refine Yp ?_|refine Zr ?_|refine bp ?_|refine UG ?_|refine KS ?_|refine Js 1 ?_;clear hS;intro g1 w hS|refine Vx ?_|refine AH ?_;go_step|fail)
  refine A9 rfl (AB.tmp rfl) rfl ?_
  exact ⟨rfl,hS.1⟩
 clear h hw hh
 go_enter Tryz.func52,Tryz.ntmps52
 repeat' (first
  | (refine Al 91 ?_);refine Am AA Tryz.call91 (Az _ _ _ _) ?_;rintro e w ⟨rfl,hE2⟩;rw [hD.out];replace hS:=hS.ext hE2;clear hE2;refine AX ?_;go_step|(refine Al 91 ?_);refine Am AA Tryz.call91 (Az _ _ _ _) ?_;rintro e w ⟨rfl,hE2⟩;rw [hD2.out];replace hS:=hS.ext hE2;clear hE2;refine AX ?_;go_step|go_skip|refine X0 ?_|refine IR ?_|refine K1 10 ?_ ?_<;>intro hB<;>(try exact Kk hB)<;>go_step|refine K1 15 ?_ ?_<;>intro hB<;>(try exact Kk hB)<;>go_step|refine Et 20 ?_ ?_<;>intro hB<;>(try exact AQ)<;>go_step|refine Et 24 ?_ ?_<;>intro hB<;>(try exact AQ)<;>go_step|refine Yp ?_|refine Zr ?_|refine bp ?_|refine Js 1 ?_;clear hS;intro g1 w hS|refine Vx ?_|refine AH ?_;go_step|fail)
 refine A9 rfl (AB.tmp rfl) rfl ?_
 exact ⟨rfl,hS.1⟩
theorem N0(w0:World)(W H p ev:Int)(Q C1 C2:List Int)(v1 v2 vd:Value)(hQ:Ac Q 64)(hC1:Ac C1 16)(hC2:Ac C2 16)(h:(1≤W∧W≤64)∧(1≤H∧H≤64)∧(p=1∨p=3)∧(0≤ev∧ev≤100))(hk:J8 Q=false):
 Calls Tryz.prog 52 #[.agg (AF [.val (.int .i64 W), .val (.int .i64 H), .val (.int .i64 p), .ints Q, .ints C1, .val v1, .ints C2, .val v2, .val (.int .i64 ev), .val vd]).toArray] w0 fun e w=>e= .returned (.int .i64 1)∧Af w0 w:=by
 have hS:=St.start w0
 have hK:=AD hk
 have hD:=AD (decide_eq_true h.1)
 have hD2:=AD (decide_eq_true h.2.1)
 have hD3:=AD (decide_eq_true h.2.2.2)
 have hp:=h.2.2.1
 clear h hk
 rcases hp with rfl|rfl
 all_goals
  go_enter Tryz.func52,Tryz.ntmps52
  repeat' (first
   | (refine Al 91 ?_);refine Am AA Tryz.call91 (Az _ _ _ _) ?_;rintro e w ⟨rfl,hE2⟩;rw [hD.out];replace hS:=hS.ext hE2;clear hE2;refine AX ?_;go_step|(refine Al 91 ?_);refine Am AA Tryz.call91 (Az _ _ _ _) ?_;rintro e w ⟨rfl,hE2⟩;rw [hD2.out];replace hS:=hS.ext hE2;clear hE2;refine AX ?_;go_step|(refine Al 91 ?_);refine Am AA Tryz.call91 (Az _ _ _ _) ?_;rintro e w ⟨rfl,hE2⟩;rw [hD3.out];replace hS:=hS.ext hE2;clear hE2;refine AX ?_;go_step|(refine Al 36 ?_);refine Am AA Tryz.call36 (DA _ Q hQ) ?_;rintro e w ⟨rfl,hE2⟩;rw [hK.out];replace hS:=hS.ext hE2;clear hE2;refine AX ?_;go_step|go_skip|refine X0 ?_|refine IR ?_|refine K1 10 ?_ ?_<;>intro hB<;>(try exact Kk hB)<;>go_step|refine K1 15 ?_ ?_<;>intro hB<;>(try exact Kk hB)<;>go_step|refine Et 20 ?_ ?_<;>intro hB<;>(try exact AQ)<;>go_step|refine Et 24 ?_ ?_<;>intro hB<;>(try exact AQ)<;>go_step|refine Yp ?_|refine Zr ?_|refine bp ?_|refine UG ?_|refine KS ?_|refine UF ?_|refine X3 ?_|refine Js 1 ?_;clear hS;intro g1 w hS|refine Vx ?_|refine WJ ?_|refine AH ?_;go_step|fail)
  refine A9 rfl (AB.tmp rfl) rfl ?_
  exact ⟨rfl,hS.1⟩
theorem eF{x y:Int}(h:x=y):Ending.returned (.int .i64 x)= .returned (.int .i64 y):=by rw [h]
theorem GX(C:List Int)(v:Value)(h:Ac C 16):(AF [.ints C, .val v]).length=17:=by
 have:=h.out
 simp [AF,Ae.cells,this]
theorem gB(C1 C2:List Int)(v1 v2:Value):AF [.ints C1, .val v1]++(AF [.ints C2, .val v2]++[])=AF [.ints C1, .val v1, .ints C2, .val v2]:=by
 simp [AF,Ae.cells]
theorem Qb{W w:World}{rs:List Aq}{g:Nat}{C1 C2:List Int}{v1 v2:Value}(hS:St W w (blk g (AF [.ints C1, .val v1]++(AF [.ints C2, .val v2]++[]))::rs)):St W w (prt g [.ints C1, .val v1, .ints C2, .val v2]::rs):=by
 rw [gB] at hS;exact hS
theorem Pm(w0:World)(W H p ev:Int)(Q C1 C2 S1 S2:List Int)(a1 a2 ad:Option Addr)(n1 n2 nd c1 c2 cd:Nat)(hQ:Ac Q 64)(hC1:Ac C1 16)(hC2:Ac C2 16)(hs1:Sl w0 1 (.slice a1 n1 c1) n1 (S1.map (Value.int .i64)))(hs2:Sl w0 1 (.slice a2 n2 c2) n2 (S2.map (Value.int .i64)))(hn1:n1≤9223372036854775807)(hn2:n2≤9223372036854775807)(hnd:nd≤9223372036854775807)(h:(1≤W∧W≤64)∧(1≤H∧H≤64)∧(p=1∨p=3)∧(0≤ev∧ev≤100))(hk:J8 Q=true):
 Calls Tryz.prog 52 #[.agg (AF [.val (.int .i64 W), .val (.int .i64 H), .val (.int .i64 p), .ints Q, .ints C1, .val (.slice a1 n1 c1), .ints C2, .val (.slice a2 n2 c2), .val (.int .i64 ev), .val (.slice ad nd cd)]).toArray] w0 fun e w=>e= .returned (.int .i64 (if A4 C1 S1=0 then if A4 C2 S2=0 then if nd≤90000 then 0 else 2 else A4 C2 S2 else A4 C1 S1))∧Af w0 w:=by
 have hS:=St.start w0
 have hL1:=AD (GX C1 (.slice a1 n1 c1) hC1)
 have hL2:=AD (GX C2 (.slice a2 n2 c2) hC2)
 have hK:=AD hk
 have hD:=AD (decide_eq_true h.1)
 have hD2:=AD (decide_eq_true h.2.1)
 have hD3:=AD (decide_eq_true h.2.2.2)
 have hp:=h.2.2.1
 clear h hk
 obtain ⟨E1,hE1⟩:∃x,A4 C1 S1=x:=⟨_,rfl⟩
 obtain ⟨E2,hE2⟩:∃x,A4 C2 S2=x:=⟨_,rfl⟩
 have HE1:=AD hE1
 have HE2:=AD hE2
 rw [hE1,hE2]
 clear hE1 hE2
 rcases hp with rfl|rfl
 all_goals
  go_enter Tryz.func52,Tryz.ntmps52
  repeat' (first
   | (refine Al 91 ?_);refine Am AA Tryz.call91 (Az _ _ _ _) ?_;rintro e w ⟨rfl,hE2⟩;rw [hD.out];replace hS:=hS.ext hE2;clear hE2;refine AX ?_;go_step|(refine Al 91 ?_);refine Am AA Tryz.call91 (Az _ _ _ _) ?_;rintro e w ⟨rfl,hE2⟩;rw [hD2.out];replace hS:=hS.ext hE2;clear hE2;refine AX ?_;go_step|(refine Al 91 ?_);refine Am AA Tryz.call91 (Az _ _ _ _) ?_;rintro e w ⟨rfl,hE2⟩;rw [hD3.out];replace hS:=hS.ext hE2;clear hE2;refine AX ?_;go_step|(refine Al 36 ?_);refine Am AA Tryz.call36 (DA _ Q hQ) ?_;rintro e w ⟨rfl,hE2⟩;rw [hK.out];replace hS:=hS.ext hE2;clear hE2;refine AX ?_;go_step|(refine AP 45 ?_);refine Ad ?_;refine AT (o:=⟨some 45,_,_,_,_,_⟩) hS 115 2 _ rfl 32 17 152 M9 _ _ (AW.agg rfl hL1.out (AW.agg rfl hL2.out AW.nil)) rfl (by decide) (by decide) ?_;clear hS;intro g45 w hS;replace hS:=Qb hS|go_skip|refine X0 ?_|refine IR ?_|refine K1 10 ?_ ?_<;>intro hB<;>(try exact Kk hB)<;>go_step|refine K1 15 ?_ ?_<;>intro hB<;>(try exact Kk hB)<;>go_step|refine Et 20 ?_ ?_<;>intro hB<;>(try exact AQ)<;>go_step|refine Et 24 ?_ ?_<;>intro hB<;>(try exact AQ)<;>go_step|refine Yp ?_|refine Zr ?_|refine bp ?_|refine UG ?_|refine KS ?_|refine UF ?_|refine X3 ?_|refine bq ?_|refine Zp ?_|refine Zq ?_|refine ek ?_|refine Js 1 ?_;clear hS;intro g1 w hS|refine Vx ?_|refine WJ ?_|refine KZ ?_|refine AH ?_;go_step|fail)
  clear hL1 hL2 hD hD2 hD3 hK
  go_loopg [47] 2 (fun gk kv w=>∃k:Nat,gk+k=2∧kv= .int .i64 k∧(1≤k→E1=0)∧(2≤k→E2=0)∧St w0 w [prt g1 [.val (.int .i64 W), .val (.int .i64 H), .val (.int .i64 _), .ints Q, .ints C1, .val (.slice a1 n1 c1), .ints C2, .val (.slice a2 n2 c2), .val (.int .i64 ev), .val (.slice ad nd cd)],prt g45 [.ints C1, .val (.slice a1 n1 c1), .ints C2, .val (.slice a2 n2 c2)]])
  case atStart=>exact ⟨0,rfl,rfl,fun h=>absurd h (by omega),fun h=>absurd h (by omega),hS.sub AV⟩
  case round=>
   clear hS
   obtain ⟨k,hk,rfl,HA,HB,hS⟩:=hrel
   by_cases hlt:k<2
   ·obtain rfl|rfl:k=0∨k=1:=by omega
    ·
     repeat' (first
      | (refine Al 73 ?_);refine Am AA Tryz.call73 (Ca _ C1 S1 a1 n1 c1 hC1 (hs1.ext hS.1) hn1) ?_;rintro e w ⟨rfl,hE2⟩;rw [HE1.out];replace hS:=hS.ext hE2;clear hE2;refine AX ?_;go_step|refine X0 ?_|refine X2 ?_|refine WP 49 ?_|refine X3 ?_|refine X7 ?_|refine KZ ?_|refine RC 5 ?_;clear hS;intro g5 w hS|refine RE ?_;clear hS;intro w hS|refine AH ?_;go_step|fail)
     ·
      refine A9 rfl (AB.tmp rfl) rfl ?_
      exact ⟨eF (by (repeat' split)<;>omega),hS.1⟩
     ·go_roundg (gk-1)
      case measure=>omega
      case rel=>exact ⟨1,by omega,rfl,fun _=>by omega,fun h=>absurd h (by omega),hS.sub AV⟩
    ·have h0:=HA (by omega)
     subst h0
     repeat' (first
      | (refine Al 73 ?_);refine Am AA Tryz.call73 (Ca _ C2 S2 a2 n2 c2 hC2 (hs2.ext hS.1) hn2) ?_;rintro e w ⟨rfl,hE2⟩;rw [HE2.out];replace hS:=hS.ext hE2;clear hE2;refine AX ?_;go_step|refine X0 ?_|refine X2 ?_|refine WP 49 ?_|refine X3 ?_|refine X7 ?_|refine KZ ?_|refine RC 5 ?_;clear hS;intro g5 w hS|refine RE ?_;clear hS;intro w hS|refine AH ?_;go_step|fail)
     ·
      refine A9 rfl (AB.tmp rfl) rfl ?_
      exact ⟨eF (by (repeat' split)<;>omega),hS.1⟩
     ·go_roundg (gk-1)
      case measure=>omega
      case rel=>exact ⟨2,by omega,rfl,fun _=>rfl,fun _=>by omega,hS.sub AV⟩
   obtain rfl:k=2:=by omega
   have h1:=HA (by omega)
   have h2:=HB (by omega)
   subst h1
   subst h2
   repeat' (first
    | refine X8 ?_|refine X2 ?_|refine dU ?_|refine bm ?_|refine G6 ?_|refine ZX ?_|refine AH ?_;go_step|fail)
   all_goals
    refine A9 rfl (AB.tmp rfl) rfl ?_
    exact ⟨eF (by (repeat' split)<;>omega),hS.1⟩
end Go.Proofs.YtohacgmhmbijmaaGreatDoor
namespace Go.Proofs.YtohacgmhmbijmaaGreatDoor
attribute [local irreducible] Region.wanted
open Go.RowKit
set_option linter.unusedVariables false
set_option maxRecDepth 100000
set_option maxHeartbeats 8000000
def gu(g:Nat)(cs:List Value):Aq where
 holds w f:=f=[g]∧∃t m,w.heap[g]? =some (.cells cs.toArray t m)
 lt:=fun ⟨e,t,m,h⟩ b hb=>by
  rw [e,List.mem_singleton] at hb
  rw [hb]
  exact (Array.getElem?_eq_some_iff.1 h).1
 loc:=fun ⟨e,t,m,h⟩ hs=>⟨e,t,m,by rw [hs _ (by rw [e];simp)];exact h⟩
section
variable{P:Program}{W w:World}{rs rs':List Aq}{Q:Exit→Act→World→Prop}{K:Act→World→Prop}{o:Oper}{a:Act}
theorem Uy(w:World)(g k:Nat)(C:Array Value)(t:TypeId)(h:w.heap[g]? =some (.cells C t (0,0))):(w.freeze ⟨g,k,none⟩ 1).heap[g]? =some (.cells C t (k,k+1)):=by
 unfold World.freeze
 rw [if_neg (by decide)]
 simp only [Array.getElem?_modify,if_true,h,Option.map_some]
 simp
theorem Pz(w:World)(g k:Nat):ES [g] w (w.freeze ⟨g,k,none⟩ 1):=by
 unfold World.freeze
 rw [if_neg (by decide)]
 refine ⟨rfl,rfl,rfl,by simp,fun j hj hm=>?_⟩
 simp only [List.mem_singleton] at hm
 show (w.heap.modify g _)[j]? =w.heap[j]?
 rw [Array.getElem?_modify,if_neg (fun e=>hm e.symm)]
theorem Qs(hS:St W w rs)(t:TypeId)(x:Operand)(ho:o.op= .convert t t x)(e:TypeId)(ht:P.underlying t=some (.slice e))(he:P.underlying e=some (.int .u8))(g n c:Nat)(hx:a.eval x= .slice (some ⟨g,0,none⟩) n c)(cs:List Value)(hp:AU (blk g cs) rs rs')
 (h:∀w',St W w' (gu g cs::rs')→K (a.put o.dst (.slice (some ⟨g,0,none⟩) n c)) w'):o.wp P a w K Q:=by
 obtain ⟨⟨t0,hb⟩,_⟩:=hS.blk hp
 have hsh:w.shape? g=some (t0,cs.length):=by unfold World.shape?;rw [hb];simp
 have hr:(convert t t (.slice (some ⟨g,0,none⟩) n c)).run P w= .ok (.slice (some ⟨g,0,none⟩) n c) (w.freeze ⟨g,cs.length,none⟩ 1):=by
  simp [convert,run_underlying ht,run_underlying he,markStringish,hsh]
 have hst:St W (w.freeze ⟨g,cs.length,none⟩ 1) ([gu g cs]++rs'):=by
  refine St.change (hS.pull hp) fun f1 h1 hf1 hn1=>?_
  obtain ⟨rfl,h1⟩:=h1
  refine ⟨[g],⟨[g],[],by simp,⟨rfl,t0,_,Uy w g cs.length _ t0 hb⟩,rfl⟩,by simp,fun b hb2=> .inl hb2,Pz w g _⟩
 have hk:=h _ hst
 unfold Oper.wp execOp
 simp only [ho,hx,Sem.run_bind,hr,Result.andThen_ok,Sem.run_pure]
 exact hk
theorem SO(hS:St W w rs)(s x:Operand)(t:TypeId)(ho:o.op= .call {callee:= .builtin .append,args:=#[s,x],argTypes:=#[t,t]})(e:TypeId)(sz b:Nat)(el:CG P t e sz b)
 (g n:Nat) (xs:List Value) (hs:a.eval s= .slice (some ⟨g,0,none⟩) n n) (hxs:xs.length=n*sz) (hp:AU (gu g xs) rs rs') (v:Value) (hx:a.eval x=v) (m:Nat) (news:List Value) (hm:Sl w sz v m news) (hm0:0<m)
 (h63:n+m≤maxLen) (hb:(n+m)*b≤140737488355328)
 (h:∀ad' c' w',St W w' (own e sz ad' (n+m) c' (xs++news)::rs)→K (a.put o.dst (.slice ad' (n+m) c')) w'):o.wp P a w K Q:=by
 obtain ⟨ht,⟨i,z,hi,hz,hsz,hby,hzs⟩,hpos⟩:=el
 subst hsz
 subst hby
 obtain ⟨h1S,f,hnd,hf,f1,f2,ef,⟨e1,t0,m0,hblk⟩,hrest⟩:=hS.pull hp
 obtain ⟨hl,aa,cc,rfl,hmc,hcm,hor⟩:=hm
 rcases hor with rfl|⟨bb,off,rfl,hcells⟩
 ·omega
 have hcell:∀j u,xs[j]? =some u→w.cell? ((⟨g,0,none⟩:Addr).add j)=some u:=fun j u hu=>by
  have e0:((⟨g,0,none⟩:Addr).add j)=⟨g,j,none⟩:=by rw [Addr.add_mid,Nat.zero_add]
  rw [e0,cell_of_row w g j _ _ _ hblk]
  simpa using hu
 have hnews:∀j u,news[j]? =some u→w.cell? ((⟨bb,off,none⟩:Addr).add j)=some u:=fun j u hu=>by
  have hj:j<m*i.size:=by rw [←hl];exact (List.getElem?_eq_some_iff.1 hu).1
  rw [Addr.add_mid,hcells j hj,hu]
 have hr:=run_append_grow (P:=P) w t o.type e i z ht hi hz ⟨g,0,none⟩ n n xs hxs hcell ⟨bb,off,none⟩ m cc news hl hnews (by omega) (by simp only [maxLen] at h63;omega) (growslice_fits (by omega) hb)
 have hge:=grownCap_ge w (n+m) n e
 have hcm2:grownCap w (n+m) n e≤maxLen:=grownCap_le_maxLen w (n+m) n e h63
 have hlen:(xs++news).length=(n+m)*i.size:=by rw [List.length_append,hxs,hl,Nat.add_mul]
 have hown:(w.drew.alloc (.cells (xs.toArray++news.toArray++Builtin.zeroCells z.cells (grownCap w (n+m) n e-(n+m))) e)).ownsRow 0 e i.size
  (.slice (some ⟨w.heap.size,0,none⟩) (n+m) (grownCap w (n+m) n e)) (n+m) (xs++news):=by
  refine ⟨hlen, .inr ⟨w.heap.size,_,_,rfl,Nat.zero_le _,heap_alloc_new w.drew _,hge,hcm2,?_,?_⟩⟩
  ·simp only [Array.size_append,List.size_toArray,size_zeroCells,hzs,hxs,hl,←Nat.add_mul]
   congr 1
   omega
  simp only [Array.toList_append,List.append_assoc]
  rw [←List.append_assoc,←hlen]
  exact List.take_left
 have hst:St W (w.drew.alloc (.cells (xs.toArray++news.toArray++Builtin.zeroCells z.cells (grownCap w (n+m) n e-(n+m))) e)) (own e i.size (some ⟨w.heap.size,0,none⟩) (n+m) (grownCap w (n+m) n e) (xs++news)::rs):=by
  obtain ⟨h1,f,h2,h3,h4⟩:=hS.drew
  refine ⟨h1.alloc _,w.heap.size::f,List.nodup_cons.2 ⟨fun hm=>by have:w.heap.size<w.drew.heap.size:=h4.lt _ hm;exact absurd this (Nat.lt_irrefl _),h2⟩,fun b hb=>?_,[w.heap.size],f,rfl,⟨rfl,hown⟩,h4.loc fun b hb=>?_⟩
  ·rcases List.mem_cons.1 hb with h|h
   ·rw [h];exact h1.sz
   exact h3 b h
  exact heap_alloc_old w.drew _ (h4.lt b hb)
 have hk:=h _ _ _ hst
 unfold Oper.wp execOp
 simp only [ho,resolve,invoke,builtin,Sem.run_bind,Sem.run_pure,Result.andThen_ok,List.map_toArray,List.map_cons,List.map_nil,hs,hx,hr]
 exact hk
end
section
variable{P:Program}{a:Act}{x y:Operand}{t ty u:TypeId}
end
end Go.Proofs.YtohacgmhmbijmaaGreatDoor
namespace Go.Proofs.YtohacgmhmbijmaaGreatDoor
attribute [local irreducible] Region.wanted
open Go.ChangeShapes Go.WideShapes Go.ChangeAt Go.RowKit Go.Deep
set_option linter.unusedVariables false
set_option maxRecDepth 100000
set_option maxHeartbeats 8000000
theorem Ht(w0:World)(f:A8)(a1 a2 ad:Option Addr)(n1 n2 nd c1 c2 cd:Nat)(hQ:Ac f.quant 64)(hC1:Ac f.c1 16)(hC2:Ac f.c2 16)(hs1:Sl w0 1 (.slice a1 n1 c1) n1 (f.s1.map (Value.int .i64)))(hs2:Sl w0 1 (.slice a2 n2 c2) n2 (f.s2.map (Value.int .i64)))(hn1:n1≤9223372036854775807)(hn2:n2≤9223372036854775807)(hnd:nd≤9223372036854775807)(hd:f.data.length=nd):
 Calls Tryz.prog 52 #[fv f (.slice a1 n1 c1) (.slice a2 n2 c2) (.slice ad nd cd)] w0 fun e w=>e= .returned (.int .i64 (Bo f))∧Af w0 w:=by
 by_cases h1:Hr f
 ·by_cases h2:J8 f.quant=true
  ·have e:Bo f=if A4 f.c1 f.s1=0 then if A4 f.c2 f.s2=0 then if nd≤90000 then 0 else 2 else A4 f.c2 f.s2 else A4 f.c1 f.s1:=by unfold Bo;rw [if_pos h1,if_pos h2,hd]
   rw [e]
   exact Pm w0 _ _ _ _ _ _ _ _ _ a1 a2 ad n1 n2 nd c1 c2 cd hQ hC1 hC2 hs1 hs2 hn1 hn2 hnd h1 h2
  have e:Bo f=1:=by unfold Bo;rw [if_pos h1,if_neg h2]
  rw [e]
  exact N0 w0 _ _ _ _ _ _ _ _ _ _ hQ hC1 hC2 h1 (by simpa using h2)
 have e:Bo f=1:=by unfold Bo;rw [if_neg h1]
 rw [e]
 exact Pj w0 _ _ _ _ _ _ _ _ _ _ hQ hC1 hC2 h1
theorem Hg(A:List Int)(k:Nat)(h:k<A.length):A.take (k+1)=A.take k++[AJ A k]:=by
 rw [List.take_succ_eq_append_getElem h]
 simp [AJ,List.getD,h]
def cb(C:List Int):Nat→List Int
 | 0=>[]
 | k+1=>cb C k++[AJ C k/256,AJ C k%256]
def L6(C S:List Int):List Int:=cb C 16++S
def G9(f:A8):List Int:=[77,90]++[f.wide,f.high,f.parts,f.every]
def Vf(f:A8):Nat→List Int
 | 0=>[]
 | 1=>L6 f.c1 f.s1
 | _=>L6 f.c1 f.s1++L6 f.c2 f.s2
def BV(f:A8):List Int:=f.data.map fun (x:Nat)=>(x:Int)
def BF(f:A8):List Int:=G9 f++EQ f.quant++Vf f 2++BV f
theorem FK{f:A8}(h:Bo f=0):Hr f∧J8 f.quant=true∧A4 f.c1 f.s1=0∧A4 f.c2 f.s2=0∧f.data.length≤90000:=by
 unfold Bo at h
 split at h
 ·rename_i h1
  split at h
  ·rename_i h2
   split at h
   ·rename_i h3
    split at h
    ·rename_i h4
     split at h
     ·rename_i h5
      exact ⟨h1,h2,h3,h4,h5⟩
     cases h
    rename_i h4;exact absurd h h4
   rename_i h3;exact absurd h h3
  cases h
 cases h
theorem Hz{S:List Int}{lo hi:Int}(h:∀s∈S,lo≤s∧s<hi)(i:Nat)(hi2:i<S.length):lo≤AJ S i∧AJ S i<hi:=by
 have e:AJ S i=S[i]:=by simp [AJ,List.getD,hi2]
 rw [e]
 exact h _ (List.getElem_mem hi2)
theorem Yo{Q:List Int}(hQ:Q.length=64)(h:J8 Q=true)(i:Nat)(hi:i<64):1≤AJ (EQ Q) i∧AJ (EQ Q) i≤255:=by
 rw [Fv Q i hi]
 exact (BG Q 1 255).1 h (zn i) (by rw [hQ];exact KJ i hi)
theorem QJ(w0:World)(f:A8)(a1 a2 ad:Option Addr)(n1 n2 nd c1 c2 cd:Nat)(hQ:Ac f.quant 64)(hC1:Ac f.c1 16)(hC2:Ac f.c2 16)(hs1:Sl w0 1 (.slice a1 n1 c1) n1 (f.s1.map (Value.int .i64)))(hs2:Sl w0 1 (.slice a2 n2 c2) n2 (f.s2.map (Value.int .i64)))(hn1:n1≤9223372036854775807)(hn2:n2≤9223372036854775807)(hnd:nd≤9223372036854775807)(hd:f.data.length=nd)(E:Int)(hE:Bo f=E)(hE0:E≠0):
 Calls Tryz.prog 39 #[fv f (.slice a1 n1 c1) (.slice a2 n2 c2) (.slice ad nd cd)] w0 fun e w=>e= .returned (.tuple #[.slice none 0 0, .int .i64 E])∧Af w0 w:=by
 have hS:=St.start w0
 have HC:∀w,Af w0 w→Calls Tryz.prog 52 #[fv f (.slice a1 n1 c1) (.slice a2 n2 c2) (.slice ad nd cd)] w fun e w'=>e= .returned (.int .i64 E)∧Af w w':=fun w hx=>hE▸ Ht w f a1 a2 ad n1 n2 nd c1 c2 cd hQ hC1 hC2 (hs1.ext hx) (hs2.ext hx) hn1 hn2 hnd hd
 have HCh:=AD HC
 obtain ⟨W,H,p,Q,C1,S1,C2,S2,ev,D⟩:=f
 clear HC hd hE
 go_enter Tryz.func39,Tryz.ntmps39
 repeat' (first
  | (refine Al 52 ?_);refine Am AA Tryz.call52 (HCh.out _ hS.1) (EW hS ?_);clear hS;intro w hS;go_step|refine X0 ?_|refine X3 ?_|refine Js 1 ?_;clear hS;intro g1 w hS|refine JE ?_|refine AH ?_;go_step|fail)
 refine AM (xs:=[_,_]) rfl (.cons (AB.tmp rfl) (.cons (AB.tmp rfl) (.nil))) (by simp) rfl ?_
 exact ⟨rfl,hS.1⟩
theorem eL(f:A8)(v1 v2:Value)(hC1:Ac f.c1 16)(hC2:Ac f.c2 16)(k:Nat)(hk:k<2):∃(C S:List Int) (v:Value),(k=0∧C=f.c1∧S=f.s1∧v=v1∨k=1∧C=f.c2∧S=f.s2∧v=v2)∧Ac C 16∧GZ [.ints f.c1, .val v1, .ints f.c2, .val v2] (k*17) 17 [.ints C, .val v]∧Vf f (k+1)=Vf f k++L6 C S:=by
 obtain rfl|rfl:k=0∨k=1:=by omega
 ·exact ⟨f.c1,f.s1,v1, .inl ⟨rfl,rfl,rfl,rfl⟩,hC1, .head (.ints hC1 (by omega) rfl (.val .nil)),by simp [Vf]⟩
 exact ⟨f.c2,f.s2,v2, .inr ⟨rfl,rfl,rfl,rfl⟩,hC2, .skipI hC1 (by omega) rfl (.skipV (.head (.ints hC2 (by omega) rfl (.val .nil)))),rfl⟩
theorem TV(w0:World)(f:A8)(a1 a2 ad:Option Addr)(n1 n2 nd c1 c2 cd:Nat)(hQ:Ac f.quant 64)(hC1:Ac f.c1 16)(hC2:Ac f.c2 16)(hs1:Sl w0 1 (.slice a1 n1 c1) n1 (f.s1.map (Value.int .i64)))(hs2:Sl w0 1 (.slice a2 n2 c2) n2 (f.s2.map (Value.int .i64)))(hsd:Sl w0 1 (.slice ad nd cd) nd ((BV f).map (Value.int .u8)))(hE:Bo f=0):
 Calls Tryz.prog 39 #[fv f (.slice a1 n1 c1) (.slice a2 n2 c2) (.slice ad nd cd)] w0 fun e w=>∃(ao:Option Addr) (co:Nat),e= .returned (.tuple #[.slice ao (BF f).length co, .int .i64 0])∧St w0 w [own 5 1 ao (BF f).length co ((BF f).map (Value.int .u8))]:=by
 have hS:=St.start w0
 obtain ⟨hdm,hqk,ht1,ht2,hdl⟩:=FK hE
 have hl1:f.s1.length=n1:=by have:=hs1.1;simpa using this
 have hl2:f.s2.length=n2:=by have:=hs2.1;simpa using this
 have hld:f.data.length=nd:=by have:=hsd.1;simpa [BV] using this
 have k1:=B8 ht1
 have k2:=B8 ht2
 have hb1:=k1.2.2.1
 have hb2:=k2.2.2.1
 have HC:∀w,Af w0 w→Calls Tryz.prog 52 #[fv f (.slice a1 n1 c1) (.slice a2 n2 c2) (.slice ad nd cd)] w fun e w'=>e= .returned (.int .i64 0)∧Af w w':=fun w hx=>hE▸ Ht w f a1 a2 ad n1 n2 nd c1 c2 cd hQ hC1 hC2 (hs1.ext hx) (hs2.ext hx) (by omega) (by omega) (by omega) hld
 have HCh:=AD HC
 have HZ:=AD fun i hi=>Yo hQ.out hqk i hi
 have HT:∀k,k<2→∃(C S:List Int) (a:Option Addr) (n c:Nat),Ac C 16∧GZ [.ints f.c1, .val (.slice a1 n1 c1), .ints f.c2, .val (.slice a2 n2 c2)] (k*17) 17 [.ints C, .val (.slice a n c)]∧Vf f (k+1)=Vf f k++L6 C S∧Sl w0 1 (.slice a n c) n (S.map (Value.int .i64))∧S.length=n∧n≤256∧(∀i,i<16→0≤AJ C i∧AJ C i≤256)∧(∀i,i<n→0≤AJ S i∧AJ S i<256):=fun k hk=>by
  obtain ⟨C,S,v,h1,h2,h3,h4⟩:=eL f (.slice a1 n1 c1) (.slice a2 n2 c2) hC1 hC2 k hk
  obtain ⟨_,rfl,rfl,rfl⟩|⟨_,rfl,rfl,rfl⟩:=h1
  ·exact ⟨_,_,a1,n1,c1,h2,h3,h4,hs1,hl1,by omega,k1.1,fun i hi=>Hz k1.2.2.2.1 i (by omega)⟩
  exact ⟨_,_,a2,n2,c2,h2,h3,h4,hs2,hl2,by omega,k2.1,fun i hi=>Hz k2.2.2.2.1 i (by omega)⟩
 have HTh:=AD HT
 have hLz:=AD (Bx f.quant)
 have HP:=AD (show BF f=G9 f++EQ f.quant++Vf f 2++BV f from rfl)
 have HH:=AD (show G9 f=[77,90]++[f.wide,f.high,f.parts,f.every] from rfl)
 obtain ⟨P,hP⟩:∃x,BF f=x:=⟨_,rfl⟩
 obtain ⟨Hd,hHd⟩:∃x,G9 f=x:=⟨_,rfl⟩
 obtain ⟨Dt,hDt⟩:∃x,BV f=x:=⟨_,rfl⟩
 obtain ⟨Tb,hTb⟩:∃x,Vf f=x:=⟨_,rfl⟩
 have HT0:=AD (show Vf f 0=[] from rfl)
 rw [hP]
 rw [hP,hHd,hDt,hTb] at HP
 rw [hHd] at HH
 rw [hDt] at hsd
 rw [hTb] at HTh HT0
 have hLt1:=AD (GX f.c1 (.slice a1 n1 c1) hC1)
 have hLt2:=AD (GX f.c2 (.slice a2 n2 c2) hC2)
 obtain ⟨W,H,p,Q,C1,S1,C2,S2,ev,D⟩:=f
 obtain ⟨hw,hh,hp,hev⟩:=hdm
 dsimp only at hw hh hp hev hQ hC1 hC2 hs1 hs2 hsd hl1 hl2 hld HH HZ HTh hLz hLt1 hLt2 hb1 hb2 hdl HP
 have hpb:1≤p∧p≤3:=by omega
 obtain ⟨Z,hZ⟩:∃x,EQ Q=x:=⟨_,rfl⟩
 have HZq:=AD hZ
 rw [hZ] at HZ hLz HP
 clear HC HT hE hqk ht1 ht2 k1 k2 hP hHd hDt hTb hp hZ
 show Calls Tryz.prog 39 #[.agg (AF [.val (.int .i64 W), .val (.int .i64 H), .val (.int .i64 p), .ints Q, .ints C1, .val (.slice a1 n1 c1), .ints C2, .val (.slice a2 n2 c2), .val (.int .i64 ev), .val (.slice ad nd cd)]).toArray] _ _
 go_enter Tryz.func39,Tryz.ntmps39
 repeat' (first
  | (refine Al 52 ?_);refine Am AA Tryz.call52 (HCh.out _ hS.1) (EW hS ?_);clear hS;intro w hS;go_step|(refine AP 20 ?_);refine Ad ?_;refine Qs (o:=⟨some 20,_,_,_,_,_⟩) hS 35 _ rfl 5 Tryz.underlying35 Tryz.underlying5 _ _ _ rfl _ AK ?_;clear hS;intro w hS;refine AC ?_;go_step|(refine AP 34 ?_);refine Ad ?_;refine SO (o:=⟨some 34,_,_,_,_,_⟩) hS _ _ 35 rfl 5 1 1 Hs _ _ _ rfl rfl AK _ rfl 4 _ (hS.slBlk (n:=4) AK (by rfl) (by decide)) (by decide) (by decide) (by decide) ?_;clear hS;intro ad34 c34 w hS;refine AC ?_;go_step|(refine Al 65 ?_);refine Am AA Tryz.call65 (T9 _ Q hQ.out) ?_;rintro e w ⟨rfl,hE2⟩;rw [HZq.out];replace hS:=hS.ext hE2;clear hE2;refine AX ?_;go_step|refine X0 ?_|refine X3 ?_|refine Yp ?_|refine WF ?_|refine Zr ?_|refine bp ?_|refine UG ?_|refine UF ?_|refine Js 1 ?_;clear hS;intro g1 w hS|refine JE ?_|refine ec 19 ?_;clear hS;intro g19 w hS|refine Vx ?_|(refine AP 33 ?_);(refine Ad ?_;apply AT (o:=⟨some 33,_,_,_,_,_⟩) hS 35 4 _ rfl 5 1 1 Hs _ _;(case hvs=>(repeat (first|exact AW.nil|(apply AW.agg;(rfl);(rfl))|(apply AW.one;exact CC;(rfl);(rfl)))));(case hn=>rfl);(case hn0=>decide);(case hns=>decide);clear hS;intro g33 w hS;refine AC ?_;go_step)|refine WJ ?_|refine AH ?_;go_step|fail)
 have e0:[Value.int .u8 77,Value.int .u8 90]++[Value.int .u8 W,Value.int .u8 H,Value.int .u8 p,Value.int .u8 ev]=(Hd++Z.take 0).map (Value.int .u8):=by rw [HH.out];simp
 clear hLt1 hLt2 HCh HZq
 go_loopg [5,38] 64 (fun gk bv kv w=>∃(k:Nat) (a:Option Addr) (c M:Nat),gk+k=64∧kv= .int .i64 k∧M=6+k∧bv= .slice a M c∧St w0 w [own 5 1 a M c ((Hd++Z.take k).map (Value.int .u8)),prt g1 [.val (.int .i64 W), .val (.int .i64 H), .val (.int .i64 p), .ints Q, .ints C1, .val (.slice a1 n1 c1), .ints C2, .val (.slice a2 n2 c2), .val (.int .i64 ev), .val (.slice ad nd cd)]])
 case atStart=>exact ⟨0,ad34,c34,2+4,rfl,rfl,rfl,rfl,by rw [←e0];exact hS.sub AV⟩
 case round=>
  clear hS e0
  obtain ⟨k,ba,bc,M,hk,rfl,hM,rfl,hS⟩:=hrel
  by_cases hlt:k<64
  ·have hx:=HZ.out k hlt
   have HX2:Hid ((Hd++Z.take k)++[AJ Z k]=Hd++Z.take (k+1)):=AD (by rw [Hg Z k (by rw [hLz.out];exact hlt),List.append_assoc])
   obtain ⟨x,hxe⟩:∃x,AJ Z k=x:=⟨_,rfl⟩
   have HX:=AD hxe
   rw [hxe] at hx HX2
   clear hxe
   repeat' (first
    | (refine AP 40 ?_);refine Ag (.int .i64 x) (V.as (V.indexIv Tryz.underlying26 Tryz.underlying3 EA rfl rfl hLz.out Bh.cast (by omega)) HX.out) AA ?_;go_step|refine X0 ?_|refine X2 ?_|refine WF ?_|refine X7 ?_|refine WC 44 ?_;clear hS;intro g44 w hS|refine Zm 45 ?_;clear hS;intro ad45 c45 w hS|refine AH ?_;go_step|fail)
   go_roundg (gk-1)
   case measure=>omega
   case rel=>exact ⟨k+1,_,_,M+1,by omega,by go_num,by omega,rfl,by rw [←HX2.out];exact hS.sub AV⟩
  obtain rfl:k=64:=by omega
  obtain rfl:M=70:=by omega
  have hL0:Hd++Z.take 64=Hd++Z++Tb 0:=by rw [List.take_of_length_le (by rw [hLz.out];omega),HT0.out,List.append_nil]
  rw [hL0] at hS
  clear hL0
  have hL1:=AD (GX C1 (.slice a1 n1 c1) hC1)
  have hL2:=AD (GX C2 (.slice a2 n2 c2) hC2)
  repeat' (first
   | (refine AP 53 ?_);refine Ad ?_;refine AT (o:=⟨some 53,_,_,_,_,_⟩) hS 115 2 _ rfl 32 17 152 M9 _ _ (AW.agg rfl hL1.out (AW.agg rfl hL2.out AW.nil)) rfl (by decide) (by decide) ?_;clear hS;intro g53 w hS;replace hS:=Qb hS|refine X1 ?_|refine X2 ?_|refine bq ?_|refine Zp ?_|refine Zq ?_|refine ek ?_|refine KZ ?_|refine AH ?_;go_step|fail)
  clear hL1 hL2
  go_loopg [5,55] 2 (fun gk bv kv w=>∃(k:Nat) (a:Option Addr) (c M:Nat),gk+k=2∧kv= .int .i64 k∧M≤70+300*k∧bv= .slice a M c∧St w0 w [own 5 1 a M c ((Hd++Z++Tb k).map (Value.int .u8)),prt g1 [.val (.int .i64 W), .val (.int .i64 H), .val (.int .i64 p), .ints Q, .ints C1, .val (.slice a1 n1 c1), .ints C2, .val (.slice a2 n2 c2), .val (.int .i64 ev), .val (.slice ad nd cd)],prt g53 [.ints C1, .val (.slice a1 n1 c1), .ints C2, .val (.slice a2 n2 c2)]])
  case atStart=>exact ⟨0,ba,bc,_,rfl,rfl,(by omega),rfl,hS.sub AV⟩
  case round=>
   clear hS
   obtain ⟨k,ba,bc,M,hk,rfl,hM,rfl,hS⟩:=hrel
   by_cases hlt:k<2
   ·obtain ⟨C,S,sa,sn,sc,hC,hAt,hTk,hs,hsl,hsn,hCr,hSr⟩:=HTh.out k hlt
    have HCr:=AD hCr
    have HSr:=AD hSr
    have HTk:=AD hTk
    have HAt:=AD hAt
    obtain ⟨B0,hB0⟩:∃x,Hd++Z++Tb k=x:=⟨_,rfl⟩
    have HB0:=AD hB0
    rw [hB0] at hS
    obtain ⟨gk1,hgk1⟩:∃x,x=gk:=⟨_,rfl⟩
    subst hgk1
    clear hCr hSr hTk hAt hB0
    repeat' (first
     | (refine AP 58 ?_);refine Ad ?_;refine Cq (o:=⟨some 58,_,_,_,_,_⟩) hS 32 _ rfl _ _ rfl 17 (AO rfl) _ AK _ HAt.out ?_;refine AC ?_;go_step|refine X1 ?_|refine X2 ?_|refine WP 57 ?_|refine dT ?_|refine RC 9 ?_;clear hS;intro g9 w hS|refine RE ?_;clear hS;intro w hS|refine UH ?_|refine AH ?_;go_step|fail)
    go_loopg [5,61] 16 (fun gk bv kv w=>∃(i:Nat) (a:Option Addr) (c N:Nat),gk+i=16∧kv= .int .i64 i∧N=M+2*i∧bv= .slice a N c∧St w0 w [own 5 1 a N c ((B0++cb C i).map (Value.int .u8)),prt g1 [.val (.int .i64 W), .val (.int .i64 H), .val (.int .i64 p), .ints Q, .ints C1, .val (.slice a1 n1 c1), .ints C2, .val (.slice a2 n2 c2), .val (.int .i64 ev), .val (.slice ad nd cd)],prt g53 [.ints C1, .val (.slice a1 n1 c1), .ints C2, .val (.slice a2 n2 c2)],prt g9 [.ints C, .val (.slice sa sn sc)]])
    case atStart=>exact ⟨0,ba,bc,M,rfl,rfl,rfl,rfl,by rw [show B0++cb C 0=B0 by simp [cb]];exact hS.sub AV⟩
    case round=>
     clear hS
     obtain ⟨i,ba,bc,N,hi,rfl,hN,rfl,hS⟩:=hrel
     by_cases hlt2:i<16
     ·have hx:=HCr.out i hlt2
      have HX2:Hid ((B0++cb C i)++[AJ C i/256,AJ C i%256]=B0++cb C (i+1)):=AD (by rw [cb,List.append_assoc])
      obtain ⟨x,hxe⟩:∃x,AJ C i=x:=⟨_,rfl⟩
      have HX:=AD hxe
      rw [hxe] at hx HX2
      have HW:=AD (show IntKind.u8.wrap x=x%256 by simp [IntKind.wrap,IntKind.signed,IntKind.bits])
      clear hxe
      repeat' (first
       | (refine AP 63 ?_);refine Ag (.int .i64 x) (V.as (V.indexIv Tryz.underlying29 Tryz.underlying3 EA rfl rfl hC Bh.cast (by omega)) HX.out) AA ?_;go_step|(refine AP 66 ?_);(refine Ag (.int _ ((x/256))) (V.as (V.shr rfl rfl BJ (by omega) rfl) (by omega)) (by kernel_rfl) ?_;go_step)|(refine AP 69 ?_);(refine Ag (.int _ ((x%256))) (V.as (V.conv (by rw [Tryz.underlying3];rfl) Tryz.underlying5 rfl) (by exact HW.out)) (by kernel_rfl) ?_;go_step)|refine X0 ?_|refine X2 ?_|refine WF ?_|refine X7 ?_|refine ec 70 ?_;clear hS;intro g70 w hS|refine Zm 71 ?_;clear hS;intro ad71 c71 w hS|refine AH ?_;go_step|fail)
      go_roundg (gk-1)
      case measure=>omega
      case rel=>exact ⟨i+1,_,_,N+2,by omega,by go_num,by omega,rfl,by rw [←HX2.out];exact hS.sub AV⟩
     obtain rfl:i=16:=by omega
     repeat' (first
      | refine X1 ?_|refine X2 ?_|refine WI ?_|refine UQ ?_|refine UI ?_|refine AH ?_;go_step|fail)
     obtain ⟨B1,hB1⟩:∃x,B0++cb C 16=x:=⟨_,rfl⟩
     have HB1:=AD hB1
     rw [hB1] at hS
     clear hB1
     go_loopg [5,76] sn (fun gk bv kv w=>∃(i:Nat) (a:Option Addr) (c O:Nat),gk+i=sn∧kv= .int .i64 i∧O=N+i∧bv= .slice a O c∧St w0 w [own 5 1 a O c ((B1++S.take i).map (Value.int .u8)),prt g1 [.val (.int .i64 W), .val (.int .i64 H), .val (.int .i64 p), .ints Q, .ints C1, .val (.slice a1 n1 c1), .ints C2, .val (.slice a2 n2 c2), .val (.int .i64 ev), .val (.slice ad nd cd)],prt g53 [.ints C1, .val (.slice a1 n1 c1), .ints C2, .val (.slice a2 n2 c2)]])
     case atStart=>exact ⟨0,ba,bc,N,by omega,rfl,rfl,rfl,by rw [show B1++S.take 0=B1 by simp];exact hS.sub AV⟩
     case round=>
      clear hS
      obtain ⟨i,ba,bc,O,hi,rfl,hO,rfl,hS⟩:=hrel
      by_cases hlt3:i<sn
      ·have hx:=HSr.out i hlt3
       have HX2:Hid ((B1++S.take i)++[AJ S i]=B1++S.take (i+1)):=AD (by rw [Hg S i (by omega),List.append_assoc])
       repeat' (first
        | refine X0 ?_|refine X2 ?_|refine ZQ 78 ?_;intro b78 o78 hc78;go_step|refine WF ?_|refine X7 ?_|refine Zs ?_|refine WC 83 ?_;clear hS;intro g83 w hS|refine Zm 84 ?_;clear hS;intro ad84 c84 w hS|refine AH ?_;go_step|fail)
       go_roundg (gk-1)
       case measure=>omega
       case rel=>exact ⟨i+1,_,_,O+1,by omega,by go_num,by omega,rfl,by rw [←HX2.out];exact hS.sub AV⟩
      obtain rfl:i=sn:=by omega
      repeat' (first
       | refine X1 ?_|refine X2 ?_|refine X7 ?_|refine AH ?_;go_step|fail)
      go_roundg (gk1-1)
      case measure=>omega
      case rel=>
       refine ⟨k+1,_,_,_,by omega,by go_num,?_,rfl,?_⟩
       rotate_left
       ·rw [HTk.out,←List.append_assoc,HB0.out,L6,←List.append_assoc,HB1.out]
        rw [List.take_of_length_le (by omega)] at hS
        exact hS.sub AV
       omega
   obtain rfl:k=2:=by omega
   repeat' (first
    | refine X0 ?_|refine X2 ?_|refine dU ?_|refine ZX ?_|refine Zm 90 ?_;clear hS;intro ad90 c90 w hS|refine AH ?_;go_step|fail)
   have hol:=hS.ownLen (e:=5) AK
   have hPl:P.length=M+nd:=by rw [HP.out];simpa using hol
   refine AM (xs:=[_,_]) rfl (.cons (AB.tmp rfl) (.cons (AB.tmp rfl) (.nil))) (by simp) rfl ?_
   rw [hPl]
   refine ⟨_,_,rfl,?_⟩
   rw [HP.out]
   exact hS.sub AV
end Go.Proofs.YtohacgmhmbijmaaGreatDoor
