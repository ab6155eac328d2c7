/- What the laws FrameThree need, part 17. -/
import Derived.Test.YtohacgmhmbijmaaGreatDoorBaseTZ1
import Derived.Test.YtohacgmhmbijmaaGreatDoorBaseTZ2
import Derived.Test.YtohacgmhmbijmaaGreatDoorBaseTZ3
import Derived.Test.YtohacgmhmbijmaaGreatDoorBaseTZ4
import Derived.Test.YtohacgmhmbijmaaGreatDoorBaseTZ5
import Derived.Test.YtohacgmhmbijmaaGreatDoorBaseTZ6
import Derived.Test.YtohacgmhmbijmaaGreatDoorBaseTZ7
import Derived.Test.YtohacgmhmbijmaaGreatDoorBaseTZ10
import Derived.Test.YtohacgmhmbijmaaGreatDoorBaseTZ11
import Derived.Test.YtohacgmhmbijmaaGreatDoorBaseTZ16
import Derived.WalkKit
import Derived.TacticsInMore
import Derived.LoopNIn
import Derived.Sort.LoopGhostIn
import Derived.Laws.IdiomStrings
import Derived.Test.YtohacgmhmbijmaaGreatDoorProg
namespace Go.Proofs.YtohacgmhmbijmaaGreatDoor
attribute [local irreducible] Region.wanted
open Go.RowKit
set_option linter.unusedVariables false
set_option maxRecDepth 100000
set_option maxHeartbeats 8000000
section
variable{P:Program}{ops:Array Oper}{Q:Exit→Act→World→Prop}{a:Act}{w:World}{o:Oper}{K:Act→World→Prop}{t ty:TypeId}{x lo hi mx:Operand}
theorem V.slice3{ad:Option Addr}{n c l h m s:Nat}{e:TypeId}{k1 k2 k3:IntKind}(ht:P.underlying t=some (.slice e))(hs:(P.info? e).map (·.size)=some s)(hx:a.eval x= .slice ad n c)(e1:a.eval lo= .int k1 (l:Int))(e2:a.eval hi= .int k2 (h:Int))(e3:a.eval mx= .int k3 (m:Int))(h1:l≤h)(h2:h≤m)(h3:m≤c):
 DK P (.slice t x (some lo) (some hi) (some mx)) ty a (.slice (cutAt ad m l s) (h-l) (m-l)):=fun d pos af g w=>by
 have e0:P.elem t=e:=by simp [Program.elem,ht]
 have ht':P.underlying t=some (.slice (P.elem t)):=by rw [e0];exact ht
 have hr:=run_slice_lhm w t ad n c ht' k1 k2 k3 (l:Int) (h:Int) (m:Int) (by omega) (by omega) (by omega) (by omega)
 rw [Int.toNat_natCast,Int.toNat_natCast,Int.toNat_natCast,e0,BZ w hs,Result.andThen_ok] at hr
 simp only [execOp,hx,e1,e2,e3,Option.map_some,Sem.run_bind,run_sliceAt_slice w t _ _ _ _ ht',hr,Result.andThen_ok,Sem.run_pure,sliced,cutAt]
theorem Uc(n:Nat)(h:o.wp P a w K Q):o.wpIn Fence.wide n P a w K Q:=by
 refine ⟨fun f _=>trivial,?_⟩
 show o.uponIn Fence.wide n P a K Q ((o.semAt none a.eval).run P w)
 rw [Oper.semAt_none]
 unfold Oper.wp at h
 generalize (execOp a.eval o).run P w=r at h⊢
 match r,h with
 | .ok (.value v) w',h=>exact h
 | .ok .skip w',h=>exact h
 | .ok (.defer d) w',h=>exact h
 | .ok (.enter f args) w',h=>exact ⟨fun h=>(by cases h),callsIn_wide.2 h⟩
 | .ok (.row row args) w',h=>
   refine ⟨fun h=>(by cases h),fun c cs _=>?_⟩
   obtain ⟨v,w'',r,s⟩:=h c cs
   exact ⟨v,w'',r,stepsIn_wide.2 s⟩
 | .halt (.panic v) w',h=>exact h
theorem Cd(n:Nat)(L2:List Oper)(hout:¬LetsOut Q):∀(L:List Oper)(a:Act)(w:World),wpList P ops (Exit.then (wpListIn Fence.wide n P ops Q L2) Q) L a w→wpListIn Fence.wide n P ops Q (L++L2) a w
 | [],a,w,h=>h
 | o::L,a,w,h=>by
   rw [List.cons_append]
   simp only [wpList] at h
   simp only [wpListIn]
   have ho2:¬LetsOut (Exit.then (wpListIn Fence.wide n P ops Q L2) Q):=fun ⟨a,w,h⟩=>hout ⟨a,w,h⟩
   split at h
   ·rename_i hw
    rw [if_pos hw]
    rcases h with h|⟨_,h⟩
    ·have h2:=Uc n h
     refine ⟨h2.1,?_⟩
     have h3:=h2.2
     revert h3
     have mono:∀(r:Result Next),o.uponIn Fence.wide n P a (wpList P ops (Exit.then (wpListIn Fence.wide n P ops Q L2) Q) L) (Exit.then (wpListIn Fence.wide n P ops Q L2) Q) r→o.uponIn Fence.wide n P a (wpListIn Fence.wide n P ops Q (L++L2)) Q r:=fun r hr=>by
      match r,hr with
      | .ok (.value v) w',hr=>exact Cd n L2 hout L _ _ hr
      | .ok .skip w',hr=>exact Cd n L2 hout L _ _ hr
      | .ok (.defer d) w',hr=>exact Cd n L2 hout L _ _ hr
      | .ok (.enter f args) w',hr=>
        refine ⟨hr.1,hr.2.mono ?_⟩
        rintro e w'' he
        match e,he with
        | .returned v,he=>exact Cd n L2 hout L _ _ he
        | .panicked chain,he=>exact he
        | .outgrown,he=>exact he
      | .ok (.row row args) w',hr=>exact ⟨hr.1,hr.2.mono fun v w'' he=>Cd n L2 hout L _ _ he⟩
      | .ok (.round l' f tmps assign body) w',hr=>
        refine ⟨hr.1,hr.2.mono ?_⟩
        rintro e w'' he
        match e,he with
        | .returned v,he=>exact Cd n L2 hout L _ _ he
        | .panicked chain,he=>exact he
        | .outgrown,he=>exact he
      | .halt (.panic v) w',hr=>exact hr
     exact mono _
    exact absurd h ho2
   rename_i hw
   rw [if_neg hw]
   exact ⟨fun _ _=>trivial,Cd n L2 hout L _ _ h⟩
end
def Ck(np:Nat):Type:={x:Nat // x<np}
def aT(Bs Bn:Nat)(W W':World):Prop:=W'.cell? ⟨Bs,0,none⟩=W.cell? ⟨Bs,0,none⟩∧W'.cell? ⟨Bn,0,none⟩=W.cell? ⟨Bn,0,none⟩
def ax(b off K x:Nat):Value:= .slice (some ⟨b,off+x*K*64,none⟩) K K
theorem U7{a:Act}{ty:TypeId}{x lo hi mx:Operand}{b off M c q K:Nat}(hx:a.eval x= .slice (some ⟨b,off,none⟩) M c)(h1:a.eval lo= .int .i64 (q:Int))(h2:a.eval hi= .int .i64 ((q+K:Nat):Int))(h3:a.eval mx= .int .i64 ((q+K:Nat):Int))(hK:1≤K)(hc:q+K≤c):
 DK Tryz.prog (.slice 42 x (some lo) (some hi) (some mx)) ty a (.slice (some ⟨b,off+q*64,none⟩) K K):=by
 have h:=V.slice3 (ty:=ty) Tryz.underlying42 Hc hx h1 h2 h3 (by omega) (Nat.le_refl _) hc
 rw [show q+K-q=K by omega] at h
 unfold cutAt at h
 rw [if_neg (by omega)] at h
 simpa only [Option.map_some,Addr.add_mid] using h
theorem Ru(n:Nat)(hn:1≤n)(l Bs Bn b off c np K M:Nat)(hK:1≤K∧K≤64)(hnp:np≤3)(hM:np*K=M)(hc:M≤c)(hcm:c≤maxLen)(J Jx:List (Ck np)→World→Prop)
 (hA:∀s W W',J s W→Al W W'→J s W')
 (hY:∀pre (x:Ck np) W,J pre W→pre.length<np→YieldAt Fence.wide (n-1) Tryz.prog l #[ax b off K x.1] W fun e W'=>(e= .returned (.bool true)∧J (pre++[x]) W'∧aT Bs Bn W W')∨(e= .returned (.bool false)∧Jx (pre++[x]) W'))
 (W:World) (hcs:W.cell? ⟨Bs,0,none⟩=some (.slice (some ⟨b,off,none⟩) M c)) (hcn:W.cell? ⟨Bn,0,none⟩=some (.int .i64 (K:Int))) (h0:J [] W):
 CallsIn Fence.wide n Tryz.prog 125 #[.func (.yield l) #[] #[], .pointer (some ⟨Bs,0,none⟩), .pointer (some ⟨Bn,0,none⟩)] W fun e W'=>(∃v,e= .returned v)∧
  ((∃ys:List (Ck np),ys.map (·.1)=List.range np∧J ys W')∨(∃pre,Jx pre W')):=by
 refine callsIn_of_wp Tryz.func125 rfl trivial ?_ rfl
 simp only [Tryz.ntmps125,List.size_toArray,List.length_cons,List.length_nil,Nat.reduceAdd,Nat.reduceSub,Array.replicate_succ,Array.replicate_zero,List.push_toArray,List.append_toArray,List.nil_append,List.cons_append]
 gi_wp2
 gi_loopw [4] (fun i wr=>∃(k q:Nat) (pre:List (Ck np)),k≤np∧k*K=q∧i= .int .i64 (q:Int)∧pre.map (·.1)=List.range k∧J pre wr∧wr.cell? ⟨Bs,0,none⟩=some (.slice (some ⟨b,off,none⟩) M c)∧wr.cell? ⟨Bn,0,none⟩=some (.int .i64 (K:Int))) (fun i _=>M-(intOf i).toNat)
 case atStart=>exact ⟨0,0,[],Nat.zero_le _,by omega,rfl,rfl,h0,hcs,hcn⟩
 case round=>
  obtain ⟨k,q,pre,hk,hq,rfl,hpre,hJ,hs1,hs2⟩:=hrel
  have hkK:q≤192:=by have:=Nat.mul_le_mul (show k≤3 by omega) hK.2;omega
  have hnK:M≤192:=by have:=Nat.mul_le_mul hnp hK.2;omega
  by_cases hlt:k<np
  ·have hlt2:q+K≤M:=by have:=Nat.mul_le_mul_right K (show k+1≤np by omega);rw [Nat.add_mul,Nat.one_mul] at this;omega
   have hckv:ax b off K k= .slice (some ⟨b,off+q*64,none⟩) K K:=by unfold ax;rw [hq]
   have hlen:pre.length<np:=by have:=congrArg List.length hpre;simp at this;omega
   have hS:=St.start wr
   gi_wp2
   refine wpIn_wide.2 ?_
   refine AQ [] (fun w=>St wr w []) AA ?_
   replace hS:=hS.drew
   focus
    refine WZ 0 [5,6] ?_
    apply Cb 1 Am AA AA AA Ch [3,4,5,6] AA (hS.sub AV)
    case hfr=>intro w hS;((refine Ag ?_;apply Aj hS 42 _ rfl _ rfl (AH rfl) _;(case hc=>with_reducible assumption);refine AB ?_;go_step));refine wpList_nil ?_;exact ⟨rfl,rfl⟩
    case hd=>rfl
    refine Ab 2 ?_
    refine cu 3 ?_
    refine Bf 4 BU (V.len Tryz.underlying42 rfl) ?_;go_step
    (refine Bo 5 (.int _ ((K:Int))) Am AA AA AA Ch (V.as (V.min rfl rfl) (by omega)) AA ?_)
    go_step
    refine Ab 6 ?_
    refine AE AA ?_ _
   all_goals
    dsimp only [Exit.then]
    first|(rename_i hk9;refine hk9 _ _ ?_)|(rename_i hk9 _;refine hk9 _ _ ?_)|(rename_i hk9 _ _;refine hk9 _ _ ?_)|(rename_i hk9 _ _ _;refine hk9 _ _ ?_)|(rename_i hk9 _ _ _ _;refine hk9 _ _ ?_)
    gi_step
    refine wpIn_region_lit ?_
    refine Cd n [_,_] (fun hlo=>?_) [_,_,_,_,_,_,_,_,_,_] _ _ ?_
    case _=>
     obtain ⟨a9,w9,h9⟩:=hlo
     obtain ⟨⟨v9,e9⟩,_⟩:(∃v,Ending.outgrown=Ending.returned v)∧_:=h9
     cases e9
    repeat' (first
     | (refine AS 24 ?_);refine Ak (.int _ ((q+K:Nat):Int)) (V.as (V.addI rfl rfl (by omega)) (by omega)) (by kernel_rfl) ?_;go_step|(refine AS 27 ?_);refine Ak (.int _ ((q+K:Nat):Int)) (V.as (V.addI rfl rfl (by omega)) (by omega)) (by kernel_rfl) ?_;go_step|(refine AS 28 ?_);refine As AA (U7 (K:=K) (q:=q) (M:=M) (c:=c) rfl rfl rfl rfl hK.1 (by omega)) ?_;go_step|refine X1 ?_|(with_reducible refine An _ (.load 42 _) ?_);(refine Ag ?_;apply Aj hS 42 _ rfl _ rfl (AH rfl) _;(case hc=>with_reducible assumption);refine AB ?_;go_step)|refine AG ?_;go_step|fail)
    have hJ2:=hA pre wr wr.drew hJ (Al.refl wr).drew
    have hs3:wr.drew.cell? ⟨Bn,0,none⟩=some (.int .i64 (K:Int)):=(Al.refl wr).drew.cell hs2
    obtain ⟨fn,tmps,assign,body,hy,hR⟩:=hY pre ⟨k,hlt⟩ wr.drew hJ2 hlen
    dsimp only at hy
    rw [hckv] at hy
    gi_wp2
    refine hR.mono ?_
    rintro e W3 (⟨rfl,hJ3,hb3⟩|⟨rfl,hJx3⟩)
    ·have hs4:W3.cell? ⟨Bn,0,none⟩=some (.int .i64 (K:Int)):=hb3.2.trans hs3
     have hs5:W3.cell? ⟨Bs,0,none⟩=some (.slice (some ⟨b,off,none⟩) M c):=hb3.1.trans ((Al.refl wr).drew.cell hs1)
     gi_wp2
     go_roundw
     case rel=>exact ⟨k+1,q+K,pre++[⟨k,hlt⟩],by omega,by rw [Nat.add_mul,Nat.one_mul];omega,by go_num,by rw [List.map_append,hpre,List.range_succ];rfl,hJ3,hs5,hs4⟩
     case measure=>simp [intOf];omega
    gi_wp2
    refine bodyPost_ret (results_none rfl _ _ _) rfl ?_
    exact ⟨⟨_,rfl⟩, .inr ⟨_,hJx3⟩⟩
  obtain rfl:k=np:=by omega
  obtain rfl:q=M:=by omega
  gi_wp2
  go_end0
  exact ⟨⟨_,rfl⟩, .inl ⟨pre,hpre,hJ⟩⟩
theorem Ni(n:Nat)(hn:1≤n)(Bs Bn b off c np K M:Nat)(hK:1≤K∧K≤64)(hnp:np≤3)(hM:np*K=M)(hc:M≤c)(hcm:c≤maxLen)(w:World)(hcs:w.cell? ⟨Bs,0,none⟩=some (.slice (some ⟨b,off,none⟩) M c))(hcn:w.cell? ⟨Bn,0,none⟩=some (.int .i64 (K:Int))):
 SeqStopsK Fence.wide n Tryz.prog 125 #[.pointer (some ⟨Bs,0,none⟩), .pointer (some ⟨Bn,0,none⟩)] (fun x:Ck np=>#[ax b off K x.1]) (aT Bs Bn) (fun xs=>xs.map (·.1)=List.range np) (fun _=>True) np w:=fun l J Jx W hW hJ hJx hY h0=>by
 have h1:W.cell? ⟨Bs,0,none⟩=some (.slice (some ⟨b,off,none⟩) M c):=(hW.cell (World.block_lt_of_cell? w _ hcs)).trans hcs
 have h2:W.cell? ⟨Bn,0,none⟩=some (.int .i64 (K:Int)):=(hW.cell (World.block_lt_of_cell? w _ hcn)).trans hcn
 refine (Ru n hn l Bs Bn b off c np K M hK hnp hM hc hcm J Jx (fun s A B h hE=>hJ s A B none h ⟨hE.os,hE.tape,hE.output,hE.size,fun k hk _=>hE.block k hk⟩ (fun r e=>by cases e)) hY W h1 h2 h0).mono ?_
 rintro e W' ⟨he,⟨ys,h3,h4⟩|⟨pre,h4⟩⟩
 ·exact ⟨he, .inl ⟨ys,h3,h4⟩⟩
 exact ⟨he, .inr ⟨pre,trivial,h4⟩⟩
theorem cG{Bs Bn:Nat}{A B C:World}(h:aT Bs Bn A B)(k:aT Bs Bn B C):aT Bs Bn A C:=⟨k.1.trans h.1,k.2.trans h.2⟩
theorem cF{Bs Bn:Nat}{w:World}(h1:Bs<w.heap.size)(h2:Bn<w.heap.size)(W:World)(l:Nat)(o o':Obj)(hl:w.heap.size≤l)(h:W.heap[l]? =some o)(_:o.isCells=false)(_:o.isWalk=false):aT Bs Bn W (W.putObj l o'):=
 ⟨World.cell?_of_block (World.putObj_heap_other (by dsimp only;omega)),World.cell?_of_block (World.putObj_heap_other (by dsimp only;omega))⟩
theorem Rv(w0:World)(ad:Option Addr)(M c K:Nat)(hK:1≤K∧K≤64):
 Calls Tryz.prog 92 #[.slice ad M c, .int .i64 (K:Int)] w0 fun e w=>∃gs gn,e= .returned (.func (.func 125) #[] #[.pointer (some ⟨gs,0,none⟩), .pointer (some ⟨gn,0,none⟩)])∧St w0 w [blk gs [.slice ad M c],blk gn [.int .i64 (K:Int)]]:=by
 have hS:=St.start w0
 go_enter Tryz.func92,Tryz.ntmps92
 repeat' (first
  | (refine AS 8 ?_);refine Ak (.func (.func 125) #[] #[.pointer (some ⟨g2,0,none⟩), .pointer (some ⟨g3,0,none⟩)]) (V.makeFunc rfl) AA ?_;go_step|refine X8 ?_|refine X2 ?_|(refine AS 2 ?_);(refine Ag ?_;apply Re (o:=⟨some 2,_,_,_,_,_⟩) hS 42 _ rfl _;(case hx=>exact CG);(case h1=>rfl);clear hS;intro g2 w hS;refine AB ?_;go_step)|(refine AS 3 ?_);(refine Ag ?_;apply Re (o:=⟨some 3,_,_,_,_,_⟩) hS 3 _ rfl _;(case hx=>exact CG);(case h1=>rfl);clear hS;intro g3 w hS;refine AB ?_;go_step)|refine X9 ?_|refine AG ?_;go_step|fail)
 all_goals (try exact AW)
 go_ret
 exact ⟨g2,g3,rfl,hS.sub AV⟩
theorem SJ(w0:World)(ad:Option Addr)(n c:Nat)(l:List Int)(m h:Int)(hm64: -9223372036854775808≤m∧m≤9223372036854775807)(hn:n≤9223372036854775807)(hv:Sl w0 64 (.slice ad n c) n (l.map (Value.int .i64)))(hj:D8 l n m h=0):
 Calls Tryz.prog 95 #[.slice ad n c, .int .i64 m, .int .i64 h] w0 (Fq w0 l n m h):=by
 have hl:l.length=n*64:=by have:=hv.1;simpa using this
 have hS:=St.start w0
 have HL:=AD hl
 clear hl
 obtain ⟨hok,hk1,hb⟩:=Pp hj
 have HJ:=AD hj
 have HB:=AD ((BL _ _ _).1 hb)
 obtain ⟨k0,k1⟩:=Ds m h 64 64 (by omega) (by omega)
 have k2:0<m*h:=Int.mul_pos (by omega) (by omega)
 obtain ⟨M,hM⟩:∃M:Nat,m*h=(M:Int):=⟨(m*h).toNat,by omega⟩
 have hMs:M≤4096:=by omega
 have HK:=AD hk1
 have HM:=AD hM
 have hK1:(m+7)/8*((h+7)/8)=(n:Int)∧n≤64:=by
  obtain ⟨kk0,kk1⟩:=Ds ((m+7)/8) ((h+7)/8) 8 8 (by omega) (by omega)
  have kk2:0≤((m+7)/8)*((h+7)/8):=Int.mul_nonneg (by omega) (by omega)
  rw [hk1,Aq];omega
 have hn64:=hK1.2
 have HK1:=AD hK1.1
 clear hj hb hk1 hK1
 go_enter Tryz.func95,Tryz.ntmps95
 repeat' (first
  | (refine A3 58 ?_);refine A4 AA Tryz.call58 (Cx _ m h) ?_;rintro e w ⟨rfl,hE⟩;replace hS:=hS.ext hE;clear hE;rw [if_pos hok];refine Ae ?_;go_step|(refine A3 59 ?_);refine A4 AA Tryz.call59 (Hg _ m h (by omega) (by omega)) ?_;rintro e w ⟨rfl,hE⟩;replace hS:=hS.ext hE;clear hE;rw [HK1.out];refine Ae ?_;go_step|refine X0 ?_|refine FJ ?_|refine IA 25 ?_ ?_<;>intro hB<;>(try exact AW)<;>go_step|refine Zh 21 ?_|refine TF ?_|refine IJ ?_|refine ZV 8 ?_;clear hS;intro g8 w hS|refine ZY ?_;clear hS;intro w hS|refine Vh ?_|refine AG ?_;go_step|fail)
 go_loopg [9,35] n (fun gk ev kv w=>∃(k:Nat),gk+k=n∧kv= .int .i64 k∧ev= .int .i64 0∧St w0 w [blk g8 [.int .i64 m, .int .i64 h]])
 case atStart=>exact ⟨0,rfl,rfl,rfl,hS.sub AV⟩
 case round=>
  clear hS
  obtain ⟨k,hk,rfl,rfl,hS⟩:=hrel
  by_cases hlt:k<n
  ·have ls:Ap (Bm l 64 k) 64:=CM l 64 k n HL.out hlt
   have hb:CY (Bm l 64 k)=true:=(BL _ _ _).2 fun i hi=>by
    rw [ls.out] at hi
    rw [Mc _ _ _ _ hi];exact HB.out _ (by rw [HL.out];omega)
   have HBs:=AD hb
   clear hb
   repeat' (first
    | (refine A3 76 ?_);refine A4 AA Tryz.call76 (BG _ _ (Bm l 64 k) (hS.isl AJ (by omega)) 128 #[] (fun n=>decide (n< -40000)||decide (40000<n)) Tryz.call128 (fun n=>Le n _)) ?_;rintro e w' ⟨rfl,rfl⟩;rw [Jm,HBs.out];refine Ae ?_;go_step|refine X1 ?_|refine FJ ?_|refine IA 40 ?_ ?_<;>intro hB<;>(try exact AW)<;>go_step|refine X2 ?_|refine YA 37 ?_;intro b37 o37 hl37 hc37;go_step|refine Zf ?_|refine X7 ?_|refine WI ?_|refine JL 11 ?_;clear hS;intro g11 w hS|refine Ew ?_;clear hS;intro w hS|refine AG ?_;go_step|fail)
   go_roundg (gk-1)
   case measure=>omega
   case rel=>exact ⟨k+1,by omega,by go_num,rfl,hS.sub AV⟩
  obtain rfl:k=n:=by omega
  clear hk
  repeat' (first
   | (refine AS 51 ?_);(refine Ak (.int _ ((M:Int))) (V.as (V.mulI rfl rfl (by omega)) (by omega)) (by kernel_rfl) ?_;go_step)|refine X0 ?_|refine X2 ?_|refine X3 ?_|refine TF ?_|refine bH 52 ?_;clear hS;intro g52 w hS|refine AG ?_;go_step|fail)
  go_loopg [55] k (fun gk kv w=>∃(j:Nat) (o:List Int),gk+j=k∧kv= .int .i64 j∧(∀x,x<M→FL m x<j→AK o x=Lg l m x)∧St w0 w [own 3 1 (some ⟨g52,0,none⟩) M M (o.map (Value.int .i64)),blk g8 [.int .i64 m, .int .i64 h]])
  case atStart=>exact ⟨0,_,rfl,rfl,fun x hx hx2=>absurd (Hd m h ⟨hok.1,hok.2.1⟩ hok.2.2 x (by rw [HM.out];omega)).1 (by omega),hS.sub AV⟩
  case round=>
   clear hS
   obtain ⟨j,o,hj,rfl,ho,hS⟩:=hrel
   have HO:=AD ho
   clear ho
   by_cases hlt2:j<k
   ·obtain ⟨gk1,hgk1⟩:∃x,x=gk:=⟨_,rfl⟩
    subst hgk1
    have ls:Ap (Bm l 64 j) 64:=CM l 64 j k HL.out hlt2
    repeat' (first
     | refine X0 ?_|refine X2 ?_|refine YA 58 ?_;intro b58 o58 hl58 hc58;go_step|refine WH ?_|refine JL 14 ?_;clear hS;intro g14 w hS|refine Ew ?_;clear hS;intro w hS|refine AG ?_;go_step|fail)
    go_loopg [61] 64 (fun gk kv w=>∃(i:Nat) (o:List Int),gk+i=64∧kv= .int .i64 i∧(∀x,x<M→(FL m x<j∨FL m x=j∧JF m x<i)→AK o x=Lg l m x)∧St w0 w [own 3 1 (some ⟨g52,0,none⟩) M M (o.map (Value.int .i64)),blk g8 [.int .i64 m, .int .i64 h]])
    case atStart=>exact ⟨0,o,rfl,rfl,fun x hx hx2=>HO.out x hx (by have:=(Hd m h ⟨hok.1,hok.2.1⟩ hok.2.2 x (by rw [HM.out];omega));omega),hS.sub AV⟩
    case round=>
     clear hS HO
     obtain ⟨i,o,hi,rfl,ho,hS⟩:=hrel
     have HO:=AD ho
     clear ho
     by_cases hlt3:i<64
     ·obtain ⟨R,hR⟩:∃R,Ho ((m+7)/8) (j:Int) (i:Int)=R:=⟨_,rfl⟩
      obtain ⟨C,hC⟩:∃C,Ff ((m+7)/8) (j:Int) (i:Int)=C:=⟨_,rfl⟩
      obtain ⟨p0,p1,p2,p3,p4⟩:=KM m h ⟨hok.1,hok.2.1⟩ hok.2.2 (j:Int) (i:Int) (by omega) (by omega)
      have hx: -40000≤AK (Bm l 64 j) i∧AK (Bm l 64 j) i≤40000:=by
       rw [Mc _ _ _ _ hlt3];exact HB.out _ (by rw [HL.out];omega)
      have HI:Hid (∀x,x<M→FL m x=j→JF m x=i→R<h∧C<m∧(x:Int)=R*m+C):=fun x hx h1 h2=>by
       obtain ⟨e1,e2⟩:=UK m j i ⟨hok.1,hok.2.1⟩ x h1 h2
       have h3:=Hd m h ⟨hok.1,hok.2.1⟩ hok.2.2 x (by rw [HM.out];omega)
       rw [←hR,←hC,e1,e2]
       refine ⟨by omega,by omega,?_⟩
       have:=Int.mul_ediv_add_emod (x:Int) m
       rw [Int.mul_comm] at this;omega
      have HP:Hid (C<m→∀q:Nat,R*m+C=q→Lg l m q=min (max (AK (Bm l 64 j) i+128) 0) 255):=fun hcm q hq=>by
       obtain ⟨e1,e2⟩:=XB m j i ⟨hok.1,hok.2.1⟩ (by omega) (by omega) q (by rw [hR,hC];exact hq.symm) (by rw [hC];exact hcm)
       unfold Lg
       rw [e1,e2,Mc _ _ _ _ hlt3,show ((j:Int)*64+(i:Int)).toNat=j*64+i by omega]
      rw [hR] at p0 p3 p4
      rw [hC] at p1 p2 p4
      have HR:=AD hR
      have HC:=AD hC
      clear hR hC
      by_cases hin:R<h∧C<m
      ·obtain ⟨q,hq⟩:∃q:Nat,R*m+C=(q:Int):=⟨(R*m+C).toNat,by rw [show min R (h-1)=R by omega] at p3;omega⟩
       have hqM:q<M:=by rw [show min R (h-1)=R by omega,show min C (m-1)=C by omega] at p4;omega
       have HV:=AD (HP.out hin.2 q hq)
       have hRm:R*m+C=(q:Int):=hq
       have hRm0:0≤R*m:=by rw [show min R (h-1)=R by omega] at p3;exact p3
       clear p3 p4 hq
       repeat' (first
        | (refine AS 85 ?_);(refine Ak (.int _ ((q:Int))) (V.as (V.addI rfl rfl (by omega)) (by omega)) (by kernel_rfl) ?_;go_step)|(refine A3 78 ?_);refine A4 AA Tryz.call78 (IZ _ m h (j:Int) (i:Int) (by omega) (by omega) (by omega)) ?_;rintro e w ⟨rfl,hE⟩;replace hS:=hS.ext hE;clear hE;rw [HR.out,HC.out];refine Ae ?_;go_step|refine X0 ?_|refine FJ ?_|refine EN 74 ?_ ?_<;>intro hB<;>(try exact AW)<;>go_step|refine X2 ?_|refine WR 64 ?_|refine X6 ?_|refine bh ?_|refine X7 ?_|(with_reducible refine An _ (.call ⟨.builtin .max,_,_⟩) ?_);(refine As AA (V.max rfl rfl) ?_;go_step)|(with_reducible refine An _ (.call ⟨.builtin .min,_,_⟩) ?_);(refine As AA (V.min rfl rfl) ?_;go_step)|refine Vl 90 ?_|refine Vh ?_|refine Yx ?_;clear hS;intro w hS|refine AG ?_;go_step|fail)
       go_roundg (gk-1)
       case measure=>omega
       case rel=>
        have hol:=hS.ownLen (e:=3) AJ
        rw [List.length_map,List.length_set] at hol
        refine ⟨i+1,_,by omega,by go_num,fun x hx hx2=>?_,hS.sub AV⟩
        rw [CL o q x _ (by omega)]
        split
        ·rename_i e;rw [←e,HV.out]
        rename_i e
        refine HO.out x hx ?_
        by_cases h1:FL m x=j∧JF m x=i
        ·have:=(HI.out x hx h1.1 h1.2).2.2
         omega
        omega
      have hin2:R<h→m≤C:=by omega
      clear HP p3 p4
      have HN:Hid (∀x,x<M→¬(FL m x=j∧JF m x=i)):=fun x hx h1=>hin ⟨(HI.out x hx h1.1 h1.2).1,(HI.out x hx h1.1 h1.2).2.1⟩
      by_cases hR2:R<h
      all_goals
       (try replace hin2:=hin2 hR2)
       repeat' (first
        | (refine A3 78 ?_);refine A4 AA Tryz.call78 (IZ _ m h (j:Int) (i:Int) (by omega) (by omega) (by omega)) ?_;rintro e w ⟨rfl,hE⟩;replace hS:=hS.ext hE;clear hE;rw [HR.out,HC.out];refine Ae ?_;go_step|go_big_skip|refine X0 ?_|refine IL ?_|refine EN 74 ?_ ?_<;>intro hB<;>(try exact AW)<;>go_step|refine X2 ?_|refine WR 64 ?_|refine X6 ?_|refine X7 ?_|refine Vh ?_|refine AG ?_;go_step|fail)
       go_roundg (gk-1)
       case measure=>omega
       case rel=>exact ⟨i+1,o,by omega,by go_num,fun x hx hx2=>HO.out x hx (by have:=HN.out x hx;omega),hS.sub AV⟩
     obtain rfl:i=64:=by omega
     repeat' (first
      | refine X1 ?_|refine X2 ?_|refine X7 ?_|refine AG ?_;go_step|fail)
     go_roundg (gk1-1)
     case measure=>omega
     case rel=>exact ⟨j+1,o,by omega,by go_num,fun x hx hx2=>HO.out x hx (by have:=(Hd m h ⟨hok.1,hok.2.1⟩ hok.2.2 x (by rw [HM.out];omega));have h9:FL m x<(j+1:Nat):=hx2;omega),hS.sub AV⟩
   obtain rfl:j=k:=by omega
   have hol:=hS.ownLen (e:=3) AJ
   rw [List.length_map] at hol
   repeat' (first
    | refine X0 ?_|refine X2 ?_|refine AG ?_;go_step|fail)
   go_ret2
   refine ⟨some ⟨g52,0,none⟩,M,?_,?_⟩
   ·rw [HJ.out,if_pos rfl,HM.out];rfl
   rw [if_pos HJ.out,if_pos HJ.out,GR,HM.out,Int.toNat_natCast,←Gp (by omega) fun x hx=>HO.out x hx (by have:=(Hd m h ⟨hok.1,hok.2.1⟩ hok.2.2 x (by rw [HM.out];omega)).2.1;rw [←HK.out] at this;exact this)]
   exact hS.sub AV
theorem UI(w0:World)(ad:Option Addr)(n c:Nat)(l:List Int)(m h:Int)(hm64: -9223372036854775808≤m∧m≤9223372036854775807)(hn:n≤9223372036854775807)(hv:Sl w0 64 (.slice ad n c) n (l.map (Value.int .i64))):
 Calls Tryz.prog 95 #[.slice ad n c, .int .i64 m, .int .i64 h] w0 (Fq w0 l n m h):=by
 by_cases hj:D8 l n m h=0
 ·exact SJ w0 ad n c l m h hm64 hn hv hj
 exact UJ w0 ad n c l m h hm64 hn hv hj
theorem OG(w0:World)(ad:Option Addr)(n c:Nat)(l:List Int)(m h:Int)(hm64: -9223372036854775808≤m∧m≤9223372036854775807)(hn:n≤9223372036854775807)(hv:Sl w0 64 (.slice ad n c) n (l.map (Value.int .i64)))(hj:D8 l n m h=0)(M:Nat)(hM:m*h=(M:Int)):
 Calls Tryz.prog 95 #[.slice ad n c, .int .i64 m, .int .i64 h] w0 fun e w=>∃ad c,e= .returned (.tuple #[.slice ad M c, .int .i64 0])∧St w0 w [own 3 1 ad M c ((GR l m h).map (Value.int .i64))]:=
 (UI w0 ad n c l m h hm64 hn hv).mono fun e w ⟨ad2,c2,h1,h2⟩=>by
   rw [if_pos hj,hj,hM,Int.toNat_natCast] at h1
   rw [if_pos hj,if_pos hj,hM,Int.toNat_natCast] at h2
   exact ⟨ad2,c2,h1,h2⟩
theorem Te(m0:Int)(m1:Int)(w:World):(Instr.build 24 #[(0, .int .i64 m0),(1, .int .i64 m1)]).run Tryz.prog w= .ok (.agg #[.int .i64 m0, .int .i64 m1, .slice none 0 0]) w:=by kernel_rfl
def aB(m h:Int)(q l:List Int)(n k:Nat):List Int:=GR (ND q ((l.drop (k*n*64)).take (n*64)) n) m h
theorem Mo(m h:Int)(q l:List Int)(n:Nat):∀k,Xa m h q l n k=(List.range k).map (aB m h q l n)
 | 0=>rfl
 | k+1=>by rw [Xa,Mo m h q l n k,List.range_succ,List.map_append];rfl
theorem Oy(q l:List Int):∀n,CY (ND q l n)=true
 | 0=>rfl
 | n+1=>by
   have h1:CY (Xs q (Bm l 64 n))=true:=(BL _ _ _).2 fun i hi=>by
    unfold Xs at hi⊢
    rw [List.length_map] at hi
    rw [Q5 _ _ _ hi];omega
   have h2:=Oy q l n
   rw [ND]
   unfold CY Bx at h1 h2⊢
   simp only [List.any_append,Bool.not_or,h1,h2];rfl
def Mp(g2 g4 g5 g6 gs gn:Nat)(m h:Int)(ps:List Ah)(v vn:Value)(ao:Option Addr)(co:Nat)(R:List Rw):List Au:=
 [blk gs [v],blk gn [vn],blk g6 [.slice ao R.length co],own 30 1 ao R.length co (R.map Rw.val),star (R.map Rw.res),blk g5 [.int .i64 m, .int .i64 h, .slice none 0 0],blk g4 [.int .i64 0, .int .i64 0, .slice none 0 0],prt g2 ps]
theorem Fl(g2 g4 g5 g6 gs gn:Nat)(m h:Int)(ps:List Ah)(v vn:Value)(ao:Option Addr)(co:Nat)(R:List Rw):∀r∈Mp g2 g4 g5 g6 gs gn m h ps v vn ao co R,Et r:=by
 intro r hr
 simp only [Mp,List.mem_cons,List.not_mem_nil,or_false] at hr
 rcases hr with rfl|rfl|rfl|rfl|rfl|rfl|rfl|rfl
 ·exact Cv _ _
 ·exact Cv _ _
 ·exact Cv _ _
 ·exact E5 _ _ _ _ _ _
 ·refine Ip fun r hr=>?_
  obtain ⟨p,_,rfl⟩:=List.mem_map.1 hr
  exact E5 _ _ _ _ _ _
 ·exact Cv _ _
 ·exact Cv _ _
 exact Cv _ _
theorem St.putD{w0 w:World}{rs:List Au}{D:Nat}{o:Obj}(o':Obj)(h:St w0 w rs)(hc:∀r∈rs,Et r)(hD:w0.heap.size≤D)(ho:w.heap[D]? =some o)(hn:o.isCells=false):St w0 (w.putObj D o') rs:=
 h.grownC (grownBy_putObj' w D o') (fun r e=>by cases e;exact ⟨hD,o,ho,hn⟩) hc
theorem Sw(w0:World)(a:Option Addr)(c N:Nat)(hN:N≤9223372036854775807)(h3:N≠3)(K:FuncId):
 Calls Tryz.prog 45 #[.slice a N c, .func (.func K) #[] #[]] w0 fun e w=>e= .returned (.slice a N c)∧Al w0 w:=by
 have hS:=St.start w0
 have h3':¬(N:Int)=3:=by omega
 go_enter Tryz.func45,Tryz.ntmps45
 repeat' (first
  | refine X0 ?_|refine TU ?_|refine IJ ?_|refine AG ?_;go_step|fail)
 all_goals (try exact AW)
 go_ret
 exact ⟨rfl,hS.1⟩
theorem QF(w:World)(a:Option Addr)(c:Nat)(R:List Rw)(m h:Int)(hP:BT w a c R)(hR:R.length≤9223372036854775807)(hall:∀l∈R.map (·.xs),Cf l l.length m h=0)(K:FuncId)(f1 f2 f3:Int→Int→Int→Int)(hK:C3 K f1 f2 f3):
 Calls Tryz.prog 45 #[.slice a R.length c, .func (.func K) #[] #[]] w fun e w'=>∃(a':Option Addr) (c':Nat) (R':List Rw),R'.map (·.xs)=Cc f1 f2 f3 (R.map (·.xs))∧e= .returned (.slice a' R'.length c')∧Al w w'∧∀w0 rs,DO w0 w a c R rs→DO w0 w' a' c' R' rs:=by
 by_cases h3:R.length=3
 ·obtain ⟨⟨a0,c0,l0⟩,⟨a1,c1,l1⟩,⟨a2,c2,l2⟩,rfl⟩:∃x y z,R=[x,y,z]:=by
   match R,h3 with
   | [x,y,z],_=>exact ⟨x,y,z,rfl⟩
  obtain ⟨h1,e0,s0⟩:=CU (hall l0 (by simp))
  obtain ⟨_,e1,s1⟩:=CU (hall l1 (by simp))
  obtain ⟨_,e2,s2⟩:=CU (hall l2 (by simp))
  obtain ⟨k0,k1⟩:=Ds m h 64 64 (by omega) (by omega)
  have b0:=(DE l0).1 s0
  have b1:=(DE l1).1 s1
  have b2:=(DE l2).1 s2
  refine Calls.mono (Hz w a a0 a1 a2 c c0 c1 c2 l0.length l0 l1 l2 hP (by omega) rfl (by omega) (by omega) b0 (fun i hi=>b1 i (by omega)) (fun i hi=>b2 i (by omega)) K f1 f2 f3 hK) fun e w' hh=>?_
  obtain ⟨a',c',R',k1,k2,k3⟩:=hh
  refine ⟨a',c',R',k1,k2,k3.1,fun w0 rs hO=>?_⟩
  have h9:=St.call hO k3
  exact h9.sub (by
   simp only [List.cons_append,List.nil_append]
   exact AV)
 refine Calls.mono (Sw w a c R.length hR h3 K) fun e w' hh=>?_
 have hT:Cc f1 f2 f3 (R.map (·.xs))=R.map (·.xs):=by
  unfold Cc
  split
  ·rename_i x y z e
   have:=congrArg List.length e
   rw [List.length_map] at this
   exact absurd this h3
  rfl
 exact ⟨a,c,R,hT.symm,hh.1,hh.2,fun w0 rs hO=>St.ext hO hh.2⟩
theorem Se(w0:World)(m h:Int)(hok:1≤m∧m≤64∧1≤h∧h≤64)(np:Nat)(hnp:np=1∨np=3)(q C1 C2:List Int)(hq:Ap q 64)(hC1:Ap C1 16)(hC2:Ap C2 16)(v1 v2 vd:Value)(ev:Int)(K M:Nat)(hK:Aq m h=K)(hM:np*K=M)(ad:Option Addr)(c:Nat)(hc:M≤c)(hcm:c≤maxLen)(l:List Int)(hl:l.length=M*64)(hv:Sl w0 64 (.slice ad M c) M (l.map (Value.int .i64))):
 Calls Tryz.prog 54 #[T8 m h np q C1 v1 C2 v2 ev vd, .slice ad M c] w0 fun e w=>∃(a:Option Addr) (co:Nat) (R:List Rw),R.map (·.xs)=YT m h q l K np∧e= .returned (.agg #[.int .i64 m, .int .i64 h, .slice a R.length co])∧DO w0 w a co R []:=by
 have hS:=St.start w0
 obtain ⟨q1,q2,q3⟩:=Ei hok
 rw [hK] at q1 q2 q3
 have hn1:M≤192:=by
  have:=Nat.mul_le_mul (show np≤3 by omega) q2
  omega
 have hn0:1≤M:=by
  have:=Nat.mul_le_mul (show 1≤np by omega) q1
  omega
 obtain ⟨pb,po,rfl⟩:∃b off,ad=some ⟨b,off,none⟩:=by
  obtain ⟨z1,a',c',e,z2,z3,z4⟩:=hv
  cases e
  rcases z4 with z4|⟨b,off,z4,_⟩
  ·omega
  exact ⟨b,off,z4⟩
 have HDV:Hid ((M:Int)/(np:Int)=(K:Int)):=by
  show (M:Int)/(np:Int)=(K:Int)
  rw [←hM,Int.natCast_mul,Int.mul_ediv_cancel_left _ (by omega)]
 have HK:=AD hK
 have HM:=AD hM
 clear hK hM q3
 unfold T8
 refine (callsIn_wide (n:=3)).1 ?_
 refine callsIn_of_wp_marks Tryz.func54 rfl trivial ?_
 simp only [Tryz.ntmps54,List.size_toArray,List.length_cons,List.length_nil,Nat.reduceAdd,Nat.reduceSub,Array.replicate_succ,Array.replicate_zero,List.push_toArray,List.append_toArray,List.nil_append,List.cons_append]
 repeat ((fail_if_success with_reducible show (Code.region _ _ _).wpIn _ _ _ _ _ _);gi_step)
 first|refine wpIn_wide.2 ?_|skip
 repeat' (first
  | refine TD 2 ?_;clear hS;intro g2 w hS|refine ZW 4 ?_;clear hS;intro g4 w hS|refine AG ?_;go_step|fail)
 first|refine wpIn_wide.2 ?_|skip
 repeat' (first
  | (refine AS 15 ?_);(refine As AA (V.fieldAddr Pd rfl BO) ?_;go_step)|(refine AS 17 ?_);(refine As AA (V.fieldAddr Pe rfl BO) ?_;go_step)|(refine AS 19 ?_);(refine As AA (V.build (vs:=[(0,_),(1,_)]) rfl (Te _ _)) ?_;go_step)|refine Vi ?_|refine ZW 5 ?_;clear hS;intro g5 w hS|refine ZZ ?_;clear hS;intro w hS|refine AG ?_;go_step|fail)
 repeat ((fail_if_success with_reducible show (Code.region _ _ _).wpIn _ _ _ _ _ _);gi_step)
 first|refine wpIn_wide.2 ?_|skip
 repeat' (first
  | refine X1 ?_|(refine AS 6 ?_);(refine Ag ?_;apply B3 (o:=⟨some 6,_,_,_,_,_⟩) hS 22 rfl (.slice none 0 0) [.slice none 0 0] (fun w=>Tryz.zeroValue22 w) rfl;clear hS;intro g6 w hS;refine AB ?_;go_step)|refine AG ?_;go_step|fail)
 repeat ((fail_if_success with_reducible show (Code.region _ _ _).wpIn _ _ _ _ _ _);gi_step)
 first|refine wpIn_wide.2 ?_|skip
 repeat' (first
  | (refine AS 25 ?_);refine Ak (.int _ (K:Int)) (V.as (V.quo rfl rfl (by omega) (by omega)) HDV.out) (by kernel_rfl) ?_;go_step|(refine A3 92 ?_);refine A4 AA Tryz.call92 (Rv _ _ M c K (by omega)) ?_;rintro e w ⟨gs,gn,rfl,hS2⟩;replace hS:=Ef hS hS2;clear hS2;refine Ae ?_;go_step|(refine AS 22 ?_);(refine As AA (V.len Tryz.underlying42 rfl) ?_;go_step)|(refine AS 23 ?_);(refine As AA (V.fieldAddr T3 rfl BO) ?_;go_step)|refine Vi ?_|refine AG ?_;go_step|fail)
 have hgs:w0.heap.size≤w.heap.size:=hS.1.sz
 have hcs:w.cell? ⟨gs,0,none⟩=some (.slice (some ⟨pb,po,none⟩) M c):=by rw [(hS.blk (g:=gs) AJ).1.cell];rfl
 have hcn:w.cell? ⟨gn,0,none⟩=some (.int .i64 (K:Int)):=by rw [(hS.blk (g:=gn) AJ).1.cell];rfl
 have hI0:St w0 w (Mp g2 g4 g5 g6 gs gn m h [.val (.int .i64 m), .val (.int .i64 h), .val (.int .i64 np), .ints q, .ints C1, .val v1, .ints C2, .val v2, .val (.int .i64 ev), .val vd] (.slice (some ⟨pb,po,none⟩) M c) (.int .i64 (K:Int)) none 0 []):=by
  have h9:=hS.star0.nilk 30 1 .i64
  simp only [List.map_nil] at h9
  simp only [Mp,List.length_nil,List.map_nil]
  exact h9.sub AV
 refine (wpIn_wide (n:=3)).1 ?_
 apply wpIn_rangeFunc_ownF rfl (by decide) (gf:=125) (lb:=#[.pointer (some ⟨gs,0,none⟩), .pointer (some ⟨gn,0,none⟩)]) rfl trivial (enters_of Tryz.func125 AA rfl) (Ni (3-1) (by decide) gs gn pb po c np K M (by omega) (by omega) HM.out hc hcm w hcs hcn) cG (cF (World.block_lt_of_cell? w _ hcs) (World.block_lt_of_cell? w _ hcn)) (Below.refl _ _) (fun _=>rfl)
  (fun (pre:List (Ck np)) W=>∃(R:List Rw) (ao:Option Addr) (co:Nat),R.map (·.xs)=pre.map (fun x=>aB m h q l K x.1)∧St w0 W (Mp g2 g4 g5 g6 gs gn m h [.val (.int .i64 m), .val (.int .i64 h), .val (.int .i64 np), .ints q, .ints C1, .val v1, .ints C2, .val v2, .val (.int .i64 ev), .val vd] (.slice (some ⟨pb,po,none⟩) M c) (.int .i64 (K:Int)) ao co R))
  (fun _ _ _=>False)
  (fun pre A B row ⟨R,ao,co,h1,h2⟩ hg hr=>⟨R,ao,co,h1,h2.grownC hg (fun r e=>⟨Nat.le_trans hgs (hr r e).1,(hr r e).2⟩) (Fl _ _ _ _ _ _ _ _ _ _ _ _ _ _)⟩)
  (fun _ _ _ _ _ hs _ _=>hs)
  ⟨[],none,0,rfl,hI0⟩
 case hassign=>
  intro lw x W Kq hKq
  refine BM (fun ⟨a9,w9,h9⟩=>h9) AA ?_
  repeat' (first
   | refine X8 ?_|refine AG ?_;go_step|fail)
  exact hKq
 case hbody=>
  clear hI0 hS hcs hcn
  rintro lw pre x W ⟨R,ao,co,hR,hI⟩ hlen
  have hIF:=AD (hI.fixd (Fl _ _ _ _ _ _ _ _ _ _ _ _ _ _))
  have hEW:Al w0 W:=hI.1
  have hHI:=AD hI
  dsimp only [Mp] at hI
  have hI2:=hI.pull (r:=prt g2 [.val (.int .i64 m), .val (.int .i64 h), .val (.int .i64 np), .ints q, .ints C1, .val v1, .ints C2, .val v2, .val (.int .i64 ev), .val vd]) AJ
  have hg2:=(St.blk (g:=g2) hI2 AT.head).1
  clear hI2
  have hc0:W.cell? ⟨g2,0,none⟩=some (.int .i64 m):=by rw [hg2.cell];rfl
  have hc1:W.cell? ⟨g2,1,none⟩=some (.int .i64 h):=by rw [hg2.cell];rfl
  have hr3:W.rangeAt g2 3 (q.map (Value.int .i64)):=Ic (m:=64) hI AJ (by simp [AI,Ah.cells];rw [List.take_left' (by simpa using hq.out)])
  have hxl:x.1<np:=x.2
  obtain ⟨xn,hxn⟩:∃xn,x.1=xn:=⟨_,rfl⟩
  have hxK:xn*K+K≤M:=by have:=Nat.mul_le_mul_right K (show xn+1≤np by omega);rw [Nat.add_mul,Nat.one_mul,HM.out] at this;exact this
  obtain ⟨p0,hp0⟩:∃p0,po+xn*K*64=p0:=⟨_,rfl⟩
  obtain ⟨C,hC⟩:∃C,(l.drop (xn*K*64)).take (K*64)=C:=⟨_,rfl⟩
  have hCl:C.length=K*64:=by rw [←hC,List.length_take,List.length_drop,hl];omega
  have hsc:Sl W 64 (.slice (some ⟨pb,p0,none⟩) K K) K (C.map (Value.int .i64)):=by
   obtain ⟨z1,a9,c9,z2,z3,z4,z5⟩:=(hv.ext hEW).cut (xn*K) (xn*K+K) (by omega) hxK
   cases z2
   rw [show xn*K+K-xn*K=K by omega] at z5 z1
   rw [←List.map_drop,←List.map_take,hC] at z5 z1
   rw [hp0] at z5
   exact ⟨z1,_,_,rfl,Nat.le_refl _,by have:K≤64:=q2;unfold maxLen;omega,z5⟩
  have hCK:ax pb po K x.1= .slice (some ⟨pb,p0,none⟩) K K:=by unfold ax;rw [hxn,hp0]
  have HCX:=AD (show aB m h q l K x.1=GR (ND q C K) m h by unfold aB;rw [hxn,hC])
  obtain ⟨ad9,had9⟩:∃a9,(some ⟨pb,p0,none⟩:Option Addr)=a9:=⟨_,rfl⟩
  rw [had9] at hsc hCK
  rw [hCK]
  clear had9
  have HCL:=AD hCl
  have hgs9:W.cell? ⟨gs,0,none⟩=some (.slice (some ⟨pb,po,none⟩) M c):=by rw [(hI.blk (g:=gs) AJ).1.cell];rfl
  have hgn9:W.cell? ⟨gn,0,none⟩=some (.int .i64 (K:Int)):=by rw [(hI.blk (g:=gn) AJ).1.cell];rfl
  have hHR:=AD hR
  obtain ⟨k0,k1⟩:=Ds m h 64 64 (by omega) (by omega)
  have k2:0<m*h:=Int.mul_pos (by omega) (by omega)
  obtain ⟨N,hN⟩:∃N:Nat,m*h=(N:Int):=⟨(m*h).toNat,by omega⟩
  have hNs:1≤N∧N≤4096:=by omega
  have HN:=AD hN
  have HJ:=AD (show D8 (ND q C K) K m h=0 by unfold D8;rw [if_pos hok,if_pos HK.out.symm,if_pos (Oy _ _ _)])
  clear k0 k1 k2 hN
  clear hI hR hg2 hCK hCl hp0 hC
  have hS:=St.start W
  repeat ((fail_if_success with_reducible show (Code.region _ _ _).wpIn _ _ _ _ _ _);gi_step)
  refine BM (fun ⟨a9,w9,h9⟩=>h9) AA ?_
  repeat' (first
   | refine X0 ?_|(refine AS 29 ?_);(refine As AA (V.len Tryz.underlying42 rfl) ?_;go_step)|refine bI 30 ?_;clear hS;intro g30 w hS|refine AG ?_;go_step|fail)
  repeat ((fail_if_success with_reducible show (Code.region _ _ _).wpIn _ _ _ _ _ _);gi_step)
  refine BM (fun ⟨a9,w9,h9⟩=>h9) AA ?_
  repeat' (first
   | refine X1 ?_|(refine AS 32 ?_);(refine As AA (V.len Tryz.underlying42 rfl) ?_;go_step)|refine AG ?_;go_step|fail)
  repeat ((fail_if_success with_reducible show (Code.loop _).wpIn _ _ _ _ _ _);gi_step)
  gi_loopg [33] K (fun gk kv w'=>∃(j:Nat),gk+j=K∧kv= .int .i64 j∧St W w' [own 26 64 (some ⟨g30,0,none⟩) K K ((ND q C j++List.replicate ((K-j)*64) 0).map (Value.int .i64))])
  case atStart=>exact ⟨0,rfl,rfl,by rw [ND,List.nil_append,Nat.sub_zero];exact hS.sub AV⟩
  case round=>
   clear hS
   obtain ⟨j,hj,rfl,hS⟩:=hrel
   by_cases hlt:j<K
   ·have hsgl:Ap (Bm C 64 j) 64:=CM _ _ _ K HCL.out hlt
    obtain ⟨X,hX⟩:∃X,PC (Bm C 64 j) q=X:=⟨_,rfl⟩
    have hXl:Ap X 64:=hX▸ NE _ q hsgl.out hq
    obtain ⟨Y,hY⟩:∃Y,VP X=Y:=⟨_,rfl⟩
    have hYl:Ap Y 64:=hY▸ FG _ _
    have HX:=AD hX
    have HY:=AD hY
    clear hX hY
    repeat ((fail_if_success with_reducible show (Code.region _ _ _).wpIn _ _ _ _ _ _);gi_step)
    refine BM (fun ⟨a9,w9,h9⟩=>h9) AA ?_
    repeat' (first
     | refine X4 34 ?_|refine AG ?_;go_step|fail)
    repeat ((fail_if_success with_reducible show (Code.region _ _ _).wpIn _ _ _ _ _ _);gi_step)
    refine BM (fun ⟨a9,w9,h9⟩=>h9) AA ?_
    repeat' (first
     | refine X0 ?_|refine YA 36 ?_;intro b36 o36 hl36 hc36;go_step|refine WI ?_|refine JL 10 ?_;clear hS;intro g10 w hS|refine Ew ?_;clear hS;intro w hS|refine AG ?_;go_step|fail)
    repeat ((fail_if_success with_reducible show (Code.region _ _ _).wpIn _ _ _ _ _ _);gi_step)
    refine BM (fun ⟨a9,w9,h9⟩=>h9) AA ?_
    repeat' (first
     | (refine AS 41 ?_);refine Ag ?_;refine DV hS 26 _ rfl g2 3 rfl 64 (AP rfl) q hq hr3 ?_;refine AB ?_;go_step|(refine A3 93 ?_);refine A4 AA Tryz.call93 (aI _ (Bm C 64 j) q hsgl.out hq) ?_;rintro e w ⟨rfl,hE⟩;rw [HX.out];replace hS:=hS.ext hE;clear hE;refine Ae ?_;go_step|refine X1 ?_|(refine AS 40 ?_);(refine As AA (V.fieldAddr Pf rfl BO) ?_;go_step)|refine X5 43 ?_|refine X5 44 ?_|refine IK ?_|refine Ew ?_;clear hS;intro w hS|refine AG ?_;go_step|fail)
    repeat ((fail_if_success with_reducible show (Code.region _ _ _).wpIn _ _ _ _ _ _);gi_step)
    refine BM (fun ⟨a9,w9,h9⟩=>h9) AA ?_
    repeat' (first
     | (refine A3 94 ?_);refine A4 AA Tryz.call94 (Sx _ X hXl) ?_;rintro e w ⟨rfl,hE⟩;rw [HY.out];replace hS:=hS.ext hE;clear hE;refine Ae ?_;go_step|refine X1 ?_|refine X5 48 ?_|refine X5 49 ?_|refine IK ?_|refine Ew ?_;clear hS;intro w hS|refine AG ?_;go_step|fail)
    repeat ((fail_if_success with_reducible show (Code.region _ _ _).wpIn _ _ _ _ _ _);gi_step)
    refine BM (fun ⟨a9,w9,h9⟩=>h9) AA ?_
    repeat' (first
     | refine X1 ?_|refine IK ?_|refine AG ?_;go_step|fail)
    repeat ((fail_if_success with_reducible show (Code.loop _).wpIn _ _ _ _ _ _);gi_step)
    obtain ⟨gk1,hgk1⟩:∃x,x=gk:=⟨_,rfl⟩
    subst hgk1
    gi_loopg [51] 64 (fun gk kv w'=>∃(i:Nat) (o:List Int),gk+i=64∧kv= .int .i64 i∧(∀k,k<i→AK o k=min (max (AK Y k) (-40000)) 40000)∧St W w' [arr g10 64 o,own 26 64 (some ⟨g30,0,none⟩) K K ((ND q C j++List.replicate ((K-j)*64) 0).map (Value.int .i64))])
    case atStart=>exact ⟨0,Y,rfl,rfl,fun k hk=>absurd hk (by omega),hS.sub AV⟩
    case round=>
     clear hS
     obtain ⟨i,o,hi,rfl,ho,hS⟩:=hrel
     have hol:o.length=64:=(hS.arr (g:=g10) AJ).2
     by_cases hlt2:i<64
     ·have HO:=AD ho
      clear ho
      repeat ((fail_if_success with_reducible show (Code.region _ _ _).wpIn _ _ _ _ _ _);gi_step)
      refine BM (fun ⟨a9,w9,h9⟩=>h9) AA ?_
      repeat' (first
       | refine X4 52 ?_|refine AG ?_;go_step|fail)
      repeat ((fail_if_success with_reducible show (Code.region _ _ _).wpIn _ _ _ _ _ _);gi_step)
      refine BM (fun ⟨a9,w9,h9⟩=>h9) AA ?_
      repeat' (first
       | refine X0 ?_|refine WR 54 ?_|refine AG ?_;go_step|fail)
      repeat ((fail_if_success with_reducible show (Code.region _ _ _).wpIn _ _ _ _ _ _);gi_step)
      refine BM (fun ⟨a9,w9,h9⟩=>h9) AA ?_
      repeat' (first
       | (refine A3 83 ?_);refine A4 AA Tryz.call83 (Gr _ 40000 _ (by omega) (by omega)) ?_;rintro e w ⟨rfl,rfl⟩;refine Ae ?_;go_step|refine X1 ?_|refine WT 58 ?_|refine V9 ?_;clear hS;intro w hS|refine AG ?_;go_step|fail)
      repeat ((fail_if_success with_reducible show (Code.region _ _ _).wpIn _ _ _ _ _ _);gi_step)
      refine BM (fun ⟨a9,w9,h9⟩=>h9) AA ?_
      repeat' (first
       | refine X1 ?_|refine TW 59 ?_|refine AG ?_;go_step|fail)
      go_roundg (gk-1)
      case measure=>omega
      case rel=>exact ⟨i+1,_,by omega,by go_num,fun k hk=>by
       rw [CL _ _ _ _ (by rw [hol];exact hlt2)]
       split
       ·rename_i e9;subst e9;rfl
       exact HO.out k (by omega),hS.sub AV⟩
     obtain rfl:i=64:=by omega
     have hou:o=Xs q (Bm C 64 j):=by
      refine He (by rw [hol,NC]) fun k hk=>?_
      rw [ho k (by omega)]
      unfold Xs
      rw [HX.out,HY.out,Q5 _ _ _ (by rw [hYl.out];omega)]
     subst hou
     clear ho hol
     have hul:(Xs q (Bm C 64 j)).length=64:=NC _ _
     obtain ⟨U,hU⟩:∃U,Xs q (Bm C 64 j)=U:=⟨_,rfl⟩
     have hsp:ND q C (j+1)=ND q C j++U:=by rw [ND,hU]
     have hrp:List.replicate ((K-j)*64) (0:Int)=List.replicate 64 0++List.replicate ((K-(j+1))*64) 0:=by
      rw [List.replicate_append_replicate];congr 1;rw [show K-j=(K-(j+1))+1 by omega,Nat.add_mul];omega
     rw [hU] at hS hul
     rw [hrp,List.map_append,List.map_append] at hS
     have HAL:=AD (show ((ND q C j).map (Value.int .i64)).length=j*64 by rw [List.length_map,RY])
     have HUL:=AD hul
     have HSP:=AD hsp
     clear hul hsp hrp hU
     repeat ((fail_if_success with_reducible show (Code.region _ _ _).wpIn _ _ _ _ _ _);gi_step)
     refine BM (fun ⟨a9,w9,h9⟩=>h9) AA ?_
     repeat' (first
      | refine X4 52 ?_|refine AG ?_;go_step|fail)
     repeat ((fail_if_success with_reducible show (Code.region _ _ _).wpIn _ _ _ _ _ _);gi_step)
     refine BM (fun ⟨a9,w9,h9⟩=>h9) AA ?_
     repeat' (first
      | (with_reducible refine An none _ ?_);refine Ag ?_;refine S8 hS 26 _ _ rfl g30 (j*64) rfl 64 (AP rfl) _ _ _ _ _ _ (U.map (Value.int .i64)) _ AJ HAL.out.symm (by simp) (by rw [List.length_map];exact HUL.out) (by simp [Value.oneCell']) rfl rfl ?_;clear hS;intro w hS|refine X1 ?_|(refine AS 63 ?_);(refine As AA (V.indexSl Tryz.underlying42 Hc rfl rfl BI (by omega) rfl BO) ?_;go_step)|refine IK ?_|refine AG ?_;go_step|fail)
     repeat ((fail_if_success with_reducible show (Code.region _ _ _).wpIn _ _ _ _ _ _);gi_step)
     refine BM (fun ⟨a9,w9,h9⟩=>h9) AA ?_
     repeat' (first
      | refine X1 ?_|refine TW 64 ?_|refine AG ?_;go_step|fail)
     go_roundg (gk1-1)
     case measure=>omega
     case rel=>exact ⟨j+1,by omega,by go_num,by rw [HSP.out,List.append_assoc,List.map_append,List.map_append];exact hS.sub AV⟩
   obtain rfl:j=K:=by omega
   rw [Nat.sub_self,Nat.zero_mul,List.replicate_zero,List.append_nil] at hS
   repeat ((fail_if_success with_reducible show (Code.region _ _ _).wpIn _ _ _ _ _ _);gi_step)
   refine BM (fun ⟨a9,w9,h9⟩=>h9) AA ?_
   repeat' (first
    | refine X4 34 ?_|refine AG ?_;go_step|fail)
   repeat ((fail_if_success with_reducible show (Code.region _ _ _).wpIn _ _ _ _ _ _);gi_step)
   refine BM (fun ⟨a9,w9,h9⟩=>h9) AA ?_
   repeat' (first
    | (refine A3 95 ?_);refine A4 AA Tryz.call95 (OG _ (some ⟨g30,0,none⟩) j j (ND q C j) m h (by omega) (by omega) (hS.sl AJ) HJ.out N HN.out) ?_;rintro e w ⟨aj,cj,rfl,hS2⟩;replace hS:=hS.call1 hS2;clear hS2;refine Ae ?_;go_step|refine X0 ?_|(refine AS 67 ?_);(refine As AA (V.fieldAddr Pd rfl BO) ?_;go_step)|(refine AS 69 ?_);(refine As AA (V.fieldAddr Pe rfl BO) ?_;go_step)|refine X5 72 ?_|refine X5 73 ?_|refine YG ?_|refine AG ?_;go_step|fail)
   repeat ((fail_if_success with_reducible show (Code.region _ _ _).wpIn _ _ _ _ _ _);gi_step)
   refine BM (fun ⟨a9,w9,h9⟩=>h9) AA ?_
   have hlo:∃bj oj,aj=some ⟨bj,oj,none⟩∧W.heap.size≤bj:=by
    obtain ⟨b2,rfl⟩:=CE (a:=aj) hS AJ (by omega)
    exact ⟨b2,0,rfl,(Ue hS AJ).1⟩
   replace hS:=hIF.out.call hS
   simp only [Mp,List.cons_append,List.nil_append] at hS
   have hRl:R.length<np:=by
    have h9:=congrArg List.length hHR.out
    rw [List.length_map,List.length_map] at h9
    rw [h9];exact hlen
   have hR3:R.length<3:=by omega
   obtain ⟨r,hr⟩:∃r,R.length=r:=⟨_,rfl⟩
   rw [hr] at hS hRl hR3
   have HR9:=AD hr
   clear hr
   repeat' (first
    | refine X1 ?_|refine WX ?_|refine Ys 76 ?_;clear hS;intro g76 w hS|(refine AS 77 ?_);(refine Ag ?_;apply AO (o:=⟨some 77,_,_,_,_,_⟩) hS _ _ 22 rfl 30 1 24 Wq _ _ _ _ rfl;(case hp=>exact AJ);(case hx=>exact rfl);(case hm=>(first|exact hS.slBlk AJ (by rfl) (by decide)|exact hS.sl AJ|with_reducible assumption|exact Sl.ext (by with_reducible assumption) hS.1|exact Sl.nil _ _|exact Sl.ext (by assumption) hS.1|assumption));(case h1=>(first|exact Ad rfl|exact Ac _ _|(intro u hu;cases hu)));(case h63=>unfold maxLen;omega);(case hb=>omega);clear hS;intro ad77 c77 w hS;(first|simp only [Av] at hS|simp only [Aw] at hS|simp only [Ax] at hS|simp only [Ay] at hS|simp only [Az] at hS|skip);refine AB ?_;go_step)|refine bM ?_;clear hS;intro w hS|refine AG ?_;go_step|fail)
   obtain ⟨bj,oj,rfl,hbj⟩:=hlo
   obtain ⟨J,hJe⟩:∃J,GR (ND q C j) m h=J:=⟨_,rfl⟩
   have hJl:J.length=N:=by
    rw [←hJe];unfold GR;rw [Bt];have:=HN.out;omega
   rw [hJe] at hS
   subst hJl
   refine ⟨LG hS AJ hEW ?_,⟨?_,?_⟩,R++[⟨some ⟨bj,oj,none⟩,cj,J⟩],ad77,c77,?_,?_⟩
   ·have h9:=(Ue (ad:=⟨bj,oj,none⟩) (xs:=J.map (Value.int .i64)) hS AJ).2
    dsimp only at h9
    omega
   ·rw [(hS.blk (g:=gs) AJ).1.cell,hgs9];rfl
   ·rw [(hS.blk (g:=gn) AJ).1.cell,hgn9];rfl
   ·rw [List.map_append,List.map_append,hHR.out]
    show _++[J]=_++[aB m h q l j x.1]
    rw [HCX.out,hJe]
   have h9:=(hS.pull (r:=star (R.map Rw.res)) AJ).starPut (r:=own 3 1 (some ⟨bj,oj,none⟩) J.length cj (J.map (Value.int .i64))) AJ
   simp only [Mp,List.length_append,HR9.out,List.length_cons,List.length_nil,Nat.zero_add,List.map_append,List.map_cons,List.map_nil,Rw.val,Rw.res]
   exact h9.sub AV
 case hdone=>
  clear hI0 hS hcs hcn
  rintro D xs W hD hxs ⟨R,ao,co,hR,hI⟩ hK9
  have hF:=hI.fixd (Fl _ _ _ _ _ _ _ _ _ _ _ _ _ _)
  have hD0:w0.heap.size≤D:=Nat.le_trans hgs hD
  have hRS:R.map (·.xs)=Xa m h q l K np:=by
   rw [hR,Mo,←hxs,List.map_map];rfl
  have hRl:R.length=np:=by
   have h9:=congrArg List.length hRS
   rw [List.length_map,RI] at h9
   exact h9
  have hall:∀x∈R.map (·.xs),Cf x x.length m h=0:=by
   rw [hRS,Mo]
   intro x hx
   obtain ⟨k,_,rfl⟩:=List.mem_map.1 hx
   refine Qg hok ?_ ((DE _).2 fun i hi=>?_)
   ·unfold aB GR;rw [Bt]
    have k2:0<m*h:=Int.mul_pos (by omega) (by omega)
    omega
   unfold aB GR at hi⊢
   rw [Bt] at hi
   rw [JU _ _ _ hi];unfold Lg;omega
  dsimp only [Mp] at hF
  have hPI:BT W ao co R:=BT.of hF AJ AJ
  have HTO:=AD fun (w:World)(hx:Al W w)=>QF w ao co R m h (hPI.ext hx) (by omega) hall 96 Iw Iv Iu Wk
  rw [hRS] at HTO
  have hFS:YT m h q l K np=Cc Iw Iv Iu (Xa m h q l K np):=rfl
  have HFS:=AD hFS
  clear hR hRS hall hPI hFS hI hc hcm hl hv hxs
  obtain ⟨L,hL⟩:∃L,Cc Iw Iv Iu (Xa m h q l K np)=L:=⟨_,rfl⟩
  rw [hL] at HTO HFS
  clear hL
  have hWX:=Al.refl W
  have hS:=hF
  clear hF
  obtain ⟨n9,hn9⟩:∃n9,R.length=n9:=⟨_,rfl⟩
  dsimp only [Exit.inBlock,Exit.then]
  repeat gi_step
  repeat' (first
   | (refine A3 45 ?_);refine A4 AA Tryz.call45 (HTO.out _ hWX) ?_;rintro e w ⟨a2,c2,R2,hR2,rfl,hE2,hO2⟩;replace hS:=hO2 _ _ (show DO w0 _ ao co R _ from (hS.pull (r:=star (R.map Rw.res)) AJ).pull (r:=own 30 1 ao R.length co (R.map Rw.val)) AJ);unfold DO at hS;clear hO2;refine Ae ?_;go_step|refine YE ?_|refine WX ?_|refine bM ?_;clear hS;intro w hS|refine TG ?_|refine ZZ ?_;clear hS;intro w hS|refine AG ?_;go_step|fail)
  have hD9:=Ww hS AJ hD0 hK9 rfl
  have hS2:St w0 _ [blk g4 [.int .i64 m, .int .i64 h, .slice a2 R2.length c2],own 30 1 a2 R2.length c2 (R2.map Rw.val),star (R2.map Rw.res)]:=hS.sub AV
  replace hS2:=hS2.putD (.deferred none) (fun r hr=>by
   simp only [List.mem_cons,List.not_mem_nil,or_false] at hr
   rcases hr with rfl|rfl|rfl
   ·exact Cv _ _
   ·exact E5 _ _ _ _ _ _
   refine Ip fun r hr=>?_
   obtain ⟨p,_,rfl⟩:=List.mem_map.1 hr
   exact E5 _ _ _ _ _ _) hD0 hD9 rfl
  refine ⟨by simp, .inl ⟨_,_,rfl,run_takeDeferred hD9,?_⟩⟩
  refine ⟨.agg #[.int .i64 m, .int .i64 h, .slice a2 R2.length c2],?_,a2,c2,R2,hR2.trans HFS.out.symm,rfl,?_⟩
  ·rw [Gj (xs:=[.cell 4 24]) rfl (Dz.cons (AC.blk hS2 rfl (AP (n:=3) rfl) AT.head rfl) Dz.nil)]
   rfl
  unfold DO
  exact hS2.sub AV
 case hstop=>
  rintro D c9 pre W _ _ h9 _
  exact h9.elim
end Go.Proofs.YtohacgmhmbijmaaGreatDoor
namespace Go.Proofs.YtohacgmhmbijmaaGreatDoor
attribute [local irreducible] Region.wanted
open Go.ChangeShapes Go.WideShapes Go.ChangeAt Go.RowKit Go.Deep
set_option linter.unusedVariables false
set_option maxRecDepth 100000
set_option maxHeartbeats 8000000
structure DJ where
 wide:Int
 high:Int
 parts:Int
 quant:List Int
 c1:List Int
 s1:List Int
 c2:List Int
 s2:List Int
 every:Int
 data:List Nat
def Zw(f:DJ)(v1 v2 vd:Value):List Ah:=[.val (.int .i64 f.wide), .val (.int .i64 f.high), .val (.int .i64 f.parts), .ints f.quant, .ints f.c1, .val v1, .ints f.c2, .val v2, .val (.int .i64 f.every), .val vd]
theorem A7(w0:World)(n lo hi:Int):
 Calls Tryz.prog 91 #[.int .i64 n, .int .i64 lo, .int .i64 hi] w0 fun e w=>e= .returned (.bool (decide (lo≤n∧n≤hi)))∧Al w0 w:=by
 have hS:=St.start w0
 by_cases h1:lo≤n
 ·by_cases h2:n≤hi
  ·have hD:=AD (show decide (lo≤n∧n≤hi)=true from decide_eq_true ⟨h1,h2⟩)
   go_enter Tryz.func91,Tryz.ntmps91
   repeat' (first
    | refine X0 ?_|refine FJ ?_|(refine AS 9 ?_);(refine Cg _ (V.geq rfl rfl) AA (fun hB=>?_) (fun hB=>?_)<;>(try exact AW)<;>go_step)|refine YB ?_|refine AG ?_;go_step|fail)
   refine BW rfl (AC.tmp rfl) rfl ?_
   exact ⟨(by rw [hD.out];first|done|rfl|exact congrArg Ending.returned (congrArg Value.bool (decide_eq_true h2))|exact congrArg Ending.returned (congrArg Value.bool (decide_eq_false h2))),hS.1⟩
  have hD:=AD (show decide (lo≤n∧n≤hi)=false from decide_eq_false fun h=>h2 h.2)
  go_enter Tryz.func91,Tryz.ntmps91
  repeat' (first
   | refine X0 ?_|refine FJ ?_|(refine AS 9 ?_);(refine Cg _ (V.geq rfl rfl) AA (fun hB=>?_) (fun hB=>?_)<;>(try exact AW)<;>go_step)|refine YB ?_|refine AG ?_;go_step|fail)
  refine BW rfl (AC.tmp rfl) rfl ?_
  exact ⟨(by rw [hD.out];first|done|rfl|exact congrArg Ending.returned (congrArg Value.bool (decide_eq_true h2))|exact congrArg Ending.returned (congrArg Value.bool (decide_eq_false h2))),hS.1⟩
 have hD:=AD (show decide (lo≤n∧n≤hi)=false from decide_eq_false fun h=>h1 h.1)
 go_enter Tryz.func91,Tryz.ntmps91
 repeat' (first
  | go_skip|((first|(with_reducible refine JG ?_)|(with_reducible refine QW ?_));(first|go_big_want|go_step);go_step)|((with_reducible refine An _ (.pick _ _ _) ?_);(refine BC rfl AA ?_;go_step))|((refine AS 9 ?_);(refine Cg _ (V.geq rfl rfl) AA (fun hB=>?_) (fun hB=>?_)<;>(try exact AW)<;>go_step))|(refine AG ?_;go_step)|fail)
 refine BW rfl (AC.tmp rfl) rfl ?_
 exact ⟨(by rw [hD.out];first|done|rfl|exact congrArg Ending.returned (congrArg Value.bool (decide_eq_true h2))|exact congrArg Ending.returned (congrArg Value.bool (decide_eq_false h2))),hS.1⟩
def Ga(f:DJ):Prop:=(1≤f.wide∧f.wide≤64)∧(1≤f.high∧f.high≤64)∧(f.parts=1∨f.parts=3)∧(0≤f.every∧f.every≤100)
instance(f:DJ):Decidable (Ga f):=by unfold Ga;infer_instance
def Dm(f:DJ):Int:=if Ga f then if JH f.quant then if BA f.c1 f.s1=0 then if BA f.c2 f.s2=0 then if f.data.length≤90000 then 0 else 2 else BA f.c2 f.s2 else BA f.c1 f.s1 else 1 else 1
def fv(f:DJ)(v1 v2 vd:Value):Value:= .agg (AI (Zw f v1 v2 vd)).toArray
theorem Nw(w0:World)(W H p ev:Int)(Q C1 C2:List Int)(v1 v2 vd:Value)(hQ:Ap Q 64)(hC1:Ap C1 16)(hC2:Ap C2 16)(h:¬((1≤W∧W≤64)∧(1≤H∧H≤64)∧(p=1∨p=3)∧(0≤ev∧ev≤100))):
 Calls Tryz.prog 52 #[.agg (AI [.val (.int .i64 W), .val (.int .i64 H), .val (.int .i64 p), .ints Q, .ints C1, .val v1, .ints C2, .val v2, .val (.int .i64 ev), .val vd]).toArray] w0 fun e w=>e= .returned (.int .i64 1)∧Al w0 w:=by
 have hS:=St.start w0
 by_cases hw:1≤W∧W≤64
 case neg=>
  have hD:=AD (decide_eq_false hw)
  clear h hw
  go_enter Tryz.func52,Tryz.ntmps52
  repeat' (first
   | (refine A3 91 ?_);refine A4 AA Tryz.call91 (A7 _ _ _ _) ?_;rintro e w ⟨rfl,hE2⟩;rw [hD.out];replace hS:=hS.ext hE2;clear hE2;refine Ae ?_;go_step|go_skip|refine X0 ?_|refine FJ ?_|refine Jk 10 ?_ ?_<;>intro hB<;>(try exact JX hB)<;>go_step|refine YF ?_|refine TD 1 ?_;clear hS;intro g1 w hS|refine Vi ?_|refine AG ?_;go_step|fail)
  refine BW rfl (AC.tmp rfl) rfl ?_
  exact ⟨rfl,hS.1⟩
 have hD:=AD (decide_eq_true hw)
 by_cases hh:1≤H∧H≤64
 case neg=>
  have hD2:=AD (decide_eq_false hh)
  clear h hw hh
  go_enter Tryz.func52,Tryz.ntmps52
  repeat' (first
   | (refine A3 91 ?_);refine A4 AA Tryz.call91 (A7 _ _ _ _) ?_;rintro e w ⟨rfl,hE2⟩;rw [hD.out];replace hS:=hS.ext hE2;clear hE2;refine Ae ?_;go_step|(refine A3 91 ?_);refine A4 AA Tryz.call91 (A7 _ _ _ _) ?_;rintro e w ⟨rfl,hE2⟩;rw [hD2.out];replace hS:=hS.ext hE2;clear hE2;refine Ae ?_;go_step|go_skip|refine X0 ?_|refine IL ?_|refine Jk 10 ?_ ?_<;>intro hB<;>(try exact JX hB)<;>go_step|refine Jk 15 ?_ ?_<;>intro hB<;>(try exact JX hB)<;>go_step|refine YF ?_|refine Zc ?_|refine TD 1 ?_;clear hS;intro g1 w hS|refine Vi ?_|refine AG ?_;go_step|fail)
  refine BW rfl (AC.tmp rfl) rfl ?_
  exact ⟨rfl,hS.1⟩
 have hD2:=AD (decide_eq_true hh)
 by_cases h1:p=1
 ·subst h1
  have hD3:=AD (decide_eq_false (show ¬(0≤ev∧ev≤100) from fun e=>h ⟨hw,hh, .inl rfl,e⟩))
  clear h hw hh
  go_enter Tryz.func52,Tryz.ntmps52
  repeat' (first
   | (refine A3 91 ?_);refine A4 AA Tryz.call91 (A7 _ _ _ _) ?_;rintro e w ⟨rfl,hE2⟩;rw [hD.out];replace hS:=hS.ext hE2;clear hE2;refine Ae ?_;go_step|(refine A3 91 ?_);refine A4 AA Tryz.call91 (A7 _ _ _ _) ?_;rintro e w ⟨rfl,hE2⟩;rw [hD2.out];replace hS:=hS.ext hE2;clear hE2;refine Ae ?_;go_step|(refine A3 91 ?_);refine A4 AA Tryz.call91 (A7 _ _ _ _) ?_;rintro e w ⟨rfl,hE2⟩;rw [hD3.out];replace hS:=hS.ext hE2;clear hE2;refine Ae ?_;go_step|go_skip|refine X0 ?_|refine Gz ?_|refine Jk 10 ?_ ?_<;>intro hB<;>(try exact JX hB)<;>go_step|refine Jk 15 ?_ ?_<;>intro hB<;>(try exact JX hB)<;>go_step|refine Es 20 ?_ ?_<;>intro hB<;>(try exact AW)<;>go_step|refine YF ?_|refine Zc ?_|refine aX ?_|refine WG ?_|refine NW ?_|refine TD 1 ?_;clear hS;intro g1 w hS|refine Vi ?_|refine AG ?_;go_step|fail)
  refine BW rfl (AC.tmp rfl) rfl ?_
  exact ⟨rfl,hS.1⟩
 by_cases h3:p=3
 ·subst h3
  have hD3:=AD (decide_eq_false (show ¬(0≤ev∧ev≤100) from fun e=>h ⟨hw,hh, .inr rfl,e⟩))
  clear h hw hh h1
  go_enter Tryz.func52,Tryz.ntmps52
  repeat' (first
   | (refine A3 91 ?_);refine A4 AA Tryz.call91 (A7 _ _ _ _) ?_;rintro e w ⟨rfl,hE2⟩;rw [hD.out];replace hS:=hS.ext hE2;clear hE2;refine Ae ?_;go_step|(refine A3 91 ?_);refine A4 AA Tryz.call91 (A7 _ _ _ _) ?_;rintro e w ⟨rfl,hE2⟩;rw [hD2.out];replace hS:=hS.ext hE2;clear hE2;refine Ae ?_;go_step|(refine A3 91 ?_);refine A4 AA Tryz.call91 (A7 _ _ _ _) ?_;rintro e w ⟨rfl,hE2⟩;rw [hD3.out];replace hS:=hS.ext hE2;clear hE2;refine Ae ?_;go_step|refine X0 ?_|refine IL ?_|refine Jk 10 ?_ ?_<;>intro hB<;>(try exact JX hB)<;>go_step|refine Jk 15 ?_ ?_<;>intro hB<;>(try exact JX hB)<;>go_step|refine Es 20 ?_ ?_<;>intro hB<;>(try exact AW)<;>go_step|refine Es 24 ?_ ?_<;>intro hB<;>(try exact AW)<;>go_step|refine YF ?_|refine Zc ?_|refine aX ?_|refine WG ?_|refine NW ?_|refine TD 1 ?_;clear hS;intro g1 w hS|refine Vi ?_|refine AG ?_;go_step|fail)
  refine BW rfl (AC.tmp rfl) rfl ?_
  exact ⟨rfl,hS.1⟩
 clear h hw hh
 go_enter Tryz.func52,Tryz.ntmps52
 repeat' (first
  | (refine A3 91 ?_);refine A4 AA Tryz.call91 (A7 _ _ _ _) ?_;rintro e w ⟨rfl,hE2⟩;rw [hD.out];replace hS:=hS.ext hE2;clear hE2;refine Ae ?_;go_step|(refine A3 91 ?_);refine A4 AA Tryz.call91 (A7 _ _ _ _) ?_;rintro e w ⟨rfl,hE2⟩;rw [hD2.out];replace hS:=hS.ext hE2;clear hE2;refine Ae ?_;go_step|go_skip|refine X0 ?_|refine IL ?_|refine Jk 10 ?_ ?_<;>intro hB<;>(try exact JX hB)<;>go_step|refine Jk 15 ?_ ?_<;>intro hB<;>(try exact JX hB)<;>go_step|refine Es 20 ?_ ?_<;>intro hB<;>(try exact AW)<;>go_step|refine Es 24 ?_ ?_<;>intro hB<;>(try exact AW)<;>go_step|refine YF ?_|refine Zc ?_|refine aX ?_|refine TD 1 ?_;clear hS;intro g1 w hS|refine Vi ?_|refine AG ?_;go_step|fail)
 refine BW rfl (AC.tmp rfl) rfl ?_
 exact ⟨rfl,hS.1⟩
theorem MN(w0:World)(W H p ev:Int)(Q C1 C2:List Int)(v1 v2 vd:Value)(hQ:Ap Q 64)(hC1:Ap C1 16)(hC2:Ap C2 16)(h:(1≤W∧W≤64)∧(1≤H∧H≤64)∧(p=1∨p=3)∧(0≤ev∧ev≤100))(hk:JH Q=false):
 Calls Tryz.prog 52 #[.agg (AI [.val (.int .i64 W), .val (.int .i64 H), .val (.int .i64 p), .ints Q, .ints C1, .val v1, .ints C2, .val v2, .val (.int .i64 ev), .val vd]).toArray] w0 fun e w=>e= .returned (.int .i64 1)∧Al w0 w:=by
 have hS:=St.start w0
 have hK:=AD hk
 have hD:=AD (decide_eq_true h.1)
 have hD2:=AD (decide_eq_true h.2.1)
 have hD3:=AD (decide_eq_true h.2.2.2)
 have hp:=h.2.2.1
 clear h hk
 rcases hp with rfl|rfl
 all_goals
  go_enter Tryz.func52,Tryz.ntmps52
  repeat' (first
   | (refine A3 91 ?_);refine A4 AA Tryz.call91 (A7 _ _ _ _) ?_;rintro e w ⟨rfl,hE2⟩;rw [hD.out];replace hS:=hS.ext hE2;clear hE2;refine Ae ?_;go_step|(refine A3 91 ?_);refine A4 AA Tryz.call91 (A7 _ _ _ _) ?_;rintro e w ⟨rfl,hE2⟩;rw [hD2.out];replace hS:=hS.ext hE2;clear hE2;refine Ae ?_;go_step|(refine A3 91 ?_);refine A4 AA Tryz.call91 (A7 _ _ _ _) ?_;rintro e w ⟨rfl,hE2⟩;rw [hD3.out];replace hS:=hS.ext hE2;clear hE2;refine Ae ?_;go_step|(refine A3 36 ?_);refine A4 AA Tryz.call36 (Cy _ Q hQ) ?_;rintro e w ⟨rfl,hE2⟩;rw [hK.out];replace hS:=hS.ext hE2;clear hE2;refine Ae ?_;go_step|go_skip|refine X0 ?_|refine IL ?_|refine Jk 10 ?_ ?_<;>intro hB<;>(try exact JX hB)<;>go_step|refine Jk 15 ?_ ?_<;>intro hB<;>(try exact JX hB)<;>go_step|refine Es 20 ?_ ?_<;>intro hB<;>(try exact AW)<;>go_step|refine Es 24 ?_ ?_<;>intro hB<;>(try exact AW)<;>go_step|refine YF ?_|refine Zc ?_|refine aX ?_|refine WG ?_|refine NW ?_|(with_reducible refine An _ (.fieldAddr 37 _ 3) ?_);(refine As AA (V.fieldAddr Pf rfl BO) ?_;go_step)|refine X3 ?_|refine TD 1 ?_;clear hS;intro g1 w hS|refine Vi ?_|refine bW ?_|refine AG ?_;go_step|fail)
  refine BW rfl (AC.tmp rfl) rfl ?_
  exact ⟨rfl,hS.1⟩
theorem Z9{x y:Int}(h:x=y):Ending.returned (.int .i64 x)= .returned (.int .i64 y):=by rw [h]
theorem VK(C:List Int)(v:Value)(h:Ap C 16):(AI [.ints C, .val v]).length=17:=by
 have:=h.out
 simp [AI,Ah.cells,this]
theorem cK(C1 C2:List Int)(v1 v2:Value):AI [.ints C1, .val v1]++(AI [.ints C2, .val v2]++[])=AI [.ints C1, .val v1, .ints C2, .val v2]:=by
 simp [AI,Ah.cells]
theorem VD{W w:World}{rs:List Au}{g:Nat}{C1 C2:List Int}{v1 v2:Value}(hS:St W w (blk g (AI [.ints C1, .val v1]++(AI [.ints C2, .val v2]++[]))::rs)):St W w (prt g [.ints C1, .val v1, .ints C2, .val v2]::rs):=by
 rw [cK] at hS;exact hS
theorem Nx(w0:World)(W H p ev:Int)(Q C1 C2 S1 S2:List Int)(a1 a2 ad:Option Addr)(n1 n2 nd c1 c2 cd:Nat)(hQ:Ap Q 64)(hC1:Ap C1 16)(hC2:Ap C2 16)(hs1:Sl w0 1 (.slice a1 n1 c1) n1 (S1.map (Value.int .i64)))(hs2:Sl w0 1 (.slice a2 n2 c2) n2 (S2.map (Value.int .i64)))(hn1:n1≤9223372036854775807)(hn2:n2≤9223372036854775807)(hnd:nd≤9223372036854775807)(h:(1≤W∧W≤64)∧(1≤H∧H≤64)∧(p=1∨p=3)∧(0≤ev∧ev≤100))(hk:JH Q=true):
 Calls Tryz.prog 52 #[.agg (AI [.val (.int .i64 W), .val (.int .i64 H), .val (.int .i64 p), .ints Q, .ints C1, .val (.slice a1 n1 c1), .ints C2, .val (.slice a2 n2 c2), .val (.int .i64 ev), .val (.slice ad nd cd)]).toArray] w0 fun e w=>e= .returned (.int .i64 (if BA C1 S1=0 then if BA C2 S2=0 then if nd≤90000 then 0 else 2 else BA C2 S2 else BA C1 S1))∧Al w0 w:=by
 have hS:=St.start w0
 have hL1:=AD (VK C1 (.slice a1 n1 c1) hC1)
 have hL2:=AD (VK C2 (.slice a2 n2 c2) hC2)
 have hK:=AD hk
 have hD:=AD (decide_eq_true h.1)
 have hD2:=AD (decide_eq_true h.2.1)
 have hD3:=AD (decide_eq_true h.2.2.2)
 have hp:=h.2.2.1
 clear h hk
 obtain ⟨E1,hE1⟩:∃x,BA C1 S1=x:=⟨_,rfl⟩
 obtain ⟨E2,hE2⟩:∃x,BA C2 S2=x:=⟨_,rfl⟩
 have HE1:=AD hE1
 have HE2:=AD hE2
 rw [hE1,hE2]
 clear hE1 hE2
 rcases hp with rfl|rfl
 all_goals
  go_enter Tryz.func52,Tryz.ntmps52
  repeat' (first
   | (refine A3 91 ?_);refine A4 AA Tryz.call91 (A7 _ _ _ _) ?_;rintro e w ⟨rfl,hE2⟩;rw [hD.out];replace hS:=hS.ext hE2;clear hE2;refine Ae ?_;go_step|(refine A3 91 ?_);refine A4 AA Tryz.call91 (A7 _ _ _ _) ?_;rintro e w ⟨rfl,hE2⟩;rw [hD2.out];replace hS:=hS.ext hE2;clear hE2;refine Ae ?_;go_step|(refine A3 91 ?_);refine A4 AA Tryz.call91 (A7 _ _ _ _) ?_;rintro e w ⟨rfl,hE2⟩;rw [hD3.out];replace hS:=hS.ext hE2;clear hE2;refine Ae ?_;go_step|(refine A3 36 ?_);refine A4 AA Tryz.call36 (Cy _ Q hQ) ?_;rintro e w ⟨rfl,hE2⟩;rw [hK.out];replace hS:=hS.ext hE2;clear hE2;refine Ae ?_;go_step|(refine AS 45 ?_);refine Ag ?_;refine AU (o:=⟨some 45,_,_,_,_,_⟩) hS 115 2 _ rfl 32 17 152 Ns _ _ (AX.agg rfl hL1.out (AX.agg rfl hL2.out AX.nil)) rfl (by decide) (by decide) ?_;clear hS;intro g45 w hS;replace hS:=VD hS|go_skip|refine X0 ?_|refine IL ?_|refine Jk 10 ?_ ?_<;>intro hB<;>(try exact JX hB)<;>go_step|refine Jk 15 ?_ ?_<;>intro hB<;>(try exact JX hB)<;>go_step|refine Es 20 ?_ ?_<;>intro hB<;>(try exact AW)<;>go_step|refine Es 24 ?_ ?_<;>intro hB<;>(try exact AW)<;>go_step|refine YF ?_|refine Zc ?_|refine aX ?_|refine WG ?_|refine NW ?_|(with_reducible refine An _ (.fieldAddr 37 _ 3) ?_);(refine As AA (V.fieldAddr Pf rfl BO) ?_;go_step)|refine X3 ?_|refine ZE ?_|refine aV ?_|refine aW ?_|refine bi ?_|refine TD 1 ?_;clear hS;intro g1 w hS|refine Vi ?_|refine bW ?_|refine LU ?_|refine AG ?_;go_step|fail)
  clear hL1 hL2 hD hD2 hD3 hK
  go_loopg [47] 2 (fun gk kv w=>∃k:Nat,gk+k=2∧kv= .int .i64 k∧(1≤k→E1=0)∧(2≤k→E2=0)∧St w0 w [prt g1 [.val (.int .i64 W), .val (.int .i64 H), .val (.int .i64 _), .ints Q, .ints C1, .val (.slice a1 n1 c1), .ints C2, .val (.slice a2 n2 c2), .val (.int .i64 ev), .val (.slice ad nd cd)],prt g45 [.ints C1, .val (.slice a1 n1 c1), .ints C2, .val (.slice a2 n2 c2)]])
  case atStart=>exact ⟨0,rfl,rfl,fun h=>absurd h (by omega),fun h=>absurd h (by omega),hS.sub AV⟩
  case round=>
   clear hS
   obtain ⟨k,hk,rfl,HA,HB,hS⟩:=hrel
   by_cases hlt:k<2
   ·obtain rfl|rfl:k=0∨k=1:=by omega
    ·
     repeat' (first
      | (refine A3 73 ?_);refine A4 AA Tryz.call73 (CT _ C1 S1 a1 n1 c1 hC1 (hs1.ext hS.1) hn1) ?_;rintro e w ⟨rfl,hE2⟩;rw [HE1.out];replace hS:=hS.ext hE2;clear hE2;refine Ae ?_;go_step|refine X0 ?_|refine X2 ?_|refine Vk 49 ?_|refine X3 ?_|refine X7 ?_|refine LU ?_|refine Rk 5 ?_;clear hS;intro g5 w hS|refine TE ?_;clear hS;intro w hS|refine AG ?_;go_step|fail)
     ·
      refine BW rfl (AC.tmp rfl) rfl ?_
      exact ⟨Z9 (by (repeat' split)<;>omega),hS.1⟩
     ·go_roundg (gk-1)
      case measure=>omega
      case rel=>exact ⟨1,by omega,rfl,fun _=>by omega,fun h=>absurd h (by omega),hS.sub AV⟩
    ·have h0:=HA (by omega)
     subst h0
     repeat' (first
      | (refine A3 73 ?_);refine A4 AA Tryz.call73 (CT _ C2 S2 a2 n2 c2 hC2 (hs2.ext hS.1) hn2) ?_;rintro e w ⟨rfl,hE2⟩;rw [HE2.out];replace hS:=hS.ext hE2;clear hE2;refine Ae ?_;go_step|refine X0 ?_|refine X2 ?_|refine Vk 49 ?_|refine X3 ?_|refine X7 ?_|refine LU ?_|refine Rk 5 ?_;clear hS;intro g5 w hS|refine TE ?_;clear hS;intro w hS|refine AG ?_;go_step|fail)
     ·
      refine BW rfl (AC.tmp rfl) rfl ?_
      exact ⟨Z9 (by (repeat' split)<;>omega),hS.1⟩
     ·go_roundg (gk-1)
      case measure=>omega
      case rel=>exact ⟨2,by omega,rfl,fun _=>rfl,fun _=>by omega,hS.sub AV⟩
   obtain rfl:k=2:=by omega
   have h1:=HA (by omega)
   have h2:=HB (by omega)
   subst h1
   subst h2
   repeat' (first
    | refine X8 ?_|refine X2 ?_|refine ZF ?_|refine ZC ?_|refine Gv ?_|(with_reducible refine An _ (.load 35 _) ?_);(refine Ag ?_;apply Ep hS 35 _ rfl _ _ rfl (AH rfl) _;(case hp=>exact AJ);(case hi=>(repeat (first|exact Jd.head|(apply Jd.skipI;(case hn=>exact EJ);(case h=>omega);(case ho=>rfl))|apply Jd.skipV)));refine AB ?_;go_step)|refine AG ?_;go_step|fail)
   all_goals
    refine BW rfl (AC.tmp rfl) rfl ?_
    exact ⟨Z9 (by (repeat' split)<;>omega),hS.1⟩
end Go.Proofs.YtohacgmhmbijmaaGreatDoor
namespace Go.Proofs.YtohacgmhmbijmaaGreatDoor
attribute [local irreducible] Region.wanted
open Go.RowKit
set_option linter.unusedVariables false
set_option maxRecDepth 100000
set_option maxHeartbeats 8000000
section
variable{P:Program}{W w:World}{rs rs':List Au}{Q:Exit→Act→World→Prop}{K:Act→World→Prop}{o:Oper}{a:Act}
end
section
variable{P:Program}{a:Act}{x y:Operand}{t ty u:TypeId}
end
end Go.Proofs.YtohacgmhmbijmaaGreatDoor
namespace Go.Proofs.YtohacgmhmbijmaaGreatDoor
attribute [local irreducible] Region.wanted
open Go.ChangeShapes Go.WideShapes Go.ChangeAt Go.RowKit Go.Deep
set_option linter.unusedVariables false
set_option maxRecDepth 100000
set_option maxHeartbeats 8000000
theorem PX(w0:World)(f:DJ)(a1 a2 ad:Option Addr)(n1 n2 nd c1 c2 cd:Nat)(hQ:Ap f.quant 64)(hC1:Ap f.c1 16)(hC2:Ap f.c2 16)(hs1:Sl w0 1 (.slice a1 n1 c1) n1 (f.s1.map (Value.int .i64)))(hs2:Sl w0 1 (.slice a2 n2 c2) n2 (f.s2.map (Value.int .i64)))(hn1:n1≤9223372036854775807)(hn2:n2≤9223372036854775807)(hnd:nd≤9223372036854775807)(hd:f.data.length=nd):
 Calls Tryz.prog 52 #[fv f (.slice a1 n1 c1) (.slice a2 n2 c2) (.slice ad nd cd)] w0 fun e w=>e= .returned (.int .i64 (Dm f))∧Al w0 w:=by
 by_cases h1:Ga f
 ·by_cases h2:JH f.quant=true
  ·have e:Dm f=if BA f.c1 f.s1=0 then if BA f.c2 f.s2=0 then if nd≤90000 then 0 else 2 else BA f.c2 f.s2 else BA f.c1 f.s1:=by unfold Dm;rw [if_pos h1,if_pos h2,hd]
   rw [e]
   exact Nx w0 _ _ _ _ _ _ _ _ _ a1 a2 ad n1 n2 nd c1 c2 cd hQ hC1 hC2 hs1 hs2 hn1 hn2 hnd h1 h2
  have e:Dm f=1:=by unfold Dm;rw [if_pos h1,if_neg h2]
  rw [e]
  exact MN w0 _ _ _ _ _ _ _ _ _ _ hQ hC1 hC2 h1 (by simpa using h2)
 have e:Dm f=1:=by unfold Dm;rw [if_neg h1]
 rw [e]
 exact Nw w0 _ _ _ _ _ _ _ _ _ _ hQ hC1 hC2 h1
def cb(C:List Int):Nat→List Int
 | 0=>[]
 | k+1=>cb C k++[AK C k/256,AK C k%256]
def G6(f:DJ):List Int:=f.data.map fun (x:Nat)=>(x:Int)
theorem Tz{f:DJ}(h:Dm f=0):Ga f∧JH f.quant=true∧BA f.c1 f.s1=0∧BA f.c2 f.s2=0∧f.data.length≤90000:=by
 unfold Dm at h
 split at h
 ·rename_i h1
  split at h
  ·rename_i h2
   split at h
   ·rename_i h3
    split at h
    ·rename_i h4
     split at h
     ·rename_i h5
      exact ⟨h1,h2,h3,h4,h5⟩
     cases h
    rename_i h4;exact absurd h h4
   rename_i h3;exact absurd h h3
  cases h
 cases h
end Go.Proofs.YtohacgmhmbijmaaGreatDoor
namespace Go.Proofs.YtohacgmhmbijmaaGreatDoor
attribute [local irreducible] Region.wanted
open Go.RowKit
set_option linter.unusedVariables false
set_option maxRecDepth 100000
set_option maxHeartbeats 8000000
theorem RO(n every:Nat):((Bc n every).map fun x=>x.2-x.1).sum=n:=by
 have hl:(List.replicate (n*64) (0:Int)).length=n*64:=List.length_replicate
 have h:=congrArg List.length (RK every hl)
 have key:∀L:List (Nat×Nat),(∀x∈L,x.1≤x.2∧x.2≤n)→(L.flatMap fun x=>BB (List.replicate (n*64) (0:Int)) x.1 x.2).length=(L.map fun x=>x.2-x.1).sum*64:=by
  intro L
  induction L with
  | nil=>intro _;rfl
  | cons x L ih=>
    intro hx
    obtain ⟨h1,h2⟩:=hx x (by simp)
    rw [List.flatMap_cons,List.length_append,ih fun y hy=>hx y (by simp [hy]),Dv hl h1 h2,List.map_cons,List.sum_cons,Nat.add_mul]
 rw [key _ (Fo n every),hl] at h
 omega
theorem RG(C1 S1 C2 S2:List Int):∀(L:List (Nat×Nat))(ps:List (List Int)),(LN C1 S1 C2 S2 L ps).1=0→(LN C1 S1 C2 S2 L ps).2.length=(L.map fun x=>x.2-x.1).sum*64
 | [],_,_=>rfl
 | x::L,ps,h=>by
   rw [LN] at h⊢
   by_cases h0:(GI C1 S1 C2 S2 (ps.headD []) ((x.2-x.1:Nat):Int)).1=0
   ·rw [if_neg (by simpa using h0)] at h⊢
    obtain ⟨n,e,_,hl⟩:=Oc h0
    have ih:=RG C1 S1 C2 S2 L ps.tail h
    have:x.2-x.1=n:=by omega
    dsimp only
    rw [List.length_append,ih,hl,List.map_cons,List.sum_cons,Nat.add_mul,this]
   rw [if_pos (by simpa using h0)] at h
   exact absurd h h0
theorem XT{C1 S1 C2 S2 b:List Int}{n:Nat}{every:Int}(h:(O9 C1 S1 C2 S2 b n every).1=0):(O9 C1 S1 C2 S2 b n every).2.length=n*64:=by
 unfold O9 at h⊢
 by_cases hw:NQ C1 S1 C2 S2 b n every=0
 ·rw [if_pos hw] at h⊢
  split at h
  ·cases h
  rename_i y hy
  by_cases h1:(LN C1 S1 C2 S2 (Bc (n:Int).toNat every.toNat) y.1).1=0
  ·rw [if_pos h1]
   rw [RG _ _ _ _ _ _ h1,RO,Int.toNat_natCast]
  rw [if_neg h1] at h;exact absurd h h1
 rw [if_neg hw] at h;exact absurd h hw
structure FM(w:World)(f:DJ)(a1 a2 ad:Option Addr)(n1 k1 n2 k2 nd kd:Nat):Prop where
 q:Ap f.quant 64
 l1:Ap f.c1 16
 l2:Ap f.c2 16
 s1:Sl w 1 (.slice a1 n1 k1) n1 (f.s1.map (Value.int .i64))
 s2:Sl w 1 (.slice a2 n2 k2) n2 (f.s2.map (Value.int .i64))
 b1:n1≤9223372036854775807
 b2:n2≤9223372036854775807
 sd:Sl w 1 (.slice ad nd kd) nd ((G6 f).map (Value.int .u8))
 bd:nd≤9223372036854775807
 dlt:∀x∈f.data,x<256
theorem FM.ext{w w':World}{f:DJ}{a1 a2 ad:Option Addr}{n1 k1 n2 k2 nd kd:Nat}(h:FM w f a1 a2 ad n1 k1 n2 k2 nd kd)(hE:Al w w'):FM w' f a1 a2 ad n1 k1 n2 k2 nd kd:=
 ⟨h.q,h.l1,h.l2,h.s1.ext hE,h.s2.ext hE,h.b1,h.b2,h.sd.ext hE,h.bd,h.dlt⟩
theorem FM.dl{w:World}{f:DJ}{a1 a2 ad:Option Addr}{n1 k1 n2 k2 nd kd:Nat}(h:FM w f a1 a2 ad n1 k1 n2 k2 nd kd):f.data.length=nd:=by
 have:=h.sd.1
 rw [List.length_map,Nat.mul_one] at this
 rw [←this];unfold G6;rw [List.length_map]
theorem FM.chk{w:World}{f:DJ}{a1 a2 ad:Option Addr}{n1 k1 n2 k2 nd kd:Nat}(h:FM w f a1 a2 ad n1 k1 n2 k2 nd kd):Calls Tryz.prog 52 #[fv f (.slice a1 n1 k1) (.slice a2 n2 k2) (.slice ad nd kd)] w fun e w'=>e= .returned (.int .i64 (Dm f))∧Al w w':=
 PX w f a1 a2 ad n1 n2 nd k1 k2 kd h.q h.l1 h.l2 h.s1 h.s2 h.b1 h.b2 h.bd h.dl
theorem Tm{f:DJ}(h:∀x∈f.data,x<256):∀x∈G6 f,0≤x∧x<256:=by
 intro x hx
 obtain ⟨y,hy,rfl⟩:=List.mem_map.1 hx
 have:=h y hy
 omega
theorem YN (w:World):(Instr.build 24 #[]).run Tryz.prog w= .ok (.agg #[.int .i64 0, .int .i64 0, .slice none 0 0]) w:=by kernel_rfl
theorem Sf(w0:World)(m h:Int)(hok:1≤m∧m≤64∧1≤h∧h≤64)(np K M:Nat)(hnp:np≤3)(hK:Aq m h=K)(hM:np*K=M)(Q C1 C2:List Int)(v1 v2 vd:Value)(ev:Int)(hQ:Ap Q 64)(hC1:Ap C1 16)(hC2:Ap C2 16):
 Calls Tryz.prog 53 #[.agg (AI [.val (.int .i64 m), .val (.int .i64 h), .val (.int .i64 np), .ints Q, .ints C1, .val v1, .ints C2, .val v2, .val (.int .i64 ev), .val vd]).toArray] w0 fun e w=>e= .returned (.int .i64 (M:Int))∧Al w0 w:=by
 have hS:=St.start w0
 obtain ⟨q1,q2,q3⟩:=Ei hok
 rw [hK] at q1 q2 q3
 have hn1:M≤192:=by
  have:=Nat.mul_le_mul hnp q2
  omega
 have HMU:Hid ((K:Int)*(np:Int)=(M:Int)):=by
  show (K:Int)*(np:Int)=(M:Int)
  rw [←Int.natCast_mul,Nat.mul_comm,hM]
 have HK:=AD q3
 clear q3
 go_enter Tryz.func53,Tryz.ntmps53
 repeat' (first
  | (refine A3 32 ?_);refine A4 AA Tryz.call32 (Gx _ m h) ?_;rintro e w ⟨rfl,hE⟩;replace hS:=hS.ext hE;clear hE;rw [if_pos hok,if_pos hok,HK.out];refine Ae ?_;go_step|(refine AS 16 ?_);refine Ak (.int _ (M:Int)) (V.as (V.mulI rfl rfl (by rw [HMU.out];omega)) HMU.out) (by kernel_rfl) ?_;go_step|refine X0 ?_|refine YF ?_|refine Zc ?_|refine X6 ?_|refine aX ?_|refine TD 1 ?_;clear hS;intro g1 w hS|refine Vi ?_|refine AG ?_;go_step|fail)
 all_goals (try exact AW)
 go_ret
 exact ⟨rfl,hS.1⟩
noncomputable def PS(f:DJ):Int×List Int:=O9 f.c1 f.s1 f.c2 f.s2 (G6 f) ((f.parts.toNat*Aq f.wide f.high:Nat):Int) f.every
noncomputable def YR(f:DJ):Int:=if Dm f=0 then (PS f).1 else Dm f
noncomputable def Zr(f:DJ):List (List Int):=YT f.wide f.high f.quant (PS f).2 (Aq f.wide f.high) f.parts.toNat
def dD:Value:= .agg #[.int .i64 0, .int .i64 0, .slice none 0 0]
def TP(w0:World)(E m h:Int)(L:List (List Int))(e:Ending)(w:World):Prop:=
 (E≠0→e= .returned (.tuple #[dD, .int .i64 E])∧Al w0 w)∧
 (E=0→∃(a:Option Addr) (c:Nat) (R:List Rw),R.map (·.xs)=L∧e= .returned (.tuple #[.agg #[.int .i64 m, .int .i64 h, .slice a R.length c], .int .i64 0])∧DO w0 w a c R [])
theorem PT(w0:World)(f:DJ)(a1 a2 ad:Option Addr)(n1 k1 n2 k2 nd kd:Nat)(hF:FM w0 f a1 a2 ad n1 k1 n2 k2 nd kd)(hml:∃m,w0.cell? ⟨0,0,none⟩=some (.int .i64 m)):
 Calls Tryz.prog 21 #[fv f (.slice a1 n1 k1) (.slice a2 n2 k2) (.slice ad nd kd)] w0 (TP w0 (YR f) f.wide f.high (Zr f)):=by
 have hS:=St.start w0
 have HC:=AD fun (w:World)(hx:Al w0 w)=>(hF.ext hx).chk
 obtain ⟨E,hE⟩:∃E,Dm f=E:=⟨_,rfl⟩
 rw [hE] at HC
 by_cases hz:E=0
 case neg=>
  have HDE:=AD (show YR f=E by unfold YR;rw [hE,if_neg hz])
  obtain ⟨L,hL⟩:∃L,Zr f=L:=⟨_,rfl⟩
  rw [hL]
  have hQ:=hF.q
  have hC1:=hF.l1
  have hC2:=hF.l2
  clear hF hL hE hml
  obtain ⟨W,H,p,Q,C1,S1,C2,S2,ev,D⟩:=f
  dsimp only at hQ hC1 hC2⊢
  show Calls Tryz.prog 21 #[.agg (AI [.val (.int .i64 W), .val (.int .i64 H), .val (.int .i64 p), .ints Q, .ints C1, .val (.slice a1 n1 k1), .ints C2, .val (.slice a2 n2 k2), .val (.int .i64 ev), .val (.slice ad nd kd)]).toArray] _ _
  go_enter Tryz.func21,Tryz.ntmps21
  repeat' (first
   | (refine A3 52 ?_);refine A4 AA Tryz.call52 (HC.out _ hS.1) (Gb hS ?_);clear hS;intro w hS;go_step|refine X0 ?_|refine X3 ?_|(refine AS 11 ?_);(refine As AA (V.build (vs:=[]) rfl (YN)) ?_;go_step)|refine TD 1 ?_;clear hS;intro g1 w hS|refine ZW 2 ?_;clear hS;intro g2 w hS|refine aY ?_|refine ZZ ?_;clear hS;intro w hS|refine AG ?_;go_step|fail)
  all_goals (try exact AW)
  refine AM (xs:=[_,_]) rfl (.cons (AC.blk hS rfl (AP (n:=3) rfl) AJ rfl) (.cons (AC.tmp rfl) (.nil))) (by simp) rfl ?_
  exact ⟨fun _=>⟨by rw [HDE.out];rfl,hS.1⟩,fun h=>by rw [HDE.out] at h;exact absurd h hz⟩
 subst hz
 obtain ⟨⟨d1,d2,d3,d4⟩,hqk,e4,e5,hdl⟩:=Tz hE
 have hdl':nd≤1000000000:=by rw [←hF.dl];omega
 obtain ⟨np,hnp⟩:∃np:Nat,f.parts=(np:Int):=⟨f.parts.toNat,by omega⟩
 have hnp3:np=1∨np=3:=by omega
 have hsz:=fun w=>Sf w f.wide f.high ⟨d1.1,d1.2,d2.1,d2.2⟩ np (Aq f.wide f.high) (np*Aq f.wide f.high) (by omega) rfl rfl f.quant f.c1 f.c2 (.slice a1 n1 k1) (.slice a2 n2 k2) (.slice ad nd kd) f.every hF.q hF.l1 hF.l2
 have HSZ:=AD hsz
 have hpt:f.parts.toNat=np:=by omega
 have hdr:PS f=O9 f.c1 f.s1 f.c2 f.s2 (G6 f) ((np*Aq f.wide f.high:Nat):Int) f.every:=by unfold PS;rw [hpt]
 have hdx:=Tm hF.dlt
 have HSC:Hid (∀w,Al w0 w→Calls Tryz.prog 20 #[.agg (AI [.ints f.c1, .val (.slice a1 n1 k1), .ints f.c2, .val (.slice a2 n2 k2)]).toArray, .slice ad nd kd, .int .i64 ((np*Aq f.wide f.high:Nat):Int), .int .i64 f.every] w (FS w (PS f).1 (PS f).2)):=fun w hx=>by
  rw [hdr]
  exact KQ w f.c1 f.c2 f.s1 f.s2 a1 a2 n1 n2 k1 k2 hF.l1 hF.l2 (hF.s1.ext hx) (hF.s2.ext hx) hF.b1 hF.b2 ad nd kd (G6 f) _ f.every hdl' (hF.sd.ext hx) hdx (hml.imp fun m h=>hx.cell h)
 have hlen:(PS f).1=0→(PS f).2.length=np*Aq f.wide f.high*64:=fun h=>by
  rw [hdr] at h⊢;exact XT h
 have HLEN:=AD hlen
 have HDE:=AD (show YR f=(PS f).1 by unfold YR;rw [if_pos hE])
 have HDL:=AD (show Zr f=YT f.wide f.high f.quant (PS f).2 (Aq f.wide f.high) np by unfold Zr;rw [hpt])
 obtain ⟨D1,hD1⟩:∃x,(PS f).1=x:=⟨_,rfl⟩
 obtain ⟨D2,hD2⟩:∃x,(PS f).2=x:=⟨_,rfl⟩
 rw [hD1] at HDE
 rw [hD2] at HDL
 rw [hD1,hD2] at HSC HLEN
 obtain ⟨E,hEE⟩:∃x,YR f=x:=⟨_,rfl⟩
 obtain ⟨L,hL⟩:∃x,Zr f=x:=⟨_,rfl⟩
 rw [hEE] at HDE⊢
 rw [hL] at HDL⊢
 have hQ:=hF.q
 have hC1:=hF.l1
 have hC2:=hF.l2
 clear e4 e5 hF hL hEE hE hml hdl hsz hdr hlen hD1 hD2 hdx hpt hqk d4 d3 hdl'
 obtain ⟨m,h,p,Q,C1,S1,C2,S2,ev,D⟩:=f
 dsimp only at hQ hC1 hC2 d1 d2 hnp HSZ HSC HLEN HDL⊢
 subst hnp
 have hok:1≤m∧m≤64∧1≤h∧h≤64:=⟨d1.1,d1.2,d2.1,d2.2⟩
 obtain ⟨q1,q2,q3⟩:=Ei hok
 obtain ⟨K,hK⟩:∃K,Aq m h=K:=⟨_,rfl⟩
 obtain ⟨M,hM⟩:∃M,np*K=M:=⟨_,rfl⟩
 rw [hK,hM] at HSZ HSC HLEN
 rw [hK] at HDL
 rw [hK] at q1 q2
 have hn1:M≤192:=by
  have:=Nat.mul_le_mul (show np≤3 by omega) q2
  omega
 have HK:=AD hK
 have HM:=AD hM
 clear q3 hK hM
 show Calls Tryz.prog 21 #[.agg (AI [.val (.int .i64 m), .val (.int .i64 h), .val (.int .i64 np), .ints Q, .ints C1, .val (.slice a1 n1 k1), .ints C2, .val (.slice a2 n2 k2), .val (.int .i64 ev), .val (.slice ad nd kd)]).toArray] _ _
 by_cases h0:D1=0
 ·subst h0
  go_enter Tryz.func21,Tryz.ntmps21
  repeat' (first
   | (refine A3 52 ?_);refine A4 AA Tryz.call52 (HC.out _ hS.1) (Gb hS ?_);clear hS;intro w hS;go_step|refine X0 ?_|refine X3 ?_|refine TD 1 ?_;clear hS;intro g1 w hS|refine ZW 2 ?_;clear hS;intro g2 w hS|refine aY ?_|refine AG ?_;go_step|fail)
  all_goals (try exact AW)
  refine AQ [8] (fun w=>St w0 w [blk g2 [.int .i64 0, .int .i64 0, .slice none 0 0],prt g1 [.val (.int .i64 m), .val (.int .i64 h), .val (.int .i64 np), .ints Q, .ints C1, .val (.slice a1 n1 k1), .ints C2, .val (.slice a2 n2 k2), .val (.int .i64 ev), .val (.slice ad nd kd)]]) AA ?_
  replace hS:=hS.drew
  focus
   refine Bf 0 BU (V.fieldAddr Pg rfl BO) ?_;go_step
   refine br 1 [8,9,10,11,12,13] ?_
   refine Bf 2 BU (V.fieldAddr Pi rfl BO) ?_;go_step
   refine dV 3 [8,9,10,11,12,13] ?_
   refine dT 4 [5,8,9,10,11,12,13] ?_
   refine Bf 6 BU (V.fieldAddr Ph rfl BO) ?_;go_step
   refine dU 7 [8,9,10,11,12,13] ?_
   refine Aa 5 ?_
   refine Af (f:=53) rfl Tryz.call53 (HSZ.out _) ?_;rintro e w ⟨rfl,hE2⟩;replace hS:=hS.ext hE2;clear hE2;refine ⟨_,rfl,?_⟩
   refine ⟨fun _ _=>hS.sub AV,?_⟩
   refine AF ?_
   go_step
   refine Aa 8 ?_
   refine Af (f:=20) rfl Tryz.call20 (HSC.out _ hS.1) ?_;rintro e w ⟨ao,co,mb,hmb,rfl,hS2⟩;replace hS:=hS.call1 hS2;clear hS2;have HMB:=AD hmb;clear hmb;refine ⟨_,rfl,?_⟩
   refine ⟨fun h=>absurd (by decide) h,?_⟩
   refine AF ?_
   go_step
   refine Ab 9 ?_
   refine Y4 10 ?_
   refine Y4 11 ?_
   refine Ab 12 ?_
   refine Ab 13 ?_
   refine AE AA ?_ _
  all_goals
   repeat' (first|(refine AG ?_;go_step)|fail)
   obtain rfl:mb=M:=by
    have e1:=HMB.out
    have e2:=HLEN.out rfl
    omega
   have hcc:mb≤co∧co≤maxLen:=by
    obtain ⟨_,a9,c9,z2,z3,z4,_⟩:=hS.sl (a:=ao) AJ
    cases z2
    exact ⟨z3,z4⟩
   obtain ⟨hcc1,hcc2⟩:=hcc
   repeat' (first
    | (refine A3 54 ?_);refine A4 AA Tryz.call54 (Se _ m h hok np hnp3 Q C1 C2 hQ hC1 hC2 _ _ _ ev K mb HK.out HM.out ao co hcc1 hcc2 D2 HMB.out (hS.sl AJ)) ?_;rintro e w ⟨a9,c9,R9,hR9,rfl,hP9⟩;replace hS:=hS.call hP9;clear hP9;simp only [List.cons_append,List.nil_append] at hS;have HR9:=AD hR9;clear hR9;refine Ae ?_;go_step|refine X0 ?_|refine X3 ?_|refine ZZ ?_;clear hS;intro w hS|refine aY ?_|refine AG ?_;go_step|fail)
   all_goals (try exact AW)
   refine AM (xs:=[_,_]) rfl (.cons (AC.blk hS rfl (AP (n:=3) rfl) AJ rfl) (.cons (AC.tmp rfl) (.nil))) (by simp) rfl ?_
   refine ⟨fun h=>absurd HDE.out h,fun _=>⟨a9,c9,R9,by rw [HR9.out,HDL.out],rfl,?_⟩⟩
   unfold DO
   exact hS.sub AV
 go_enter Tryz.func21,Tryz.ntmps21
 repeat' (first
  | (refine A3 52 ?_);refine A4 AA Tryz.call52 (HC.out _ hS.1) (Gb hS ?_);clear hS;intro w hS;go_step|refine X0 ?_|refine X3 ?_|refine TD 1 ?_;clear hS;intro g1 w hS|refine ZW 2 ?_;clear hS;intro g2 w hS|refine aY ?_|refine AG ?_;go_step|fail)
 all_goals (try exact AW)
 refine AQ [8] (fun w=>St w0 w [blk g2 [.int .i64 0, .int .i64 0, .slice none 0 0],prt g1 [.val (.int .i64 m), .val (.int .i64 h), .val (.int .i64 np), .ints Q, .ints C1, .val (.slice a1 n1 k1), .ints C2, .val (.slice a2 n2 k2), .val (.int .i64 ev), .val (.slice ad nd kd)]]) AA ?_
 replace hS:=hS.drew
 focus
  refine Bf 0 BU (V.fieldAddr Pg rfl BO) ?_;go_step
  refine br 1 [8,9,10,11,12,13] ?_
  refine Bf 2 BU (V.fieldAddr Pi rfl BO) ?_;go_step
  refine dV 3 [8,9,10,11,12,13] ?_
  refine dT 4 [5,8,9,10,11,12,13] ?_
  refine Bf 6 BU (V.fieldAddr Ph rfl BO) ?_;go_step
  refine dU 7 [8,9,10,11,12,13] ?_
  refine Aa 5 ?_
  refine Af (f:=53) rfl Tryz.call53 (HSZ.out _) ?_;rintro e w ⟨rfl,hE2⟩;replace hS:=hS.ext hE2;clear hE2;refine ⟨_,rfl,?_⟩
  refine ⟨fun _ _=>hS.sub AV,?_⟩
  refine AF ?_
  go_step
  refine Aa 8 ?_
  refine Af (f:=20) rfl Tryz.call20 (HSC.out _ hS.1) ?_;rintro e w ⟨ao,co,mb,hmb,rfl,hS2⟩;replace hS:=hS.call1 hS2;clear hS2;have HMB:=AD hmb;clear hmb;refine ⟨_,rfl,?_⟩
  refine ⟨fun h=>absurd (by decide) h,?_⟩
  refine AF ?_
  go_step
  refine Ab 9 ?_
  refine Y4 10 ?_
  refine Y4 11 ?_
  refine Ab 12 ?_
  refine Ab 13 ?_
  refine AE AA ?_ _
 all_goals
  repeat' (first|(refine AG ?_;go_step)|fail)
  repeat' (first
   | refine X0 ?_|refine X3 ?_|(refine AS 27 ?_);(refine As AA (V.build (vs:=[]) rfl (YN)) ?_;go_step)|refine ZZ ?_;clear hS;intro w hS|refine AG ?_;go_step|fail)
  all_goals (try exact AW)
  refine AM (xs:=[_,_]) rfl (.cons (AC.blk hS rfl (AP (n:=3) rfl) AJ rfl) (.cons (AC.tmp rfl) (.nil))) (by simp) rfl ?_
  exact ⟨fun _=>⟨by rw [HDE.out];rfl,hS.1⟩,fun h=>by rw [HDE.out] at h;exact absurd h h0⟩
theorem Is{α β:Type}(f:α→List β)(m:Nat):∀(L:List α),(∀x∈L,(f x).length≤m)→(L.flatMap f).length≤L.length*m
 | [],_=>Nat.zero_le _
 | x::L,h=>by
   have h1:=h x (by simp)
   have h2:=Is f m L fun y hy=>h y (by simp [hy])
   rw [List.flatMap_cons,List.length_append,List.length_cons,Nat.add_mul]
   omega
theorem XW{C1 S1 C2 S2 l:List Int}{n:Nat}(hl:l.length=n*64):(DT C1 S1 C2 S2 l n).length≤448*n:=by
 unfold DT
 split
 ·rename_i h0
  obtain ⟨ht,hb,ha,hw⟩:=KR h0
  obtain ⟨t1,t2⟩:=Hx ht
  obtain ⟨k1,k2⟩:=Hy hl n 0 (by omega)
  have e:Br C1 S1 C2 S2 l n=(DH l 0 n).flatMap (Ba (Bu C1 S1) (Bu C2 S2)):=by
   unfold Br;rw [G8 _ _ _ _ hw];rfl
  have h1:(Br C1 S1 C2 S2 l n).length≤(DH l 0 n).length*28:=by
   rw [e]
   refine Is _ 28 _ fun x hx=>?_
   obtain ⟨⟨_,_⟩,⟨h3,h4⟩,_⟩:=k1 x hx
   unfold Ba
   rw [List.length_append,At]
   have h5:(wb (if x.2 then Bu C1 S1 else Bu C2 S2) x.1.1).length≤16:=by
    split
    ·exact NG (Bp t1) _
    exact NG (Bp t2) _
   omega
  have h2:(DH l 0 n).length*28≤64*n*28:=Nat.mul_le_mul_right _ k2
  have h3:=List.count_le_length (a:=(255:Int)) (l:=FU (bytesOf (Br C1 S1 C2 S2 l n)))
  rw [Mu]
  have h4:(FU (bytesOf (Br C1 S1 C2 S2 l n))).length=((Br C1 S1 C2 S2 l n).length+7)/8:=by
   unfold FU;rw [List.length_map,FV]
  omega
 exact Nat.zero_le _
theorem UG:∀(ps:List (List Int))(k:Nat),(LF ps k).length≤(ps.map List.length).sum+2*ps.length
 | [],_=>Nat.zero_le _
 | p::ps,k=>by
   have ih:=UG ps (k+1)
   have h1:(if k=0 then ([]:List Int) else [255,((208+(k-1)%8:Nat):Int)]).length≤2:=by split<;>simp
   rw [LF,List.length_append,List.length_append,List.map_cons,List.sum_cons,List.length_cons]
   omega
theorem VG{α:Type}(f g:α→Nat)(m:Nat):∀(L:List α),(∀x∈L,f x≤m*g x)→(L.map f).sum≤m*(L.map g).sum
 | [],_=>Nat.zero_le _
 | x::L,h=>by
   have h1:=h x (by simp)
   have h2:=VG f g m L fun y hy=>h y (by simp [hy])
   rw [List.map_cons,List.map_cons,List.sum_cons,List.sum_cons,Nat.mul_add]
   omega
theorem Wl{C1 S1 C2 S2 l:List Int}{n:Nat}(every:Nat)(hl:l.length=n*64):(LF (EZ C1 S1 C2 S2 l (Bc n every)) 0).length≤450*n+2:=by
 refine Nat.le_trans (UG _ _) ?_
 have h1:((EZ C1 S1 C2 S2 l (Bc n every)).map List.length).sum≤448*n:=by
  unfold EZ
  rw [List.map_map]
  refine Nat.le_trans (VG _ (fun x=>x.2-x.1) 448 _ fun x hx=>?_) (by rw [RO];exact Nat.le_refl _)
  obtain ⟨a1,a2⟩:=Fo n every x hx
  exact XW (Dv hl a1 a2)
 have h2:(EZ C1 S1 C2 S2 l (Bc n every)).length≤n+1:=by
  unfold EZ;rw [List.length_map];exact RM n every
 omega
theorem UH:∀(ps:List (List Int))(k:Nat),(∀p∈ps,∀x∈p,0≤x∧x<256)→∀x∈LF ps k,0≤x∧x<256
 | [],_,_,x,hx=>by cases hx
 | p::ps,k,h,x,hx=>by
   rw [LF,List.mem_append,List.mem_append] at hx
   rcases hx with hx|hx|hx
   ·split at hx
    ·cases hx
    simp only [List.mem_cons,List.not_mem_nil,or_false] at hx
    rcases hx with rfl|rfl
    ·omega
    omega
   ·exact h p (by simp) x hx
   exact UH ps (k+1) (fun q hq=>h q (by simp [hq])) x hx
theorem XX{C1 S1 C2 S2 l:List Int}{n:Nat}:∀x∈DT C1 S1 C2 S2 l n,0≤x∧x<256:=by
 unfold DT
 split
 ·refine VE fun y hy=>?_
  obtain ⟨z,hz,rfl⟩:=List.mem_map.1 hy
  have:=D4 _ z hz
  omega
 intro x hx;cases hx
theorem Qh{C1 S1 C2 S2 l:List Int}{n every:Nat}:∀x∈LF (EZ C1 S1 C2 S2 l (Bc n every)) 0,0≤x∧x<256:=by
 refine UH _ _ fun p hp=>?_
 obtain ⟨y,_,rfl⟩:=List.mem_map.1 hp
 exact XX
def FX(m h:Int)(np:Nat)(q C1 S1 C2 S2:List Int)(ev:Nat)(D:List Int):DJ:=⟨m,h,np,q,C1,S1,C2,S2,ev,D.map Int.toNat⟩
theorem Jz(m h:Int)(np:Nat)(q C1 S1 C2 S2:List Int)(ev:Nat)(D:List Int)(hD:∀x∈D,0≤x∧x<256):G6 (FX m h np q C1 S1 C2 S2 ev D)=D:=by
 unfold G6 FX
 rw [List.map_map]
 conv=>rhs;rw [←List.map_id D]
 refine List.map_congr_left fun x hx=>?_
 have:=hD x hx
 show ((x.toNat:Nat):Int)=x
 omega
theorem Tx{m h:Int}{np n K:Nat}{q B C1 S1 C2 S2 D:List Int}{ev:Nat}(hok:1≤m∧m≤64∧1≤h∧h≤64)(hnp:np=1∨np=3)(hqk:JH q=true)(hev:ev≤100)(hK:Aq m h=K)(hn:np*K=n)(hB:B.length=n*64)(hab:A9 B n=true)(he:Yn B n ev C1 S1 C2 S2 D):
 G6 (FX m h np q C1 S1 C2 S2 ev D)=D∧Dm (FX m h np q C1 S1 C2 S2 ev D)=0∧PS (FX m h np q C1 S1 C2 S2 ev D)=(0,B)∧YR (FX m h np q C1 S1 C2 S2 ev D)=0∧Zr (FX m h np q C1 S1 C2 S2 ev D)=YT m h q B K np:=by
 obtain ⟨l1,l2,m1,m2,hD⟩:=he
 obtain ⟨q1,q2,q3⟩:=Ei hok
 rw [hK] at q1 q2
 have hn1:n≤192:=by
  have:=Nat.mul_le_mul (show np≤3 by omega) q2
  omega
 have hlt:∀x∈D,0≤x∧x<256:=by rw [hD];exact Qh
 have hDI:=Jz m h np q C1 S1 C2 S2 ev D hlt
 have hdl:D.length≤90000:=by rw [hD];exact Nat.le_trans (Wl ev hB) (by omega)
 have hfe:Dm (FX m h np q C1 S1 C2 S2 ev D)=0:=by
  unfold Dm
  have hd:Ga (FX m h np q C1 S1 C2 S2 ev D):=by
   unfold Ga FX
   dsimp only
   omega
  rw [if_pos hd,if_pos (show JH (FX m h np q C1 S1 C2 S2 ev D).quant=true from hqk),if_pos (show BA (FX m h np q C1 S1 C2 S2 ev D).c1 (FX m h np q C1 S1 C2 S2 ev D).s1=0 from m1.ok),if_pos (show BA (FX m h np q C1 S1 C2 S2 ev D).c2 (FX m h np q C1 S1 C2 S2 ev D).s2=0 from m2.ok),if_pos]
  show (D.map Int.toNat).length≤90000
  rw [List.length_map];exact hdl
 have hso:=Lp hB (show n≤400 by omega) hab m1 m2
 have htb:Dw C1 S1 C2 S2=0:=by unfold Dw;rw [if_pos m1.ok];exact m2.ok
 have hR:PS (FX m h np q C1 S1 C2 S2 ev D)=(0,B):=by
  unfold PS
  rw [hDI]
  show O9 C1 S1 C2 S2 D (((np:Int).toNat*Aq m h:Nat):Int) ev=(0,B)
  rw [Int.toNat_natCast,hK,hn,hD]
  exact Us hB hev (by omega) htb hso
 refine ⟨hDI,hfe,hR,?_,?_⟩
 ·unfold YR;rw [if_pos hfe,hR]
 unfold Zr;rw [hR]
 show YT m h q B (Aq m h) (np:Int).toNat=_
 rw [hK,Int.toNat_natCast]
end Go.Proofs.YtohacgmhmbijmaaGreatDoor
namespace Go.Proofs.YtohacgmhmbijmaaGreatDoor
attribute [local irreducible] Region.wanted
open Go.ChangeShapes Go.WideShapes Go.ChangeAt Go.RowKit Go.Deep
set_option linter.unusedVariables false
set_option maxRecDepth 100000
set_option maxHeartbeats 8000000
section
variable{P:Program}{ops:Array Oper}{Q:Exit→Act→World→Prop}{rest:List Oper}{a:Act}{w W:World}{d:Option Tmp}{ty:TypeId}{pos:String}{af:Array Edge}{g:Option (Nat×Bool)}{x y:Operand}{k:IntKind}{t:TypeId}
end
end Go.Proofs.YtohacgmhmbijmaaGreatDoor
namespace Go.Proofs.YtohacgmhmbijmaaGreatDoor
attribute [local irreducible] Region.wanted
open Go.RowKit
set_option linter.unusedVariables false
set_option maxRecDepth 100000
set_option maxHeartbeats 8000000
theorem SD(w:World)(va vb:Value)(xs ys:List Int)(ha:NU w va xs)(hb:NU w vb ys):
 Calls Tryz.prog 29 #[va,vb] w fun e w'=>e= .returned (.bool (decide (xs=ys)))∧w=w':=by
 obtain ⟨a,c,rfl,hc1,hc2,ha⟩:=ha.open
 obtain ⟨b,d,rfl,hd1,hd2,hb⟩:=hb.open
 by_cases hl:xs.length=ys.length
 ·have hl':((xs.length:Int) !=(ys.length:Int))=false:=by simp [hl]
  have HL:=AD hl
  clear hl
  go_enter Tryz.func29,Tryz.ntmps29
  go_wp2_with fail
  go_loopg [14] xs.length (fun gk xv wr=>∃(i:Nat),gk+i=xs.length∧xv= .int .i64 i∧xs.take i=ys.take i∧wr=w)
  case atStart=>exact ⟨0,rfl,rfl,rfl,rfl⟩
  case round=>
   obtain ⟨i,hi,rfl,hpre,rfl⟩:=hrel
   have hi':i≤xs.length:=by omega
   have HI:=AD hi
   have HP:=AD hpre
   clear hi hpre
   by_cases hlt:i<xs.length
   ·obtain ⟨ba,oa,rfl,hca⟩:=ha i hlt
    have hlt2:i<ys.length:=by have:=HL.out;omega
    obtain ⟨bb,ob,rfl,hcb⟩:=hb i hlt2
    have h1:=hca i hlt
    have h2:=hcb i hlt2
    clear ha hb hca hcb
    by_cases he:AK xs i=AK ys i
    ·have h3:(AK xs i !=AK ys i)=false:=by simp [he]
     have HT:=AD (Mw xs ys i hlt hlt2 HP.out he)
     clear he
     have HM:Hid (gk-1+(i+1)=xs.length):=by have:=HI.out;unfold Hid;omega
     have HG:Hid (gk-1<gk):=by have:=HI.out;unfold Hid;omega
     go_wp2_with fail
     go_roundg (gk-1)
     case measure=>exact HG.out
     case rel=>exact ⟨i+1,HM.out,by go_num,HT.out,rfl⟩
    have h3:(AK xs i !=AK ys i)=true:=by simp [he]
    have HN:Hid (decide (xs=ys)=false):=by
     unfold Hid;rw [decide_eq_false_iff_not];intro h;exact he (by rw [h])
    clear he
    go_wp2_with fail
    go_ret
    exact ⟨DD HN.out.symm,rfl⟩
   have HN:Hid (decide (xs=ys)=true):=by
    unfold Hid
    have h1:=HP.out
    have h2:=HL.out
    rw [List.take_of_length_le (by omega),List.take_of_length_le (by omega)] at h1
    simp [h1]
   clear ha hb
   go_wp2_with fail
   go_ret
   exact ⟨DD HN.out.symm,rfl⟩
 have hl':((xs.length:Int) !=(ys.length:Int))=true:=by simp;omega
 have HN:Hid (decide (xs=ys)=false):=by
  unfold Hid;rw [decide_eq_false_iff_not];intro h;exact hl (by rw [h])
 clear hl ha hb
 go_enter Tryz.func29,Tryz.ntmps29
 go_wp2_with fail
 go_ret
 exact ⟨DD HN.out.symm,rfl⟩
end Go.Proofs.YtohacgmhmbijmaaGreatDoor
namespace Go.Proofs.YtohacgmhmbijmaaGreatDoor
attribute [local irreducible] Region.wanted
open Go.ChangeShapes Go.WideShapes Go.ChangeAt Go.RowKit Go.Deep
set_option linter.unusedVariables false
set_option maxRecDepth 100000
set_option maxHeartbeats 8000000
theorem UC{w:World}{ad:Option Addr}{n c:Nat}{xs:List Int}(h:Sl w 1 (.slice ad n c) n (xs.map (Value.int .i64))):NU w (.slice ad n c) xs:=by
 have hl:xs.length=n:=by have:=h.1;simpa using this
 unfold NU;rw [hl];exact h
end Go.Proofs.YtohacgmhmbijmaaGreatDoor
namespace Go.Proofs.YtohacgmhmbijmaaGreatDoor
attribute [local irreducible] Region.wanted
open Go.RowKit
set_option linter.unusedVariables false
set_option maxRecDepth 100000
set_option maxHeartbeats 8000000
theorem Nv(w0:World)(a b:Option Addr)(c d:Nat)(R R2:List Rw)(hP:BT w0 a c R)(hQ:BT w0 b d R2)(hR:R.length≤9223372036854775807)(h:R.map (·.xs)=R2.map (·.xs)):
 Calls Tryz.prog 55 #[.slice a R.length c, .slice b R2.length d] w0 fun e w=>e= .returned (.bool true)∧Al w0 w:=by
 have hS:=St.start w0
 have HP:Hid (BT w0 a c R):=hP
 have HQ:Hid (BT w0 b d R2):=hQ
 have HH:=AD h
 have hl2:R2.length=R.length:=by have:=congrArg List.length h;simpa using this.symm
 obtain ⟨N,hN⟩:∃N,R.length=N:=⟨_,rfl⟩
 rw [hN] at hl2 hR⊢
 rw [hl2]
 have HN:=AD hN
 have HN2:=AD hl2
 have hs1:=hP.sl
 have hs2:=hQ.sl
 rw [hN] at hs1
 rw [hl2] at hs2
 clear hP hQ h hl2 hN
 go_enter Tryz.func55,Tryz.ntmps55
 repeat' (first
  | refine X0 ?_|refine TU ?_|refine IJ ?_|refine AG ?_;go_step|fail)
 all_goals (try exact AW)
 go_loopg [13] N (fun gk kv w=>∃k:Nat,gk+k=N∧kv= .int .i64 k∧St w0 w [])
 case atStart=>exact ⟨0,rfl,rfl,hS.sub AV⟩
 case round=>
  clear hS
  obtain ⟨k,hk,rfl,hS⟩:=hrel
  by_cases hlt:k<N
  ·obtain ⟨r,hr⟩:∃r,R[k]? =some r:=⟨_,List.getElem?_eq_getElem (by rw [HN.out];exact hlt)⟩
   obtain ⟨s,hs⟩:∃s,R2[k]? =some s:=⟨_,List.getElem?_eq_getElem (by rw [HN2.out];exact hlt)⟩
   obtain ⟨hg0,hrs,hrl⟩:=HP.out.at hr
   obtain ⟨hg1,hss,hsl⟩:=HQ.out.at hs
   have hx:r.xs=s.xs:=by
    have h9:=congrArg (fun l=>l[k]?) HH.out
    simp only [List.getElem?_map,hr,hs,Option.map_some] at h9
    exact Option.some.inj h9
   obtain ⟨ba,oa,rfl,hca⟩:=EC hs1 (by omega)
   obtain ⟨bb,ob,rfl,hcb⟩:=EC hs2 (by omega)
   have hcl0:=hca k _ hg0
   have hcl1:=hcb k _ hg1
   obtain ⟨ra,rc,rx⟩:=r
   obtain ⟨sa,sc,sx⟩:=s
   dsimp only at hx hrs hss hcl0 hcl1
   subst hx
   obtain ⟨rn,hrn⟩:∃n,rx.length=n:=⟨_,rfl⟩
   rw [hrn] at hrs hss hcl0 hcl1
   have HEQ:=AD fun (w:World)(hx:Al w0 w)=>SD w _ _ rx rx (UC (hrs.ext hx)) (UC (hss.ext hx))
   clear hca hcb hr hs hg0 hg1 hrl hsl hrs hss hs1 hs2
   repeat' (first
    | refine X0 ?_|refine X2 ?_|refine AG ?_;go_step|fail)
   all_goals (try exact AW)
   refine AQ [8] (fun w=>St w0 w []) AA ?_
   replace hS:=hS.drew
   focus
    refine Ab 0 ?_
    refine Ab 1 ?_
    refine Bf 2 BU (V.indexSl Tryz.underlying22 I0 rfl rfl BI (by omega) (Nat.mul_one _) BO) ?_;go_step
    refine YL 3 [8,9] ?_
    refine Ab 4 ?_
    refine Ab 5 ?_
    refine Bf 6 BU (V.indexSl Tryz.underlying22 I0 rfl rfl BI (by omega) (Nat.mul_one _) BO) ?_;go_step
    refine YL 7 [8,9] ?_
    refine Aa 8 ?_
    refine Af (f:=29) rfl Tryz.call29 (HEQ.out _ hS.1) ?_;rintro e w ⟨rfl,rfl⟩;refine ⟨_,rfl,?_⟩
    refine ⟨fun h=>absurd (by decide) h,?_⟩
    refine AF ?_
    go_step
    refine Bf 9 BU (V.notD rfl) ?_;go_step
    refine AE AA ?_ _
   all_goals
    repeat' (first|(refine AG ?_;go_step)|fail)
    repeat' (first
     | refine X1 ?_|refine X7 ?_|refine AG ?_;go_step|fail)
    go_roundg (gk-1)
    case measure=>omega
    case rel=>exact ⟨k+1,by omega,by go_num,hS.sub AV⟩
  obtain rfl:k=N:=by omega
  repeat' (first
   | refine X8 ?_|refine X2 ?_|refine AG ?_;go_step|fail)
  repeat' (first
   | refine AG ?_;go_step|fail)
  go_ret
  exact ⟨rfl,hS.1⟩
theorem LI(w0:World)(m h:Int)(a b:Option Addr)(c d:Nat)(R R2:List Rw)(hP:BT w0 a c R)(hQ:BT w0 b d R2)(hR:R.length≤9223372036854775807)(hh:R.map (·.xs)=R2.map (·.xs)):
 Calls Tryz.prog 23 #[.agg #[.int .i64 m, .int .i64 h, .slice a R.length c], .agg #[.int .i64 m, .int .i64 h, .slice b R2.length d]] w0 fun e w=>e= .returned (.bool true)∧Al w0 w:=by
 have hS:=St.start w0
 have HEL:=AD fun (w:World)(hx:Al w0 w)=>Nv w a b c d R R2 (hP.ext hx) (hQ.ext hx) hR hh
 obtain ⟨n1,hn1⟩:∃n,R.length=n:=⟨_,rfl⟩
 obtain ⟨n2,hn2⟩:∃n,R2.length=n:=⟨_,rfl⟩
 rw [hn1,hn2] at HEL
 rw [hn1,hn2]
 clear hP hQ hR hh hn1 hn2
 go_enter Tryz.func23,Tryz.ntmps23
 repeat' (first
  | (refine A3 55 ?_);refine A4 AA Tryz.call55 (HEL.out _ hS.1) (Gb hS ?_);clear hS;intro w hS;go_step|refine X0 ?_|refine FJ ?_|refine IA 9 ?_ ?_<;>intro hB<;>(try exact AW)<;>go_step|refine IA 15 ?_ ?_<;>intro hB<;>(try exact AW)<;>go_step|refine YC ?_|refine YD ?_|refine YE ?_|refine PF 2 ?_;clear hS;intro g2 w hS|refine PF 3 ?_;clear hS;intro g3 w hS|refine X9 ?_|refine WX ?_|refine AG ?_;go_step|fail)
 all_goals (try exact AW)
 go_ret
 exact ⟨rfl,hS.1⟩
theorem U6{w:World}{s n c:Nat}{a:Option Addr}{cs:List Value}(h:Sl w s (.slice a n c) n cs):n≤9223372036854775807:=by
 obtain ⟨_,a',c',e,h1,h2,_⟩:=h
 unfold maxLen at h2
 omega
theorem Wt{w:World}{m h:Int}{np ev:Nat}{q C1 S1 C2 S2 D:List Int}(hq:Ap q 64)(l1:Ap C1 16)(l2:Ap C2 16)(hD:∀x∈D,0≤x∧x<256){a1 a2 ad:Option Addr}{n1 k1 n2 k2 nd kd:Nat}(s1:Sl w 1 (.slice a1 n1 k1) n1 (S1.map (Value.int .i64)))(s2:Sl w 1 (.slice a2 n2 k2) n2 (S2.map (Value.int .i64)))(sd:Sl w 1 (.slice ad nd kd) nd (D.map (Value.int .u8))):FM w (FX m h np q C1 S1 C2 S2 ev D) a1 a2 ad n1 k1 n2 k2 nd kd:=
 ⟨hq,l1,l2,s1,s2,U6 s1,U6 s2,by rw [Jz m h np q C1 S1 C2 S2 ev D hD];exact sd,U6 sd,fun x hx=>by
  obtain ⟨y,hy,rfl⟩:=List.mem_map.1 hx
  have:=hD y hy
  omega⟩
theorem Wm(w:World){m h:Int}{np n K:Nat}{q B C1 S1 C2 S2 D:List Int}{ev:Nat}(hok:1≤m∧m≤64∧1≤h∧h≤64)(hnp:np=1∨np=3)(hq:Ap q 64)(hqk:JH q=true)(hev:ev≤100)(hK:Aq m h=K)(hn:np*K=n)(hB:B.length=n*64)(hab:A9 B n=true)(he:Yn B n ev C1 S1 C2 S2 D){a1 a2 ad:Option Addr}{n1 k1 n2 k2 nd kd:Nat}(s1:Sl w 1 (.slice a1 n1 k1) n1 (S1.map (Value.int .i64)))(s2:Sl w 1 (.slice a2 n2 k2) n2 (S2.map (Value.int .i64)))(sd:Sl w 1 (.slice ad nd kd) nd (D.map (Value.int .u8)))(hml:∃m,w.cell? ⟨0,0,none⟩=some (.int .i64 m)):
 Calls Tryz.prog 21 #[T8 m h np q C1 (.slice a1 n1 k1) C2 (.slice a2 n2 k2) ev (.slice ad nd kd)] w fun e w'=>∃(a:Option Addr) (c:Nat) (R:List Rw),R.map (·.xs)=YT m h q B K np∧e= .returned (.tuple #[.agg #[.int .i64 m, .int .i64 h, .slice a R.length c], .int .i64 0])∧DO w w' a c R []:=by
 obtain ⟨h1,h2,h3,h4,h5⟩:=Tx hok hnp hqk hev hK hn hB hab he
 have hlt:∀x∈D,0≤x∧x<256:=by rw [he.d];exact Qh
 have hF:=Wt (m:=m) (h:=h) (np:=np) (ev:=ev) hq he.l1 he.l2 hlt s1 s2 sd
 refine (PT w _ a1 a2 ad n1 k1 n2 k2 nd kd hF hml).mono fun e w' hh=>?_
 obtain ⟨a,c,R,r1,r2,r3⟩:=hh.2 h4
 exact ⟨a,c,R,r1.trans h5,r2,r3⟩
theorem JW{W w:World}{rs rs1 rs2:List Au}{g6 g7 n:Nat}{xs:List Int}{cs:List Value}(hS:St W w rs)(p1:AT (blk g7 [.slice (some ⟨g6,0,none⟩) n n]) rs rs1)(p2:AT (blk g6 cs) rs rs2)(hcs:cs=xs.map (Value.int .i64))(hn:xs.length=n)(hm:n≤maxLen):BT w (some ⟨g7,0,none⟩) 1 [⟨some ⟨g6,0,none⟩,n,xs⟩]:=by
 subst hn hcs
 refine ⟨?_,fun r hr=>?_⟩
 ·exact hS.slBlk (n:=1) (s:=1) p1 rfl (by decide)
 simp only [List.mem_cons,List.not_mem_nil,or_false] at hr
 subst hr
 exact hS.slBlk (n:=xs.length) (s:=1) p2 (by simp) hm
theorem Wu(w:World)(m:Nat)(hm:1≤m∧m≤2)(ev:Nat)(hev:ev≤100)(a6 a7:Option Addr)(c6 c7:Nat)(hP:BT w a7 c7 [⟨a6,c6,List.replicate m 128⟩]):
 Calls Tryz.prog 17 #[.agg #[.int .i64 m, .int .i64 1, .slice a7 1 c7], .agg (iv (List.replicate 64 1)), .int .i64 ev] w fun e w'=>∃(C1 S1 C2 S2 D:List Int) (a1 a2 ad:Option Addr) (n1 k1 n2 k2 nd kd:Nat),Yn (List.replicate 64 0) 1 ev C1 S1 C2 S2 D∧
  e= .returned (.tuple #[T8 m 1 1 (List.replicate 64 1) C1 (.slice a1 n1 k1) C2 (.slice a2 n2 k2) ev (.slice ad nd kd), .int .i64 0])∧St w w' [own 3 1 a1 n1 k1 (S1.map (Value.int .i64)),own 3 1 a2 n2 k2 (S2.map (Value.int .i64)),own 5 1 ad nd kd (D.map (Value.int .u8))]:=by
 have hz:J4 m 1 (List.replicate 64 1) [List.replicate m 128]=0∧LC m 1 (List.replicate 64 1) [List.replicate m 128]=List.replicate 64 0∧Aq m 1=1:=by
  obtain rfl|rfl:m=1∨m=2:=by omega
  ·exact ⟨by kernel_rfl,by kernel_rfl,by kernel_rfl⟩
  exact ⟨by kernel_rfl,by kernel_rfl,by kernel_rfl⟩
 obtain ⟨z1,z2,z3⟩:=hz
 have hpe:Fd m 1 (List.replicate 64 1) [List.replicate m 128] ev=0:=by
  unfold Fd
  rw [if_pos z1,if_pos (by omega),z2,z3]
  exact if_pos AA
 refine (Nt w m 1 (by omega) a7 c7 [⟨a6,c6,List.replicate m 128⟩] (by show 1≤9223372036854775807;omega) hP (List.replicate 64 1) List.length_replicate ev hev z1).mono fun e w' hh=>?_
 obtain ⟨C1,S1,C2,S2,D,a1,a2,ad,n1,k1,n2,k2,nd,kd,h1,_,_,_,h2,h3⟩:=hh.2 hpe
 refine ⟨C1,S1,C2,S2,D,a1,a2,ad,n1,k1,n2,k2,nd,kd,?_,h2,h3⟩
 have e1:LC m 1 (List.replicate 64 1) (List.map (fun x=>x.xs) [({ad:=a6,c:=c6,xs:=List.replicate m 128}:Rw)])=List.replicate 64 0:=z2
 rw [e1] at h1
 rw [show [({ad:=a6,c:=c6,xs:=List.replicate m 128}:Rw)].length*Aq m 1=1 by rw [z3];rfl] at h1
 exact h1
theorem W7(m:Nat)(hm:1≤m∧m≤2):YT m 1 (List.replicate 64 1) (List.replicate 64 0) 1 1=[List.replicate m 128]:=by
 obtain rfl|rfl:m=1∨m=2:=by omega
 ·kernel_rfl
 kernel_rfl
end Go.Proofs.YtohacgmhmbijmaaGreatDoor
