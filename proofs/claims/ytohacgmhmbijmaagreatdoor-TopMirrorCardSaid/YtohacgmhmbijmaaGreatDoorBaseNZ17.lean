/- What the laws FrameAlone FrameGray FrameNear FrameFlat TopScale TopMirror need, part 17. -/
import Derived.Test.YtohacgmhmbijmaaGreatDoorBaseNZ1
import Derived.Test.YtohacgmhmbijmaaGreatDoorBaseNZ2
import Derived.Test.YtohacgmhmbijmaaGreatDoorBaseNZ3
import Derived.Test.YtohacgmhmbijmaaGreatDoorBaseNZ4
import Derived.Test.YtohacgmhmbijmaaGreatDoorBaseNZ5
import Derived.Test.YtohacgmhmbijmaaGreatDoorBaseNZ6
import Derived.Test.YtohacgmhmbijmaaGreatDoorBaseNZ7
import Derived.Test.YtohacgmhmbijmaaGreatDoorBaseNZ11
import Derived.Test.YtohacgmhmbijmaaGreatDoorBaseNZ16
import Derived.WalkKit
import Derived.TacticsInMore
import Derived.LoopNIn
import Derived.Sort.LoopGhostIn
import Derived.Laws.IdiomStrings
namespace Go.Proofs.YtohacgmhmbijmaaGreatDoor
attribute [local irreducible] Region.wanted
open Go.RowKit
set_option linter.unusedVariables false
set_option maxRecDepth 100000
set_option maxHeartbeats 8000000
section
variable{P:Program}{ops:Array Oper}{Q:Exit→Act→World→Prop}{a:Act}{w:World}{o:Oper}{K:Act→World→Prop}{t ty:TypeId}{x lo hi mx:Operand}
theorem V.slice3{ad:Option Addr}{n c l h m s:Nat}{e:TypeId}{k1 k2 k3:IntKind}(ht:P.underlying t=some (.slice e))(hs:(P.info? e).map (·.size)=some s)(hx:a.eval x= .slice ad n c)(e1:a.eval lo= .int k1 (l:Int))(e2:a.eval hi= .int k2 (h:Int))(e3:a.eval mx= .int k3 (m:Int))(h1:l≤h)(h2:h≤m)(h3:m≤c):
 D3 P (.slice t x (some lo) (some hi) (some mx)) ty a (.slice (cutAt ad m l s) (h-l) (m-l)):=fun d pos af g w=>by
 have e0:P.elem t=e:=by simp [Program.elem,ht]
 have ht':P.underlying t=some (.slice (P.elem t)):=by rw [e0];exact ht
 have hr:=run_slice_lhm w t ad n c ht' k1 k2 k3 (l:Int) (h:Int) (m:Int) (by omega) (by omega) (by omega) (by omega)
 rw [Int.toNat_natCast,Int.toNat_natCast,Int.toNat_natCast,e0,Bk w hs,Result.andThen_ok] at hr
 simp only [execOp,hx,e1,e2,e3,Option.map_some,Sem.run_bind,run_sliceAt_slice w t _ _ _ _ ht',hr,Result.andThen_ok,Sem.run_pure,sliced,cutAt]
theorem Zi(n:Nat)(h:o.wp P a w K Q):o.wpIn Fence.wide n P a w K Q:=by
 refine ⟨fun f _=>trivial,?_⟩
 show o.uponIn Fence.wide n P a K Q ((o.semAt none a.eval).run P w)
 rw [Oper.semAt_none]
 unfold Oper.wp at h
 generalize (execOp a.eval o).run P w=r at h⊢
 match r,h with
 | .ok (.value v) w',h=>exact h
 | .ok .skip w',h=>exact h
 | .ok (.defer d) w',h=>exact h
 | .ok (.enter f args) w',h=>exact ⟨fun h=>(by cases h),callsIn_wide.2 h⟩
 | .ok (.row row args) w',h=>
   refine ⟨fun h=>(by cases h),fun c cs _=>?_⟩
   obtain ⟨v,w'',r,s⟩:=h c cs
   exact ⟨v,w'',r,stepsIn_wide.2 s⟩
 | .halt (.panic v) w',h=>exact h
theorem DH(n:Nat)(L2:List Oper)(hout:¬LetsOut Q):∀(L:List Oper)(a:Act)(w:World),wpList P ops (Exit.then (wpListIn Fence.wide n P ops Q L2) Q) L a w→wpListIn Fence.wide n P ops Q (L++L2) a w
 | [],a,w,h=>h
 | o::L,a,w,h=>by
   rw [List.cons_append]
   simp only [wpList] at h
   simp only [wpListIn]
   have ho2:¬LetsOut (Exit.then (wpListIn Fence.wide n P ops Q L2) Q):=fun ⟨a,w,h⟩=>hout ⟨a,w,h⟩
   split at h
   ·rename_i hw
    rw [if_pos hw]
    rcases h with h|⟨_,h⟩
    ·have h2:=Zi n h
     refine ⟨h2.1,?_⟩
     have h3:=h2.2
     revert h3
     have mono:∀(r:Result Next),o.uponIn Fence.wide n P a (wpList P ops (Exit.then (wpListIn Fence.wide n P ops Q L2) Q) L) (Exit.then (wpListIn Fence.wide n P ops Q L2) Q) r→o.uponIn Fence.wide n P a (wpListIn Fence.wide n P ops Q (L++L2)) Q r:=fun r hr=>by
      match r,hr with
      | .ok (.value v) w',hr=>exact DH n L2 hout L _ _ hr
      | .ok .skip w',hr=>exact DH n L2 hout L _ _ hr
      | .ok (.defer d) w',hr=>exact DH n L2 hout L _ _ hr
      | .ok (.enter f args) w',hr=>
        refine ⟨hr.1,hr.2.mono ?_⟩
        rintro e w'' he
        match e,he with
        | .returned v,he=>exact DH n L2 hout L _ _ he
        | .panicked chain,he=>exact he
        | .outgrown,he=>exact he
      | .ok (.row row args) w',hr=>exact ⟨hr.1,hr.2.mono fun v w'' he=>DH n L2 hout L _ _ he⟩
      | .ok (.round l' f tmps assign body) w',hr=>
        refine ⟨hr.1,hr.2.mono ?_⟩
        rintro e w'' he
        match e,he with
        | .returned v,he=>exact DH n L2 hout L _ _ he
        | .panicked chain,he=>exact he
        | .outgrown,he=>exact he
      | .halt (.panic v) w',hr=>exact hr
     exact mono _
    exact absurd h ho2
   rename_i hw
   rw [if_neg hw]
   exact ⟨fun _ _=>trivial,DH n L2 hout L _ _ h⟩
end
def Ck(np:Nat):Type:={x:Nat // x<np}
def jG(Bs Bn:Nat)(W W':World):Prop:=W'.cell? ⟨Bs,0,none⟩=W.cell? ⟨Bs,0,none⟩∧W'.cell? ⟨Bn,0,none⟩=W.cell? ⟨Bn,0,none⟩
def jP(b off K x:Nat):Value:= .slice (some ⟨b,off+x*K*64,none⟩) K K
theorem aK{a:Act}{ty:TypeId}{x lo hi mx:Operand}{b off M c q K:Nat}(hx:a.eval x= .slice (some ⟨b,off,none⟩) M c)(h1:a.eval lo= .int .i64 (q:Int))(h2:a.eval hi= .int .i64 ((q+K:Nat):Int))(h3:a.eval mx= .int .i64 ((q+K:Nat):Int))(hK:1≤K)(hc:q+K≤c):
 D3 Tryz.prog (.slice 42 x (some lo) (some hi) (some mx)) ty a (.slice (some ⟨b,off+q*64,none⟩) K K):=by
 have h:=V.slice3 (ty:=ty) Tryz.underlying42 JJ hx h1 h2 h3 (by omega) (Nat.le_refl _) hc
 rw [show q+K-q=K by omega] at h
 unfold cutAt at h
 rw [if_neg (by omega)] at h
 simpa only [Option.map_some,Addr.add_mid] using h
theorem WA(n:Nat)(hn:1≤n)(l Bs Bn b off c np K M:Nat)(hK:1≤K∧K≤64)(hnp:np≤3)(hM:np*K=M)(hc:M≤c)(hcm:c≤maxLen)(J Jx:List (Ck np)→World→Prop)
 (hA:∀s W W',J s W→Ah W W'→J s W')
 (hY:∀pre (x:Ck np) W,J pre W→pre.length<np→YieldAt Fence.wide (n-1) Tryz.prog l #[jP b off K x.1] W fun e W'=>(e= .returned (.bool true)∧J (pre++[x]) W'∧jG Bs Bn W W')∨(e= .returned (.bool false)∧Jx (pre++[x]) W'))
 (W:World) (hcs:W.cell? ⟨Bs,0,none⟩=some (.slice (some ⟨b,off,none⟩) M c)) (hcn:W.cell? ⟨Bn,0,none⟩=some (.int .i64 (K:Int))) (h0:J [] W):
 CallsIn Fence.wide n Tryz.prog 125 #[.func (.yield l) #[] #[], .pointer (some ⟨Bs,0,none⟩), .pointer (some ⟨Bn,0,none⟩)] W fun e W'=>(∃v,e= .returned v)∧
  ((∃ys:List (Ck np),ys.map (·.1)=List.range np∧J ys W')∨(∃pre,Jx pre W')):=by
 refine callsIn_of_wp Tryz.func125 rfl trivial ?_ rfl
 simp only [Tryz.ntmps125,List.size_toArray,List.length_cons,List.length_nil,Nat.reduceAdd,Nat.reduceSub,Array.replicate_succ,Array.replicate_zero,List.push_toArray,List.append_toArray,List.nil_append,List.cons_append]
 gi_wp2
 gi_loopw [4] (fun i wr=>∃(k q:Nat) (pre:List (Ck np)),k≤np∧k*K=q∧i= .int .i64 (q:Int)∧pre.map (·.1)=List.range k∧J pre wr∧wr.cell? ⟨Bs,0,none⟩=some (.slice (some ⟨b,off,none⟩) M c)∧wr.cell? ⟨Bn,0,none⟩=some (.int .i64 (K:Int))) (fun i _=>M-(intOf i).toNat)
 case atStart=>exact ⟨0,0,[],Nat.zero_le _,by omega,rfl,rfl,h0,hcs,hcn⟩
 case round=>
  obtain ⟨k,q,pre,hk,hq,rfl,hpre,hJ,hs1,hs2⟩:=hrel
  have hkK:q≤192:=by have:=Nat.mul_le_mul (show k≤3 by omega) hK.2;omega
  have hnK:M≤192:=by have:=Nat.mul_le_mul hnp hK.2;omega
  by_cases hlt:k<np
  ·have hlt2:q+K≤M:=by have:=Nat.mul_le_mul_right K (show k+1≤np by omega);rw [Nat.add_mul,Nat.one_mul] at this;omega
   have hckv:jP b off K k= .slice (some ⟨b,off+q*64,none⟩) K K:=by unfold jP;rw [hq]
   have hlen:pre.length<np:=by have:=congrArg List.length hpre;simp at this;omega
   have hS:=St.start wr
   gi_wp2
   refine wpIn_wide.2 ?_
   refine AP [] (fun w=>St wr w []) AA ?_
   replace hS:=hS.drew
   focus
    refine fB 0 [5,6] ?_
    apply DG 1 Ai AA AA AA B5 [3,4,5,6] AA (hS.sub AV)
    case hfr=>intro w hS;((refine Ad ?_;apply Aj hS 42 _ rfl _ rfl (AK rfl) _;(case hc=>with_reducible assumption);refine AB ?_;go_step));refine wpList_nil ?_;exact ⟨rfl,rfl⟩
    case hd=>rfl
    refine AY 2 ?_
    refine kg 3 ?_
    refine CA 4 BZ (V.len Tryz.underlying42 rfl) ?_;go_step
    (refine BA 5 (.int _ ((K:Int))) Ai AA AA AA B5 (V.as (V.min rfl rfl) (by omega)) AA ?_)
    go_step
    refine AY 6 ?_
    refine AE AA ?_ _
   all_goals
    dsimp only [Exit.then]
    first|(rename_i hk9;refine hk9 _ _ ?_)|(rename_i hk9 _;refine hk9 _ _ ?_)|(rename_i hk9 _ _;refine hk9 _ _ ?_)|(rename_i hk9 _ _ _;refine hk9 _ _ ?_)|(rename_i hk9 _ _ _ _;refine hk9 _ _ ?_)
    gi_step
    refine wpIn_region_lit ?_
    refine DH n [_,_] (fun hlo=>?_) [_,_,_,_,_,_,_,_,_,_] _ _ ?_
    case _=>
     obtain ⟨a9,w9,h9⟩:=hlo
     obtain ⟨⟨v9,e9⟩,_⟩:(∃v,Ending.outgrown=Ending.returned v)∧_:=h9
     cases e9
    repeat' (first
     | (refine AQ 24 ?_);refine Af (.int _ ((q+K:Nat):Int)) (V.as (V.addI rfl rfl (by omega)) (by omega)) (by kernel_rfl) ?_;go_step|(refine AQ 27 ?_);refine Af (.int _ ((q+K:Nat):Int)) (V.as (V.addI rfl rfl (by omega)) (by omega)) (by kernel_rfl) ?_;go_step|(refine AQ 28 ?_);refine Aq AA (aK (K:=K) (q:=q) (M:=M) (c:=c) rfl rfl rfl rfl hK.1 (by omega)) ?_;go_step|refine X1 ?_|(with_reducible refine Ak _ (.load 42 _) ?_);(refine Ad ?_;apply Aj hS 42 _ rfl _ rfl (AK rfl) _;(case hc=>with_reducible assumption);refine AB ?_;go_step)|refine AG ?_;go_step|fail)
    have hJ2:=hA pre wr wr.drew hJ (Ah.refl wr).drew
    have hs3:wr.drew.cell? ⟨Bn,0,none⟩=some (.int .i64 (K:Int)):=(Ah.refl wr).drew.cell hs2
    obtain ⟨fn,tmps,assign,body,hy,hR⟩:=hY pre ⟨k,hlt⟩ wr.drew hJ2 hlen
    dsimp only at hy
    rw [hckv] at hy
    gi_wp2
    refine hR.mono ?_
    rintro e W3 (⟨rfl,hJ3,hb3⟩|⟨rfl,hJx3⟩)
    ·have hs4:W3.cell? ⟨Bn,0,none⟩=some (.int .i64 (K:Int)):=hb3.2.trans hs3
     have hs5:W3.cell? ⟨Bs,0,none⟩=some (.slice (some ⟨b,off,none⟩) M c):=hb3.1.trans ((Ah.refl wr).drew.cell hs1)
     gi_wp2
     go_roundw
     case rel=>exact ⟨k+1,q+K,pre++[⟨k,hlt⟩],by omega,by rw [Nat.add_mul,Nat.one_mul];omega,by go_num,by rw [List.map_append,hpre,List.range_succ];rfl,hJ3,hs5,hs4⟩
     case measure=>simp [intOf];omega
    gi_wp2
    refine bodyPost_ret (results_none rfl _ _ _) rfl ?_
    exact ⟨⟨_,rfl⟩, .inr ⟨_,hJx3⟩⟩
  obtain rfl:k=np:=by omega
  obtain rfl:q=M:=by omega
  gi_wp2
  go_end0
  exact ⟨⟨_,rfl⟩, .inl ⟨pre,hpre,hJ⟩⟩
theorem QW(n:Nat)(hn:1≤n)(Bs Bn b off c np K M:Nat)(hK:1≤K∧K≤64)(hnp:np≤3)(hM:np*K=M)(hc:M≤c)(hcm:c≤maxLen)(w:World)(hcs:w.cell? ⟨Bs,0,none⟩=some (.slice (some ⟨b,off,none⟩) M c))(hcn:w.cell? ⟨Bn,0,none⟩=some (.int .i64 (K:Int))):
 SeqStopsK Fence.wide n Tryz.prog 125 #[.pointer (some ⟨Bs,0,none⟩), .pointer (some ⟨Bn,0,none⟩)] (fun x:Ck np=>#[jP b off K x.1]) (jG Bs Bn) (fun xs=>xs.map (·.1)=List.range np) (fun _=>True) np w:=fun l J Jx W hW hJ hJx hY h0=>by
 have h1:W.cell? ⟨Bs,0,none⟩=some (.slice (some ⟨b,off,none⟩) M c):=(hW.cell (World.block_lt_of_cell? w _ hcs)).trans hcs
 have h2:W.cell? ⟨Bn,0,none⟩=some (.int .i64 (K:Int)):=(hW.cell (World.block_lt_of_cell? w _ hcn)).trans hcn
 refine (WA n hn l Bs Bn b off c np K M hK hnp hM hc hcm J Jx (fun s A B h hE=>hJ s A B none h ⟨hE.os,hE.tape,hE.output,hE.size,fun k hk _=>hE.block k hk⟩ (fun r e=>by cases e)) hY W h1 h2 h0).mono ?_
 rintro e W' ⟨he,⟨ys,h3,h4⟩|⟨pre,h4⟩⟩
 ·exact ⟨he, .inl ⟨ys,h3,h4⟩⟩
 exact ⟨he, .inr ⟨pre,trivial,h4⟩⟩
theorem kG{Bs Bn:Nat}{A B C:World}(h:jG Bs Bn A B)(k:jG Bs Bn B C):jG Bs Bn A C:=⟨k.1.trans h.1,k.2.trans h.2⟩
theorem kF{Bs Bn:Nat}{w:World}(h1:Bs<w.heap.size)(h2:Bn<w.heap.size)(W:World)(l:Nat)(o o':Obj)(hl:w.heap.size≤l)(h:W.heap[l]? =some o)(_:o.isCells=false)(_:o.isWalk=false):jG Bs Bn W (W.putObj l o'):=
 ⟨World.cell?_of_block (World.putObj_heap_other (by dsimp only;omega)),World.cell?_of_block (World.putObj_heap_other (by dsimp only;omega))⟩
theorem WB(w0:World)(ad:Option Addr)(M c K:Nat)(hK:1≤K∧K≤64):
 Calls Tryz.prog 92 #[.slice ad M c, .int .i64 (K:Int)] w0 fun e w=>∃gs gn,e= .returned (.func (.func 125) #[] #[.pointer (some ⟨gs,0,none⟩), .pointer (some ⟨gn,0,none⟩)])∧St w0 w [blk gs [.slice ad M c],blk gn [.int .i64 (K:Int)]]:=by
 have hS:=St.start w0
 go_enter Tryz.func92,Tryz.ntmps92
 repeat' (first
  | (refine AQ 8 ?_);refine Af (.func (.func 125) #[] #[.pointer (some ⟨g2,0,none⟩), .pointer (some ⟨g3,0,none⟩)]) (V.makeFunc rfl) AA ?_;go_step|refine X8 ?_|refine X2 ?_|(refine AQ 2 ?_);(refine Ad ?_;apply VX (o:=⟨some 2,_,_,_,_,_⟩) hS 42 _ rfl _;(case hx=>exact CK);(case h1=>rfl);clear hS;intro g2 w hS;refine AB ?_;go_step)|(refine AQ 3 ?_);(refine Ad ?_;apply VX (o:=⟨some 3,_,_,_,_,_⟩) hS 3 _ rfl _;(case hx=>exact CK);(case h1=>rfl);clear hS;intro g3 w hS;refine AB ?_;go_step)|refine E6 ?_|refine AG ?_;go_step|fail)
 all_goals (try exact AS)
 go_ret
 exact ⟨g2,g3,rfl,hS.sub AV⟩
theorem Wh(w0:World)(ad:Option Addr)(n c:Nat)(l:List Int)(m h:Int)(hm64: -9223372036854775808≤m∧m≤9223372036854775807)(hn:n≤9223372036854775807)(hv:Sl w0 64 (.slice ad n c) n (l.map (Value.int .i64)))(hj:FC l n m h=0):
 Calls Tryz.prog 95 #[.slice ad n c, .int .i64 m, .int .i64 h] w0 (Ho w0 l n m h):=by
 have hl:l.length=n*64:=by have:=hv.1;simpa using this
 have hS:=St.start w0
 have HL:=AD hl
 clear hl
 obtain ⟨hok,hk1,hb⟩:=S9 hj
 have HJ:=AD hj
 have HB:=AD ((Aw _ _ _).1 hb)
 obtain ⟨k0,k1⟩:=Dv m h 64 64 (by omega) (by omega)
 have k2:0<m*h:=Int.mul_pos (by omega) (by omega)
 obtain ⟨M,hM⟩:∃M:Nat,m*h=(M:Int):=⟨(m*h).toNat,by omega⟩
 have hMs:M≤4096:=by omega
 have HK:=AD hk1
 have HM:=AD hM
 have hK1:(m+7)/8*((h+7)/8)=(n:Int)∧n≤64:=by
  obtain ⟨kk0,kk1⟩:=Dv ((m+7)/8) ((h+7)/8) 8 8 (by omega) (by omega)
  have kk2:0≤((m+7)/8)*((h+7)/8):=Int.mul_nonneg (by omega) (by omega)
  rw [hk1,Aa];omega
 have hn64:=hK1.2
 have HK1:=AD hK1.1
 clear hj hb hk1 hK1
 go_enter Tryz.func95,Tryz.ntmps95
 repeat' (first
  | (refine Am 58 ?_);refine An AA Tryz.call58 (Dh _ m h) ?_;rintro e w ⟨rfl,hE⟩;replace hS:=hS.ext hE;clear hE;rw [if_pos hok];refine Ab ?_;go_step|(refine Am 59 ?_);refine An AA Tryz.call59 (JM _ m h (by omega) (by omega)) ?_;rintro e w ⟨rfl,hE⟩;replace hS:=hS.ext hE;clear hE;rw [HK1.out];refine Ab ?_;go_step|refine X0 ?_|refine GE ?_|refine I0 25 ?_ ?_<;>intro hB<;>(try exact AS)<;>go_step|refine go 21 ?_|refine YE ?_|refine LH ?_|refine gS 8 ?_;clear hS;intro g8 w hS|refine gU ?_;clear hS;intro w hS|refine bS ?_|refine AG ?_;go_step|fail)
 go_loopg [9,35] n (fun gk ev kv w=>∃(k:Nat),gk+k=n∧kv= .int .i64 k∧ev= .int .i64 0∧St w0 w [blk g8 [.int .i64 m, .int .i64 h]])
 case atStart=>exact ⟨0,rfl,rfl,rfl,hS.sub AV⟩
 case round=>
  clear hS
  obtain ⟨k,hk,rfl,rfl,hS⟩:=hrel
  by_cases hlt:k<n
  ·have ls:Ae (BY l 64 k) 64:=Br l 64 k n HL.out hlt
   have hb:DD (BY l 64 k)=true:=(Aw _ _ _).2 fun i hi=>by
    rw [ls.out] at hi
    rw [Db _ _ _ _ hi];exact HB.out _ (by rw [HL.out];omega)
   have HBs:=AD hb
   clear hb
   repeat' (first
    | (refine Am 76 ?_);refine An AA Tryz.call76 (BH _ _ (BY l 64 k) (hS.isl AM (by omega)) 128 #[] (fun n=>decide (n< -40000)||decide (40000<n)) Tryz.call128 (fun n=>OV n _)) ?_;rintro e w' ⟨rfl,rfl⟩;rw [MB,HBs.out];refine Ab ?_;go_step|refine X1 ?_|refine GE ?_|refine I0 40 ?_ ?_<;>intro hB<;>(try exact AS)<;>go_step|refine X2 ?_|refine bR 37 ?_;intro b37 o37 hl37 hc37;go_step|refine gh ?_|refine X6 ?_|refine Xx ?_|refine Kk 11 ?_;clear hS;intro g11 w hS|refine Ft ?_;clear hS;intro w hS|refine AG ?_;go_step|fail)
   go_roundg (gk-1)
   case measure=>omega
   case rel=>exact ⟨k+1,by omega,by go_num,rfl,hS.sub AV⟩
  obtain rfl:k=n:=by omega
  clear hk
  repeat' (first
   | refine gm 51 ?_|refine X0 ?_|refine X2 ?_|refine X5 ?_|refine YE ?_|refine bw 52 ?_;clear hS;intro g52 w hS|refine AG ?_;go_step|fail)
  go_loopg [55] k (fun gk kv w=>∃(j:Nat) (o:List Int),gk+j=k∧kv= .int .i64 j∧(∀x,x<M→Eg m x<j→AF o x=JK l m x)∧St w0 w [own 3 1 (some ⟨g52,0,none⟩) M M (o.map (Value.int .i64)),blk g8 [.int .i64 m, .int .i64 h]])
  case atStart=>exact ⟨0,_,rfl,rfl,fun x hx hx2=>absurd (GU m h ⟨hok.1,hok.2.1⟩ hok.2.2 x (by rw [HM.out];omega)).1 (by omega),hS.sub AV⟩
  case round=>
   clear hS
   obtain ⟨j,o,hj,rfl,ho,hS⟩:=hrel
   have HO:=AD ho
   clear ho
   by_cases hlt2:j<k
   ·obtain ⟨gk1,hgk1⟩:∃x,x=gk:=⟨_,rfl⟩
    subst hgk1
    have ls:Ae (BY l 64 j) 64:=Br l 64 j k HL.out hlt2
    repeat' (first
     | refine X0 ?_|refine X2 ?_|refine bR 58 ?_;intro b58 o58 hl58 hc58;go_step|refine Xw ?_|refine Kk 14 ?_;clear hS;intro g14 w hS|refine Ft ?_;clear hS;intro w hS|refine AG ?_;go_step|fail)
    go_loopg [61] 64 (fun gk kv w=>∃(i:Nat) (o:List Int),gk+i=64∧kv= .int .i64 i∧(∀x,x<M→(Eg m x<j∨Eg m x=j∧GV m x<i)→AF o x=JK l m x)∧St w0 w [own 3 1 (some ⟨g52,0,none⟩) M M (o.map (Value.int .i64)),blk g8 [.int .i64 m, .int .i64 h]])
    case atStart=>exact ⟨0,o,rfl,rfl,fun x hx hx2=>HO.out x hx (by have:=(GU m h ⟨hok.1,hok.2.1⟩ hok.2.2 x (by rw [HM.out];omega));omega),hS.sub AV⟩
    case round=>
     clear hS HO
     obtain ⟨i,o,hi,rfl,ho,hS⟩:=hrel
     have HO:=AD ho
     clear ho
     by_cases hlt3:i<64
     ·obtain ⟨R,hR⟩:∃R,GW ((m+7)/8) (j:Int) (i:Int)=R:=⟨_,rfl⟩
      obtain ⟨C,hC⟩:∃C,FH ((m+7)/8) (j:Int) (i:Int)=C:=⟨_,rfl⟩
      obtain ⟨p0,p1,p2,p3,p4⟩:=G8 m h ⟨hok.1,hok.2.1⟩ hok.2.2 (j:Int) (i:Int) (by omega) (by omega)
      have hx: -40000≤AF (BY l 64 j) i∧AF (BY l 64 j) i≤40000:=by
       rw [Db _ _ _ _ hlt3];exact HB.out _ (by rw [HL.out];omega)
      have HI:Hid (∀x,x<M→Eg m x=j→GV m x=i→R<h∧C<m∧(x:Int)=R*m+C):=fun x hx h1 h2=>by
       obtain ⟨e1,e2⟩:=Q7 m j i ⟨hok.1,hok.2.1⟩ x h1 h2
       have h3:=GU m h ⟨hok.1,hok.2.1⟩ hok.2.2 x (by rw [HM.out];omega)
       rw [←hR,←hC,e1,e2]
       refine ⟨by omega,by omega,?_⟩
       have:=Int.mul_ediv_add_emod (x:Int) m
       rw [Int.mul_comm] at this;omega
      have HP:Hid (C<m→∀q:Nat,R*m+C=q→JK l m q=min (max (AF (BY l 64 j) i+128) 0) 255):=fun hcm q hq=>by
       obtain ⟨e1,e2⟩:=dd m j i ⟨hok.1,hok.2.1⟩ (by omega) (by omega) q (by rw [hR,hC];exact hq.symm) (by rw [hC];exact hcm)
       unfold JK
       rw [e1,e2,Db _ _ _ _ hlt3,show ((j:Int)*64+(i:Int)).toNat=j*64+i by omega]
      rw [hR] at p0 p3 p4
      rw [hC] at p1 p2 p4
      have HR:=AD hR
      have HC:=AD hC
      clear hR hC
      by_cases hin:R<h∧C<m
      ·obtain ⟨q,hq⟩:∃q:Nat,R*m+C=(q:Int):=⟨(R*m+C).toNat,by rw [show min R (h-1)=R by omega] at p3;omega⟩
       have hqM:q<M:=by rw [show min R (h-1)=R by omega,show min C (m-1)=C by omega] at p4;omega
       have HV:=AD (HP.out hin.2 q hq)
       have hRm:R*m+C=(q:Int):=hq
       have hRm0:0≤R*m:=by rw [show min R (h-1)=R by omega] at p3;exact p3
       clear p3 p4 hq
       repeat' (first
        | (refine AQ 85 ?_);(refine Af (.int _ ((q:Int))) (V.as (V.addI rfl rfl (by omega)) (by omega)) (by kernel_rfl) ?_;go_step)|(refine Am 78 ?_);refine An AA Tryz.call78 (KS _ m h (j:Int) (i:Int) (by omega) (by omega) (by omega)) ?_;rintro e w ⟨rfl,hE⟩;replace hS:=hS.ext hE;clear hE;rw [HR.out,HC.out];refine Ab ?_;go_step|refine X0 ?_|refine GE ?_|refine FT 74 ?_ ?_<;>intro hB<;>(try exact AS)<;>go_step|refine X2 ?_|refine YB 64 ?_|refine X7 ?_|refine Xn ?_|refine X6 ?_|(with_reducible refine Ak _ (.call ⟨.builtin .max,_,_⟩) ?_);(refine Aq AA (V.max rfl rfl) ?_;go_step)|(with_reducible refine Ak _ (.call ⟨.builtin .min,_,_⟩) ?_);(refine Aq AA (V.min rfl rfl) ?_;go_step)|refine Vu 90 ?_|refine bS ?_|refine Vg ?_;clear hS;intro w hS|refine AG ?_;go_step|fail)
       go_roundg (gk-1)
       case measure=>omega
       case rel=>
        have hol:=hS.ownLen (e:=3) AM
        rw [List.length_map,List.length_set] at hol
        refine ⟨i+1,_,by omega,by go_num,fun x hx hx2=>?_,hS.sub AV⟩
        rw [Bj o q x _ (by omega)]
        split
        ·rename_i e;rw [←e,HV.out]
        rename_i e
        refine HO.out x hx ?_
        by_cases h1:Eg m x=j∧GV m x=i
        ·have:=(HI.out x hx h1.1 h1.2).2.2
         omega
        omega
      have hin2:R<h→m≤C:=by omega
      clear HP p3 p4
      have HN:Hid (∀x,x<M→¬(Eg m x=j∧GV m x=i)):=fun x hx h1=>hin ⟨(HI.out x hx h1.1 h1.2).1,(HI.out x hx h1.1 h1.2).2.1⟩
      by_cases hR2:R<h
      all_goals
       (try replace hin2:=hin2 hR2)
       repeat' (first
        | (refine Am 78 ?_);refine An AA Tryz.call78 (KS _ m h (j:Int) (i:Int) (by omega) (by omega) (by omega)) ?_;rintro e w ⟨rfl,hE⟩;replace hS:=hS.ext hE;clear hE;rw [HR.out,HC.out];refine Ab ?_;go_step|go_big_skip|refine X0 ?_|refine Kl ?_|refine FT 74 ?_ ?_<;>intro hB<;>(try exact AS)<;>go_step|refine X2 ?_|refine YB 64 ?_|refine X7 ?_|refine X6 ?_|refine bS ?_|refine AG ?_;go_step|fail)
       go_roundg (gk-1)
       case measure=>omega
       case rel=>exact ⟨i+1,o,by omega,by go_num,fun x hx hx2=>HO.out x hx (by have:=HN.out x hx;omega),hS.sub AV⟩
     obtain rfl:i=64:=by omega
     repeat' (first
      | refine X1 ?_|refine X2 ?_|refine X6 ?_|refine AG ?_;go_step|fail)
     go_roundg (gk1-1)
     case measure=>omega
     case rel=>exact ⟨j+1,o,by omega,by go_num,fun x hx hx2=>HO.out x hx (by have:=(GU m h ⟨hok.1,hok.2.1⟩ hok.2.2 x (by rw [HM.out];omega));have h9:Eg m x<(j+1:Nat):=hx2;omega),hS.sub AV⟩
   obtain rfl:j=k:=by omega
   have hol:=hS.ownLen (e:=3) AM
   rw [List.length_map] at hol
   repeat' (first
    | refine X0 ?_|refine X2 ?_|refine AG ?_;go_step|fail)
   go_ret2
   refine ⟨some ⟨g52,0,none⟩,M,?_,?_⟩
   ·rw [HJ.out,if_pos rfl,HM.out];rfl
   rw [if_pos HJ.out,if_pos HJ.out,C6,HM.out,Int.toNat_natCast,←Ir (by omega) fun x hx=>HO.out x hx (by have:=(GU m h ⟨hok.1,hok.2.1⟩ hok.2.2 x (by rw [HM.out];omega)).2.1;rw [←HK.out] at this;exact this)]
   exact hS.sub AV
theorem ZO(w0:World)(ad:Option Addr)(n c:Nat)(l:List Int)(m h:Int)(hm64: -9223372036854775808≤m∧m≤9223372036854775807)(hn:n≤9223372036854775807)(hv:Sl w0 64 (.slice ad n c) n (l.map (Value.int .i64))):
 Calls Tryz.prog 95 #[.slice ad n c, .int .i64 m, .int .i64 h] w0 (Ho w0 l n m h):=by
 by_cases hj:FC l n m h=0
 ·exact Wh w0 ad n c l m h hm64 hn hv hj
 exact ZP w0 ad n c l m h hm64 hn hv hj
theorem Q6(w0:World)(ad:Option Addr)(n c:Nat)(l:List Int)(m h:Int)(hm64: -9223372036854775808≤m∧m≤9223372036854775807)(hn:n≤9223372036854775807)(hv:Sl w0 64 (.slice ad n c) n (l.map (Value.int .i64)))(hj:FC l n m h=0)(M:Nat)(hM:m*h=(M:Int)):
 Calls Tryz.prog 95 #[.slice ad n c, .int .i64 m, .int .i64 h] w0 fun e w=>∃ad c,e= .returned (.tuple #[.slice ad M c, .int .i64 0])∧St w0 w [own 3 1 ad M c ((C6 l m h).map (Value.int .i64))]:=
 (ZO w0 ad n c l m h hm64 hn hv).mono fun e w ⟨ad2,c2,h1,h2⟩=>by
   rw [if_pos hj,hj,hM,Int.toNat_natCast] at h1
   rw [if_pos hj,if_pos hj,hM,Int.toNat_natCast] at h2
   exact ⟨ad2,c2,h1,h2⟩
theorem YQ(m0:Int)(m1:Int)(w:World):(Instr.build 24 #[(0, .int .i64 m0),(1, .int .i64 m1)]).run Tryz.prog w= .ok (.agg #[.int .i64 m0, .int .i64 m1, .slice none 0 0]) w:=by kernel_rfl
def Pm(m h:Int)(q l:List Int)(n k:Nat):List Int:=C6 (Ke q ((l.drop (k*n*64)).take (n*64)) n) m h
theorem Jd(m h:Int)(q l:List Int)(n:Nat):∀k,eF m h q l n k=(List.range k).map (Pm m h q l n)
 | 0=>rfl
 | k+1=>by rw [eF,Jd m h q l n k,List.range_succ,List.map_append];rfl
theorem Rx(q l:List Int):∀n,DD (Ke q l n)=true
 | 0=>rfl
 | n+1=>by
   have h1:DD (Oq q (BY l 64 n))=true:=(Aw _ _ _).2 fun i hi=>by
    unfold Oq at hi⊢
    rw [List.length_map] at hi
    rw [JR _ _ _ hi];omega
   have h2:=Rx q l n
   rw [Ke]
   unfold DD By at h1 h2⊢
   simp only [List.any_append,Bool.not_or,h1,h2];rfl
def Pn(g2 g4 g5 g6 gs gn:Nat)(m h:Int)(ps:List Ag)(v vn:Value)(ao:Option Addr)(co:Nat)(R:List Rw):List Au:=
 [blk gs [v],blk gn [vn],blk g6 [.slice ao R.length co],own 30 1 ao R.length co (R.map Rw.val),star (R.map Rw.res),blk g5 [.int .i64 m, .int .i64 h, .slice none 0 0],blk g4 [.int .i64 0, .int .i64 0, .slice none 0 0],prt g2 ps]
theorem Hh(g2 g4 g5 g6 gs gn:Nat)(m h:Int)(ps:List Ag)(v vn:Value)(ao:Option Addr)(co:Nat)(R:List Rw):∀r∈Pn g2 g4 g5 g6 gs gn m h ps v vn ao co R,GF r:=by
 intro r hr
 simp only [Pn,List.mem_cons,List.not_mem_nil,or_false] at hr
 rcases hr with rfl|rfl|rfl|rfl|rfl|rfl|rfl|rfl
 ·exact De _ _
 ·exact De _ _
 ·exact De _ _
 ·exact GM _ _ _ _ _ _
 ·refine Kn fun r hr=>?_
  obtain ⟨p,_,rfl⟩:=List.mem_map.1 hr
  exact GM _ _ _ _ _ _
 ·exact De _ _
 ·exact De _ _
 exact De _ _
theorem St.putD{w0 w:World}{rs:List Au}{D:Nat}{o:Obj}(o':Obj)(h:St w0 w rs)(hc:∀r∈rs,GF r)(hD:w0.heap.size≤D)(ho:w.heap[D]? =some o)(hn:o.isCells=false):St w0 (w.putObj D o') rs:=
 h.grownC (grownBy_putObj' w D o') (fun r e=>by cases e;exact ⟨hD,o,ho,hn⟩) hc
theorem XO(w0:World)(a:Option Addr)(c N:Nat)(hN:N≤9223372036854775807)(h3:N≠3)(K:FuncId):
 Calls Tryz.prog 45 #[.slice a N c, .func (.func K) #[] #[]] w0 fun e w=>e= .returned (.slice a N c)∧Ah w0 w:=by
 have hS:=St.start w0
 have h3':¬(N:Int)=3:=by omega
 go_enter Tryz.func45,Tryz.ntmps45
 repeat' (first
  | refine X0 ?_|refine eo ?_|refine LH ?_|refine AG ?_;go_step|fail)
 all_goals (try exact AS)
 go_ret
 exact ⟨rfl,hS.1⟩
theorem Tg(w:World)(a:Option Addr)(c:Nat)(R:List Rw)(m h:Int)(hP:A8 w a c R)(hR:R.length≤9223372036854775807)(hall:∀l∈R.map (·.xs),Cw l l.length m h=0)(K:FuncId)(f1 f2 f3:Int→Int→Int→Int)(hK:C3 K f1 f2 f3):
 Calls Tryz.prog 45 #[.slice a R.length c, .func (.func K) #[] #[]] w fun e w'=>∃(a':Option Addr) (c':Nat) (R':List Rw),R'.map (·.xs)=C7 f1 f2 f3 (R.map (·.xs))∧e= .returned (.slice a' R'.length c')∧Ah w w'∧∀w0 rs,Dd w0 w a c R rs→Dd w0 w' a' c' R' rs:=by
 by_cases h3:R.length=3
 ·obtain ⟨⟨a0,c0,l0⟩,⟨a1,c1,l1⟩,⟨a2,c2,l2⟩,rfl⟩:∃x y z,R=[x,y,z]:=by
   match R,h3 with
   | [x,y,z],_=>exact ⟨x,y,z,rfl⟩
  obtain ⟨h1,e0,s0⟩:=EG (hall l0 (by simp))
  obtain ⟨_,e1,s1⟩:=EG (hall l1 (by simp))
  obtain ⟨_,e2,s2⟩:=EG (hall l2 (by simp))
  obtain ⟨k0,k1⟩:=Dv m h 64 64 (by omega) (by omega)
  have b0:=(Fe l0).1 s0
  have b1:=(Fe l1).1 s1
  have b2:=(Fe l2).1 s2
  refine Calls.mono (Jp w a a0 a1 a2 c c0 c1 c2 l0.length l0 l1 l2 hP (by omega) rfl (by omega) (by omega) b0 (fun i hi=>b1 i (by omega)) (fun i hi=>b2 i (by omega)) K f1 f2 f3 hK) fun e w' hh=>?_
  obtain ⟨a',c',R',k1,k2,k3⟩:=hh
  refine ⟨a',c',R',k1,k2,k3.1,fun w0 rs hO=>?_⟩
  have h9:=St.call hO k3
  exact h9.sub (by
   simp only [List.cons_append,List.nil_append]
   exact AV)
 refine Calls.mono (XO w a c R.length hR h3 K) fun e w' hh=>?_
 have hT:C7 f1 f2 f3 (R.map (·.xs))=R.map (·.xs):=by
  unfold C7
  split
  ·rename_i x y z e
   have:=congrArg List.length e
   rw [List.length_map] at this
   exact absurd this h3
  rfl
 exact ⟨a,c,R,hT.symm,hh.1,hh.2,fun w0 rs hO=>St.ext hO hh.2⟩
theorem W8(w0:World)(m h:Int)(hok:1≤m∧m≤64∧1≤h∧h≤64)(np:Nat)(hnp:np=1∨np=3)(q C1 C2:List Int)(hq:Ae q 64)(hC1:Ae C1 16)(hC2:Ae C2 16)(v1 v2 vd:Value)(ev:Int)(K M:Nat)(hK:Aa m h=K)(hM:np*K=M)(ad:Option Addr)(c:Nat)(hc:M≤c)(hcm:c≤maxLen)(l:List Int)(hl:l.length=M*64)(hv:Sl w0 64 (.slice ad M c) M (l.map (Value.int .i64))):
 Calls Tryz.prog 54 #[ZF m h np q C1 v1 C2 v2 ev vd, .slice ad M c] w0 fun e w=>∃(a:Option Addr) (co:Nat) (R:List Rw),R.map (·.xs)=WY m h q l K np∧e= .returned (.agg #[.int .i64 m, .int .i64 h, .slice a R.length co])∧Dd w0 w a co R []:=by
 have hS:=St.start w0
 obtain ⟨q1,q2,q3⟩:=FE hok
 rw [hK] at q1 q2 q3
 have hn1:M≤192:=by
  have:=Nat.mul_le_mul (show np≤3 by omega) q2
  omega
 have hn0:1≤M:=by
  have:=Nat.mul_le_mul (show 1≤np by omega) q1
  omega
 obtain ⟨pb,po,rfl⟩:∃b off,ad=some ⟨b,off,none⟩:=by
  obtain ⟨z1,a',c',e,z2,z3,z4⟩:=hv
  cases e
  rcases z4 with z4|⟨b,off,z4,_⟩
  ·omega
  exact ⟨b,off,z4⟩
 have HDV:Hid ((M:Int)/(np:Int)=(K:Int)):=by
  show (M:Int)/(np:Int)=(K:Int)
  rw [←hM,Int.natCast_mul,Int.mul_ediv_cancel_left _ (by omega)]
 have HK:=AD hK
 have HM:=AD hM
 clear hK hM q3
 unfold ZF
 refine (callsIn_wide (n:=3)).1 ?_
 refine callsIn_of_wp_marks Tryz.func54 rfl trivial ?_
 simp only [Tryz.ntmps54,List.size_toArray,List.length_cons,List.length_nil,Nat.reduceAdd,Nat.reduceSub,Array.replicate_succ,Array.replicate_zero,List.push_toArray,List.append_toArray,List.nil_append,List.cons_append]
 repeat ((fail_if_success with_reducible show (Code.region _ _ _).wpIn _ _ _ _ _ _);gi_step)
 first|refine wpIn_wide.2 ?_|skip
 repeat' (first
  | refine T1 2 ?_;clear hS;intro g2 w hS|refine Tz 4 ?_;clear hS;intro g4 w hS|refine AG ?_;go_step|fail)
 first|refine wpIn_wide.2 ?_|skip
 repeat' (first
  | (refine AQ 15 ?_);(refine Aq AA (V.fieldAddr Su rfl BT) ?_;go_step)|(refine AQ 17 ?_);(refine Aq AA (V.fieldAddr Sv rfl BT) ?_;go_step)|(refine AQ 19 ?_);(refine Aq AA (V.build (vs:=[(0,_),(1,_)]) rfl (YQ _ _)) ?_;go_step)|refine YF ?_|refine Tz 5 ?_;clear hS;intro g5 w hS|refine T2 ?_;clear hS;intro w hS|refine AG ?_;go_step|fail)
 repeat ((fail_if_success with_reducible show (Code.region _ _ _).wpIn _ _ _ _ _ _);gi_step)
 first|refine wpIn_wide.2 ?_|skip
 repeat' (first
  | refine X1 ?_|(refine AQ 6 ?_);(refine Ad ?_;apply CN (o:=⟨some 6,_,_,_,_,_⟩) hS 22 rfl (.slice none 0 0) [.slice none 0 0] (fun w=>Tryz.zeroValue22 w) rfl;clear hS;intro g6 w hS;refine AB ?_;go_step)|refine AG ?_;go_step|fail)
 repeat ((fail_if_success with_reducible show (Code.region _ _ _).wpIn _ _ _ _ _ _);gi_step)
 first|refine wpIn_wide.2 ?_|skip
 repeat' (first
  | (refine AQ 25 ?_);refine Af (.int _ (K:Int)) (V.as (V.quo rfl rfl (by omega) (by omega)) HDV.out) (by kernel_rfl) ?_;go_step|(refine Am 92 ?_);refine An AA Tryz.call92 (WB _ _ M c K (by omega)) ?_;rintro e w ⟨gs,gn,rfl,hS2⟩;replace hS:=Fw hS hS2;clear hS2;refine Ab ?_;go_step|refine YJ 22 ?_|(refine AQ 23 ?_);(refine Aq AA (V.fieldAddr Yv rfl BT) ?_;go_step)|refine YF ?_|refine AG ?_;go_step|fail)
 have hgs:w0.heap.size≤w.heap.size:=hS.1.sz
 have hcs:w.cell? ⟨gs,0,none⟩=some (.slice (some ⟨pb,po,none⟩) M c):=by rw [(hS.blk (g:=gs) AM).1.cell];rfl
 have hcn:w.cell? ⟨gn,0,none⟩=some (.int .i64 (K:Int)):=by rw [(hS.blk (g:=gn) AM).1.cell];rfl
 have hI0:St w0 w (Pn g2 g4 g5 g6 gs gn m h [.val (.int .i64 m), .val (.int .i64 h), .val (.int .i64 np), .ints q, .ints C1, .val v1, .ints C2, .val v2, .val (.int .i64 ev), .val vd] (.slice (some ⟨pb,po,none⟩) M c) (.int .i64 (K:Int)) none 0 []):=by
  have h9:=hS.star0.nilk 30 1 .i64
  simp only [List.map_nil] at h9
  simp only [Pn,List.length_nil,List.map_nil]
  exact h9.sub AV
 refine (wpIn_wide (n:=3)).1 ?_
 apply wpIn_rangeFunc_ownF rfl (by decide) (gf:=125) (lb:=#[.pointer (some ⟨gs,0,none⟩), .pointer (some ⟨gn,0,none⟩)]) rfl trivial (enters_of Tryz.func125 AA rfl) (QW (3-1) (by decide) gs gn pb po c np K M (by omega) (by omega) HM.out hc hcm w hcs hcn) kG (kF (World.block_lt_of_cell? w _ hcs) (World.block_lt_of_cell? w _ hcn)) (Below.refl _ _) (fun _=>rfl)
  (fun (pre:List (Ck np)) W=>∃(R:List Rw) (ao:Option Addr) (co:Nat),R.map (·.xs)=pre.map (fun x=>Pm m h q l K x.1)∧St w0 W (Pn g2 g4 g5 g6 gs gn m h [.val (.int .i64 m), .val (.int .i64 h), .val (.int .i64 np), .ints q, .ints C1, .val v1, .ints C2, .val v2, .val (.int .i64 ev), .val vd] (.slice (some ⟨pb,po,none⟩) M c) (.int .i64 (K:Int)) ao co R))
  (fun _ _ _=>False)
  (fun pre A B row ⟨R,ao,co,h1,h2⟩ hg hr=>⟨R,ao,co,h1,h2.grownC hg (fun r e=>⟨Nat.le_trans hgs (hr r e).1,(hr r e).2⟩) (Hh _ _ _ _ _ _ _ _ _ _ _ _ _ _)⟩)
  (fun _ _ _ _ _ hs _ _=>hs)
  ⟨[],none,0,rfl,hI0⟩
 case hassign=>
  intro lw x W Kq hKq
  refine BN (fun ⟨a9,w9,h9⟩=>h9) AA ?_
  repeat' (first
   | refine X8 ?_|refine AG ?_;go_step|fail)
  exact hKq
 case hbody=>
  clear hI0 hS hcs hcn
  rintro lw pre x W ⟨R,ao,co,hR,hI⟩ hlen
  have hIF:=AD (hI.fixd (Hh _ _ _ _ _ _ _ _ _ _ _ _ _ _))
  have hEW:Ah w0 W:=hI.1
  have hHI:=AD hI
  dsimp only [Pn] at hI
  have hI2:=hI.pull (r:=prt g2 [.val (.int .i64 m), .val (.int .i64 h), .val (.int .i64 np), .ints q, .ints C1, .val v1, .ints C2, .val v2, .val (.int .i64 ev), .val vd]) AM
  have hg2:=(St.blk (g:=g2) hI2 AW.head).1
  clear hI2
  have hc0:W.cell? ⟨g2,0,none⟩=some (.int .i64 m):=by rw [hg2.cell];rfl
  have hc1:W.cell? ⟨g2,1,none⟩=some (.int .i64 h):=by rw [hg2.cell];rfl
  have hr3:W.rangeAt g2 3 (q.map (Value.int .i64)):=KW (m:=64) hI AM (by simp [AH,Ag.cells];rw [List.take_left' (by simpa using hq.out)])
  have hxl:x.1<np:=x.2
  obtain ⟨xn,hxn⟩:∃xn,x.1=xn:=⟨_,rfl⟩
  have hxK:xn*K+K≤M:=by have:=Nat.mul_le_mul_right K (show xn+1≤np by omega);rw [Nat.add_mul,Nat.one_mul,HM.out] at this;exact this
  obtain ⟨p0,hp0⟩:∃p0,po+xn*K*64=p0:=⟨_,rfl⟩
  obtain ⟨C,hC⟩:∃C,(l.drop (xn*K*64)).take (K*64)=C:=⟨_,rfl⟩
  have hCl:C.length=K*64:=by rw [←hC,List.length_take,List.length_drop,hl];omega
  have hsc:Sl W 64 (.slice (some ⟨pb,p0,none⟩) K K) K (C.map (Value.int .i64)):=by
   obtain ⟨z1,a9,c9,z2,z3,z4,z5⟩:=(hv.ext hEW).cut (xn*K) (xn*K+K) (by omega) hxK
   cases z2
   rw [show xn*K+K-xn*K=K by omega] at z5 z1
   rw [←List.map_drop,←List.map_take,hC] at z5 z1
   rw [hp0] at z5
   exact ⟨z1,_,_,rfl,Nat.le_refl _,by have:K≤64:=q2;unfold maxLen;omega,z5⟩
  have hCK:jP pb po K x.1= .slice (some ⟨pb,p0,none⟩) K K:=by unfold jP;rw [hxn,hp0]
  have HCX:=AD (show Pm m h q l K x.1=C6 (Ke q C K) m h by unfold Pm;rw [hxn,hC])
  obtain ⟨ad9,had9⟩:∃a9,(some ⟨pb,p0,none⟩:Option Addr)=a9:=⟨_,rfl⟩
  rw [had9] at hsc hCK
  rw [hCK]
  clear had9
  have HCL:=AD hCl
  have hgs9:W.cell? ⟨gs,0,none⟩=some (.slice (some ⟨pb,po,none⟩) M c):=by rw [(hI.blk (g:=gs) AM).1.cell];rfl
  have hgn9:W.cell? ⟨gn,0,none⟩=some (.int .i64 (K:Int)):=by rw [(hI.blk (g:=gn) AM).1.cell];rfl
  have hHR:=AD hR
  obtain ⟨k0,k1⟩:=Dv m h 64 64 (by omega) (by omega)
  have k2:0<m*h:=Int.mul_pos (by omega) (by omega)
  obtain ⟨N,hN⟩:∃N:Nat,m*h=(N:Int):=⟨(m*h).toNat,by omega⟩
  have hNs:1≤N∧N≤4096:=by omega
  have HN:=AD hN
  have HJ:=AD (show FC (Ke q C K) K m h=0 by unfold FC;rw [if_pos hok,if_pos HK.out.symm,if_pos (Rx _ _ _)])
  clear k0 k1 k2 hN
  clear hI hR hg2 hCK hCl hp0 hC
  have hS:=St.start W
  repeat ((fail_if_success with_reducible show (Code.region _ _ _).wpIn _ _ _ _ _ _);gi_step)
  refine BN (fun ⟨a9,w9,h9⟩=>h9) AA ?_
  repeat' (first
   | refine X0 ?_|refine YJ 29 ?_|refine jX 30 ?_;clear hS;intro g30 w hS|refine AG ?_;go_step|fail)
  repeat ((fail_if_success with_reducible show (Code.region _ _ _).wpIn _ _ _ _ _ _);gi_step)
  refine BN (fun ⟨a9,w9,h9⟩=>h9) AA ?_
  repeat' (first
   | refine X1 ?_|refine YJ 32 ?_|refine AG ?_;go_step|fail)
  repeat ((fail_if_success with_reducible show (Code.loop _).wpIn _ _ _ _ _ _);gi_step)
  gi_loopg [33] K (fun gk kv w'=>∃(j:Nat),gk+j=K∧kv= .int .i64 j∧St W w' [own 26 64 (some ⟨g30,0,none⟩) K K ((Ke q C j++List.replicate ((K-j)*64) 0).map (Value.int .i64))])
  case atStart=>exact ⟨0,rfl,rfl,by rw [Ke,List.nil_append,Nat.sub_zero];exact hS.sub AV⟩
  case round=>
   clear hS
   obtain ⟨j,hj,rfl,hS⟩:=hrel
   by_cases hlt:j<K
   ·have hsgl:Ae (BY C 64 j) 64:=Br _ _ _ K HCL.out hlt
    obtain ⟨X,hX⟩:∃X,It (BY C 64 j) q=X:=⟨_,rfl⟩
    have hXl:Ae X 64:=hX▸ Jq _ q hsgl.out hq
    obtain ⟨Y,hY⟩:∃Y,Em X=Y:=⟨_,rfl⟩
    have hYl:Ae Y 64:=hY▸ B7 _ _
    have HX:=AD hX
    have HY:=AD hY
    clear hX hY
    repeat ((fail_if_success with_reducible show (Code.region _ _ _).wpIn _ _ _ _ _ _);gi_step)
    refine BN (fun ⟨a9,w9,h9⟩=>h9) AA ?_
    repeat' (first
     | refine X4 34 ?_|refine AG ?_;go_step|fail)
    repeat ((fail_if_success with_reducible show (Code.region _ _ _).wpIn _ _ _ _ _ _);gi_step)
    refine BN (fun ⟨a9,w9,h9⟩=>h9) AA ?_
    repeat' (first
     | refine X0 ?_|refine bR 36 ?_;intro b36 o36 hl36 hc36;go_step|refine Xx ?_|refine Kk 10 ?_;clear hS;intro g10 w hS|refine Ft ?_;clear hS;intro w hS|refine AG ?_;go_step|fail)
    repeat ((fail_if_success with_reducible show (Code.region _ _ _).wpIn _ _ _ _ _ _);gi_step)
    refine BN (fun ⟨a9,w9,h9⟩=>h9) AA ?_
    repeat' (first
     | (refine AQ 41 ?_);refine Ad ?_;refine EN hS 26 _ rfl g2 3 rfl 64 (AN rfl) q hq hr3 ?_;refine AB ?_;go_step|(refine Am 93 ?_);refine An AA Tryz.call93 (iz _ (BY C 64 j) q hsgl.out hq) ?_;rintro e w ⟨rfl,hE⟩;rw [HX.out];replace hS:=hS.ext hE;clear hE;refine Ab ?_;go_step|refine X1 ?_|(refine AQ 40 ?_);(refine Aq AA (V.fieldAddr Yw rfl BT) ?_;go_step)|refine X3 43 ?_|refine X3 44 ?_|refine Hp ?_|refine Ft ?_;clear hS;intro w hS|refine AG ?_;go_step|fail)
    repeat ((fail_if_success with_reducible show (Code.region _ _ _).wpIn _ _ _ _ _ _);gi_step)
    refine BN (fun ⟨a9,w9,h9⟩=>h9) AA ?_
    repeat' (first
     | (refine Am 94 ?_);refine An AA Tryz.call94 (XQ _ X hXl) ?_;rintro e w ⟨rfl,hE⟩;rw [HY.out];replace hS:=hS.ext hE;clear hE;refine Ab ?_;go_step|refine X1 ?_|refine X3 48 ?_|refine X3 49 ?_|refine Hp ?_|refine Ft ?_;clear hS;intro w hS|refine AG ?_;go_step|fail)
    repeat ((fail_if_success with_reducible show (Code.region _ _ _).wpIn _ _ _ _ _ _);gi_step)
    refine BN (fun ⟨a9,w9,h9⟩=>h9) AA ?_
    repeat' (first
     | refine X1 ?_|refine Hp ?_|refine AG ?_;go_step|fail)
    repeat ((fail_if_success with_reducible show (Code.loop _).wpIn _ _ _ _ _ _);gi_step)
    obtain ⟨gk1,hgk1⟩:∃x,x=gk:=⟨_,rfl⟩
    subst hgk1
    gi_loopg [51] 64 (fun gk kv w'=>∃(i:Nat) (o:List Int),gk+i=64∧kv= .int .i64 i∧(∀k,k<i→AF o k=min (max (AF Y k) (-40000)) 40000)∧St W w' [arr g10 64 o,own 26 64 (some ⟨g30,0,none⟩) K K ((Ke q C j++List.replicate ((K-j)*64) 0).map (Value.int .i64))])
    case atStart=>exact ⟨0,Y,rfl,rfl,fun k hk=>absurd hk (by omega),hS.sub AV⟩
    case round=>
     clear hS
     obtain ⟨i,o,hi,rfl,ho,hS⟩:=hrel
     have hol:o.length=64:=(hS.arr (g:=g10) AM).2
     by_cases hlt2:i<64
     ·have HO:=AD ho
      clear ho
      repeat ((fail_if_success with_reducible show (Code.region _ _ _).wpIn _ _ _ _ _ _);gi_step)
      refine BN (fun ⟨a9,w9,h9⟩=>h9) AA ?_
      repeat' (first
       | refine X4 52 ?_|refine AG ?_;go_step|fail)
      repeat ((fail_if_success with_reducible show (Code.region _ _ _).wpIn _ _ _ _ _ _);gi_step)
      refine BN (fun ⟨a9,w9,h9⟩=>h9) AA ?_
      repeat' (first
       | refine X0 ?_|refine YB 54 ?_|refine AG ?_;go_step|fail)
      repeat ((fail_if_success with_reducible show (Code.region _ _ _).wpIn _ _ _ _ _ _);gi_step)
      refine BN (fun ⟨a9,w9,h9⟩=>h9) AA ?_
      repeat' (first
       | (refine Am 83 ?_);refine An AA Tryz.call83 (Iu _ 40000 _ (by omega) (by omega)) ?_;rintro e w ⟨rfl,rfl⟩;refine Ab ?_;go_step|refine X1 ?_|refine Vq 58 ?_|refine Xm ?_;clear hS;intro w hS|refine AG ?_;go_step|fail)
      repeat ((fail_if_success with_reducible show (Code.region _ _ _).wpIn _ _ _ _ _ _);gi_step)
      refine BN (fun ⟨a9,w9,h9⟩=>h9) AA ?_
      repeat' (first
       | refine X1 ?_|refine Ns 59 ?_|refine AG ?_;go_step|fail)
      go_roundg (gk-1)
      case measure=>omega
      case rel=>exact ⟨i+1,_,by omega,by go_num,fun k hk=>by
       rw [Bj _ _ _ _ (by rw [hol];exact hlt2)]
       split
       ·rename_i e9;subst e9;rfl
       exact HO.out k (by omega),hS.sub AV⟩
     obtain rfl:i=64:=by omega
     have hou:o=Oq q (BY C 64 j):=by
      refine Bz (by rw [hol,Ll]) fun k hk=>?_
      rw [ho k (by omega)]
      unfold Oq
      rw [HX.out,HY.out,JR _ _ _ (by rw [hYl.out];omega)]
     subst hou
     clear ho hol
     have hul:(Oq q (BY C 64 j)).length=64:=Ll _ _
     obtain ⟨U,hU⟩:∃U,Oq q (BY C 64 j)=U:=⟨_,rfl⟩
     have hsp:Ke q C (j+1)=Ke q C j++U:=by rw [Ke,hU]
     have hrp:List.replicate ((K-j)*64) (0:Int)=List.replicate 64 0++List.replicate ((K-(j+1))*64) 0:=by
      rw [List.replicate_append_replicate];congr 1;rw [show K-j=(K-(j+1))+1 by omega,Nat.add_mul];omega
     rw [hU] at hS hul
     rw [hrp,List.map_append,List.map_append] at hS
     have HAL:=AD (show ((Ke q C j).map (Value.int .i64)).length=j*64 by rw [List.length_map,Lm])
     have HUL:=AD hul
     have HSP:=AD hsp
     clear hul hsp hrp hU
     repeat ((fail_if_success with_reducible show (Code.region _ _ _).wpIn _ _ _ _ _ _);gi_step)
     refine BN (fun ⟨a9,w9,h9⟩=>h9) AA ?_
     repeat' (first
      | refine X4 52 ?_|refine AG ?_;go_step|fail)
     repeat ((fail_if_success with_reducible show (Code.region _ _ _).wpIn _ _ _ _ _ _);gi_step)
     refine BN (fun ⟨a9,w9,h9⟩=>h9) AA ?_
     repeat' (first
      | (with_reducible refine Ak none _ ?_);refine Ad ?_;refine XU hS 26 _ _ rfl g30 (j*64) rfl 64 (AN rfl) _ _ _ _ _ _ (U.map (Value.int .i64)) _ AM HAL.out.symm (by simp) (by rw [List.length_map];exact HUL.out) (by simp [Value.oneCell']) rfl rfl ?_;clear hS;intro w hS|refine X1 ?_|refine gR 63 ?_|refine Hp ?_|refine AG ?_;go_step|fail)
     repeat ((fail_if_success with_reducible show (Code.region _ _ _).wpIn _ _ _ _ _ _);gi_step)
     refine BN (fun ⟨a9,w9,h9⟩=>h9) AA ?_
     repeat' (first
      | refine X1 ?_|refine Ns 64 ?_|refine AG ?_;go_step|fail)
     go_roundg (gk1-1)
     case measure=>omega
     case rel=>exact ⟨j+1,by omega,by go_num,by rw [HSP.out,List.append_assoc,List.map_append,List.map_append];exact hS.sub AV⟩
   obtain rfl:j=K:=by omega
   rw [Nat.sub_self,Nat.zero_mul,List.replicate_zero,List.append_nil] at hS
   repeat ((fail_if_success with_reducible show (Code.region _ _ _).wpIn _ _ _ _ _ _);gi_step)
   refine BN (fun ⟨a9,w9,h9⟩=>h9) AA ?_
   repeat' (first
    | refine X4 34 ?_|refine AG ?_;go_step|fail)
   repeat ((fail_if_success with_reducible show (Code.region _ _ _).wpIn _ _ _ _ _ _);gi_step)
   refine BN (fun ⟨a9,w9,h9⟩=>h9) AA ?_
   repeat' (first
    | (refine Am 95 ?_);refine An AA Tryz.call95 (Q6 _ (some ⟨g30,0,none⟩) j j (Ke q C j) m h (by omega) (by omega) (hS.sl AM) HJ.out N HN.out) ?_;rintro e w ⟨aj,cj,rfl,hS2⟩;replace hS:=hS.call1 hS2;clear hS2;refine Ab ?_;go_step|refine X0 ?_|(refine AQ 67 ?_);(refine Aq AA (V.fieldAddr Su rfl BT) ?_;go_step)|(refine AQ 69 ?_);(refine Aq AA (V.fieldAddr Sv rfl BT) ?_;go_step)|refine X3 72 ?_|refine X3 73 ?_|refine SQ ?_|refine AG ?_;go_step|fail)
   repeat ((fail_if_success with_reducible show (Code.region _ _ _).wpIn _ _ _ _ _ _);gi_step)
   refine BN (fun ⟨a9,w9,h9⟩=>h9) AA ?_
   have hlo:∃bj oj,aj=some ⟨bj,oj,none⟩∧W.heap.size≤bj:=by
    obtain ⟨b2,rfl⟩:=Cb (a:=aj) hS AM (by omega)
    exact ⟨b2,0,rfl,(Zk hS AM).1⟩
   replace hS:=hIF.out.call hS
   simp only [Pn,List.cons_append,List.nil_append] at hS
   have hRl:R.length<np:=by
    have h9:=congrArg List.length hHR.out
    rw [List.length_map,List.length_map] at h9
    rw [h9];exact hlen
   have hR3:R.length<3:=by omega
   obtain ⟨r,hr⟩:∃r,R.length=r:=⟨_,rfl⟩
   rw [hr] at hS hRl hR3
   have HR9:=AD hr
   clear hr
   repeat' (first
    | refine X1 ?_|refine Vk ?_|refine eh 76 ?_;clear hS;intro g76 w hS|(refine AQ 77 ?_);(refine Ad ?_;apply A7 (o:=⟨some 77,_,_,_,_,_⟩) hS _ _ 22 rfl 30 1 24 dM _ _ _ _ rfl;(case hp=>exact AM);(case hx=>exact rfl);(case hm=>(first|exact hS.slBlk AM (by rfl) (by decide)|exact hS.sl AM|with_reducible assumption|exact Sl.ext (by with_reducible assumption) hS.1|exact Sl.nil _ _|exact Sl.ext (by assumption) hS.1|assumption));(case h1=>(first|exact Cx rfl|exact CS _ _|(intro u hu;cases hu)));(case h63=>unfold maxLen;omega);(case hb=>omega);clear hS;intro ad77 c77 w hS;(first|simp only [D7] at hS|simp only [D8] at hS|simp only [D9] at hS|simp only [EA] at hS|simp only [EB] at hS|skip);refine AB ?_;go_step)|refine jb ?_;clear hS;intro w hS|refine AG ?_;go_step|fail)
   obtain ⟨bj,oj,rfl,hbj⟩:=hlo
   obtain ⟨J,hJe⟩:∃J,C6 (Ke q C j) m h=J:=⟨_,rfl⟩
   have hJl:J.length=N:=by
    rw [←hJe];unfold C6;rw [Bb];have:=HN.out;omega
   rw [hJe] at hS
   subst hJl
   refine ⟨N6 hS AM hEW ?_,⟨?_,?_⟩,R++[⟨some ⟨bj,oj,none⟩,cj,J⟩],ad77,c77,?_,?_⟩
   ·have h9:=(Zk (ad:=⟨bj,oj,none⟩) (xs:=J.map (Value.int .i64)) hS AM).2
    dsimp only at h9
    omega
   ·rw [(hS.blk (g:=gs) AM).1.cell,hgs9];rfl
   ·rw [(hS.blk (g:=gn) AM).1.cell,hgn9];rfl
   ·rw [List.map_append,List.map_append,hHR.out]
    show _++[J]=_++[Pm m h q l j x.1]
    rw [HCX.out,hJe]
   have h9:=(hS.pull (r:=star (R.map Rw.res)) AM).starPut (r:=own 3 1 (some ⟨bj,oj,none⟩) J.length cj (J.map (Value.int .i64))) AM
   simp only [Pn,List.length_append,HR9.out,List.length_cons,List.length_nil,Nat.zero_add,List.map_append,List.map_cons,List.map_nil,Rw.val,Rw.res]
   exact h9.sub AV
 case hdone=>
  clear hI0 hS hcs hcn
  rintro D xs W hD hxs ⟨R,ao,co,hR,hI⟩ hK9
  have hF:=hI.fixd (Hh _ _ _ _ _ _ _ _ _ _ _ _ _ _)
  have hD0:w0.heap.size≤D:=Nat.le_trans hgs hD
  have hRS:R.map (·.xs)=eF m h q l K np:=by
   rw [hR,Jd,←hxs,List.map_map];rfl
  have hRl:R.length=np:=by
   have h9:=congrArg List.length hRS
   rw [List.length_map,U8] at h9
   exact h9
  have hall:∀x∈R.map (·.xs),Cw x x.length m h=0:=by
   rw [hRS,Jd]
   intro x hx
   obtain ⟨k,_,rfl⟩:=List.mem_map.1 hx
   refine UL hok ?_ ((Fe _).2 fun i hi=>?_)
   ·unfold Pm C6;rw [Bb]
    have k2:0<m*h:=Int.mul_pos (by omega) (by omega)
    omega
   unfold Pm C6 at hi⊢
   rw [Bb] at hi
   rw [Cm _ _ _ hi];unfold JK;omega
  dsimp only [Pn] at hF
  have hPI:A8 W ao co R:=A8.of hF AM AM
  have HTO:=AD fun (w:World)(hx:Ah W w)=>Tg w ao co R m h (hPI.ext hx) (by omega) hall 96 Fb Fa FZ dA
  rw [hRS] at HTO
  have hFS:WY m h q l K np=C7 Fb Fa FZ (eF m h q l K np):=rfl
  have HFS:=AD hFS
  clear hR hRS hall hPI hFS hI hc hcm hl hv hxs
  obtain ⟨L,hL⟩:∃L,C7 Fb Fa FZ (eF m h q l K np)=L:=⟨_,rfl⟩
  rw [hL] at HTO HFS
  clear hL
  have hWX:=Ah.refl W
  have hS:=hF
  clear hF
  obtain ⟨n9,hn9⟩:∃n9,R.length=n9:=⟨_,rfl⟩
  dsimp only [Exit.inBlock,Exit.then]
  repeat gi_step
  repeat' (first
   | (refine Am 45 ?_);refine An AA Tryz.call45 (HTO.out _ hWX) ?_;rintro e w ⟨a2,c2,R2,hR2,rfl,hE2,hO2⟩;replace hS:=hO2 _ _ (show Dd w0 _ ao co R _ from (hS.pull (r:=star (R.map Rw.res)) AM).pull (r:=own 30 1 ao R.length co (R.map Rw.val)) AM);unfold Dd at hS;clear hO2;refine Ab ?_;go_step|refine Xs ?_|refine Vk ?_|refine jb ?_;clear hS;intro w hS|refine XZ ?_|refine T2 ?_;clear hS;intro w hS|refine AG ?_;go_step|fail)
  have hD9:=dQ hS AM hD0 hK9 rfl
  have hS2:St w0 _ [blk g4 [.int .i64 m, .int .i64 h, .slice a2 R2.length c2],own 30 1 a2 R2.length c2 (R2.map Rw.val),star (R2.map Rw.res)]:=hS.sub AV
  replace hS2:=hS2.putD (.deferred none) (fun r hr=>by
   simp only [List.mem_cons,List.not_mem_nil,or_false] at hr
   rcases hr with rfl|rfl|rfl
   ·exact De _ _
   ·exact GM _ _ _ _ _ _
   refine Kn fun r hr=>?_
   obtain ⟨p,_,rfl⟩:=List.mem_map.1 hr
   exact GM _ _ _ _ _ _) hD0 hD9 rfl
  refine ⟨by simp, .inl ⟨_,_,rfl,run_takeDeferred hD9,?_⟩⟩
  refine ⟨.agg #[.int .i64 m, .int .i64 h, .slice a2 R2.length c2],?_,a2,c2,R2,hR2.trans HFS.out.symm,rfl,?_⟩
  ·rw [In (xs:=[.cell 4 24]) rfl (E3.cons (AC.blk hS2 rfl (AN (n:=3) rfl) AW.head rfl) E3.nil)]
   rfl
  unfold Dd
  exact hS2.sub AV
 case hstop=>
  rintro D c9 pre W _ _ h9 _
  exact h9.elim
end Go.Proofs.YtohacgmhmbijmaaGreatDoor
namespace Go.Proofs.YtohacgmhmbijmaaGreatDoor
attribute [local irreducible] Region.wanted
open Go.ChangeShapes Go.WideShapes Go.ChangeAt Go.RowKit Go.Deep
set_option linter.unusedVariables false
set_option maxRecDepth 100000
set_option maxHeartbeats 8000000
structure BV where
 wide:Int
 high:Int
 parts:Int
 quant:List Int
 c1:List Int
 s1:List Int
 c2:List Int
 s2:List Int
 every:Int
 data:List Nat
def Yx(f:BV)(v1 v2 vd:Value):List Ag:=[.val (.int .i64 f.wide), .val (.int .i64 f.high), .val (.int .i64 f.parts), .ints f.quant, .ints f.c1, .val v1, .ints f.c2, .val v2, .val (.int .i64 f.every), .val vd]
theorem A3(w0:World)(n lo hi:Int):
 Calls Tryz.prog 91 #[.int .i64 n, .int .i64 lo, .int .i64 hi] w0 fun e w=>e= .returned (.bool (decide (lo≤n∧n≤hi)))∧Ah w0 w:=by
 have hS:=St.start w0
 by_cases h1:lo≤n
 ·by_cases h2:n≤hi
  ·have hD:=AD (show decide (lo≤n∧n≤hi)=true from decide_eq_true ⟨h1,h2⟩)
   go_enter Tryz.func91,Tryz.ntmps91
   repeat' (first
    | refine X0 ?_|refine GE ?_|(refine AQ 9 ?_);(refine DL _ (V.geq rfl rfl) AA (fun hB=>?_) (fun hB=>?_)<;>(try exact AS)<;>go_step)|refine ek ?_|refine AG ?_;go_step|fail)
   refine BK rfl (AC.tmp rfl) rfl ?_
   exact ⟨(by rw [hD.out];first|done|rfl|exact congrArg Ending.returned (congrArg Value.bool (decide_eq_true h2))|exact congrArg Ending.returned (congrArg Value.bool (decide_eq_false h2))),hS.1⟩
  have hD:=AD (show decide (lo≤n∧n≤hi)=false from decide_eq_false fun h=>h2 h.2)
  go_enter Tryz.func91,Tryz.ntmps91
  repeat' (first
   | refine X0 ?_|refine GE ?_|(refine AQ 9 ?_);(refine DL _ (V.geq rfl rfl) AA (fun hB=>?_) (fun hB=>?_)<;>(try exact AS)<;>go_step)|refine ek ?_|refine AG ?_;go_step|fail)
  refine BK rfl (AC.tmp rfl) rfl ?_
  exact ⟨(by rw [hD.out];first|done|rfl|exact congrArg Ending.returned (congrArg Value.bool (decide_eq_true h2))|exact congrArg Ending.returned (congrArg Value.bool (decide_eq_false h2))),hS.1⟩
 have hD:=AD (show decide (lo≤n∧n≤hi)=false from decide_eq_false fun h=>h1 h.1)
 go_enter Tryz.func91,Tryz.ntmps91
 repeat' (first
  | go_skip|((first|(with_reducible refine LJ ?_)|(with_reducible refine T9 ?_));(first|go_big_want|go_step);go_step)|((with_reducible refine Ak _ (.pick _ _ _) ?_);(refine BB rfl AA ?_;go_step))|((refine AQ 9 ?_);(refine DL _ (V.geq rfl rfl) AA (fun hB=>?_) (fun hB=>?_)<;>(try exact AS)<;>go_step))|(refine AG ?_;go_step)|fail)
 refine BK rfl (AC.tmp rfl) rfl ?_
 exact ⟨(by rw [hD.out];first|done|rfl|exact congrArg Ending.returned (congrArg Value.bool (decide_eq_true h2))|exact congrArg Ending.returned (congrArg Value.bool (decide_eq_false h2))),hS.1⟩
def Ib(f:BV):Prop:=(1≤f.wide∧f.wide≤64)∧(1≤f.high∧f.high≤64)∧(f.parts=1∨f.parts=3)∧(0≤f.every∧f.every≤100)
instance(f:BV):Decidable (Ib f):=by unfold Ib;infer_instance
def Cq(f:BV):Int:=if Ib f then if Ej f.quant then if A5 f.c1 f.s1=0 then if A5 f.c2 f.s2=0 then if f.data.length≤90000 then 0 else 2 else A5 f.c2 f.s2 else A5 f.c1 f.s1 else 1 else 1
def fv(f:BV)(v1 v2 vd:Value):Value:= .agg (AH (Yx f v1 v2 vd)).toArray
theorem Qk(w0:World)(W H p ev:Int)(Q C1 C2:List Int)(v1 v2 vd:Value)(hQ:Ae Q 64)(hC1:Ae C1 16)(hC2:Ae C2 16)(h:¬((1≤W∧W≤64)∧(1≤H∧H≤64)∧(p=1∨p=3)∧(0≤ev∧ev≤100))):
 Calls Tryz.prog 52 #[.agg (AH [.val (.int .i64 W), .val (.int .i64 H), .val (.int .i64 p), .ints Q, .ints C1, .val v1, .ints C2, .val v2, .val (.int .i64 ev), .val vd]).toArray] w0 fun e w=>e= .returned (.int .i64 1)∧Ah w0 w:=by
 have hS:=St.start w0
 by_cases hw:1≤W∧W≤64
 case neg=>
  have hD:=AD (decide_eq_false hw)
  clear h hw
  go_enter Tryz.func52,Tryz.ntmps52
  repeat' (first
   | (refine Am 91 ?_);refine An AA Tryz.call91 (A3 _ _ _ _) ?_;rintro e w ⟨rfl,hE2⟩;rw [hD.out];replace hS:=hS.ext hE2;clear hE2;refine Ab ?_;go_step|go_skip|refine X0 ?_|refine GE ?_|refine LO 10 ?_ ?_<;>intro hB<;>(try exact LK hB)<;>go_step|refine cW ?_|refine T1 1 ?_;clear hS;intro g1 w hS|refine YF ?_|refine AG ?_;go_step|fail)
  refine BK rfl (AC.tmp rfl) rfl ?_
  exact ⟨rfl,hS.1⟩
 have hD:=AD (decide_eq_true hw)
 by_cases hh:1≤H∧H≤64
 case neg=>
  have hD2:=AD (decide_eq_false hh)
  clear h hw hh
  go_enter Tryz.func52,Tryz.ntmps52
  repeat' (first
   | (refine Am 91 ?_);refine An AA Tryz.call91 (A3 _ _ _ _) ?_;rintro e w ⟨rfl,hE2⟩;rw [hD.out];replace hS:=hS.ext hE2;clear hE2;refine Ab ?_;go_step|(refine Am 91 ?_);refine An AA Tryz.call91 (A3 _ _ _ _) ?_;rintro e w ⟨rfl,hE2⟩;rw [hD2.out];replace hS:=hS.ext hE2;clear hE2;refine Ab ?_;go_step|go_skip|refine X0 ?_|refine Kl ?_|refine LO 10 ?_ ?_<;>intro hB<;>(try exact LK hB)<;>go_step|refine LO 15 ?_ ?_<;>intro hB<;>(try exact LK hB)<;>go_step|refine cW ?_|refine ez ?_|refine T1 1 ?_;clear hS;intro g1 w hS|refine YF ?_|refine AG ?_;go_step|fail)
  refine BK rfl (AC.tmp rfl) rfl ?_
  exact ⟨rfl,hS.1⟩
 have hD2:=AD (decide_eq_true hh)
 by_cases h1:p=1
 ·subst h1
  have hD3:=AD (decide_eq_false (show ¬(0≤ev∧ev≤100) from fun e=>h ⟨hw,hh, .inl rfl,e⟩))
  clear h hw hh
  go_enter Tryz.func52,Tryz.ntmps52
  repeat' (first
   | (refine Am 91 ?_);refine An AA Tryz.call91 (A3 _ _ _ _) ?_;rintro e w ⟨rfl,hE2⟩;rw [hD.out];replace hS:=hS.ext hE2;clear hE2;refine Ab ?_;go_step|(refine Am 91 ?_);refine An AA Tryz.call91 (A3 _ _ _ _) ?_;rintro e w ⟨rfl,hE2⟩;rw [hD2.out];replace hS:=hS.ext hE2;clear hE2;refine Ab ?_;go_step|(refine Am 91 ?_);refine An AA Tryz.call91 (A3 _ _ _ _) ?_;rintro e w ⟨rfl,hE2⟩;rw [hD3.out];replace hS:=hS.ext hE2;clear hE2;refine Ab ?_;go_step|go_skip|refine X0 ?_|refine Gj ?_|refine LO 10 ?_ ?_<;>intro hB<;>(try exact LK hB)<;>go_step|refine LO 15 ?_ ?_<;>intro hB<;>(try exact LK hB)<;>go_step|refine X9 20 ?_ ?_<;>intro hB<;>(try exact AS)<;>go_step|refine cW ?_|refine ez ?_|refine ga ?_|refine Xu ?_|refine SE ?_|refine T1 1 ?_;clear hS;intro g1 w hS|refine YF ?_|refine AG ?_;go_step|fail)
  refine BK rfl (AC.tmp rfl) rfl ?_
  exact ⟨rfl,hS.1⟩
 by_cases h3:p=3
 ·subst h3
  have hD3:=AD (decide_eq_false (show ¬(0≤ev∧ev≤100) from fun e=>h ⟨hw,hh, .inr rfl,e⟩))
  clear h hw hh h1
  go_enter Tryz.func52,Tryz.ntmps52
  repeat' (first
   | (refine Am 91 ?_);refine An AA Tryz.call91 (A3 _ _ _ _) ?_;rintro e w ⟨rfl,hE2⟩;rw [hD.out];replace hS:=hS.ext hE2;clear hE2;refine Ab ?_;go_step|(refine Am 91 ?_);refine An AA Tryz.call91 (A3 _ _ _ _) ?_;rintro e w ⟨rfl,hE2⟩;rw [hD2.out];replace hS:=hS.ext hE2;clear hE2;refine Ab ?_;go_step|(refine Am 91 ?_);refine An AA Tryz.call91 (A3 _ _ _ _) ?_;rintro e w ⟨rfl,hE2⟩;rw [hD3.out];replace hS:=hS.ext hE2;clear hE2;refine Ab ?_;go_step|refine X0 ?_|refine Kl ?_|refine LO 10 ?_ ?_<;>intro hB<;>(try exact LK hB)<;>go_step|refine LO 15 ?_ ?_<;>intro hB<;>(try exact LK hB)<;>go_step|refine X9 20 ?_ ?_<;>intro hB<;>(try exact AS)<;>go_step|refine X9 24 ?_ ?_<;>intro hB<;>(try exact AS)<;>go_step|refine cW ?_|refine ez ?_|refine ga ?_|refine Xu ?_|refine SE ?_|refine T1 1 ?_;clear hS;intro g1 w hS|refine YF ?_|refine AG ?_;go_step|fail)
  refine BK rfl (AC.tmp rfl) rfl ?_
  exact ⟨rfl,hS.1⟩
 clear h hw hh
 go_enter Tryz.func52,Tryz.ntmps52
 repeat' (first
  | (refine Am 91 ?_);refine An AA Tryz.call91 (A3 _ _ _ _) ?_;rintro e w ⟨rfl,hE2⟩;rw [hD.out];replace hS:=hS.ext hE2;clear hE2;refine Ab ?_;go_step|(refine Am 91 ?_);refine An AA Tryz.call91 (A3 _ _ _ _) ?_;rintro e w ⟨rfl,hE2⟩;rw [hD2.out];replace hS:=hS.ext hE2;clear hE2;refine Ab ?_;go_step|go_skip|refine X0 ?_|refine Kl ?_|refine LO 10 ?_ ?_<;>intro hB<;>(try exact LK hB)<;>go_step|refine LO 15 ?_ ?_<;>intro hB<;>(try exact LK hB)<;>go_step|refine X9 20 ?_ ?_<;>intro hB<;>(try exact AS)<;>go_step|refine X9 24 ?_ ?_<;>intro hB<;>(try exact AS)<;>go_step|refine cW ?_|refine ez ?_|refine ga ?_|refine T1 1 ?_;clear hS;intro g1 w hS|refine YF ?_|refine AG ?_;go_step|fail)
 refine BK rfl (AC.tmp rfl) rfl ?_
 exact ⟨rfl,hS.1⟩
theorem PC(w0:World)(W H p ev:Int)(Q C1 C2:List Int)(v1 v2 vd:Value)(hQ:Ae Q 64)(hC1:Ae C1 16)(hC2:Ae C2 16)(h:(1≤W∧W≤64)∧(1≤H∧H≤64)∧(p=1∨p=3)∧(0≤ev∧ev≤100))(hk:Ej Q=false):
 Calls Tryz.prog 52 #[.agg (AH [.val (.int .i64 W), .val (.int .i64 H), .val (.int .i64 p), .ints Q, .ints C1, .val v1, .ints C2, .val v2, .val (.int .i64 ev), .val vd]).toArray] w0 fun e w=>e= .returned (.int .i64 1)∧Ah w0 w:=by
 have hS:=St.start w0
 have hK:=AD hk
 have hD:=AD (decide_eq_true h.1)
 have hD2:=AD (decide_eq_true h.2.1)
 have hD3:=AD (decide_eq_true h.2.2.2)
 have hp:=h.2.2.1
 clear h hk
 rcases hp with rfl|rfl
 all_goals
  go_enter Tryz.func52,Tryz.ntmps52
  repeat' (first
   | (refine Am 91 ?_);refine An AA Tryz.call91 (A3 _ _ _ _) ?_;rintro e w ⟨rfl,hE2⟩;rw [hD.out];replace hS:=hS.ext hE2;clear hE2;refine Ab ?_;go_step|(refine Am 91 ?_);refine An AA Tryz.call91 (A3 _ _ _ _) ?_;rintro e w ⟨rfl,hE2⟩;rw [hD2.out];replace hS:=hS.ext hE2;clear hE2;refine Ab ?_;go_step|(refine Am 91 ?_);refine An AA Tryz.call91 (A3 _ _ _ _) ?_;rintro e w ⟨rfl,hE2⟩;rw [hD3.out];replace hS:=hS.ext hE2;clear hE2;refine Ab ?_;go_step|(refine Am 36 ?_);refine An AA Tryz.call36 (Be _ Q hQ) ?_;rintro e w ⟨rfl,hE2⟩;rw [hK.out];replace hS:=hS.ext hE2;clear hE2;refine Ab ?_;go_step|go_skip|refine X0 ?_|refine Kl ?_|refine LO 10 ?_ ?_<;>intro hB<;>(try exact LK hB)<;>go_step|refine LO 15 ?_ ?_<;>intro hB<;>(try exact LK hB)<;>go_step|refine X9 20 ?_ ?_<;>intro hB<;>(try exact AS)<;>go_step|refine X9 24 ?_ ?_<;>intro hB<;>(try exact AS)<;>go_step|refine cW ?_|refine ez ?_|refine ga ?_|refine Xu ?_|refine SE ?_|refine Xt ?_|refine X5 ?_|refine T1 1 ?_;clear hS;intro g1 w hS|refine YF ?_|refine cD ?_|refine AG ?_;go_step|fail)
  refine BK rfl (AC.tmp rfl) rfl ?_
  exact ⟨rfl,hS.1⟩
theorem ii{x y:Int}(h:x=y):Ending.returned (.int .i64 x)= .returned (.int .i64 y):=by rw [h]
theorem Hk(C:List Int)(v:Value)(h:Ae C 16):(AH [.ints C, .val v]).length=17:=by
 have:=h.out
 simp [AH,Ag.cells,this]
theorem kM(C1 C2:List Int)(v1 v2:Value):AH [.ints C1, .val v1]++(AH [.ints C2, .val v2]++[])=AH [.ints C1, .val v1, .ints C2, .val v2]:=by
 simp [AH,Ag.cells]
theorem Rf{W w:World}{rs:List Au}{g:Nat}{C1 C2:List Int}{v1 v2:Value}(hS:St W w (blk g (AH [.ints C1, .val v1]++(AH [.ints C2, .val v2]++[]))::rs)):St W w (prt g [.ints C1, .val v1, .ints C2, .val v2]::rs):=by
 rw [kM] at hS;exact hS
theorem Ql(w0:World)(W H p ev:Int)(Q C1 C2 S1 S2:List Int)(a1 a2 ad:Option Addr)(n1 n2 nd c1 c2 cd:Nat)(hQ:Ae Q 64)(hC1:Ae C1 16)(hC2:Ae C2 16)(hs1:Sl w0 1 (.slice a1 n1 c1) n1 (S1.map (Value.int .i64)))(hs2:Sl w0 1 (.slice a2 n2 c2) n2 (S2.map (Value.int .i64)))(hn1:n1≤9223372036854775807)(hn2:n2≤9223372036854775807)(hnd:nd≤9223372036854775807)(h:(1≤W∧W≤64)∧(1≤H∧H≤64)∧(p=1∨p=3)∧(0≤ev∧ev≤100))(hk:Ej Q=true):
 Calls Tryz.prog 52 #[.agg (AH [.val (.int .i64 W), .val (.int .i64 H), .val (.int .i64 p), .ints Q, .ints C1, .val (.slice a1 n1 c1), .ints C2, .val (.slice a2 n2 c2), .val (.int .i64 ev), .val (.slice ad nd cd)]).toArray] w0 fun e w=>e= .returned (.int .i64 (if A5 C1 S1=0 then if A5 C2 S2=0 then if nd≤90000 then 0 else 2 else A5 C2 S2 else A5 C1 S1))∧Ah w0 w:=by
 have hS:=St.start w0
 have hL1:=AD (Hk C1 (.slice a1 n1 c1) hC1)
 have hL2:=AD (Hk C2 (.slice a2 n2 c2) hC2)
 have hK:=AD hk
 have hD:=AD (decide_eq_true h.1)
 have hD2:=AD (decide_eq_true h.2.1)
 have hD3:=AD (decide_eq_true h.2.2.2)
 have hp:=h.2.2.1
 clear h hk
 obtain ⟨E1,hE1⟩:∃x,A5 C1 S1=x:=⟨_,rfl⟩
 obtain ⟨E2,hE2⟩:∃x,A5 C2 S2=x:=⟨_,rfl⟩
 have HE1:=AD hE1
 have HE2:=AD hE2
 rw [hE1,hE2]
 clear hE1 hE2
 rcases hp with rfl|rfl
 all_goals
  go_enter Tryz.func52,Tryz.ntmps52
  repeat' (first
   | (refine Am 91 ?_);refine An AA Tryz.call91 (A3 _ _ _ _) ?_;rintro e w ⟨rfl,hE2⟩;rw [hD.out];replace hS:=hS.ext hE2;clear hE2;refine Ab ?_;go_step|(refine Am 91 ?_);refine An AA Tryz.call91 (A3 _ _ _ _) ?_;rintro e w ⟨rfl,hE2⟩;rw [hD2.out];replace hS:=hS.ext hE2;clear hE2;refine Ab ?_;go_step|(refine Am 91 ?_);refine An AA Tryz.call91 (A3 _ _ _ _) ?_;rintro e w ⟨rfl,hE2⟩;rw [hD3.out];replace hS:=hS.ext hE2;clear hE2;refine Ab ?_;go_step|(refine Am 36 ?_);refine An AA Tryz.call36 (Be _ Q hQ) ?_;rintro e w ⟨rfl,hE2⟩;rw [hK.out];replace hS:=hS.ext hE2;clear hE2;refine Ab ?_;go_step|(refine AQ 45 ?_);refine Ad ?_;refine AU (o:=⟨some 45,_,_,_,_,_⟩) hS 115 2 _ rfl 32 17 152 OQ _ _ (AX.agg rfl hL1.out (AX.agg rfl hL2.out AX.nil)) rfl (by decide) (by decide) ?_;clear hS;intro g45 w hS;replace hS:=Rf hS|go_skip|refine X0 ?_|refine Kl ?_|refine LO 10 ?_ ?_<;>intro hB<;>(try exact LK hB)<;>go_step|refine LO 15 ?_ ?_<;>intro hB<;>(try exact LK hB)<;>go_step|refine X9 20 ?_ ?_<;>intro hB<;>(try exact AS)<;>go_step|refine X9 24 ?_ ?_<;>intro hB<;>(try exact AS)<;>go_step|refine cW ?_|refine ez ?_|refine ga ?_|refine Xu ?_|refine SE ?_|refine Xt ?_|refine X5 ?_|refine Vj ?_|refine ep ?_|refine ew ?_|refine Vh ?_|refine T1 1 ?_;clear hS;intro g1 w hS|refine YF ?_|refine cD ?_|refine L8 ?_|refine AG ?_;go_step|fail)
  clear hL1 hL2 hD hD2 hD3 hK
  go_loopg [47] 2 (fun gk kv w=>∃k:Nat,gk+k=2∧kv= .int .i64 k∧(1≤k→E1=0)∧(2≤k→E2=0)∧St w0 w [prt g1 [.val (.int .i64 W), .val (.int .i64 H), .val (.int .i64 _), .ints Q, .ints C1, .val (.slice a1 n1 c1), .ints C2, .val (.slice a2 n2 c2), .val (.int .i64 ev), .val (.slice ad nd cd)],prt g45 [.ints C1, .val (.slice a1 n1 c1), .ints C2, .val (.slice a2 n2 c2)]])
  case atStart=>exact ⟨0,rfl,rfl,fun h=>absurd h (by omega),fun h=>absurd h (by omega),hS.sub AV⟩
  case round=>
   clear hS
   obtain ⟨k,hk,rfl,HA,HB,hS⟩:=hrel
   by_cases hlt:k<2
   ·obtain rfl|rfl:k=0∨k=1:=by omega
    ·
     repeat' (first
      | (refine Am 73 ?_);refine An AA Tryz.call73 (Cv _ C1 S1 a1 n1 c1 hC1 (hs1.ext hS.1) hn1) ?_;rintro e w ⟨rfl,hE2⟩;rw [HE1.out];replace hS:=hS.ext hE2;clear hE2;refine Ab ?_;go_step|refine X0 ?_|refine X2 ?_|refine YH 49 ?_|refine X5 ?_|refine X6 ?_|refine L8 ?_|refine SM 5 ?_;clear hS;intro g5 w hS|refine SO ?_;clear hS;intro w hS|refine AG ?_;go_step|fail)
     ·
      refine BK rfl (AC.tmp rfl) rfl ?_
      exact ⟨ii (by (repeat' split)<;>omega),hS.1⟩
     ·go_roundg (gk-1)
      case measure=>omega
      case rel=>exact ⟨1,by omega,rfl,fun _=>by omega,fun h=>absurd h (by omega),hS.sub AV⟩
    ·have h0:=HA (by omega)
     subst h0
     repeat' (first
      | (refine Am 73 ?_);refine An AA Tryz.call73 (Cv _ C2 S2 a2 n2 c2 hC2 (hs2.ext hS.1) hn2) ?_;rintro e w ⟨rfl,hE2⟩;rw [HE2.out];replace hS:=hS.ext hE2;clear hE2;refine Ab ?_;go_step|refine X0 ?_|refine X2 ?_|refine YH 49 ?_|refine X5 ?_|refine X6 ?_|refine L8 ?_|refine SM 5 ?_;clear hS;intro g5 w hS|refine SO ?_;clear hS;intro w hS|refine AG ?_;go_step|fail)
     ·
      refine BK rfl (AC.tmp rfl) rfl ?_
      exact ⟨ii (by (repeat' split)<;>omega),hS.1⟩
     ·go_roundg (gk-1)
      case measure=>omega
      case rel=>exact ⟨2,by omega,rfl,fun _=>rfl,fun _=>by omega,hS.sub AV⟩
   obtain rfl:k=2:=by omega
   have h1:=HA (by omega)
   have h2:=HB (by omega)
   subst h1
   subst h2
   repeat' (first
    | refine X8 ?_|refine X2 ?_|refine Xv ?_|refine gV ?_|refine II ?_|refine jo ?_|refine AG ?_;go_step|fail)
   all_goals
    refine BK rfl (AC.tmp rfl) rfl ?_
    exact ⟨ii (by (repeat' split)<;>omega),hS.1⟩
end Go.Proofs.YtohacgmhmbijmaaGreatDoor
namespace Go.Proofs.YtohacgmhmbijmaaGreatDoor
attribute [local irreducible] Region.wanted
open Go.RowKit
set_option linter.unusedVariables false
set_option maxRecDepth 100000
set_option maxHeartbeats 8000000
def kq(g:Nat)(cs:List Value):Au where
 holds w f:=f=[g]∧∃t m,w.heap[g]? =some (.cells cs.toArray t m)
 lt:=fun ⟨e,t,m,h⟩ b hb=>by
  rw [e,List.mem_singleton] at hb
  rw [hb]
  exact (Array.getElem?_eq_some_iff.1 h).1
 loc:=fun ⟨e,t,m,h⟩ hs=>⟨e,t,m,by rw [hs _ (by rw [e];simp)];exact h⟩
section
variable{P:Program}{W w:World}{rs rs':List Au}{Q:Exit→Act→World→Prop}{K:Act→World→Prop}{o:Oper}{a:Act}
theorem WZ(w:World)(g k:Nat)(C:Array Value)(t:TypeId)(h:w.heap[g]? =some (.cells C t (0,0))):(w.freeze ⟨g,k,none⟩ 1).heap[g]? =some (.cells C t (k,k+1)):=by
 unfold World.freeze
 rw [if_neg (by decide)]
 simp only [Array.getElem?_modify,if_true,h,Option.map_some]
 simp
theorem Qx(w:World)(g k:Nat):E4 [g] w (w.freeze ⟨g,k,none⟩ 1):=by
 unfold World.freeze
 rw [if_neg (by decide)]
 refine ⟨rfl,rfl,rfl,by simp,fun j hj hm=>?_⟩
 simp only [List.mem_singleton] at hm
 show (w.heap.modify g _)[j]? =w.heap[j]?
 rw [Array.getElem?_modify,if_neg (fun e=>hm e.symm)]
theorem R0(hS:St W w rs)(t:TypeId)(x:Operand)(ho:o.op= .convert t t x)(e:TypeId)(ht:P.underlying t=some (.slice e))(he:P.underlying e=some (.int .u8))(g n c:Nat)(hx:a.eval x= .slice (some ⟨g,0,none⟩) n c)(cs:List Value)(hp:AW (blk g cs) rs rs')
 (h:∀w',St W w' (kq g cs::rs')→K (a.put o.dst (.slice (some ⟨g,0,none⟩) n c)) w'):o.wp P a w K Q:=by
 obtain ⟨⟨t0,hb⟩,_⟩:=hS.blk hp
 have hsh:w.shape? g=some (t0,cs.length):=by unfold World.shape?;rw [hb];simp
 have hr:(convert t t (.slice (some ⟨g,0,none⟩) n c)).run P w= .ok (.slice (some ⟨g,0,none⟩) n c) (w.freeze ⟨g,cs.length,none⟩ 1):=by
  simp [convert,run_underlying ht,run_underlying he,markStringish,hsh]
 have hst:St W (w.freeze ⟨g,cs.length,none⟩ 1) ([kq g cs]++rs'):=by
  refine St.change (hS.pull hp) fun f1 h1 hf1 hn1=>?_
  obtain ⟨rfl,h1⟩:=h1
  refine ⟨[g],⟨[g],[],by simp,⟨rfl,t0,_,WZ w g cs.length _ t0 hb⟩,rfl⟩,by simp,fun b hb2=> .inl hb2,Qx w g _⟩
 have hk:=h _ hst
 unfold Oper.wp execOp
 simp only [ho,hx,Sem.run_bind,hr,Result.andThen_ok,Sem.run_pure]
 exact hk
theorem Tm(hS:St W w rs)(s x:Operand)(t:TypeId)(ho:o.op= .call {callee:= .builtin .append,args:=#[s,x],argTypes:=#[t,t]})(e:TypeId)(sz b:Nat)(el:CU P t e sz b)
 (g n:Nat) (xs:List Value) (hs:a.eval s= .slice (some ⟨g,0,none⟩) n n) (hxs:xs.length=n*sz) (hp:AW (kq g xs) rs rs') (v:Value) (hx:a.eval x=v) (m:Nat) (news:List Value) (hm:Sl w sz v m news) (hm0:0<m)
 (h63:n+m≤maxLen) (hb:(n+m)*b≤140737488355328)
 (h:∀ad' c' w',St W w' (own e sz ad' (n+m) c' (xs++news)::rs)→K (a.put o.dst (.slice ad' (n+m) c')) w'):o.wp P a w K Q:=by
 obtain ⟨ht,⟨i,z,hi,hz,hsz,hby,hzs⟩,hpos⟩:=el
 subst hsz
 subst hby
 obtain ⟨h1S,f,hnd,hf,f1,f2,ef,⟨e1,t0,m0,hblk⟩,hrest⟩:=hS.pull hp
 obtain ⟨hl,aa,cc,rfl,hmc,hcm,hor⟩:=hm
 rcases hor with rfl|⟨bb,off,rfl,hcells⟩
 ·omega
 have hcell:∀j u,xs[j]? =some u→w.cell? ((⟨g,0,none⟩:Addr).add j)=some u:=fun j u hu=>by
  have e0:((⟨g,0,none⟩:Addr).add j)=⟨g,j,none⟩:=by rw [Addr.add_mid,Nat.zero_add]
  rw [e0,cell_of_row w g j _ _ _ hblk]
  simpa using hu
 have hnews:∀j u,news[j]? =some u→w.cell? ((⟨bb,off,none⟩:Addr).add j)=some u:=fun j u hu=>by
  have hj:j<m*i.size:=by rw [←hl];exact (List.getElem?_eq_some_iff.1 hu).1
  rw [Addr.add_mid,hcells j hj,hu]
 have hr:=run_append_grow (P:=P) w t o.type e i z ht hi hz ⟨g,0,none⟩ n n xs hxs hcell ⟨bb,off,none⟩ m cc news hl hnews (by omega) (by simp only [maxLen] at h63;omega) (growslice_fits (by omega) hb)
 have hge:=grownCap_ge w (n+m) n e
 have hcm2:grownCap w (n+m) n e≤maxLen:=grownCap_le_maxLen w (n+m) n e h63
 have hlen:(xs++news).length=(n+m)*i.size:=by rw [List.length_append,hxs,hl,Nat.add_mul]
 have hown:(w.drew.alloc (.cells (xs.toArray++news.toArray++Builtin.zeroCells z.cells (grownCap w (n+m) n e-(n+m))) e)).ownsRow 0 e i.size
  (.slice (some ⟨w.heap.size,0,none⟩) (n+m) (grownCap w (n+m) n e)) (n+m) (xs++news):=by
  refine ⟨hlen, .inr ⟨w.heap.size,_,_,rfl,Nat.zero_le _,heap_alloc_new w.drew _,hge,hcm2,?_,?_⟩⟩
  ·simp only [Array.size_append,List.size_toArray,size_zeroCells,hzs,hxs,hl,←Nat.add_mul]
   congr 1
   omega
  simp only [Array.toList_append,List.append_assoc]
  rw [←List.append_assoc,←hlen]
  exact List.take_left
 have hst:St W (w.drew.alloc (.cells (xs.toArray++news.toArray++Builtin.zeroCells z.cells (grownCap w (n+m) n e-(n+m))) e)) (own e i.size (some ⟨w.heap.size,0,none⟩) (n+m) (grownCap w (n+m) n e) (xs++news)::rs):=by
  obtain ⟨h1,f,h2,h3,h4⟩:=hS.drew
  refine ⟨h1.alloc _,w.heap.size::f,List.nodup_cons.2 ⟨fun hm=>by have:w.heap.size<w.drew.heap.size:=h4.lt _ hm;exact absurd this (Nat.lt_irrefl _),h2⟩,fun b hb=>?_,[w.heap.size],f,rfl,⟨rfl,hown⟩,h4.loc fun b hb=>?_⟩
  ·rcases List.mem_cons.1 hb with h|h
   ·rw [h];exact h1.sz
   exact h3 b h
  exact heap_alloc_old w.drew _ (h4.lt b hb)
 have hk:=h _ _ _ hst
 unfold Oper.wp execOp
 simp only [ho,resolve,invoke,builtin,Sem.run_bind,Sem.run_pure,Result.andThen_ok,List.map_toArray,List.map_cons,List.map_nil,hs,hx,hr]
 exact hk
end
section
variable{P:Program}{a:Act}{x y:Operand}{t ty u:TypeId}
end
end Go.Proofs.YtohacgmhmbijmaaGreatDoor
namespace Go.Proofs.YtohacgmhmbijmaaGreatDoor
attribute [local irreducible] Region.wanted
open Go.ChangeShapes Go.WideShapes Go.ChangeAt Go.RowKit Go.Deep
set_option linter.unusedVariables false
set_option maxRecDepth 100000
set_option maxHeartbeats 8000000
theorem Ie(w0:World)(f:BV)(a1 a2 ad:Option Addr)(n1 n2 nd c1 c2 cd:Nat)(hQ:Ae f.quant 64)(hC1:Ae f.c1 16)(hC2:Ae f.c2 16)(hs1:Sl w0 1 (.slice a1 n1 c1) n1 (f.s1.map (Value.int .i64)))(hs2:Sl w0 1 (.slice a2 n2 c2) n2 (f.s2.map (Value.int .i64)))(hn1:n1≤9223372036854775807)(hn2:n2≤9223372036854775807)(hnd:nd≤9223372036854775807)(hd:f.data.length=nd):
 Calls Tryz.prog 52 #[fv f (.slice a1 n1 c1) (.slice a2 n2 c2) (.slice ad nd cd)] w0 fun e w=>e= .returned (.int .i64 (Cq f))∧Ah w0 w:=by
 by_cases h1:Ib f
 ·by_cases h2:Ej f.quant=true
  ·have e:Cq f=if A5 f.c1 f.s1=0 then if A5 f.c2 f.s2=0 then if nd≤90000 then 0 else 2 else A5 f.c2 f.s2 else A5 f.c1 f.s1:=by unfold Cq;rw [if_pos h1,if_pos h2,hd]
   rw [e]
   exact Ql w0 _ _ _ _ _ _ _ _ _ a1 a2 ad n1 n2 nd c1 c2 cd hQ hC1 hC2 hs1 hs2 hn1 hn2 hnd h1 h2
  have e:Cq f=1:=by unfold Cq;rw [if_pos h1,if_neg h2]
  rw [e]
  exact PC w0 _ _ _ _ _ _ _ _ _ _ hQ hC1 hC2 h1 (by simpa using h2)
 have e:Cq f=1:=by unfold Cq;rw [if_neg h1]
 rw [e]
 exact Qk w0 _ _ _ _ _ _ _ _ _ _ hQ hC1 hC2 h1
theorem IU(A:List Int)(k:Nat)(h:k<A.length):A.take (k+1)=A.take k++[AF A k]:=by
 rw [List.take_succ_eq_append_getElem h]
 simp [AF,List.getD,h]
def cb(C:List Int):Nat→List Int
 | 0=>[]
 | k+1=>cb C k++[AF C k/256,AF C k%256]
def NF(C S:List Int):List Int:=cb C 16++S
def IR(f:BV):List Int:=[77,90]++[f.wide,f.high,f.parts,f.every]
def XI(f:BV):Nat→List Int
 | 0=>[]
 | 1=>NF f.c1 f.s1
 | _=>NF f.c1 f.s1++NF f.c2 f.s2
def B8(f:BV):List Int:=f.data.map fun (x:Nat)=>(x:Int)
def BU(f:BV):List Int:=IR f++Ez f.quant++XI f 2++B8 f
theorem Gz{f:BV}(h:Cq f=0):Ib f∧Ej f.quant=true∧A5 f.c1 f.s1=0∧A5 f.c2 f.s2=0∧f.data.length≤90000:=by
 unfold Cq at h
 split at h
 ·rename_i h1
  split at h
  ·rename_i h2
   split at h
   ·rename_i h3
    split at h
    ·rename_i h4
     split at h
     ·rename_i h5
      exact ⟨h1,h2,h3,h4,h5⟩
     cases h
    rename_i h4;exact absurd h h4
   rename_i h3;exact absurd h h3
  cases h
 cases h
theorem Ij{S:List Int}{lo hi:Int}(h:∀s∈S,lo≤s∧s<hi)(i:Nat)(hi2:i<S.length):lo≤AF S i∧AF S i<hi:=by
 have e:AF S i=S[i]:=by simp [AF,List.getD,hi2]
 rw [e]
 exact h _ (List.getElem_mem hi2)
theorem bP{Q:List Int}(hQ:Q.length=64)(h:Ej Q=true)(i:Nat)(hi:i<64):1≤AF (Ez Q) i∧AF (Ez Q) i≤255:=by
 rw [Gf Q i hi]
 exact (Aw Q 1 255).1 h (zn i) (by rw [hQ];exact K9 i hi)
theorem Zl(w0:World)(f:BV)(a1 a2 ad:Option Addr)(n1 n2 nd c1 c2 cd:Nat)(hQ:Ae f.quant 64)(hC1:Ae f.c1 16)(hC2:Ae f.c2 16)(hs1:Sl w0 1 (.slice a1 n1 c1) n1 (f.s1.map (Value.int .i64)))(hs2:Sl w0 1 (.slice a2 n2 c2) n2 (f.s2.map (Value.int .i64)))(hn1:n1≤9223372036854775807)(hn2:n2≤9223372036854775807)(hnd:nd≤9223372036854775807)(hd:f.data.length=nd)(E:Int)(hE:Cq f=E)(hE0:E≠0):
 Calls Tryz.prog 39 #[fv f (.slice a1 n1 c1) (.slice a2 n2 c2) (.slice ad nd cd)] w0 fun e w=>e= .returned (.tuple #[.slice none 0 0, .int .i64 E])∧Ah w0 w:=by
 have hS:=St.start w0
 have HC:∀w,Ah w0 w→Calls Tryz.prog 52 #[fv f (.slice a1 n1 c1) (.slice a2 n2 c2) (.slice ad nd cd)] w fun e w'=>e= .returned (.int .i64 E)∧Ah w w':=fun w hx=>hE▸ Ie w f a1 a2 ad n1 n2 nd c1 c2 cd hQ hC1 hC2 (hs1.ext hx) (hs2.ext hx) hn1 hn2 hnd hd
 have HCh:=AD HC
 obtain ⟨W,H,p,Q,C1,S1,C2,S2,ev,D⟩:=f
 clear HC hd hE
 go_enter Tryz.func39,Tryz.ntmps39
 repeat' (first
  | (refine Am 52 ?_);refine An AA Tryz.call52 (HCh.out _ hS.1) (Fq hS ?_);clear hS;intro w hS;go_step|refine X0 ?_|refine X5 ?_|refine T1 1 ?_;clear hS;intro g1 w hS|refine SD ?_|refine AG ?_;go_step|fail)
 refine AO (xs:=[_,_]) rfl (.cons (AC.tmp rfl) (.cons (AC.tmp rfl) (.nil))) (by simp) rfl ?_
 exact ⟨rfl,hS.1⟩
theorem iw(f:BV)(v1 v2:Value)(hC1:Ae f.c1 16)(hC2:Ae f.c2 16)(k:Nat)(hk:k<2):∃(C S:List Int) (v:Value),(k=0∧C=f.c1∧S=f.s1∧v=v1∨k=1∧C=f.c2∧S=f.s2∧v=v2)∧Ae C 16∧Hn [.ints f.c1, .val v1, .ints f.c2, .val v2] (k*17) 17 [.ints C, .val v]∧XI f (k+1)=XI f k++NF C S:=by
 obtain rfl|rfl:k=0∨k=1:=by omega
 ·exact ⟨f.c1,f.s1,v1, .inl ⟨rfl,rfl,rfl,rfl⟩,hC1, .head (.ints hC1 (by omega) rfl (.val .nil)),by simp [XI]⟩
 exact ⟨f.c2,f.s2,v2, .inr ⟨rfl,rfl,rfl,rfl⟩,hC2, .skipI hC1 (by omega) rfl (.skipV (.head (.ints hC2 (by omega) rfl (.val .nil)))),rfl⟩
theorem Ut(w0:World)(f:BV)(a1 a2 ad:Option Addr)(n1 n2 nd c1 c2 cd:Nat)(hQ:Ae f.quant 64)(hC1:Ae f.c1 16)(hC2:Ae f.c2 16)(hs1:Sl w0 1 (.slice a1 n1 c1) n1 (f.s1.map (Value.int .i64)))(hs2:Sl w0 1 (.slice a2 n2 c2) n2 (f.s2.map (Value.int .i64)))(hsd:Sl w0 1 (.slice ad nd cd) nd ((B8 f).map (Value.int .u8)))(hE:Cq f=0):
 Calls Tryz.prog 39 #[fv f (.slice a1 n1 c1) (.slice a2 n2 c2) (.slice ad nd cd)] w0 fun e w=>∃(ao:Option Addr) (co:Nat),e= .returned (.tuple #[.slice ao (BU f).length co, .int .i64 0])∧St w0 w [own 5 1 ao (BU f).length co ((BU f).map (Value.int .u8))]:=by
 have hS:=St.start w0
 obtain ⟨hdm,hqk,ht1,ht2,hdl⟩:=Gz hE
 have hl1:f.s1.length=n1:=by have:=hs1.1;simpa using this
 have hl2:f.s2.length=n2:=by have:=hs2.1;simpa using this
 have hld:f.data.length=nd:=by have:=hsd.1;simpa [B8] using this
 have k1:=CM ht1
 have k2:=CM ht2
 have hb1:=k1.2.2.1
 have hb2:=k2.2.2.1
 have HC:∀w,Ah w0 w→Calls Tryz.prog 52 #[fv f (.slice a1 n1 c1) (.slice a2 n2 c2) (.slice ad nd cd)] w fun e w'=>e= .returned (.int .i64 0)∧Ah w w':=fun w hx=>hE▸ Ie w f a1 a2 ad n1 n2 nd c1 c2 cd hQ hC1 hC2 (hs1.ext hx) (hs2.ext hx) (by omega) (by omega) (by omega) hld
 have HCh:=AD HC
 have HZ:=AD fun i hi=>bP hQ.out hqk i hi
 have HT:∀k,k<2→∃(C S:List Int) (a:Option Addr) (n c:Nat),Ae C 16∧Hn [.ints f.c1, .val (.slice a1 n1 c1), .ints f.c2, .val (.slice a2 n2 c2)] (k*17) 17 [.ints C, .val (.slice a n c)]∧XI f (k+1)=XI f k++NF C S∧Sl w0 1 (.slice a n c) n (S.map (Value.int .i64))∧S.length=n∧n≤256∧(∀i,i<16→0≤AF C i∧AF C i≤256)∧(∀i,i<n→0≤AF S i∧AF S i<256):=fun k hk=>by
  obtain ⟨C,S,v,h1,h2,h3,h4⟩:=iw f (.slice a1 n1 c1) (.slice a2 n2 c2) hC1 hC2 k hk
  obtain ⟨_,rfl,rfl,rfl⟩|⟨_,rfl,rfl,rfl⟩:=h1
  ·exact ⟨_,_,a1,n1,c1,h2,h3,h4,hs1,hl1,by omega,k1.1,fun i hi=>Ij k1.2.2.2.1 i (by omega)⟩
  exact ⟨_,_,a2,n2,c2,h2,h3,h4,hs2,hl2,by omega,k2.1,fun i hi=>Ij k2.2.2.2.1 i (by omega)⟩
 have HTh:=AD HT
 have hLz:=AD (CF f.quant)
 have HP:=AD (show BU f=IR f++Ez f.quant++XI f 2++B8 f from rfl)
 have HH:=AD (show IR f=[77,90]++[f.wide,f.high,f.parts,f.every] from rfl)
 obtain ⟨P,hP⟩:∃x,BU f=x:=⟨_,rfl⟩
 obtain ⟨Hd,hHd⟩:∃x,IR f=x:=⟨_,rfl⟩
 obtain ⟨Dt,hDt⟩:∃x,B8 f=x:=⟨_,rfl⟩
 obtain ⟨Tb,hTb⟩:∃x,XI f=x:=⟨_,rfl⟩
 have HT0:=AD (show XI f 0=[] from rfl)
 rw [hP]
 rw [hP,hHd,hDt,hTb] at HP
 rw [hHd] at HH
 rw [hDt] at hsd
 rw [hTb] at HTh HT0
 have hLt1:=AD (Hk f.c1 (.slice a1 n1 c1) hC1)
 have hLt2:=AD (Hk f.c2 (.slice a2 n2 c2) hC2)
 obtain ⟨W,H,p,Q,C1,S1,C2,S2,ev,D⟩:=f
 obtain ⟨hw,hh,hp,hev⟩:=hdm
 dsimp only at hw hh hp hev hQ hC1 hC2 hs1 hs2 hsd hl1 hl2 hld HH HZ HTh hLz hLt1 hLt2 hb1 hb2 hdl HP
 have hpb:1≤p∧p≤3:=by omega
 obtain ⟨Z,hZ⟩:∃x,Ez Q=x:=⟨_,rfl⟩
 have HZq:=AD hZ
 rw [hZ] at HZ hLz HP
 clear HC HT hE hqk ht1 ht2 k1 k2 hP hHd hDt hTb hp hZ
 show Calls Tryz.prog 39 #[.agg (AH [.val (.int .i64 W), .val (.int .i64 H), .val (.int .i64 p), .ints Q, .ints C1, .val (.slice a1 n1 c1), .ints C2, .val (.slice a2 n2 c2), .val (.int .i64 ev), .val (.slice ad nd cd)]).toArray] _ _
 go_enter Tryz.func39,Tryz.ntmps39
 repeat' (first
  | (refine Am 52 ?_);refine An AA Tryz.call52 (HCh.out _ hS.1) (Fq hS ?_);clear hS;intro w hS;go_step|(refine AQ 20 ?_);refine Ad ?_;refine R0 (o:=⟨some 20,_,_,_,_,_⟩) hS 35 _ rfl 5 Tryz.underlying35 Tryz.underlying5 _ _ _ rfl _ AM ?_;clear hS;intro w hS;refine AB ?_;go_step|(refine AQ 34 ?_);refine Ad ?_;refine Tm (o:=⟨some 34,_,_,_,_,_⟩) hS _ _ 35 rfl 5 1 1 Ic _ _ _ rfl rfl AM _ rfl 4 _ (hS.slBlk (n:=4) AM (by rfl) (by decide)) (by decide) (by decide) (by decide) ?_;clear hS;intro ad34 c34 w hS;refine AB ?_;go_step|(refine Am 65 ?_);refine An AA Tryz.call65 (Vb _ Q hQ.out) ?_;rintro e w ⟨rfl,hE2⟩;rw [HZq.out];replace hS:=hS.ext hE2;clear hE2;refine Ab ?_;go_step|refine X0 ?_|refine X5 ?_|refine cW ?_|refine Xp ?_|refine ez ?_|refine ga ?_|refine Xu ?_|refine Xt ?_|refine T1 1 ?_;clear hS;intro g1 w hS|refine SD ?_|refine jH 19 ?_;clear hS;intro g19 w hS|refine YF ?_|(refine AQ 33 ?_);(refine Ad ?_;apply AU (o:=⟨some 33,_,_,_,_,_⟩) hS 35 4 _ rfl 5 1 1 Ic _ _;(case hvs=>(repeat (first|exact AX.nil|(apply AX.agg;(rfl);(rfl))|(apply AX.one;exact CK;(rfl);(rfl)))));(case hn=>rfl);(case hn0=>decide);(case hns=>decide);clear hS;intro g33 w hS;refine AB ?_;go_step)|refine cD ?_|refine AG ?_;go_step|fail)
 have e0:[Value.int .u8 77,Value.int .u8 90]++[Value.int .u8 W,Value.int .u8 H,Value.int .u8 p,Value.int .u8 ev]=(Hd++Z.take 0).map (Value.int .u8):=by rw [HH.out];simp
 clear hLt1 hLt2 HCh HZq
 go_loopg [5,38] 64 (fun gk bv kv w=>∃(k:Nat) (a:Option Addr) (c M:Nat),gk+k=64∧kv= .int .i64 k∧M=6+k∧bv= .slice a M c∧St w0 w [own 5 1 a M c ((Hd++Z.take k).map (Value.int .u8)),prt g1 [.val (.int .i64 W), .val (.int .i64 H), .val (.int .i64 p), .ints Q, .ints C1, .val (.slice a1 n1 c1), .ints C2, .val (.slice a2 n2 c2), .val (.int .i64 ev), .val (.slice ad nd cd)]])
 case atStart=>exact ⟨0,ad34,c34,2+4,rfl,rfl,rfl,rfl,by rw [←e0];exact hS.sub AV⟩
 case round=>
  clear hS e0
  obtain ⟨k,ba,bc,M,hk,rfl,hM,rfl,hS⟩:=hrel
  by_cases hlt:k<64
  ·have hx:=HZ.out k hlt
   have HX2:Hid ((Hd++Z.take k)++[AF Z k]=Hd++Z.take (k+1)):=AD (by rw [IU Z k (by rw [hLz.out];exact hlt),List.append_assoc])
   obtain ⟨x,hxe⟩:∃x,AF Z k=x:=⟨_,rfl⟩
   have HX:=AD hxe
   rw [hxe] at hx HX2
   clear hxe
   repeat' (first
    | (refine AQ 40 ?_);refine Af (.int .i64 x) (V.as (V.indexIv Tryz.underlying26 Tryz.underlying3 Ef rfl rfl hLz.out Bw.cast (by omega)) HX.out) AA ?_;go_step|refine X0 ?_|refine X2 ?_|refine Xp ?_|refine X6 ?_|refine Xl 44 ?_;clear hS;intro g44 w hS|refine cU 45 ?_;clear hS;intro ad45 c45 w hS|refine AG ?_;go_step|fail)
   go_roundg (gk-1)
   case measure=>omega
   case rel=>exact ⟨k+1,_,_,M+1,by omega,by go_num,by omega,rfl,by rw [←HX2.out];exact hS.sub AV⟩
  obtain rfl:k=64:=by omega
  obtain rfl:M=70:=by omega
  have hL0:Hd++Z.take 64=Hd++Z++Tb 0:=by rw [List.take_of_length_le (by rw [hLz.out];omega),HT0.out,List.append_nil]
  rw [hL0] at hS
  clear hL0
  have hL1:=AD (Hk C1 (.slice a1 n1 c1) hC1)
  have hL2:=AD (Hk C2 (.slice a2 n2 c2) hC2)
  repeat' (first
   | (refine AQ 53 ?_);refine Ad ?_;refine AU (o:=⟨some 53,_,_,_,_,_⟩) hS 115 2 _ rfl 32 17 152 OQ _ _ (AX.agg rfl hL1.out (AX.agg rfl hL2.out AX.nil)) rfl (by decide) (by decide) ?_;clear hS;intro g53 w hS;replace hS:=Rf hS|refine X1 ?_|refine X2 ?_|refine Vj ?_|refine ep ?_|refine ew ?_|refine Vh ?_|refine L8 ?_|refine AG ?_;go_step|fail)
  clear hL1 hL2
  go_loopg [5,55] 2 (fun gk bv kv w=>∃(k:Nat) (a:Option Addr) (c M:Nat),gk+k=2∧kv= .int .i64 k∧M≤70+300*k∧bv= .slice a M c∧St w0 w [own 5 1 a M c ((Hd++Z++Tb k).map (Value.int .u8)),prt g1 [.val (.int .i64 W), .val (.int .i64 H), .val (.int .i64 p), .ints Q, .ints C1, .val (.slice a1 n1 c1), .ints C2, .val (.slice a2 n2 c2), .val (.int .i64 ev), .val (.slice ad nd cd)],prt g53 [.ints C1, .val (.slice a1 n1 c1), .ints C2, .val (.slice a2 n2 c2)]])
  case atStart=>exact ⟨0,ba,bc,_,rfl,rfl,(by omega),rfl,hS.sub AV⟩
  case round=>
   clear hS
   obtain ⟨k,ba,bc,M,hk,rfl,hM,rfl,hS⟩:=hrel
   by_cases hlt:k<2
   ·obtain ⟨C,S,sa,sn,sc,hC,hAt,hTk,hs,hsl,hsn,hCr,hSr⟩:=HTh.out k hlt
    have HCr:=AD hCr
    have HSr:=AD hSr
    have HTk:=AD hTk
    have HAt:=AD hAt
    obtain ⟨B0,hB0⟩:∃x,Hd++Z++Tb k=x:=⟨_,rfl⟩
    have HB0:=AD hB0
    rw [hB0] at hS
    obtain ⟨gk1,hgk1⟩:∃x,x=gk:=⟨_,rfl⟩
    subst hgk1
    clear hCr hSr hTk hAt hB0
    repeat' (first
     | (refine AQ 58 ?_);refine Ad ?_;refine DK (o:=⟨some 58,_,_,_,_,_⟩) hS 32 _ rfl _ _ rfl 17 (AN rfl) _ AM _ HAt.out ?_;refine AB ?_;go_step|refine X1 ?_|refine X2 ?_|refine YH 57 ?_|refine Vi ?_|refine SM 9 ?_;clear hS;intro g9 w hS|refine SO ?_;clear hS;intro w hS|refine Xy ?_|refine AG ?_;go_step|fail)
    go_loopg [5,61] 16 (fun gk bv kv w=>∃(i:Nat) (a:Option Addr) (c N:Nat),gk+i=16∧kv= .int .i64 i∧N=M+2*i∧bv= .slice a N c∧St w0 w [own 5 1 a N c ((B0++cb C i).map (Value.int .u8)),prt g1 [.val (.int .i64 W), .val (.int .i64 H), .val (.int .i64 p), .ints Q, .ints C1, .val (.slice a1 n1 c1), .ints C2, .val (.slice a2 n2 c2), .val (.int .i64 ev), .val (.slice ad nd cd)],prt g53 [.ints C1, .val (.slice a1 n1 c1), .ints C2, .val (.slice a2 n2 c2)],prt g9 [.ints C, .val (.slice sa sn sc)]])
    case atStart=>exact ⟨0,ba,bc,M,rfl,rfl,rfl,rfl,by rw [show B0++cb C 0=B0 by simp [cb]];exact hS.sub AV⟩
    case round=>
     clear hS
     obtain ⟨i,ba,bc,N,hi,rfl,hN,rfl,hS⟩:=hrel
     by_cases hlt2:i<16
     ·have hx:=HCr.out i hlt2
      have HX2:Hid ((B0++cb C i)++[AF C i/256,AF C i%256]=B0++cb C (i+1)):=AD (by rw [cb,List.append_assoc])
      obtain ⟨x,hxe⟩:∃x,AF C i=x:=⟨_,rfl⟩
      have HX:=AD hxe
      rw [hxe] at hx HX2
      have HW:=AD (show IntKind.u8.wrap x=x%256 by simp [IntKind.wrap,IntKind.signed,IntKind.bits])
      clear hxe
      repeat' (first
       | (refine AQ 63 ?_);refine Af (.int .i64 x) (V.as (V.indexIv Tryz.underlying29 Tryz.underlying3 Ef rfl rfl hC Bw.cast (by omega)) HX.out) AA ?_;go_step|(refine AQ 66 ?_);(refine Af (.int _ ((x/256))) (V.as (V.shr rfl rfl BJ (by omega) rfl) (by omega)) (by kernel_rfl) ?_;go_step)|(refine AQ 69 ?_);(refine Af (.int _ ((x%256))) (V.as (V.conv (by rw [Tryz.underlying3];rfl) Tryz.underlying5 rfl) (by exact HW.out)) (by kernel_rfl) ?_;go_step)|refine X0 ?_|refine X2 ?_|refine Xp ?_|refine X6 ?_|refine jH 70 ?_;clear hS;intro g70 w hS|refine cU 71 ?_;clear hS;intro ad71 c71 w hS|refine AG ?_;go_step|fail)
      go_roundg (gk-1)
      case measure=>omega
      case rel=>exact ⟨i+1,_,_,N+2,by omega,by go_num,by omega,rfl,by rw [←HX2.out];exact hS.sub AV⟩
     obtain rfl:i=16:=by omega
     repeat' (first
      | refine X1 ?_|refine X2 ?_|refine cC ?_|refine Vs ?_|refine Xz ?_|refine AG ?_;go_step|fail)
     obtain ⟨B1,hB1⟩:∃x,B0++cb C 16=x:=⟨_,rfl⟩
     have HB1:=AD hB1
     rw [hB1] at hS
     clear hB1
     go_loopg [5,76] sn (fun gk bv kv w=>∃(i:Nat) (a:Option Addr) (c O:Nat),gk+i=sn∧kv= .int .i64 i∧O=N+i∧bv= .slice a O c∧St w0 w [own 5 1 a O c ((B1++S.take i).map (Value.int .u8)),prt g1 [.val (.int .i64 W), .val (.int .i64 H), .val (.int .i64 p), .ints Q, .ints C1, .val (.slice a1 n1 c1), .ints C2, .val (.slice a2 n2 c2), .val (.int .i64 ev), .val (.slice ad nd cd)],prt g53 [.ints C1, .val (.slice a1 n1 c1), .ints C2, .val (.slice a2 n2 c2)]])
     case atStart=>exact ⟨0,ba,bc,N,by omega,rfl,rfl,rfl,by rw [show B1++S.take 0=B1 by simp];exact hS.sub AV⟩
     case round=>
      clear hS
      obtain ⟨i,ba,bc,O,hi,rfl,hO,rfl,hS⟩:=hrel
      by_cases hlt3:i<sn
      ·have hx:=HSr.out i hlt3
       have HX2:Hid ((B1++S.take i)++[AF S i]=B1++S.take (i+1)):=AD (by rw [IU S i (by omega),List.append_assoc])
       repeat' (first
        | refine X0 ?_|refine X2 ?_|refine cT 78 ?_;intro b78 o78 hc78;go_step|refine Xp ?_|refine X6 ?_|refine SQ ?_|refine Xl 83 ?_;clear hS;intro g83 w hS|refine cU 84 ?_;clear hS;intro ad84 c84 w hS|refine AG ?_;go_step|fail)
       go_roundg (gk-1)
       case measure=>omega
       case rel=>exact ⟨i+1,_,_,O+1,by omega,by go_num,by omega,rfl,by rw [←HX2.out];exact hS.sub AV⟩
      obtain rfl:i=sn:=by omega
      repeat' (first
       | refine X1 ?_|refine X2 ?_|refine X6 ?_|refine AG ?_;go_step|fail)
      go_roundg (gk1-1)
      case measure=>omega
      case rel=>
       refine ⟨k+1,_,_,_,by omega,by go_num,?_,rfl,?_⟩
       rotate_left
       ·rw [HTk.out,←List.append_assoc,HB0.out,NF,←List.append_assoc,HB1.out]
        rw [List.take_of_length_le (by omega)] at hS
        exact hS.sub AV
       omega
   obtain rfl:k=2:=by omega
   repeat' (first
    | refine X0 ?_|refine X2 ?_|refine Xv ?_|refine jo ?_|refine cU 90 ?_;clear hS;intro ad90 c90 w hS|refine AG ?_;go_step|fail)
   have hol:=hS.ownLen (e:=5) AM
   have hPl:P.length=M+nd:=by rw [HP.out];simpa using hol
   refine AO (xs:=[_,_]) rfl (.cons (AC.tmp rfl) (.cons (AC.tmp rfl) (.nil))) (by simp) rfl ?_
   rw [hPl]
   refine ⟨_,_,rfl,?_⟩
   rw [HP.out]
   exact hS.sub AV
end Go.Proofs.YtohacgmhmbijmaaGreatDoor
namespace Go.Proofs.YtohacgmhmbijmaaGreatDoor
attribute [local irreducible] Region.wanted
open Go.RowKit
set_option linter.unusedVariables false
set_option maxRecDepth 100000
set_option maxHeartbeats 8000000
theorem VG(n every:Nat):((Bo n every).map fun x=>x.2-x.1).sum=n:=by
 have hl:(List.replicate (n*64) (0:Int)).length=n*64:=List.length_replicate
 have h:=congrArg List.length (VC every hl)
 have key:∀L:List (Nat×Nat),(∀x∈L,x.1≤x.2∧x.2≤n)→(L.flatMap fun x=>A9 (List.replicate (n*64) (0:Int)) x.1 x.2).length=(L.map fun x=>x.2-x.1).sum*64:=by
  intro L
  induction L with
  | nil=>intro _;rfl
  | cons x L ih=>
    intro hx
    obtain ⟨h1,h2⟩:=hx x (by simp)
    rw [List.flatMap_cons,List.length_append,ih fun y hy=>hx y (by simp [hy]),Et hl h1 h2,List.map_cons,List.sum_cons,Nat.add_mul]
 rw [key _ (Hj n every),hl] at h
 omega
theorem U6(C1 S1 C2 S2:List Int):∀(L:List (Nat×Nat))(ps:List (List Int)),(OC C1 S1 C2 S2 L ps).1=0→(OC C1 S1 C2 S2 L ps).2.length=(L.map fun x=>x.2-x.1).sum*64
 | [],_,_=>rfl
 | x::L,ps,h=>by
   rw [OC] at h⊢
   by_cases h0:(IM C1 S1 C2 S2 (ps.headD []) ((x.2-x.1:Nat):Int)).1=0
   ·rw [if_neg (by simpa using h0)] at h⊢
    obtain ⟨n,e,_,hl⟩:=RY h0
    have ih:=U6 C1 S1 C2 S2 L ps.tail h
    have:x.2-x.1=n:=by omega
    dsimp only
    rw [List.length_append,ih,hl,List.map_cons,List.sum_cons,Nat.add_mul,this]
   rw [if_pos (by simpa using h0)] at h
   exact absurd h h0
theorem d9{C1 S1 C2 S2 b:List Int}{n:Nat}{every:Int}(h:(SF C1 S1 C2 S2 b n every).1=0):(SF C1 S1 C2 S2 b n every).2.length=n*64:=by
 unfold SF at h⊢
 by_cases hw:QG C1 S1 C2 S2 b n every=0
 ·rw [if_pos hw] at h⊢
  split at h
  ·cases h
  rename_i y hy
  by_cases h1:(OC C1 S1 C2 S2 (Bo (n:Int).toNat every.toNat) y.1).1=0
  ·rw [if_pos h1]
   rw [U6 _ _ _ _ _ _ h1,VG,Int.toNat_natCast]
  rw [if_neg h1] at h;exact absurd h h1
 rw [if_neg hw] at h;exact absurd h hw
structure FM(w:World)(f:BV)(a1 a2 ad:Option Addr)(n1 k1 n2 k2 nd kd:Nat):Prop where
 q:Ae f.quant 64
 l1:Ae f.c1 16
 l2:Ae f.c2 16
 s1:Sl w 1 (.slice a1 n1 k1) n1 (f.s1.map (Value.int .i64))
 s2:Sl w 1 (.slice a2 n2 k2) n2 (f.s2.map (Value.int .i64))
 b1:n1≤9223372036854775807
 b2:n2≤9223372036854775807
 sd:Sl w 1 (.slice ad nd kd) nd ((B8 f).map (Value.int .u8))
 bd:nd≤9223372036854775807
 dlt:∀x∈f.data,x<256
theorem FM.ext{w w':World}{f:BV}{a1 a2 ad:Option Addr}{n1 k1 n2 k2 nd kd:Nat}(h:FM w f a1 a2 ad n1 k1 n2 k2 nd kd)(hE:Ah w w'):FM w' f a1 a2 ad n1 k1 n2 k2 nd kd:=
 ⟨h.q,h.l1,h.l2,h.s1.ext hE,h.s2.ext hE,h.b1,h.b2,h.sd.ext hE,h.bd,h.dlt⟩
theorem FM.dl{w:World}{f:BV}{a1 a2 ad:Option Addr}{n1 k1 n2 k2 nd kd:Nat}(h:FM w f a1 a2 ad n1 k1 n2 k2 nd kd):f.data.length=nd:=by
 have:=h.sd.1
 rw [List.length_map,Nat.mul_one] at this
 rw [←this];unfold B8;rw [List.length_map]
theorem FM.chk{w:World}{f:BV}{a1 a2 ad:Option Addr}{n1 k1 n2 k2 nd kd:Nat}(h:FM w f a1 a2 ad n1 k1 n2 k2 nd kd):Calls Tryz.prog 52 #[fv f (.slice a1 n1 k1) (.slice a2 n2 k2) (.slice ad nd kd)] w fun e w'=>e= .returned (.int .i64 (Cq f))∧Ah w w':=
 Ie w f a1 a2 ad n1 n2 nd k1 k2 kd h.q h.l1 h.l2 h.s1 h.s2 h.b1 h.b2 h.bd h.dl
theorem Yf{f:BV}(h:∀x∈f.data,x<256):∀x∈B8 f,0≤x∧x<256:=by
 intro x hx
 obtain ⟨y,hy,rfl⟩:=List.mem_map.1 hx
 have:=h y hy
 omega
theorem fE (w:World):(Instr.build 24 #[]).run Tryz.prog w= .ok (.agg #[.int .i64 0, .int .i64 0, .slice none 0 0]) w:=by kernel_rfl
theorem W9(w0:World)(m h:Int)(hok:1≤m∧m≤64∧1≤h∧h≤64)(np K M:Nat)(hnp:np≤3)(hK:Aa m h=K)(hM:np*K=M)(Q C1 C2:List Int)(v1 v2 vd:Value)(ev:Int)(hQ:Ae Q 64)(hC1:Ae C1 16)(hC2:Ae C2 16):
 Calls Tryz.prog 53 #[.agg (AH [.val (.int .i64 m), .val (.int .i64 h), .val (.int .i64 np), .ints Q, .ints C1, .val v1, .ints C2, .val v2, .val (.int .i64 ev), .val vd]).toArray] w0 fun e w=>e= .returned (.int .i64 (M:Int))∧Ah w0 w:=by
 have hS:=St.start w0
 obtain ⟨q1,q2,q3⟩:=FE hok
 rw [hK] at q1 q2 q3
 have hn1:M≤192:=by
  have:=Nat.mul_le_mul hnp q2
  omega
 have HMU:Hid ((K:Int)*(np:Int)=(M:Int)):=by
  show (K:Int)*(np:Int)=(M:Int)
  rw [←Int.natCast_mul,Nat.mul_comm,hM]
 have HK:=AD q3
 clear q3
 go_enter Tryz.func53,Tryz.ntmps53
 repeat' (first
  | (refine Am 32 ?_);refine An AA Tryz.call32 (I5 _ m h) ?_;rintro e w ⟨rfl,hE⟩;replace hS:=hS.ext hE;clear hE;rw [if_pos hok,if_pos hok,HK.out];refine Ab ?_;go_step|(refine AQ 16 ?_);refine Af (.int _ (M:Int)) (V.as (V.mulI rfl rfl (by rw [HMU.out];omega)) HMU.out) (by kernel_rfl) ?_;go_step|refine X0 ?_|refine cW ?_|refine ez ?_|refine X7 ?_|refine ga ?_|refine T1 1 ?_;clear hS;intro g1 w hS|refine YF ?_|refine AG ?_;go_step|fail)
 all_goals (try exact AS)
 go_ret
 exact ⟨rfl,hS.1⟩
noncomputable def Se(f:BV):Int×List Int:=SF f.c1 f.s1 f.c2 f.s2 (B8 f) ((f.parts.toNat*Aa f.wide f.high:Nat):Int) f.every
noncomputable def dH(f:BV):Int:=if Cq f=0 then (Se f).1 else Cq f
noncomputable def fH(f:BV):List (List Int):=WY f.wide f.high f.quant (Se f).2 (Aa f.wide f.high) f.parts.toNat
def kp:Value:= .agg #[.int .i64 0, .int .i64 0, .slice none 0 0]
def Xh(w0:World)(E m h:Int)(L:List (List Int))(e:Ending)(w:World):Prop:=
 (E≠0→e= .returned (.tuple #[kp, .int .i64 E])∧Ah w0 w)∧
 (E=0→∃(a:Option Addr) (c:Nat) (R:List Rw),R.map (·.xs)=L∧e= .returned (.tuple #[.agg #[.int .i64 m, .int .i64 h, .slice a R.length c], .int .i64 0])∧Dd w0 w a c R [])
theorem Sf(w0:World)(f:BV)(a1 a2 ad:Option Addr)(n1 k1 n2 k2 nd kd:Nat)(hF:FM w0 f a1 a2 ad n1 k1 n2 k2 nd kd)(hml:∃m,w0.cell? ⟨0,0,none⟩=some (.int .i64 m)):
 Calls Tryz.prog 21 #[fv f (.slice a1 n1 k1) (.slice a2 n2 k2) (.slice ad nd kd)] w0 (Xh w0 (dH f) f.wide f.high (fH f)):=by
 have hS:=St.start w0
 have HC:=AD fun (w:World)(hx:Ah w0 w)=>(hF.ext hx).chk
 obtain ⟨E,hE⟩:∃E,Cq f=E:=⟨_,rfl⟩
 rw [hE] at HC
 by_cases hz:E=0
 case neg=>
  have HDE:=AD (show dH f=E by unfold dH;rw [hE,if_neg hz])
  obtain ⟨L,hL⟩:∃L,fH f=L:=⟨_,rfl⟩
  rw [hL]
  have hQ:=hF.q
  have hC1:=hF.l1
  have hC2:=hF.l2
  clear hF hL hE hml
  obtain ⟨W,H,p,Q,C1,S1,C2,S2,ev,D⟩:=f
  dsimp only at hQ hC1 hC2⊢
  show Calls Tryz.prog 21 #[.agg (AH [.val (.int .i64 W), .val (.int .i64 H), .val (.int .i64 p), .ints Q, .ints C1, .val (.slice a1 n1 k1), .ints C2, .val (.slice a2 n2 k2), .val (.int .i64 ev), .val (.slice ad nd kd)]).toArray] _ _
  go_enter Tryz.func21,Tryz.ntmps21
  repeat' (first
   | (refine Am 52 ?_);refine An AA Tryz.call52 (HC.out _ hS.1) (Fq hS ?_);clear hS;intro w hS;go_step|refine X0 ?_|refine X5 ?_|(refine AQ 11 ?_);(refine Aq AA (V.build (vs:=[]) rfl (fE)) ?_;go_step)|refine T1 1 ?_;clear hS;intro g1 w hS|refine Tz 2 ?_;clear hS;intro g2 w hS|refine SD ?_|refine T2 ?_;clear hS;intro w hS|refine AG ?_;go_step|fail)
  all_goals (try exact AS)
  refine AO (xs:=[_,_]) rfl (.cons (AC.blk hS rfl (AN (n:=3) rfl) AM rfl) (.cons (AC.tmp rfl) (.nil))) (by simp) rfl ?_
  exact ⟨fun _=>⟨by rw [HDE.out];rfl,hS.1⟩,fun h=>by rw [HDE.out] at h;exact absurd h hz⟩
 subst hz
 obtain ⟨⟨d1,d2,d3,d4⟩,hqk,e4,e5,hdl⟩:=Gz hE
 have hdl':nd≤1000000000:=by rw [←hF.dl];omega
 obtain ⟨np,hnp⟩:∃np:Nat,f.parts=(np:Int):=⟨f.parts.toNat,by omega⟩
 have hnp3:np=1∨np=3:=by omega
 have hsz:=fun w=>W9 w f.wide f.high ⟨d1.1,d1.2,d2.1,d2.2⟩ np (Aa f.wide f.high) (np*Aa f.wide f.high) (by omega) rfl rfl f.quant f.c1 f.c2 (.slice a1 n1 k1) (.slice a2 n2 k2) (.slice ad nd kd) f.every hF.q hF.l1 hF.l2
 have HSZ:=AD hsz
 have hpt:f.parts.toNat=np:=by omega
 have hdr:Se f=SF f.c1 f.s1 f.c2 f.s2 (B8 f) ((np*Aa f.wide f.high:Nat):Int) f.every:=by unfold Se;rw [hpt]
 have hdx:=Yf hF.dlt
 have HSC:Hid (∀w,Ah w0 w→Calls Tryz.prog 20 #[.agg (AH [.ints f.c1, .val (.slice a1 n1 k1), .ints f.c2, .val (.slice a2 n2 k2)]).toArray, .slice ad nd kd, .int .i64 ((np*Aa f.wide f.high:Nat):Int), .int .i64 f.every] w (Gu w (Se f).1 (Se f).2)):=fun w hx=>by
  rw [hdr]
  exact My w f.c1 f.c2 f.s1 f.s2 a1 a2 n1 n2 k1 k2 hF.l1 hF.l2 (hF.s1.ext hx) (hF.s2.ext hx) hF.b1 hF.b2 ad nd kd (B8 f) _ f.every hdl' (hF.sd.ext hx) hdx (hml.imp fun m h=>hx.cell h)
 have hlen:(Se f).1=0→(Se f).2.length=np*Aa f.wide f.high*64:=fun h=>by
  rw [hdr] at h⊢;exact d9 h
 have HLEN:=AD hlen
 have HDE:=AD (show dH f=(Se f).1 by unfold dH;rw [if_pos hE])
 have HDL:=AD (show fH f=WY f.wide f.high f.quant (Se f).2 (Aa f.wide f.high) np by unfold fH;rw [hpt])
 obtain ⟨D1,hD1⟩:∃x,(Se f).1=x:=⟨_,rfl⟩
 obtain ⟨D2,hD2⟩:∃x,(Se f).2=x:=⟨_,rfl⟩
 rw [hD1] at HDE
 rw [hD2] at HDL
 rw [hD1,hD2] at HSC HLEN
 obtain ⟨E,hEE⟩:∃x,dH f=x:=⟨_,rfl⟩
 obtain ⟨L,hL⟩:∃x,fH f=x:=⟨_,rfl⟩
 rw [hEE] at HDE⊢
 rw [hL] at HDL⊢
 have hQ:=hF.q
 have hC1:=hF.l1
 have hC2:=hF.l2
 clear e4 e5 hF hL hEE hE hml hdl hsz hdr hlen hD1 hD2 hdx hpt hqk d4 d3 hdl'
 obtain ⟨m,h,p,Q,C1,S1,C2,S2,ev,D⟩:=f
 dsimp only at hQ hC1 hC2 d1 d2 hnp HSZ HSC HLEN HDL⊢
 subst hnp
 have hok:1≤m∧m≤64∧1≤h∧h≤64:=⟨d1.1,d1.2,d2.1,d2.2⟩
 obtain ⟨q1,q2,q3⟩:=FE hok
 obtain ⟨K,hK⟩:∃K,Aa m h=K:=⟨_,rfl⟩
 obtain ⟨M,hM⟩:∃M,np*K=M:=⟨_,rfl⟩
 rw [hK,hM] at HSZ HSC HLEN
 rw [hK] at HDL
 rw [hK] at q1 q2
 have hn1:M≤192:=by
  have:=Nat.mul_le_mul (show np≤3 by omega) q2
  omega
 have HK:=AD hK
 have HM:=AD hM
 clear q3 hK hM
 show Calls Tryz.prog 21 #[.agg (AH [.val (.int .i64 m), .val (.int .i64 h), .val (.int .i64 np), .ints Q, .ints C1, .val (.slice a1 n1 k1), .ints C2, .val (.slice a2 n2 k2), .val (.int .i64 ev), .val (.slice ad nd kd)]).toArray] _ _
 by_cases h0:D1=0
 ·subst h0
  go_enter Tryz.func21,Tryz.ntmps21
  repeat' (first
   | (refine Am 52 ?_);refine An AA Tryz.call52 (HC.out _ hS.1) (Fq hS ?_);clear hS;intro w hS;go_step|refine X0 ?_|refine X5 ?_|refine T1 1 ?_;clear hS;intro g1 w hS|refine Tz 2 ?_;clear hS;intro g2 w hS|refine SD ?_|refine AG ?_;go_step|fail)
  all_goals (try exact AS)
  refine AP [8] (fun w=>St w0 w [blk g2 [.int .i64 0, .int .i64 0, .slice none 0 0],prt g1 [.val (.int .i64 m), .val (.int .i64 h), .val (.int .i64 np), .ints Q, .ints C1, .val (.slice a1 n1 k1), .ints C2, .val (.slice a2 n2 k2), .val (.int .i64 ev), .val (.slice ad nd kd)]]) AA ?_
  replace hS:=hS.drew
  focus
   refine CA 0 BZ (V.fieldAddr Sw rfl BT) ?_;go_step
   refine jx 1 [8,9,10,11,12,13] ?_
   refine CA 2 BZ (V.fieldAddr Sy rfl BT) ?_;go_step
   refine lK 3 [8,9,10,11,12,13] ?_
   refine lI 4 [5,8,9,10,11,12,13] ?_
   refine CA 6 BZ (V.fieldAddr Sx rfl BT) ?_;go_step
   refine lJ 7 [8,9,10,11,12,13] ?_
   refine Ao 5 ?_
   refine AR (f:=53) rfl Tryz.call53 (HSZ.out _) ?_;rintro e w ⟨rfl,hE2⟩;replace hS:=hS.ext hE2;clear hE2;refine ⟨_,rfl,?_⟩
   refine ⟨fun _ _=>hS.sub AV,?_⟩
   refine AI ?_
   go_step
   refine Ao 8 ?_
   refine AR (f:=20) rfl Tryz.call20 (HSC.out _ hS.1) ?_;rintro e w ⟨ao,co,mb,hmb,rfl,hS2⟩;replace hS:=hS.call1 hS2;clear hS2;have HMB:=AD hmb;clear hmb;refine ⟨_,rfl,?_⟩
   refine ⟨fun h=>absurd (by decide) h,?_⟩
   refine AI ?_
   go_step
   refine AY 9 ?_
   refine Y1 10 ?_
   refine Y1 11 ?_
   refine AY 12 ?_
   refine AY 13 ?_
   refine AE AA ?_ _
  all_goals
   repeat' (first|(refine AG ?_;go_step)|fail)
   obtain rfl:mb=M:=by
    have e1:=HMB.out
    have e2:=HLEN.out rfl
    omega
   have hcc:mb≤co∧co≤maxLen:=by
    obtain ⟨_,a9,c9,z2,z3,z4,_⟩:=hS.sl (a:=ao) AM
    cases z2
    exact ⟨z3,z4⟩
   obtain ⟨hcc1,hcc2⟩:=hcc
   repeat' (first
    | (refine Am 54 ?_);refine An AA Tryz.call54 (W8 _ m h hok np hnp3 Q C1 C2 hQ hC1 hC2 _ _ _ ev K mb HK.out HM.out ao co hcc1 hcc2 D2 HMB.out (hS.sl AM)) ?_;rintro e w ⟨a9,c9,R9,hR9,rfl,hP9⟩;replace hS:=hS.call hP9;clear hP9;simp only [List.cons_append,List.nil_append] at hS;have HR9:=AD hR9;clear hR9;refine Ab ?_;go_step|refine X0 ?_|refine X5 ?_|refine T2 ?_;clear hS;intro w hS|refine SD ?_|refine AG ?_;go_step|fail)
   all_goals (try exact AS)
   refine AO (xs:=[_,_]) rfl (.cons (AC.blk hS rfl (AN (n:=3) rfl) AM rfl) (.cons (AC.tmp rfl) (.nil))) (by simp) rfl ?_
   refine ⟨fun h=>absurd HDE.out h,fun _=>⟨a9,c9,R9,by rw [HR9.out,HDL.out],rfl,?_⟩⟩
   unfold Dd
   exact hS.sub AV
 go_enter Tryz.func21,Tryz.ntmps21
 repeat' (first
  | (refine Am 52 ?_);refine An AA Tryz.call52 (HC.out _ hS.1) (Fq hS ?_);clear hS;intro w hS;go_step|refine X0 ?_|refine X5 ?_|refine T1 1 ?_;clear hS;intro g1 w hS|refine Tz 2 ?_;clear hS;intro g2 w hS|refine SD ?_|refine AG ?_;go_step|fail)
 all_goals (try exact AS)
 refine AP [8] (fun w=>St w0 w [blk g2 [.int .i64 0, .int .i64 0, .slice none 0 0],prt g1 [.val (.int .i64 m), .val (.int .i64 h), .val (.int .i64 np), .ints Q, .ints C1, .val (.slice a1 n1 k1), .ints C2, .val (.slice a2 n2 k2), .val (.int .i64 ev), .val (.slice ad nd kd)]]) AA ?_
 replace hS:=hS.drew
 focus
  refine CA 0 BZ (V.fieldAddr Sw rfl BT) ?_;go_step
  refine jx 1 [8,9,10,11,12,13] ?_
  refine CA 2 BZ (V.fieldAddr Sy rfl BT) ?_;go_step
  refine lK 3 [8,9,10,11,12,13] ?_
  refine lI 4 [5,8,9,10,11,12,13] ?_
  refine CA 6 BZ (V.fieldAddr Sx rfl BT) ?_;go_step
  refine lJ 7 [8,9,10,11,12,13] ?_
  refine Ao 5 ?_
  refine AR (f:=53) rfl Tryz.call53 (HSZ.out _) ?_;rintro e w ⟨rfl,hE2⟩;replace hS:=hS.ext hE2;clear hE2;refine ⟨_,rfl,?_⟩
  refine ⟨fun _ _=>hS.sub AV,?_⟩
  refine AI ?_
  go_step
  refine Ao 8 ?_
  refine AR (f:=20) rfl Tryz.call20 (HSC.out _ hS.1) ?_;rintro e w ⟨ao,co,mb,hmb,rfl,hS2⟩;replace hS:=hS.call1 hS2;clear hS2;have HMB:=AD hmb;clear hmb;refine ⟨_,rfl,?_⟩
  refine ⟨fun h=>absurd (by decide) h,?_⟩
  refine AI ?_
  go_step
  refine AY 9 ?_
  refine Y1 10 ?_
  refine Y1 11 ?_
  refine AY 12 ?_
  refine AY 13 ?_
  refine AE AA ?_ _
 all_goals
  repeat' (first|(refine AG ?_;go_step)|fail)
  repeat' (first
   | refine X0 ?_|refine X5 ?_|(refine AQ 27 ?_);(refine Aq AA (V.build (vs:=[]) rfl (fE)) ?_;go_step)|refine T2 ?_;clear hS;intro w hS|refine AG ?_;go_step|fail)
  all_goals (try exact AS)
  refine AO (xs:=[_,_]) rfl (.cons (AC.blk hS rfl (AN (n:=3) rfl) AM rfl) (.cons (AC.tmp rfl) (.nil))) (by simp) rfl ?_
  exact ⟨fun _=>⟨by rw [HDE.out];rfl,hS.1⟩,fun h=>by rw [HDE.out] at h;exact absurd h h0⟩
end Go.Proofs.YtohacgmhmbijmaaGreatDoor
