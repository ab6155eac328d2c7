/- What the laws RescueWhole TopTold FrameBack need, part 2. -/
import Derived.Test.YtohacgmhmbijmaaGreatDoorBaseSZ1
namespace Go.Proofs.YtohacgmhmbijmaaGreatDoor
open Go.RowKit
set_option linter.unusedVariables false
set_option maxRecDepth 100000
set_option maxHeartbeats 8000000
def DS(P:Program)(op:Op)(ty:TypeId)(a:Act)(v:Value):Prop:=
 ∀(d:Option Tmp)(pos:String)(af:Array Edge)(g:Option (Nat×Bool))(w:World),(execOp a.eval ⟨d,op,ty,pos,af,g⟩).run P w= .ok (.value v) w
section
variable{P:Program}{ops:Array Oper}{Q:Exit→Act→World→Prop}{rest:List Oper}{a:Act}{w:World}{d:Option Tmp}{op:Op}{ty:TypeId}{pos:String}{af:Array Edge}{g:Option (Nat×Bool)}
theorem JA(v:Value)(K:Act→World→Prop)(h:K (a.put d v) w):(Oper.mk d (.move (.const v)) ty pos af g).wp P a w K Q:=h
theorem Ag(v:Value)(hv:DS P op ty a v)(hw:Region.wanted ⟨d,op,ty,pos,af,g⟩ (yielded ops a.tmps)=true)(h:(Oper.mk d (.move (.const v)) ty pos af g).wp P a w (wpList P ops Q rest) Q):wpList P ops Q (⟨d,op,ty,pos,af,g⟩::rest) a w:=by
 refine Bl hw ?_
 unfold Oper.wp
 rw [hv d pos af g w]
 exact h
theorem eP(b:Bool)(hv:DS P op ty a (.bool b))(hw:Region.wanted ⟨d,op,ty,pos,af,g⟩ (yielded ops a.tmps)=true)(ht:b=true→(Oper.mk d (.move (.const (.bool true))) ty pos af g).wp P a w (wpList P ops Q rest) Q)
 (hf:b=false→(Oper.mk d (.move (.const (.bool false))) ty pos af g).wp P a w (wpList P ops Q rest) Q):wpList P ops Q (⟨d,op,ty,pos,af,g⟩::rest) a w:=by
 cases b
 ·exact Ag _ hv hw (hf rfl)
 exact Ag _ hv hw (ht rfl)
theorem CY(p:Prop)[Decidable p](hv:DS P op ty a (.bool (decide p)))(hw:Region.wanted ⟨d,op,ty,pos,af,g⟩ (yielded ops a.tmps)=true)(ht:p→(Oper.mk d (.move (.const (.bool true))) ty pos af g).wp P a w (wpList P ops Q rest) Q)
 (hf:¬p→(Oper.mk d (.move (.const (.bool false))) ty pos af g).wp P a w (wpList P ops Q rest) Q):wpList P ops Q (⟨d,op,ty,pos,af,g⟩::rest) a w:=
 eP _ hv hw (fun h=>ht (of_decide_eq_true h)) (fun h=>hf (of_decide_eq_false h))
theorem AC{d:Tmp}{v:Value}(h:(Oper.mk (some d) (.move (.const v)) 0 "" #[] none).wp P a w (wpList P ops Q rest) Q):wpList P ops Q rest (a.put (some d) v) w:=h
theorem AL{md:Region.Mode}{D:List Nat}{S:World→Prop}{fuel:Nat}{listed:Array Bool}{d:Tmp}{v:Value}(h:(Oper.mk (some d) (.move (.const v)) 0 "" #[] none).wp P a w (Aa P md ops Q D S fuel listed) Q):Aa P md ops Q D S fuel listed (a.put (some d) v) w:=h
theorem BD{c x y:Operand}(hc:a.eval c= .bool true)(hw:Region.wanted ⟨d, .pick c x y,ty,pos,af,g⟩ (yielded ops a.tmps)=true)(h:(Oper.mk d (.move x) ty pos af g).wp P a w (wpList P ops Q rest) Q):wpList P ops Q (⟨d, .pick c x y,ty,pos,af,g⟩::rest) a w:=by
 refine Bl hw ?_
 unfold Oper.wp execOp at*
 simp only [hc,asBool,Sem.run_bind,Sem.run_pure,Result.andThen_ok,if_true] at*
 exact h
theorem A6{c x y:Operand}(hc:a.eval c= .bool false)(hw:Region.wanted ⟨d, .pick c x y,ty,pos,af,g⟩ (yielded ops a.tmps)=true)(h:(Oper.mk d (.move y) ty pos af g).wp P a w (wpList P ops Q rest) Q):wpList P ops Q (⟨d, .pick c x y,ty,pos,af,g⟩::rest) a w:=by
 refine Bl hw ?_
 unfold Oper.wp execOp at*
 simp only [hc,asBool,Sem.run_bind,Sem.run_pure,Result.andThen_ok,Bool.false_eq_true,if_false] at*
 exact h
end
def Bh(z:Int)(j:Nat):Prop:=z=(j:Int)
theorem Bh.cast{j:Nat}:Bh (j:Int) j:=rfl
theorem Bh.l0:Bh 0 0:=rfl
theorem Bh.add{x y:Int}{i j:Nat}(h:Bh x i)(k:Bh y j):Bh (x+y) (i+j):=by unfold Bh at*;omega
theorem Bh.mul{x y:Int}{i j:Nat}(h:Bh x i)(k:Bh y j):Bh (x*y) (i*j):=by unfold Bh at*;rw [h,k];push_cast;rfl
theorem Bh.div{x y:Int}{i j:Nat}(h:Bh x i)(k:Bh y j):Bh (x/y) (i/j):=by unfold Bh at*;rw [h,k];push_cast;rfl
theorem Bh.mod{x y:Int}{i j:Nat}(h:Bh x i)(k:Bh y j):Bh (x%y) (i%j):=by unfold Bh at*;rw [h,k];push_cast;rfl
theorem Bh.min{x y:Int}{i j:Nat}(h:Bh x i)(k:Bh y j):Bh (Min.min x y) (Min.min i j):=by unfold Bh at*;omega
theorem Bh.max{x y:Int}{i j:Nat}(h:Bh x i)(k:Bh y j):Bh (Max.max x y) (Max.max i j):=by unfold Bh at*;omega
class CQ(z:Int)(j:outParam Nat):Prop where
 out:Bh z j
instance CQ.cast{j:Nat}:CQ (j:Int) j:=⟨rfl⟩
instance CQ.l0:CQ 0 0:=⟨rfl⟩
instance CQ.l1:CQ 1 1:=⟨rfl⟩
instance CQ.l2:CQ 2 2:=⟨rfl⟩
instance CQ.l3:CQ 3 3:=⟨rfl⟩
instance CQ.l4:CQ 4 4:=⟨rfl⟩
instance CQ.l5:CQ 5 5:=⟨rfl⟩
instance CQ.l6:CQ 6 6:=⟨rfl⟩
instance CQ.l7:CQ 7 7:=⟨rfl⟩
instance CQ.l8:CQ 8 8:=⟨rfl⟩
instance CQ.l256:CQ 256 256:=⟨rfl⟩
instance CQ.add{x y:Int}{i j:Nat}[h:CQ x i][k:CQ y j]:CQ (x+y) (i+j):=⟨h.out.add k.out⟩
instance CQ.mul{x y:Int}{i j:Nat}[h:CQ x i][k:CQ y j]:CQ (x*y) (i*j):=⟨h.out.mul k.out⟩
instance CQ.div{x y:Int}{i j:Nat}[h:CQ x i][k:CQ y j]:CQ (x/y) (i/j):=⟨h.out.div k.out⟩
instance CQ.mod{x y:Int}{i j:Nat}[h:CQ x i][k:CQ y j]:CQ (x%y) (i%j):=⟨h.out.mod k.out⟩
theorem Bh.auto{z:Int}{j:Nat}[h:CQ z j]:Bh z j:=h.out
theorem Bh.sub{x y:Int}{i j:Nat}(h:Bh x i)(k:Bh y j)(l:j≤i):Bh (x-y) (i-j):=by unfold Bh at*;omega
theorem Bh.toNat{x:Int}(h:0≤x):Bh x x.toNat:=by unfold Bh;omega
section
variable{P:Program}{a:Act}{x y z:Operand}{t u ty:TypeId}{m n:Int}{k:IntKind}
theorem V.as{op:Op}{m':Int}(h:DS P op ty a (.int k m))(e:m=m'):DS P op ty a (.int k m'):=e▸ h
theorem V.add(hx:a.eval x= .int k m)(hy:a.eval y= .int k n):DS P (.binOp .add t x y u) ty a (.int k (k.wrap (m+n))):=fun d pos af g w=>by
 simp only [execOp,hx,hy,binOp_add,Op.intArith,eqGuard];rfl
theorem V.sub(hx:a.eval x= .int k m)(hy:a.eval y= .int k n):DS P (.binOp .sub t x y u) ty a (.int k (k.wrap (m-n))):=fun d pos af g w=>by
 simp only [execOp,hx,hy,binOp_sub,Op.intArith,eqGuard];rfl
theorem V.mul(hx:a.eval x= .int k m)(hy:a.eval y= .int k n):DS P (.binOp .mul t x y u) ty a (.int k (k.wrap (m*n))):=fun d pos af g w=>by
 simp only [execOp,hx,hy,binOp_mul,Op.intArith,eqGuard];rfl
theorem V.addI(hx:a.eval x= .int .i64 m)(hy:a.eval y= .int .i64 n)(h: -9223372036854775808≤m+n∧m+n≤9223372036854775807):DS P (.binOp .add t x y u) ty a (.int .i64 (m+n)):=by
 have:=V.add (P:=P) (t:=t) (u:=u) (ty:=ty) hx hy;rwa [IntWalk.i64_in _ h] at this
theorem V.subR(hk:k≠ .i64)(hx:a.eval x= .int k m)(hy:a.eval y= .int k n):DS P (.binOp .sub t x y u) ty a (.int k (k.wrap (m-n))):=V.sub hx hy
theorem V.subI(hx:a.eval x= .int .i64 m)(hy:a.eval y= .int .i64 n)(h: -9223372036854775808≤m-n∧m-n≤9223372036854775807):DS P (.binOp .sub t x y u) ty a (.int .i64 (m-n)):=by
 have:=V.sub (P:=P) (t:=t) (u:=u) (ty:=ty) hx hy;rwa [IntWalk.i64_in _ h] at this
theorem V.mulI(hx:a.eval x= .int .i64 m)(hy:a.eval y= .int .i64 n)(h: -9223372036854775808≤m*n∧m*n≤9223372036854775807):DS P (.binOp .mul t x y u) ty a (.int .i64 (m*n)):=by
 have:=V.mul (P:=P) (t:=t) (u:=u) (ty:=ty) hx hy;rwa [IntWalk.i64_in _ h] at this
theorem V.neg(hx:a.eval x= .int .i64 n)(h: -9223372036854775807≤n∧n≤9223372036854775807):DS P (.unOp .neg t x) ty a (.int .i64 (-n)):=fun d pos af g w=>by
 have e:Op.unary .neg (.int .i64 n)=pure (.int .i64 (IntKind.i64.wrap (0-n))):=rfl
 simp only [execOp,hx,e,Int.zero_sub,IntWalk.i64_in (-n) (by omega)];rfl
theorem V.quo(hx:a.eval x= .int .i64 m)(hy:a.eval y= .int .i64 n)(h:0≤m∧m≤9223372036854775807)(h2:0<n):DS P (.binOp .quo t x y u) ty a (.int .i64 (m/n)):=fun d pos af g w=>by
 have e1:m.tdiv n=m/n:=Int.tdiv_eq_ediv_of_nonneg h.1
 have e2:0≤m/n:=Int.ediv_nonneg h.1 (by omega)
 have e3:m/n≤m:=Int.ediv_le_self n h.1
 have hn:n≠0:=by omega
 simp only [execOp,hx,hy,binOp_quo,Op.intDiv,eqGuard,if_neg hn,e1,IntWalk.i64_in (m/n) (by omega)];rfl
theorem V.rem(hx:a.eval x= .int k m)(hy:a.eval y= .int k n)(h:0≤m)(h2:0<n):DS P (.binOp .rem t x y u) ty a (.int k (m%n)):=fun d pos af g w=>by
 have hn:n≠0:=by omega
 simp only [execOp,hx,hy,binOp_rem,Op.intDiv,eqGuard,if_neg hn,Int.tmod_eq_emod_of_nonneg h];rfl
theorem V.shl{yk:IntKind}{j:Nat}(hx:a.eval x= .int k m)(hy:a.eval y= .int yk n)(hj:Bh n j)(h:j<64)(hk:k.bits=64):DS P (.binOp .shl t x y u) ty a (.int k (k.wrap (m*2^j))):=fun d pos af g w=>by
 unfold Bh at hj
 have h0:¬n<0:=by omega
 have hm:Min.min n.toNat k.bits=j:=by omega
 simp only [execOp,hx,hy,binOp_shl,Op.shift,eqGuard,if_neg h0,hm];rfl
theorem V.shlI{yk:IntKind}{j:Nat}(hx:a.eval x= .int .i64 m)(hy:a.eval y= .int yk n)(hj:Bh n j)(h:j<64)(h1: -9223372036854775808≤m*2^j∧m*2^j≤9223372036854775807):DS P (.binOp .shl t x y u) ty a (.int .i64 (m*2^j)):=by
 have:=V.shl (P:=P) (t:=t) (u:=u) (ty:=ty) hx hy hj h rfl;rwa [IntWalk.i64_in _ h1] at this
theorem V.shl1{yk:IntKind}{j:Nat}(hx:a.eval x= .int .i64 1)(hy:a.eval y= .int yk n)(hj:Bh n j)(h:j<63):DS P (.binOp .shl t x y u) ty a (.int .i64 (2^j)):=by
 have e:(2:Int)^j≤4611686018427387904:=by
  have:=Nat.pow_le_pow_right (n:=2) (by omega) (show j≤62 by omega)
  have h2:(2:Int)^j=((2^j:Nat):Int):=by push_cast;rfl
  omega
 have e0:(0:Int)≤2^j:=Int.pow_nonneg (by omega)
 have:=V.shl (P:=P) (t:=t) (u:=u) (ty:=ty) hx hy hj (by omega) rfl
 rwa [Int.one_mul,IntWalk.i64_in _ (by omega)] at this
theorem V.shr{yk:IntKind}{j:Nat}(hx:a.eval x= .int k m)(hy:a.eval y= .int yk n)(hj:Bh n j)(h:j<64)(hk:k.bits=64):DS P (.binOp .shr t x y u) ty a (.int k (m/2^j)):=fun d pos af g w=>by
 unfold Bh at hj
 have e:m.fdiv (2^j)=m/2^j:=Int.fdiv_eq_ediv_of_nonneg _ (Int.pow_nonneg (by omega))
 have h0:¬n<0:=by omega
 have hm:Min.min n.toNat k.bits=j:=by omega
 simp only [execOp,hx,hy,binOp_shr,Op.shift,eqGuard,if_neg h0,hm,e];rfl
theorem V.and(hx:a.eval x= .int k m)(hy:a.eval y= .int k n):DS P (.binOp .and t x y u) ty a (.int k (bits .and k m n)):=fun d pos af g w=>by
 simp only [execOp,hx,hy,binOp_and,intBits_and,eqGuard];rfl
theorem V.or(hx:a.eval x= .int k m)(hy:a.eval y= .int k n):DS P (.binOp .or t x y u) ty a (.int k (bits .or k m n)):=fun d pos af g w=>by
 simp only [execOp,hx,hy,binOp_or,intBits_or,eqGuard];rfl
theorem V.eql(hx:a.eval x= .int k m)(hy:a.eval y= .int k n):DS P (.binOp .eql t x y u) ty a (.bool (decide (m=n))):=fun d pos af g w=>by
 simp only [execOp,hx,hy,binOp_eql,eqGuard_at_int];rfl
theorem V.neq(hx:a.eval x= .int k m)(hy:a.eval y= .int k n):DS P (.binOp .neq t x y u) ty a (.bool (decide (m≠n))):=fun d pos af g w=>by
 simp only [execOp,hx,hy,binOp_neq,eqGuard_at_int,ne_eq,decide_not];rfl
theorem V.lss(hx:a.eval x= .int k m)(hy:a.eval y= .int k n):DS P (.binOp .lss t x y u) ty a (.bool (decide (m<n))):=fun d pos af g w=>by
 simp only [execOp,hx,hy,binOp_lss,eqGuard];rfl
theorem V.leq(hx:a.eval x= .int k m)(hy:a.eval y= .int k n):DS P (.binOp .leq t x y u) ty a (.bool (decide (m≤n))):=fun d pos af g w=>by
 simp only [execOp,hx,hy,binOp_leq,eqGuard];rfl
theorem V.gtr(hx:a.eval x= .int k m)(hy:a.eval y= .int k n):DS P (.binOp .gtr t x y u) ty a (.bool (decide (n<m))):=fun d pos af g w=>by
 simp only [execOp,hx,hy,binOp_gtr,eqGuard];rfl
theorem V.geq(hx:a.eval x= .int k m)(hy:a.eval y= .int k n):DS P (.binOp .geq t x y u) ty a (.bool (decide (n≤m))):=fun d pos af g w=>by
 simp only [execOp,hx,hy,binOp_geq,eqGuard];rfl
theorem V.not{b:Bool}(hx:a.eval x= .bool b):DS P (.unOp .not t x) ty a (.bool (!b)):=fun d pos af g w=>by
 simp only [execOp,hx,Op.unary];rfl
theorem V.notD{p:Prop}[Decidable p](hx:a.eval x= .bool (decide p)):DS P (.unOp .not t x) ty a (.bool (decide (¬p))):=by
 rw [decide_not];exact V.not hx
theorem V.convI{k':IntKind}(hs:(P.underlying t).isSome=true)(hd:P.underlying u=some (.int k'))(hx:a.eval x= .int k m)(h:k'.wrap m=m):DS P (.convert t u x) ty a (.int k' m):=fun d pos af g w=>by
 have e:P.intKind u=k':=by simp [Program.intKind,hd]
 have e2:=run_convert_int (P:=P) w t u k m hs (by rw [e];exact hd)
 rw [e,h] at e2
 simp only [execOp,hx,Sem.run_bind,e2,Result.andThen_ok,Sem.run_pure]
theorem V.conv{k':IntKind}(hs:(P.underlying t).isSome=true)(hd:P.underlying u=some (.int k'))(hx:a.eval x= .int k m):DS P (.convert t u x) ty a (.int k' (k'.wrap m)):=fun d pos af g w=>by
 have e:P.intKind u=k':=by simp [Program.intKind,hd]
 have e2:=run_convert_int (P:=P) w t u k m hs (by rw [e];exact hd)
 rw [e] at e2
 simp only [execOp,hx,Sem.run_bind,e2,Result.andThen_ok,Sem.run_pure]
theorem V.extract{vs:List Value}{i:Nat}{v:Value}(hx:a.eval x= .tuple vs.toArray)(hv:vs[i]? =some v):DS P (.extract x i) ty a v:=fun d pos af g w=>by
 have e:(vs.toArray)[i]? =some v:=by simpa using hv
 simp only [execOp,hx,Instr.extract,e];rfl
theorem V.nilCheck{p:Addr}(hx:a.eval x= .pointer (some p)):DS P (.nilCheck x) ty a (.pointer (some p)):=fun d pos af g w=>by
 simp only [execOp,hx];rfl
theorem V.len{ad:Option Addr}{n c:Nat}{e:TypeId}(ht:P.underlying t=some (.slice e))(hx:a.eval x= .slice ad n c):DS P (.call {callee:= .builtin .len,args:=#[x],argTypes:=#[t]}) ty a (.int .i64 n):=fun d pos af g w=>by
 have e:P.elem t=e:=by simp [Program.elem,ht]
 have e2:=run_len_slice (P:=P) w t ty ad n c (by rw [e];exact ht)
 simp only [execOp,resolve,invoke,builtin,Sem.run_bind,Sem.run_pure,Result.andThen_ok,List.map_toArray,List.map_cons,List.map_nil,hx,e2]
 rfl
theorem V.max{ts:Array TypeId}(hx:a.eval x= .int k m)(hy:a.eval y= .int k n):DS P (.call {callee:= .builtin .max,args:=#[x,y],argTypes:=ts}) ty a (.int k (Max.max m n)):=fun d pos af g w=>by
 simp only [execOp,resolve,invoke,builtin,Sem.run_bind,Sem.run_pure,Result.andThen_ok,List.map_toArray,List.map_cons,List.map_nil,hx,hy,Mo]
theorem V.min{ts:Array TypeId}(hx:a.eval x= .int k m)(hy:a.eval y= .int k n):DS P (.call {callee:= .builtin .min,args:=#[x,y],argTypes:=ts}) ty a (.int k (Min.min m n)):=fun d pos af g w=>by
 simp only [execOp,resolve,invoke,builtin,Sem.run_bind,Sem.run_pure,Result.andThen_ok,List.map_toArray,List.map_cons,List.map_nil,hx,hy,Mp]
theorem V.indexSl{b off n c j s js q:Nat}{e:TypeId}{i:Int}(ht:P.underlying t=some (.slice e))(hs:(P.info? e).map (·.size)=some s)(hx:a.eval x= .slice (some ⟨b,off,none⟩) n c)(hy:a.eval y= .int k i)(hj:Bh i j)(hn:j<n)(hjs:j*s=js)(hq:off+js=q):
 DS P (.indexAddr t x y) ty a (.pointer (some ⟨b,q,none⟩)):=fun d pos af g w=>by
 unfold Bh at hj
 subst hjs
 have e0:P.elem t=e:=by simp [Program.elem,ht]
 have e2:=run_indexAt_slice (P:=P) w t ⟨b,off,none⟩ n c k i (by rw [e0];exact ht)
 rw [if_pos (by omega),e0,Bb w hs,Result.andThen_ok,Addr.add_mid,show i.toNat=j by omega,hq] at e2
 simp only [execOp,hx,hy,Sem.run_bind,e2,Result.andThen_ok,Sem.run_pure]
theorem V.indexAr{b off n j s js q:Nat}{e:TypeId}{i:Int}(ht:P.underlying t=some (.array n e))(hs:(P.info? e).map (·.size)=some s)(hx:a.eval x= .pointer (some ⟨b,off,none⟩))(hy:a.eval y= .int k i)(hj:Bh i j)(hn:j<n)(hjs:j*s=js)(hq:off+js=q):
 DS P (.indexAddr t x y) ty a (.pointer (some ⟨b,q,none⟩)):=fun d pos af g w=>by
 unfold Bh at hj
 subst hjs
 have e0:P.elem t=e:=by simp [Program.elem,ht]
 have e1:P.arrayLen t=n:=by simp [Program.arrayLen,ht]
 have e2:=run_indexAt_array (P:=P) w t ⟨b,off,none⟩ k i (by rw [e0,e1];exact ht)
 rw [e1,if_pos (by omega),e0,Bb w hs,Result.andThen_ok,Addr.add_mid,show i.toNat=j by omega,hq] at e2
 simp only [execOp,hx,hy,Sem.run_bind,e2,Result.andThen_ok,Sem.run_pure]
theorem V.indexIv{l:List Int}{n j:Nat}{e:TypeId}{i:Int}(ht:P.underlying t=some (.array n e))(he:P.underlying e=some (.int .i64))(hs:(P.info? e).map (·.size)=some 1)(hx:a.eval x= .agg (iv l))(hy:a.eval y= .int k i)(hl:Ac l n)(hj:Bh i j)(hn:j<n):
 DS P (.index t x y) ty a (.int .i64 (AJ l j)):=fun d pos af g w=>by
 unfold Bh at hj
 have e0:P.elem t=e:=by simp [Program.elem,ht]
 have e1:P.arrayLen t=n:=by simp [Program.arrayLen,ht]
 have e3:(isAgg e).run P w= .ok false w:=by simp [isAgg,run_underlying he]
 have e2:=Mn (P:=P) w t (iv l) k i (by rw [e0,e1];exact ht)
 rw [e1,if_pos (by omega),e0,Bb w hs,Result.andThen_ok,show i.toNat=j by omega,Nat.mul_one,FP,e3,Result.andThen_ok,GH l j (by rw [hl.out];exact hn)] at e2
 simp only [execOp,hx,hy,Sem.run_bind,e2,Result.andThen_ok,Sem.run_pure,Bool.false_eq_true,if_false]
end
section
variable{P:Program}{ops:Array Oper}{Q:Exit→Act→World→Prop}{rest:List Oper}{a:Act}{W w:World}{rs:List Aq}{d:Option Tmp}{x y:Operand}{t ty:TypeId}{pos:String}{af:Array Edge}{g:Option (Nat×Bool)}{k:IntKind}
theorem IK{ad:Option Addr}{n c j s:Nat}{cs:List Value}{e:TypeId}{i:Int}(hv:Sl W s (.slice ad n c) n cs)(ht:P.underlying t=some (.slice e))(hs:(P.info? e).map (·.size)=some s)(hx:a.eval x= .slice ad n c)(hy:a.eval y= .int k i)(hj:Bh i j)(hn:j<n)
 (hw:Region.wanted ⟨d, .indexAddr t x y,ty,pos,af,g⟩ (yielded ops a.tmps)=true)
 (h:∀b o,W.rangeAt b o ((cs.drop (j*s)).take s)→(Oper.mk d (.move (.const (.pointer (some ⟨b,o,none⟩)))) ty pos af g).wp P a w (wpList P ops Q rest) Q):wpList P ops Q (⟨d, .indexAddr t x y,ty,pos,af,g⟩::rest) a w:=by
 obtain ⟨hl,a',c',e1,_,_,hor⟩:=hv
 cases e1
 rcases hor with h0|⟨b,off,rfl,hc⟩
 ·omega
 refine Ag _ (V.indexSl (q:=off+j*s) ht hs hx hy hj hn rfl rfl) hw (h b _ fun m v hv=>?_)
 rw [List.getElem?_take] at hv
 split at hv
 ·rename_i hm
  rw [List.getElem?_drop] at hv
  have hjs:j*s+s≤n*s:=by have:=Nat.mul_le_mul_right s hn;rw [Nat.succ_mul] at this;exact this
  rw [Nat.add_assoc,hc (j*s+m) (by omega),hv]
 cases hv
theorem Ft{ad:Option Addr}{n c j:Nat}{l:List Int}{e:TypeId}{i:Int}(hv:Sl W 1 (.slice ad n c) n (l.map (Value.int .i64)))(ht:P.underlying t=some (.slice e))(hs:(P.info? e).map (·.size)=some 1)(hx:a.eval x= .slice ad n c)(hy:a.eval y= .int k i)(hj:Bh i j)(hn:j<n)
 (hw:Region.wanted ⟨d, .indexAddr t x y,ty,pos,af,g⟩ (yielded ops a.tmps)=true)
 (h:∀b o,W.cell? ⟨b,o,none⟩=some (.int .i64 (AJ l j))→(Oper.mk d (.move (.const (.pointer (some ⟨b,o,none⟩)))) ty pos af g).wp P a w (wpList P ops Q rest) Q):wpList P ops Q (⟨d, .indexAddr t x y,ty,pos,af,g⟩::rest) a w:=
 IK hv ht hs hx hy hj hn hw fun b o hr=>h b o (by
  have hl:l.length=n:=by have:=hv.1;simpa using this
  have:=hr 0 (.int .i64 (AJ l j)) (by simp [AJ,List.getD,List.getElem?_drop,hl,hn])
  simpa using this)
end
structure AS(P:Program)(s:TypeId)(f:Nat)(fo:Nat)(ft:TypeId):Prop where
 ex:∃fs fl,P.underlying s=some (.struct fs)∧fs[f]? =some fl∧fl.offset=fo∧fl.type=ft
 sz:∃n,(P.info? ft).map (·.size)=some n∧n≠0
section
variable{P:Program}{a:Act}{x:Operand}{t ft ty:TypeId}{f fo:Nat}
theorem AS.mk'(fs:Array Field)(fl:Field)(n:Nat)(h1:P.underlying t=some (.struct fs))(h2:fs[f]? =some fl)(h3:fl.offset=fo)(h4:fl.type=ft)(h5:(P.info? ft).map (·.size)=some n)(h6:n≠0):AS P t f fo ft:=
 ⟨⟨fs,fl,h1,h2,h3,h4⟩,⟨n,h5,h6⟩⟩
theorem V.fieldAddr{b off q:Nat}(hf:AS P t f fo ft)(hx:a.eval x= .pointer (some ⟨b,off,none⟩))(hq:off+fo=q):DS P (.fieldAddr t x f) ty a (.pointer (some ⟨b,q,none⟩)):=fun d pos af g w=>by
 obtain ⟨⟨fs,fl,h1,h2,rfl,rfl⟩,n,h3,h4⟩:=hf
 simp only [execOp,hx,Instr.fieldAt,Instr.sureAddr,Sem.run_bind,run_underlying h1,Result.andThen_ok,h2,fieldPlace,Bb w h3,Sem.run_pure]
 rw [if_neg h4]
 simp only [Sem.run_pure,Result.andThen_ok,Addr.add_mid,hq]
end
end Go.Proofs.YtohacgmhmbijmaaGreatDoor
/- Short E6 for what the walks say often. -/
namespace Go.Proofs.YtohacgmhmbijmaaGreatDoor
open Go.RowKit
set_option linter.unusedVariables false
set_option maxRecDepth 100000
set_option maxHeartbeats 8000000
theorem AK{r:Aq}{rs rs':List Aq}(h:AU r rs rs':=by (repeat (first|with_reducible exact AU.head|apply AU.tail))):AU r rs rs':=h
theorem AV{xs rs:List Aq}(h:PB xs rs:=by (repeat (first|exact PB.nil|with_reducible exact PB.refl|(apply PB.cons;(case p=>(repeat (first|with_reducible exact AU.head|apply AU.tail))))|apply PB.skip))):PB xs rs:=h
theorem BJ{z:Int}{j:Nat}(h:Bh z j:=by (repeat (first|exact Bh.auto|with_reducible apply Bh.add|with_reducible apply Bh.sub|with_reducible apply Bh.mul|with_reducible apply Bh.div|with_reducible apply Bh.mod|with_reducible apply Bh.min|with_reducible apply Bh.max|(with_reducible show (_:Nat)≤_;omega)|exact Bh.toNat (by omega)))):Bh z j:=h
theorem CC{x v:Value}(h:DU x v:=by (first|exact DU.int rfl|exact DU.bool rfl|exact DU.slice rfl|exact DU.pointer rfl|exact DU.string rfl|exact DU.map rfl|exact DU.func rfl)):DU x v:=h
theorem Ar{o:Oper}{i:Nat}{l:List Oper}(h:Hi o i l:=by (repeat (first|with_reducible exact Hi.head|apply Hi.tail))):Hi o i l:=h
theorem iV{p:Prop}(h:p:=by exact fun _ _ _ _ h=>h):p:=h
theorem Cp{p:Prop}(h:p:=by first|exact fun _ _ _ _ h=>h|exact fun _ _ _ _ h=>nomatch h.1):p:=h
theorem AQ{p:Prop}(h:False:=by omega):p:=h.elim
theorem Kk{p q:Prop}(h:p)(hn:¬p:=by decide):q:=absurd h hn
theorem AA{α:Type _}{a b:α}(h:a=b:=by kernel_rfl):a=b:=h
theorem BK{a b:Nat}(h:a=b:=by first|with_reducible exact Nat.zero_add _|with_reducible exact Nat.add_zero _|exact rfl):a=b:=h
theorem V3{v:Value}{k:Nat}{cs cs':List Value}(h:ET v k cs cs':=by (repeat (first|with_reducible exact ET.head|apply ET.tail))):ET v k cs cs':=h
theorem DW{l:List Int}{n:Nat}(h:Ac l n:=by first|(with_reducible assumption)|exact Ac.rep|exact Ac.set (by with_reducible assumption)|exact Ac.set Ac.rep|exact Ac.set (Ac.set Ac.rep)):Ac l n:=h
structure Au(p:Prop):Prop where
 out:p
structure fE(c e p q:Prop):Prop where
 t:c→p
 f:e→q
structure Hl(T q:Nat→World→Prop):Prop where
 out:∀g w,T g w→q g w
structure Jr(T q:World→Prop):Prop where
 out:∀w,T w→q w
structure gL(T q:Option Addr→Nat→World→Prop):Prop where
 out:∀a c w,T a c w→q a c w
structure iD(p:Prop):Prop where
structure iF(n:Nat)(p:Prop):Prop where
structure iE(n:Nat)(p:Prop):Prop where
def By(_:Nat)(p:Prop):Prop:=p
section
variable{P:Program}{ops:Array Oper}{Q:Exit→Act→World→Prop}{rest:List Oper}{a:Act}{w:World}{d:Option Tmp}{op:Op}{ty:TypeId}{pos:String}{af:Array Edge}{g:Option (Nat×Bool)}{x:Operand}
theorem Ak(d:Option Tmp)(op:Op)(h:wpList P ops Q (⟨d,op,ty,pos,af,g⟩::rest) a w):wpList P ops Q (⟨d,op,ty,pos,af,g⟩::rest) a w:=h
theorem J4(h:wpList P ops Q (⟨d, .move x,ty,pos,af,g⟩::rest) a w):wpList P ops Q (⟨d, .move x,ty,pos,af,g⟩::rest) a w:=h
theorem iY(h:(Oper.mk d op ty pos af none).wp P a w (wpList P ops Q rest) Q):wpList P ops Q (⟨d,op,ty,pos,af,none⟩::rest) a w:=Bl rfl h
theorem RI(h:wpList P ops Q (⟨d, .assign x,ty,pos,af,g⟩::rest) a w):wpList P ops Q (⟨d, .assign x,ty,pos,af,g⟩::rest) a w:=h
theorem Ad{o:Oper}(h:o.wp P a w (wpList P ops Q rest) Q)(hw:Region.wanted o (yielded ops a.tmps)=true:=by kernel_rfl):wpList P ops Q (o::rest) a w:=Bl hw h
theorem iU(n:Nat)(h:wpList P ops Q (⟨some n,op,ty,pos,af,g⟩::rest) a w):wpList P ops Q (⟨some n,op,ty,pos,af,g⟩::rest) a w:=h
theorem Bz{n:Nat}(h:wpList P ops Q (⟨some n,op,ty,pos,af,g⟩::rest) a w):By n (wpList P ops Q (⟨some n,op,ty,pos,af,g⟩::rest) a w):=h
theorem iS{o:Oper}:iD (wpList P ops Q (o::rest) a w):=⟨⟩
theorem iR{n:Nat}:iF n (wpList P ops Q (⟨some n,op,ty,pos,af,g⟩::rest) a w):=⟨⟩
theorem iQ{n:Nat}{xs:Array Operand}{ts:Array TypeId}:iE n (wpList P ops Q (⟨d, .call ⟨.value (.func n),xs,ts⟩,ty,pos,af,g⟩::rest) a w):=⟨⟩
theorem Ap{v:Value}(hw:Region.wanted ⟨d,op,ty,pos,af,g⟩ (yielded ops a.tmps)=true)(hv:DS P op ty a v)(h:(Oper.mk d (.move (.const v)) ty pos af g).wp P a w (wpList P ops Q rest) Q):wpList P ops Q (⟨d,op,ty,pos,af,g⟩::rest) a w:=Ag v hv hw h
theorem AX{v:Value}{d:Tmp}(h:(Oper.mk (some d) (.move (.const v)) 0 "" #[] none).wp P a w (wpList P ops Q rest) Q):∃v',Ending.returned v= .returned v'∧wpList P ops Q rest (a.put (some d) v') w:=⟨v,rfl,h⟩
theorem EW{W:World}{rs:List Aq}{v:Value}{d:Tmp}(hS:St W w rs)(h:∀w,St W w rs→(Oper.mk (some d) (.move (.const v)) 0 "" #[] none).wp P a w (wpList P ops Q rest) Q):∀e w',(e=Ending.returned v∧Af w w')→∃v',e= .returned v'∧wpList P ops Q rest (a.put (some d) v') w':=fun _ w' h2=>⟨v,h2.1,h w' (hS.ext h2.2)⟩
theorem Am{f:FuncId}{xs:List Operand}{ts:Array TypeId}{R:Ending→World→Prop}(hw:Region.wanted ⟨d, .call ⟨.value (.func f),xs.toArray,ts⟩,ty,pos,af,g⟩ (yielded ops a.tmps)=true)(hcall:∀(args:Array Value)(w:World),(callFunc f args).run P w= .ok (.enter f args) w)(hc:Calls P f (xs.map a.eval).toArray w R)
 (h:∀e w',R e w'→∃v,e= .returned v∧wpList P ops Q rest (a.put d v) w'):wpList P ops Q (⟨d, .call ⟨.value (.func f),xs.toArray,ts⟩,ty,pos,af,g⟩::rest) a w:=AG hcall hw ⟨R,hc,h⟩
end
theorem AH{p:Prop}(k:p)(_:iD p:=by (fail_if_success with_reducible exact iS);exact ⟨⟩):p:=k
theorem AP(n:Nat){p:Prop}(k:p)(_:iF n p:=by with_reducible exact iR):p:=k
theorem Al(n:Nat){p:Prop}(k:p)(_:iE n p:=by with_reducible exact iQ):p:=k
section
variable{p q:Prop}
theorem X0(k:q)(h:Au q→p:=by intro zq9;(first|(with_reducible refine J4 ?_)|(with_reducible refine RI ?_));((first|go_big_want|go_step));go_step;go_step;with_reducible exact zq9.out):p:=h ⟨k⟩
theorem X1(k:q)(h:Au q→p:=by intro zq9;(with_reducible refine J4 ?_);((first|go_big_want|go_step));go_step;go_step;with_reducible exact zq9.out):p:=h ⟨k⟩
theorem X2(k:q)(h:Au q→p:=by intro zq9;(with_reducible refine Ak _ (.binOp .lss _ _ _ _) ?_);(refine Ap AA (V.lss rfl rfl) ?_);go_step;with_reducible exact zq9.out):p:=h ⟨k⟩
theorem X3(k:q)(h:Au q→p:=by intro zq9;(with_reducible refine Ak _ (.binOp .neq 38 _ _ _) ?_);(refine Ap AA (V.neq rfl rfl) ?_);go_step;with_reducible exact zq9.out):p:=h ⟨k⟩
theorem X4(k:q)(h:Au q→p:=by intro zq9;(with_reducible refine Ak _ (.extract _ _) ?_);(refine Ap AA (V.extract rfl rfl) ?_);go_step;with_reducible exact zq9.out):p:=h ⟨k⟩
theorem X5(n:Nat)(k:q)(h:Au q→By n p:=by intro zq9;(with_reducible refine Bz ?_);(refine Ap AA (V.lss rfl rfl) ?_);go_step;with_reducible exact zq9.out):p:=h ⟨k⟩
theorem X6(n:Nat)(k:q)(h:Au q→By n p:=by intro zq9;(with_reducible refine Bz ?_);(refine Ap AA (V.extract rfl rfl) ?_);go_step;with_reducible exact zq9.out):p:=h ⟨k⟩
theorem X7(k:q)(h:Au q→p:=by intro zq9;(with_reducible refine Ak _ (.binOp .add _ _ _ _) ?_);(refine Ap AA (V.addI rfl rfl (by omega)) ?_);go_step;with_reducible exact zq9.out):p:=h ⟨k⟩
theorem X8(k:q)(h:Au q→p:=by intro zq9;(with_reducible refine RI ?_);((first|go_big_want|go_step));go_step;go_step;with_reducible exact zq9.out):p:=h ⟨k⟩
theorem X9(n:Nat){c e r:Prop}(k:c→q)(k2:e→r)(h:fE c e q r→By n p:=by intro zq9;(with_reducible refine Bz ?_);refine CY _ (V.eql rfl rfl) AA zq9.t zq9.f):p:=h ⟨k,k2⟩
theorem ED(k:q)(h:Au q→p:=by intro zq9;(with_reducible refine Ak _ (.load 3 _) ?_);(refine Ad ?_;apply AZ hS 3 _ rfl _ _ rfl (AI rfl) _;(case hp=>exact AK);(case hc=>rfl);refine AC ?_);go_step;with_reducible exact zq9.out):p:=h ⟨k⟩
theorem Es(n:Nat){c e r:Prop}(k:c→q)(k2:e→r)(h:fE c e q r→By n p:=by intro zq9;(with_reducible refine Bz ?_);refine CY _ (V.lss rfl rfl) AA zq9.t zq9.f):p:=h ⟨k,k2⟩
theorem Et(n:Nat){c e r:Prop}(k:c→q)(k2:e→r)(h:fE c e q r→By n p:=by intro zq9;(with_reducible refine Bz ?_);refine CY _ (V.neq rfl rfl) AA zq9.t zq9.f):p:=h ⟨k,k2⟩
theorem Eu(k:q)(h:Au q→p:=by intro zq9;(with_reducible refine Ak _ (.pick _ _ _) ?_);(refine BD rfl AA ?_);go_step;with_reducible exact zq9.out):p:=h ⟨k⟩
theorem FX{T q:World→Prop}(k:∀w,T w→q w)(h:Jr T q→p:=by intro zq9;(with_reducible refine Ak _ (.store 26 _ _) ?_);(refine Ad ?_;apply Nn hS 26 _ _ rfl _ rfl 64 (AO rfl) _ _;(case hp=>exact AK);(case hy=>rfl);(case hm=>(repeat (first|assumption|exact Ac.rep|apply Ac.set|((with_reducible show Ac (_::_) _);exact rfl))));(case hd=>exact rfl));intro w9 h9;with_reducible exact zq9.out w9 h9):p:=h ⟨k⟩
theorem Fa(n:Nat)(k:q)(h:Au q→By n p:=by intro zq9;(with_reducible refine Bz ?_);(refine Ap AA (V.fieldAddr Kg rfl BK) ?_);go_step;with_reducible exact zq9.out):p:=h ⟨k⟩
theorem GB(n:Nat){T q:Nat→World→Prop}(k:∀g w,T g w→q g w)(h:Hl T q→By n p:=by intro zq9;(with_reducible refine Bz ?_);(refine Ad ?_;apply B9 (o:=⟨some _,_,_,_,_,_⟩) hS 24 rfl (.agg #[.int .i64 0, .int .i64 0, .slice none 0 0]) [.int .i64 0, .int .i64 0, .slice none 0 0] (fun w=>Tryz.zeroValue24 w) rfl);intro g w9 h9;refine AC ?_;go_step;with_reducible exact zq9.out g w9 h9):p:=h ⟨k⟩
theorem G6(k:q)(h:Au q→p:=by intro zq9;(with_reducible refine Ak _ (.binOp .gtr _ _ _ _) ?_);(refine Ap AA (V.gtr rfl rfl) ?_);go_step;with_reducible exact zq9.out):p:=h ⟨k⟩
theorem IL(k:q)(h:Au q→p:=by intro zq9;(with_reducible refine Ak _ (.pick _ _ _) ?_);(refine A6 rfl AA ?_);go_step;with_reducible exact zq9.out):p:=h ⟨k⟩
theorem IR(k:q)(h:Au q→p:=by intro zq9;(with_reducible refine Ak _ (.pick _ _ _) ?_);(first|(refine BD rfl AA ?_)|(refine A6 rfl AA ?_));go_step;with_reducible exact zq9.out):p:=h ⟨k⟩
theorem JD{T q:World→Prop}(k:∀w,T w→q w)(h:Jr T q→p:=by intro zq9;(with_reducible refine Ak _ (.store 155 _ _) ?_);(refine Ad ?_;apply Cb hS 155 _ _ rfl _ rfl 3 (AO rfl) _ _;(case hp=>exact AK);(case hy=>rfl);(case hn=>rfl);(case hn'=>rfl);(case hv=>rfl);(case hd=>exact rfl));intro w9 h9;with_reducible exact zq9.out w9 h9):p:=h ⟨k⟩
theorem JE(k:q)(h:Au q→p:=by intro zq9;(with_reducible refine Ak _ (.load 37 _) ?_);(refine Ad ?_;apply Cq hS 37 _ rfl _ _ rfl 103 (AO rfl) _;(case hp=>exact AK);(case hi=>(repeat (first|(apply GZ.head;(repeat (first|exact Bi.nil|(apply Bi.ints;(case hn=>exact DW);(case h=>omega);(case hm=>rfl))|apply Bi.val)))|(apply GZ.skipI;(case hn=>exact DW);(case h=>omega);(case ho=>rfl))|apply GZ.skipV)));refine AC ?_);go_step;with_reducible exact zq9.out):p:=h ⟨k⟩
theorem JF(n:Nat)(k:q)(h:Au q→By n p:=by intro zq9;(with_reducible refine Bz ?_);(refine Ap AA (V.fieldAddr N8 rfl BK) ?_);go_step;with_reducible exact zq9.out):p:=h ⟨k⟩
theorem JO(n:Nat){T q:Nat→World→Prop}(k:∀g w,T g w→q g w)(h:Hl T q→By n p:=by intro zq9;(with_reducible refine Bz ?_);(refine Ad ?_;apply B9 (o:=⟨some _,_,_,_,_,_⟩) hS 155 rfl (.agg #[.int .i64 0, .int .i64 0, .int .i64 0]) [.int .i64 0, .int .i64 0, .int .i64 0] (fun w=>Tryz.zeroValue155 w) rfl);intro g w9 h9;refine AC ?_;go_step;with_reducible exact zq9.out g w9 h9):p:=h ⟨k⟩
theorem Js(n:Nat){T q:Nat→World→Prop}(k:∀g w,T g w→q g w)(h:Hl T q→By n p:=by intro zq9;(with_reducible refine Bz ?_);(refine Ad ?_;apply I9 (o:=⟨some _,_,_,_,_,_⟩) hS 37 _ rfl _ rfl);intro g w9 h9;refine AC ?_;go_step;with_reducible exact zq9.out g w9 h9):p:=h ⟨k⟩
theorem Jt(k:q)(h:Au q→p:=by intro zq9;(with_reducible refine Ak _ (.load 26 _) ?_);(refine Ad ?_;apply JB hS 26 _ rfl _ rfl 64 (AO rfl) _;(case hp=>exact AK);refine AC ?_);go_step;with_reducible exact zq9.out):p:=h ⟨k⟩
theorem KP(n:Nat){T q:Nat→World→Prop}(k:∀g w,T g w→q g w)(h:Hl T q→By n p:=by intro zq9;(with_reducible refine Bz ?_);(refine Ad ?_;apply Nh (o:=⟨some _,_,_,_,_,_⟩) hS 26 rfl (List.replicate 64 0) 64 List.length_replicate gK);intro g w9 h9;refine AC ?_;go_step;with_reducible exact zq9.out g w9 h9):p:=h ⟨k⟩
theorem KQ(n:Nat){c e r:Prop}(k:c→q)(k2:e→r)(h:fE c e q r→By n p:=by intro zq9;(with_reducible refine Bz ?_);refine CY _ (V.gtr rfl rfl) AA zq9.t zq9.f):p:=h ⟨k,k2⟩
theorem KR(k:q)(h:Au q→p:=by intro zq9;(with_reducible refine Ak _ (.binOp .neq 3 _ _ _) ?_);(refine Ap AA (V.neq rfl rfl) ?_);go_step;with_reducible exact zq9.out):p:=h ⟨k⟩
theorem KS(k:q)(h:Au q→p:=by intro zq9;(with_reducible refine Ak _ (.unOp .not _ _) ?_);(refine Ap AA (V.not rfl) ?_);go_step;with_reducible exact zq9.out):p:=h ⟨k⟩
theorem KT(n:Nat)(k:q)(h:Au q→By n p:=by intro zq9;(with_reducible refine Bz ?_);(refine Ap AA (V.neq rfl rfl) ?_);go_step;with_reducible exact zq9.out):p:=h ⟨k⟩
theorem KZ(k:q)(h:Au q→p:=by intro zq9;(with_reducible refine Ak _ (.load 32 _) ?_);(refine Ad ?_;apply Cq hS 32 _ rfl _ _ rfl 17 (AO rfl) _;(case hp=>exact AK);(case hi=>(repeat (first|(apply GZ.head;(repeat (first|exact Bi.nil|(apply Bi.ints;(case hn=>exact DW);(case h=>omega);(case hm=>rfl))|apply Bi.val)))|(apply GZ.skipI;(case hn=>exact DW);(case h=>omega);(case ho=>rfl))|apply GZ.skipV)));refine AC ?_);go_step;with_reducible exact zq9.out):p:=h ⟨k⟩
theorem K1(n:Nat){c e r:Prop}(k:c→q)(k2:e→r)(h:fE c e q r→By n p:=by intro zq9;(with_reducible refine Bz ?_);refine eP _ (V.not rfl) AA zq9.t zq9.f):p:=h ⟨k,k2⟩
theorem MR(n:Nat)(k:q)(h:Au q→By n p:=by intro zq9;(with_reducible refine Bz ?_);(refine Ap AA (V.eql rfl rfl) ?_);go_step;with_reducible exact zq9.out):p:=h ⟨k⟩
theorem Ns{T q:World→Prop}(k:∀w,T w→q w)(h:Jr T q→p:=by intro zq9;(with_reducible refine Ak _ (.store 24 _ _) ?_);(refine Ad ?_;apply Cb hS 24 _ _ rfl _ rfl 3 (AO rfl) _ _;(case hp=>exact AK);(case hy=>rfl);(case hn=>rfl);(case hn'=>rfl);(case hv=>rfl);(case hd=>exact rfl));intro w9 h9;with_reducible exact zq9.out w9 h9):p:=h ⟨k⟩
theorem Nt(n:Nat)(k:q)(h:Au q→By n p:=by intro zq9;(with_reducible refine Bz ?_);(refine Ap AA (V.gtr rfl rfl) ?_);go_step;with_reducible exact zq9.out):p:=h ⟨k⟩
theorem O3(n:Nat){T q:Nat→World→Prop}(k:∀g w,T g w→q g w)(h:Hl T q→By n p:=by intro zq9;(with_reducible refine Bz ?_);(refine Ad ?_;apply bg (o:=⟨some _,_,_,_,_,_⟩) hS 26 _ rfl _ 64 rfl;(case hn=>assumption));intro g w9 h9;refine AC ?_;go_step;with_reducible exact zq9.out g w9 h9):p:=h ⟨k⟩
theorem PE(n:Nat){T q:Nat→World→Prop}(k:∀g w,T g w→q g w)(h:Hl T q→By n p:=by intro zq9;(with_reducible refine Bz ?_);(refine Ad ?_;apply I9 (o:=⟨some _,_,_,_,_,_⟩) hS 34 _ rfl _ rfl);intro g w9 h9;refine AC ?_;go_step;with_reducible exact zq9.out g w9 h9):p:=h ⟨k⟩
theorem PF(k:q)(h:Au q→p:=by intro zq9;(with_reducible refine Ak _ (.load 24 _) ?_);(refine Ad ?_;apply D7 hS 24 _ rfl _ rfl 3 (AO rfl) _;(case hp=>exact AK);(case hn=>rfl);refine AC ?_);go_step;with_reducible exact zq9.out):p:=h ⟨k⟩
theorem PG(k:q)(h:Au q→p:=by intro zq9;(with_reducible refine Ak _ (.load 34 _) ?_);(refine Ad ?_;apply Cq hS 34 _ rfl _ _ rfl 34 (AO rfl) _;(case hp=>exact AK);(case hi=>(repeat (first|(apply GZ.head;(repeat (first|exact Bi.nil|(apply Bi.ints;(case hn=>exact DW);(case h=>omega);(case hm=>rfl))|apply Bi.val)))|(apply GZ.skipI;(case hn=>exact DW);(case h=>omega);(case ho=>rfl))|apply GZ.skipV)));refine AC ?_);go_step;with_reducible exact zq9.out):p:=h ⟨k⟩
theorem Qz{T q:World→Prop}(k:∀w,T w→q w)(h:Jr T q→p:=by intro zq9;(with_reducible refine Ak _ (.store 37 _ _) ?_);(refine Ad ?_;apply Fs hS 37 _ _ rfl _ rfl 103 (AO rfl) _ _;(case hp=>exact AK);(case hy=>rfl);(case hn=>(repeat (first|exact Bi.nil|(apply Bi.ints;(case hn=>exact DW);(case h=>omega);(case hm=>rfl))|apply Bi.val)));(case hn'=>(repeat (first|exact Bi.nil|(apply Bi.ints;(case hn=>exact DW);(case h=>omega);(case hm=>rfl))|apply Bi.val)));(case hv=>rfl);(case hd=>exact rfl));intro w9 h9;with_reducible exact zq9.out w9 h9):p:=h ⟨k⟩
theorem RC(n:Nat){T q:Nat→World→Prop}(k:∀g w,T g w→q g w)(h:Hl T q→By n p:=by intro zq9;(with_reducible refine Bz ?_);(refine Ad ?_;apply Gw (o:=⟨some _,_,_,_,_,_⟩) hS 32 rfl _ iB);intro g w9 h9;refine AC ?_;go_step;with_reducible exact zq9.out g w9 h9):p:=h ⟨k⟩
theorem RD(n:Nat){T q:Nat→World→Prop}(k:∀g w,T g w→q g w)(h:Hl T q→By n p:=by intro zq9;(with_reducible refine Bz ?_);(refine Ad ?_;apply Gw (o:=⟨some _,_,_,_,_,_⟩) hS 37 rfl _ eW);intro g w9 h9;refine AC ?_;go_step;with_reducible exact zq9.out g w9 h9):p:=h ⟨k⟩
theorem RE{T q:World→Prop}(k:∀w,T w→q w)(h:Jr T q→p:=by intro zq9;(with_reducible refine Ak _ (.store 32 _ _) ?_);(refine Ad ?_;apply Fs hS 32 _ _ rfl _ rfl 17 (AO rfl) _ _;(case hp=>exact AK);(case hy=>rfl);(case hn=>(repeat (first|exact Bi.nil|(apply Bi.ints;(case hn=>exact DW);(case h=>omega);(case hm=>rfl))|apply Bi.val)));(case hn'=>(repeat (first|exact Bi.nil|(apply Bi.ints;(case hn=>exact DW);(case h=>omega);(case hm=>rfl))|apply Bi.val)));(case hv=>rfl);(case hd=>exact rfl));intro w9 h9;with_reducible exact zq9.out w9 h9):p:=h ⟨k⟩
theorem Sa(n:Nat){T q:Nat→World→Prop}(k:∀g w,T g w→q g w)(h:Hl T q→By n p:=by intro zq9;(with_reducible refine Bz ?_);(refine Ad ?_;apply CL (o:=⟨some _,_,_,_,_,_⟩) hS 24 _ rfl _ rfl);intro g w9 h9;refine AC ?_;go_step;with_reducible exact zq9.out g w9 h9):p:=h ⟨k⟩
theorem Sb(n:Nat){T q:Nat→World→Prop}(k:∀g w,T g w→q g w)(h:Hl T q→By n p:=by intro zq9;(with_reducible refine Bz ?_);(refine Ad ?_;apply AT (o:=⟨some _,_,_,_,_,_⟩) hS 141 1 _ rfl 155 3 24 Wq _ _;(case hvs=>(repeat (first|exact AW.nil|(apply AW.agg;(rfl);(rfl))|(apply AW.one;exact CC;(rfl);(rfl)))));(case hn=>rfl);(case hn0=>decide);(case hns=>decide));intro g w9 h9;simp only [List.cons_append,List.nil_append] at h9;refine AC ?_;go_step;with_reducible exact zq9.out g w9 h9):p:=h ⟨k⟩
theorem Sc(k:q)(h:Au q→p:=by intro zq9;(with_reducible refine Ak _ (.binOp .eql 3 _ _ _) ?_);(refine Ap AA (V.eql rfl rfl) ?_);go_step;with_reducible exact zq9.out):p:=h ⟨k⟩
theorem Sd(k:q)(h:Au q→p:=by intro zq9;(with_reducible refine Ak _ (.fieldAddr 155 _ 1) ?_);(refine Ap AA (V.fieldAddr N8 rfl BK) ?_);go_step;with_reducible exact zq9.out):p:=h ⟨k⟩
theorem Se(k:q)(h:Au q→p:=by intro zq9;(with_reducible refine Ak _ (.load 155 _) ?_);(refine Ad ?_;apply D7 hS 155 _ rfl _ rfl 3 (AO rfl) _;(case hp=>exact AK);(case hn=>rfl);refine AC ?_);go_step;with_reducible exact zq9.out):p:=h ⟨k⟩
theorem UQ(k:q)(h:Au q→p:=by intro zq9;(with_reducible refine Ak _ (.call ⟨.builtin .len,_,_⟩) ?_);(refine Ap AA (V.len Tryz.underlying30 rfl) ?_);go_step;with_reducible exact zq9.out):p:=h ⟨k⟩
theorem UR(k:q)(h:Au q→p:=by intro zq9;(with_reducible refine Ak _ (.nilCheck _) ?_);(refine Ap AA (V.nilCheck rfl) ?_);go_step;with_reducible exact zq9.out):p:=h ⟨k⟩
theorem Vw(k:q)(h:Au q→p:=by intro zq9;(with_reducible refine Ak _ (.call ⟨.builtin .len,_,_⟩) ?_);(refine Ap AA (V.len Tryz.underlying42 rfl) ?_);go_step;with_reducible exact zq9.out):p:=h ⟨k⟩
theorem Vx(k:q)(h:Au q→p:=by intro zq9;(with_reducible refine Ak _ (.load 3 _) ?_);(refine Ad ?_;apply EP hS 3 _ rfl _ _ rfl (AI rfl) _;(case hp=>exact AK);(case hi=>(repeat (first|exact Jp.head|(apply Jp.skipI;(case hn=>exact DW);(case h=>omega);(case ho=>rfl))|apply Jp.skipV)));refine AC ?_);go_step;with_reducible exact zq9.out):p:=h ⟨k⟩
theorem Vy(n:Nat)(k:q)(h:Au q→By n p:=by intro zq9;(with_reducible refine Bz ?_);(refine Ap AA (V.len Tryz.underlying30 rfl) ?_);go_step;with_reducible exact zq9.out):p:=h ⟨k⟩
theorem WN(n:Nat){T q:Option Addr→Nat→World→Prop}(k:∀a c w,T a c w→q a c w)(h:gL T q→By n p:=by intro zq9;(with_reducible refine Bz ?_);(refine Ad ?_;apply A7 (o:=⟨some _,_,_,_,_,_⟩) hS _ _ 141 rfl 155 3 24 Wq _ _ _ _ rfl;(case hp=>exact AK);(case hx=>exact rfl);(case hm=>(first|exact hS.slBlk AK (by rfl) (by decide)|exact hS.sl AK|with_reducible assumption|exact Sl.ext (by with_reducible assumption) hS.1|exact Sl.nil _ _|exact Sl.ext (by assumption) hS.1|assumption));(case h1=>(first|exact Cd rfl|exact CE _ _|(intro u hu;cases hu)));(case h63=>unfold maxLen;omega);(case hb=>omega));intro a9 c9 w9 h9;(first|simp only [DX] at h9|simp only [DY] at h9|simp only [DZ] at h9|simp only [Da] at h9|simp only [Db] at h9|skip);refine AC ?_;go_step;with_reducible exact zq9.out a9 c9 w9 h9):p:=h ⟨k⟩
theorem WO(n:Nat)(k:q)(h:Au q→By n p:=by intro zq9;(with_reducible refine Bz ?_);(refine Ap AA (V.addI rfl rfl (by omega)) ?_);go_step;with_reducible exact zq9.out):p:=h ⟨k⟩
theorem WP(n:Nat)(k:q)(h:Au q→By n p:=by intro zq9;(with_reducible refine Bz ?_);(refine Ap AA (V.indexSl Tryz.underlying115 fu rfl rfl BJ (by omega) rfl BK) ?_);go_step;with_reducible exact zq9.out):p:=h ⟨k⟩
theorem WQ(n:Nat)(k:q)(h:Au q→By n p:=by intro zq9;(with_reducible refine Bz ?_);(refine Ap AA (V.indexSl Tryz.underlying35 U5 rfl rfl BJ (by omega) (Nat.mul_one _) BK) ?_);go_step;with_reducible exact zq9.out):p:=h ⟨k⟩
theorem Yp(k:q)(h:Au q→p:=by intro zq9;(with_reducible refine Ak _ (.fieldAddr 37 _ 0) ?_);(refine Ap AA (V.fieldAddr Rf rfl BK) ?_);go_step;with_reducible exact zq9.out):p:=h ⟨k⟩
theorem Yq(k:q)(h:Au q→p:=by intro zq9;(with_reducible refine Ak _ (.load 107 _) ?_);(refine Ad ?_;apply D7 hS 107 _ rfl _ rfl 2 (AO rfl) _;(case hp=>exact AK);(case hn=>rfl);refine AC ?_);go_step;with_reducible exact zq9.out):p:=h ⟨k⟩
theorem Yr(k:q)(h:Au q→p:=by intro zq9;(with_reducible refine Ak _ (.load 5 _) ?_);(refine Ad ?_;apply Aj hS 5 _ rfl _ rfl (AI rfl) _;(case hc=>with_reducible assumption);refine AC ?_);go_step;with_reducible exact zq9.out):p:=h ⟨k⟩
theorem Ys(n:Nat)(k:q)(h:Au q→By n p:=by intro zq9;(with_reducible refine Bz ?_);(refine Ap AA (V.indexSl Tryz.underlying30 EA rfl rfl BJ (by omega) (Nat.mul_one _) BK) ?_);go_step;with_reducible exact zq9.out):p:=h ⟨k⟩
theorem Zl(n:Nat){T q:Nat→World→Prop}(k:∀g w,T g w→q g w)(h:Hl T q→By n p:=by intro zq9;(with_reducible refine Bz ?_);(refine Ad ?_;apply I9 (o:=⟨some _,_,_,_,_,_⟩) hS 32 _ rfl _ rfl);intro g w9 h9;refine AC ?_;go_step;with_reducible exact zq9.out g w9 h9):p:=h ⟨k⟩
theorem Zm(n:Nat){T q:Option Addr→Nat→World→Prop}(k:∀a c w,T a c w→q a c w)(h:gL T q→By n p:=by intro zq9;(with_reducible refine Bz ?_);(refine Ad ?_;apply A7 (o:=⟨some _,_,_,_,_,_⟩) hS _ _ 35 rfl 5 1 1 Hs _ _ _ _ rfl;(case hp=>exact AK);(case hx=>exact rfl);(case hm=>(first|exact hS.slBlk AK (by rfl) (by decide)|exact hS.sl AK|with_reducible assumption|exact Sl.ext (by with_reducible assumption) hS.1|exact Sl.nil _ _|exact Sl.ext (by assumption) hS.1|assumption));(case h1=>(first|exact Cd rfl|exact CE _ _|(intro u hu;cases hu)));(case h63=>unfold maxLen;omega);(case hb=>omega));intro a9 c9 w9 h9;(first|simp only [DX] at h9|simp only [DY] at h9|simp only [DZ] at h9|simp only [Da] at h9|simp only [Db] at h9|skip);refine AC ?_;go_step;with_reducible exact zq9.out a9 c9 w9 h9):p:=h ⟨k⟩
theorem Zn(k:q)(h:Au q→p:=by intro zq9;(with_reducible refine Ak _ (.binOp .sub _ _ _ _) ?_);(refine Ap AA (V.subI rfl rfl (by omega)) ?_);go_step;with_reducible exact zq9.out):p:=h ⟨k⟩
theorem Zo(k:q)(h:Au q→p:=by intro zq9;(with_reducible refine Ak _ (.call ⟨.builtin .len,_,_⟩) ?_);(refine Ap AA (V.len Tryz.underlying22 rfl) ?_);go_step;with_reducible exact zq9.out):p:=h ⟨k⟩
theorem Zp(k:q)(h:Au q→p:=by intro zq9;(with_reducible refine Ak _ (.fieldAddr 34 _ 0) ?_);(refine Ap AA (V.fieldAddr Ww rfl BK) ?_);go_step;with_reducible exact zq9.out):p:=h ⟨k⟩
theorem Zq(k:q)(h:Au q→p:=by intro zq9;(with_reducible refine Ak _ (.fieldAddr 34 _ 1) ?_);(refine Ap AA (V.fieldAddr Wx rfl BK) ?_);go_step;with_reducible exact zq9.out):p:=h ⟨k⟩
theorem Zr(k:q)(h:Au q→p:=by intro zq9;(with_reducible refine Ak _ (.fieldAddr 37 _ 1) ?_);(refine Ap AA (V.fieldAddr Rh rfl BK) ?_);go_step;with_reducible exact zq9.out):p:=h ⟨k⟩
theorem Zs(k:q)(h:Au q→p:=by intro zq9;(with_reducible refine Ak _ (.load 3 _) ?_);(refine Ad ?_;apply Aj hS 3 _ rfl _ rfl (AI rfl) _;(case hc=>with_reducible assumption);refine AC ?_);go_step;with_reducible exact zq9.out):p:=h ⟨k⟩
theorem Zt(n:Nat)(k:q)(h:Au q→By n p:=by intro zq9;(with_reducible refine Bz ?_);(refine Ap AA (V.len Tryz.underlying35 rfl) ?_);go_step;with_reducible exact zq9.out):p:=h ⟨k⟩
theorem bi(n:Nat)(k:q)(h:Au q→By n p:=by intro zq9;(with_reducible refine Bz ?_);(refine ML (by with_reducible assumption) Tryz.underlying42 Id rfl rfl BJ (by omega) AA ?_);with_reducible exact zq9.out):p:=h ⟨k⟩
theorem bk(k:q)(h:Au q→p:=by intro zq9;(with_reducible refine Ak _ (.binOp .leq _ _ _ _) ?_);(refine Ap AA (V.leq rfl rfl) ?_);go_step;with_reducible exact zq9.out):p:=h ⟨k⟩
theorem bm(k:q)(h:Au q→p:=by intro zq9;(with_reducible refine Ak _ (.call ⟨.builtin .len,_,_⟩) ?_);(refine Ap AA (V.len Tryz.underlying35 rfl) ?_);go_step;with_reducible exact zq9.out):p:=h ⟨k⟩
theorem bn(k:q)(h:Au q→p:=by intro zq9;(with_reducible refine Ak _ (.fieldAddr 24 _ 0) ?_);(refine Ap AA (V.fieldAddr Rb rfl BK) ?_);go_step;with_reducible exact zq9.out):p:=h ⟨k⟩
theorem bo(k:q)(h:Au q→p:=by intro zq9;(with_reducible refine Ak _ (.fieldAddr 24 _ 1) ?_);(refine Ap AA (V.fieldAddr Rc rfl BK) ?_);go_step;with_reducible exact zq9.out):p:=h ⟨k⟩
theorem bp(k:q)(h:Au q→p:=by intro zq9;(with_reducible refine Ak _ (.fieldAddr 37 _ 2) ?_);(refine Ap AA (V.fieldAddr Wy rfl BK) ?_);go_step;with_reducible exact zq9.out):p:=h ⟨k⟩
theorem bq(k:q)(h:Au q→p:=by intro zq9;(with_reducible refine Ak _ (.fieldAddr 37 _ 4) ?_);(refine Ap AA (V.fieldAddr LO rfl BK) ?_);go_step;with_reducible exact zq9.out):p:=h ⟨k⟩
theorem br(n:Nat)(k:q)(h:Au q→By n p:=by intro zq9;(with_reducible refine Bz ?_);(refine Ap AA (V.fieldAddr TD rfl BK) ?_);go_step;with_reducible exact zq9.out):p:=h ⟨k⟩
theorem dO(n:Nat){T q:Nat→World→Prop}(k:∀g w,T g w→q g w)(h:Hl T q→By n p:=by intro zq9;(with_reducible refine Bz ?_);(refine Ad ?_;apply B9 (o:=⟨some _,_,_,_,_,_⟩) hS 107 rfl (.agg #[.int .i64 0, .int .i64 0]) [.int .i64 0, .int .i64 0] (fun w=>Tryz.zeroValue107 w) rfl);intro g w9 h9;refine AC ?_;go_step;with_reducible exact zq9.out g w9 h9):p:=h ⟨k⟩
theorem dP{T q:World→Prop}(k:∀w,T w→q w)(h:Jr T q→p:=by intro zq9;(with_reducible refine Ak _ (.store 107 _ _) ?_);(refine Ad ?_;apply Cb hS 107 _ _ rfl _ rfl 2 (AO rfl) _ _;(case hp=>exact AK);(case hy=>rfl);(case hn=>rfl);(case hn'=>rfl);(case hv=>rfl);(case hd=>exact rfl));intro w9 h9;with_reducible exact zq9.out w9 h9):p:=h ⟨k⟩
theorem dQ(k:q)(h:Au q→p:=by intro zq9;(with_reducible refine Ak _ (.binOp .eql 38 _ _ _) ?_);(refine Ap AA (V.eql rfl rfl) ?_);go_step;with_reducible exact zq9.out):p:=h ⟨k⟩
theorem dR(k:q)(h:Au q→p:=by intro zq9;(with_reducible refine Ak _ (.fieldAddr 140 _ 1) ?_);(refine Ap AA (V.fieldAddr IZ rfl BK) ?_);go_step;with_reducible exact zq9.out):p:=h ⟨k⟩
theorem dS(k:q)(h:Au q→p:=by intro zq9;(with_reducible refine Ak _ (.fieldAddr 155 _ 2) ?_);(refine Ap AA (V.fieldAddr TD rfl BK) ?_);go_step;with_reducible exact zq9.out):p:=h ⟨k⟩
theorem dT(k:q)(h:Au q→p:=by intro zq9;(with_reducible refine Ak _ (.fieldAddr 32 _ 0) ?_);(refine Ap AA (V.fieldAddr Re rfl BK) ?_);go_step;with_reducible exact zq9.out):p:=h ⟨k⟩
theorem dU(k:q)(h:Au q→p:=by intro zq9;(with_reducible refine Ak _ (.fieldAddr 37 _ 6) ?_);(refine Ap AA (V.fieldAddr LQ rfl BK) ?_);go_step;with_reducible exact zq9.out):p:=h ⟨k⟩
theorem dV(k:q)(h:Au q→p:=by intro zq9;(with_reducible refine Ak _ (.load 137 _) ?_);(refine Ad ?_;apply AZ hS 137 _ rfl _ _ rfl (AI rfl) _;(case hp=>exact AK);(case hc=>rfl);refine AC ?_);go_step;with_reducible exact zq9.out):p:=h ⟨k⟩
theorem dW(k:q)(h:Au q→p:=by intro zq9;(with_reducible refine Ak _ (.load 22 _) ?_);(refine Ad ?_;apply AZ hS 22 _ rfl _ _ rfl (AI rfl) _;(case hp=>exact AK);(case hc=>rfl);refine AC ?_);go_step;with_reducible exact zq9.out):p:=h ⟨k⟩
theorem dX(k:q)(h:Au q→p:=by intro zq9;(with_reducible refine Ak _ (.load 30 _) ?_);(refine Ad ?_;apply Aj hS 30 _ rfl _ rfl (AI rfl) _;(case hc=>with_reducible assumption);refine AC ?_);go_step;with_reducible exact zq9.out):p:=h ⟨k⟩
theorem dY(k:q)(h:Au q→p:=by intro zq9;(with_reducible refine Ak _ (.slice 26 _ _ _ _) ?_);(refine Ap AA (V.sliceA Tryz.underlying26 EA rfl (by (first|exact Lo.none|exact Lo.some rfl BJ)) (by (first|exact Up.none|exact Up.some rfl BJ)) (by omega) (by omega) (by omega) rfl rfl rfl) ?_);go_step;with_reducible exact zq9.out):p:=h ⟨k⟩
theorem dZ(n:Nat)(k:q)(h:Au q→By n p:=by intro zq9;(with_reducible refine Bz ?_);(refine Ag (.int _ (((i+1:Nat):Int))) (V.as (V.addI rfl rfl (by omega)) (by omega)) (by kernel_rfl) ?_);go_step;with_reducible exact zq9.out):p:=h ⟨k⟩
theorem db(n:Nat)(k:q)(h:Au q→By n p:=by intro zq9;(with_reducible refine Bz ?_);(refine Ap AA (V.build (vs:=[(0,_),(1,_)]) rfl (UU _ _)) ?_);go_step;with_reducible exact zq9.out):p:=h ⟨k⟩
theorem dd(n:Nat)(k:q)(h:Au q→By n p:=by intro zq9;(with_reducible refine Bz ?_);(refine Ap AA (V.build (vs:=[]) rfl Wc) ?_);go_step;with_reducible exact zq9.out):p:=h ⟨k⟩
theorem de(n:Nat)(k:q)(h:Au q→By n p:=by intro zq9;(with_reducible refine Bz ?_);(refine Ap AA (V.indexSl Tryz.underlying22 Hb rfl rfl BJ (by omega) (Nat.mul_one _) BK) ?_);go_step;with_reducible exact zq9.out):p:=h ⟨k⟩
theorem eb(n:Nat){T q:Nat→World→Prop}(k:∀g w,T g w→q g w)(h:Hl T q→By n p:=by intro zq9;(with_reducible refine Bz ?_);(refine Ad ?_;apply B9 (o:=⟨some _,_,_,_,_,_⟩) hS 94 rfl (.agg #[.int .i64 0, .int .i64 0]) [.int .i64 0, .int .i64 0] (fun w=>Tryz.zeroValue94 w) rfl);intro g w9 h9;refine AC ?_;go_step;with_reducible exact zq9.out g w9 h9):p:=h ⟨k⟩
theorem ec(n:Nat){T q:Nat→World→Prop}(k:∀g w,T g w→q g w)(h:Hl T q→By n p:=by intro zq9;(with_reducible refine Bz ?_);(refine Ad ?_;apply AT (o:=⟨some _,_,_,_,_,_⟩) hS 35 2 _ rfl 5 1 1 Hs _ _;(case hvs=>(repeat (first|exact AW.nil|(apply AW.agg;(rfl);(rfl))|(apply AW.one;exact CC;(rfl);(rfl)))));(case hn=>rfl);(case hn0=>decide);(case hns=>decide));intro g w9 h9;refine AC ?_;go_step;with_reducible exact zq9.out g w9 h9):p:=h ⟨k⟩
theorem ee{T q:World→Prop}(k:∀w,T w→q w)(h:Jr T q→p:=by intro zq9;(with_reducible refine Ak _ (.store 3 _ _) ?_);(refine Ad ?_;apply Bg hS 3 _ _ rfl _ _ rfl (AI rfl) _ _;(case hp=>exact AK);(case hy=>exact CC);(case hv=>rfl);(case hc=>exact V3);(case hd=>exact rfl));intro w9 h9;with_reducible exact zq9.out w9 h9):p:=h ⟨k⟩
theorem eg{T q:World→Prop}(k:∀w,T w→q w)(h:Jr T q→p:=by intro zq9;(with_reducible refine Ak _ (.store 94 _ _) ?_);(refine Ad ?_;apply Cb hS 94 _ _ rfl _ rfl 2 (AO rfl) _ _;(case hp=>exact AK);(case hy=>rfl);(case hn=>rfl);(case hn'=>rfl);(case hv=>rfl);(case hd=>exact rfl));intro w9 h9;with_reducible exact zq9.out w9 h9):p:=h ⟨k⟩
theorem eh(n:Nat){T q:Option Addr→Nat→World→Prop}(k:∀a c w,T a c w→q a c w)(h:gL T q→By n p:=by intro zq9;(with_reducible refine Bz ?_);(refine Ad ?_;apply A7 (o:=⟨some _,_,_,_,_,_⟩) hS _ _ 42 rfl 26 64 512 dr _ _ _ _ rfl;(case hp=>exact AK);(case hx=>exact rfl);(case hm=>(first|exact hS.slBlk AK (by rfl) (by decide)|exact hS.sl AK|with_reducible assumption|exact Sl.ext (by with_reducible assumption) hS.1|exact Sl.nil _ _|exact Sl.ext (by assumption) hS.1|assumption));(case h1=>(first|exact Cd rfl|exact CE _ _|(intro u hu;cases hu)));(case h63=>unfold maxLen;omega);(case hb=>omega));intro a9 c9 w9 h9;(first|simp only [DX] at h9|simp only [DY] at h9|simp only [DZ] at h9|simp only [Da] at h9|simp only [Db] at h9|skip);refine AC ?_;go_step;with_reducible exact zq9.out a9 c9 w9 h9):p:=h ⟨k⟩
theorem ek(k:q)(h:Au q→p:=by intro zq9;(with_reducible refine Ak _ (.call ⟨.builtin .len,_,_⟩) ?_);(refine Ap AA (V.len Tryz.underlying115 rfl) ?_);go_step;with_reducible exact zq9.out):p:=h ⟨k⟩
theorem UD(k:q)(h:Au q→p:=by intro zq9;(with_reducible refine Ak _ (.call ⟨.builtin .len,_,_⟩) ?_);(refine Ap AA (V.len Tryz.underlying91 rfl) ?_);go_step;with_reducible exact zq9.out):p:=h ⟨k⟩
theorem UE(k:q)(h:Au q→p:=by intro zq9;(with_reducible refine Ak _ (.fieldAddr 24 _ 2) ?_);(refine Ap AA (V.fieldAddr Rd rfl BK) ?_);go_step;with_reducible exact zq9.out):p:=h ⟨k⟩
theorem UF(k:q)(h:Au q→p:=by intro zq9;(with_reducible refine Ak _ (.fieldAddr 37 _ 3) ?_);(refine Ap AA (V.fieldAddr Wz rfl BK) ?_);go_step;with_reducible exact zq9.out):p:=h ⟨k⟩
theorem UG(k:q)(h:Au q→p:=by intro zq9;(with_reducible refine Ak _ (.fieldAddr 37 _ 5) ?_);(refine Ap AA (V.fieldAddr LP rfl BK) ?_);go_step;with_reducible exact zq9.out):p:=h ⟨k⟩
theorem UH(k:q)(h:Au q→p:=by intro zq9;(with_reducible refine Ak _ (.load 29 _) ?_);(refine Ad ?_;apply Nl hS 29 _ rfl _ _ rfl 16 (AO rfl) _;(case hp=>exact AK);(case hi=>(repeat (first|(apply SU.head;exact DW)|(apply SU.skipI;(case hn=>exact DW);(case h=>omega);(case ho=>rfl))|apply SU.skipV)));refine AC ?_);go_step;with_reducible exact zq9.out):p:=h ⟨k⟩
theorem UI(k:q)(h:Au q→p:=by intro zq9;(with_reducible refine Ak _ (.load 30 _) ?_);(refine Ad ?_;apply EP hS 30 _ rfl _ _ rfl (AI rfl) _;(case hp=>exact AK);(case hi=>(repeat (first|exact Jp.head|(apply Jp.skipI;(case hn=>exact DW);(case h=>omega);(case ho=>rfl))|apply Jp.skipV)));refine AC ?_);go_step;with_reducible exact zq9.out):p:=h ⟨k⟩
theorem UJ(k:q)(h:Au q→p:=by intro zq9;(with_reducible refine Ak _ (.load 94 _) ?_);(refine Ad ?_;apply IG hS 94 _ rfl _ _ rfl 2 (AO rfl) _ _ _ _ _;(case hp=>exact AK);(case hi=>omega);(case hl'=>with_reducible assumption);refine AC ?_);go_step;with_reducible exact zq9.out):p:=h ⟨k⟩
theorem UK(n:Nat)(k:q)(h:Au q→By n p:=by intro zq9;(with_reducible refine Bz ?_);(refine Ag (.int .i64 ((y:Nat):Int)) (V.as (V.indexIv Tryz.underlying29 Tryz.underlying3 EA rfl rfl hC Bh.cast (by omega)) HX.out) AA ?_);go_step;with_reducible exact zq9.out):p:=h ⟨k⟩
theorem UL(n:Nat)(k:q)(h:Au q→By n p:=by intro zq9;(with_reducible refine Bz ?_);(refine Ag (.int _ ((u0%16))) (V.as (V.and rfl rfl) (by exact HAnd.out)) (by kernel_rfl) ?_);go_step;with_reducible exact zq9.out):p:=h ⟨k⟩
theorem UM(n:Nat)(k:q)(h:Au q→By n p:=by intro zq9;(with_reducible refine Bz ?_);(refine Ap AA (V.build (vs:=[(0,_),(1,_)]) rfl (UW _ _)) ?_);go_step;with_reducible exact zq9.out):p:=h ⟨k⟩
theorem UN(n:Nat)(k:q)(h:Au q→By n p:=by intro zq9;(with_reducible refine Bz ?_);(refine Ap AA (V.convI (by rw [Tryz.underlying116];rfl) Tryz.underlying3 rfl (IntWalk.i64_in _ (by omega))) ?_);go_step;with_reducible exact zq9.out):p:=h ⟨k⟩
theorem UO(n:Nat)(k:q)(h:Au q→By n p:=by intro zq9;(with_reducible refine Bz ?_);(refine Ap AA (V.convI (by rw [Tryz.underlying3];rfl) Tryz.underlying116 rfl (IntWalk.u64_in _ (by omega))) ?_);go_step;with_reducible exact zq9.out):p:=h ⟨k⟩
theorem UP(n:Nat)(k:q)(h:Au q→By n p:=by intro zq9;(with_reducible refine Bz ?_);(refine Ap AA (V.indexSl Tryz.underlying91 fw rfl rfl BJ (by omega) rfl BK) ?_);go_step;with_reducible exact zq9.out):p:=h ⟨k⟩
theorem WC(n:Nat){T q:Nat→World→Prop}(k:∀g w,T g w→q g w)(h:Hl T q→By n p:=by intro zq9;(with_reducible refine Bz ?_);(refine Ad ?_;apply AT (o:=⟨some _,_,_,_,_,_⟩) hS 35 1 _ rfl 5 1 1 Hs _ _;(case hvs=>(repeat (first|exact AW.nil|(apply AW.agg;(rfl);(rfl))|(apply AW.one;exact CC;(rfl);(rfl)))));(case hn=>rfl);(case hn0=>decide);(case hns=>decide));intro g w9 h9;refine AC ?_;go_step;with_reducible exact zq9.out g w9 h9):p:=h ⟨k⟩
theorem WD{T q:World→Prop}(k:∀w,T w→q w)(h:Jr T q→p:=by intro zq9;(with_reducible refine Ak _ (.store 3 _ _) ?_);(refine Ad ?_;apply II hS 3 _ _ rfl _ _ rfl (AI rfl) _ _;(case hp=>exact AK);(case hy=>rfl);(case hi=>omega);(case hd=>exact rfl));intro w9 h9;with_reducible exact zq9.out w9 h9):p:=h ⟨k⟩
theorem WE(k:q)(h:Au q→p:=by intro zq9;(with_reducible refine Ak _ (.binOp .mul _ _ _ _) ?_);(refine Ap AA (V.mulI rfl rfl (by omega)) ?_);go_step;with_reducible exact zq9.out):p:=h ⟨k⟩
theorem WF(k:q)(h:Au q→p:=by intro zq9;(with_reducible refine Ak _ (.convert 3 5 _) ?_);(refine Ap AA (V.convI (by rw [Tryz.underlying3];rfl) Tryz.underlying5 rfl (IntWalk.u8_in _ (by omega))) ?_);go_step;with_reducible exact zq9.out):p:=h ⟨k⟩
theorem WG(k:q)(h:Au q→p:=by intro zq9;(with_reducible refine Ak _ (.fieldAddr 119 _ 1) ?_);(refine Ap AA (V.fieldAddr aH rfl BK) ?_);go_step;with_reducible exact zq9.out):p:=h ⟨k⟩
theorem WH(k:q)(h:Au q→p:=by intro zq9;(with_reducible refine Ak _ (.fieldAddr 155 _ 0) ?_);(refine Ap AA (V.fieldAddr Kg rfl BK) ?_);go_step;with_reducible exact zq9.out):p:=h ⟨k⟩
theorem WI(k:q)(h:Au q→p:=by intro zq9;(with_reducible refine Ak _ (.fieldAddr 32 _ 1) ?_);(refine Ap AA (V.fieldAddr LN rfl BK) ?_);go_step;with_reducible exact zq9.out):p:=h ⟨k⟩
theorem WJ(k:q)(h:Au q→p:=by intro zq9;(with_reducible refine Ak _ (.load 26 _) ?_);(refine Ad ?_;apply Nl hS 26 _ rfl _ _ rfl 64 (AO rfl) _;(case hp=>exact AK);(case hi=>(repeat (first|(apply SU.head;exact DW)|(apply SU.skipI;(case hn=>exact DW);(case h=>omega);(case ho=>rfl))|apply SU.skipV)));refine AC ?_);go_step;with_reducible exact zq9.out):p:=h ⟨k⟩
theorem WK(n:Nat)(k:q)(h:Au q→By n p:=by intro zq9;(with_reducible refine Bz ?_);(refine Ag (.int _ (((k+1:Nat):Int))) (V.as (V.addI rfl rfl (by omega)) (by omega)) (by kernel_rfl) ?_);go_step;with_reducible exact zq9.out):p:=h ⟨k⟩
theorem WL(n:Nat)(k:q)(h:Au q→By n p:=by intro zq9;(with_reducible refine Bz ?_);(refine Ap AA (V.indexAr Tryz.underlying26 EA rfl rfl BJ (by omega) (Nat.mul_one _) BK) ?_);go_step;with_reducible exact zq9.out):p:=h ⟨k⟩
theorem WM(n:Nat)(k:q)(h:Au q→By n p:=by intro zq9;(with_reducible refine Bz ?_);(refine Ap AA (V.leq rfl rfl) ?_);go_step;with_reducible exact zq9.out):p:=h ⟨k⟩
theorem ZJ(n:Nat){T q:Nat→World→Prop}(k:∀g w,T g w→q g w)(h:Hl T q→By n p:=by intro zq9;(with_reducible refine Bz ?_);(refine Ad ?_;apply CL (o:=⟨some _,_,_,_,_,_⟩) hS 140 _ rfl _ rfl);intro g w9 h9;refine AC ?_;go_step;with_reducible exact zq9.out g w9 h9):p:=h ⟨k⟩
theorem ZK(n:Nat){T q:Nat→World→Prop}(k:∀g w,T g w→q g w)(h:Hl T q→By n p:=by intro zq9;(with_reducible refine Bz ?_);(refine Ad ?_;apply CL (o:=⟨some _,_,_,_,_,_⟩) hS 155 _ rfl _ rfl);intro g w9 h9;refine AC ?_;go_step;with_reducible exact zq9.out g w9 h9):p:=h ⟨k⟩
theorem ZL(n:Nat){T q:Nat→World→Prop}(k:∀g w,T g w→q g w)(h:Hl T q→By n p:=by intro zq9;(with_reducible refine Bz ?_);(refine Ad ?_;apply AT (o:=⟨some _,_,_,_,_,_⟩) hS 30 1 _ rfl 3 1 8 Mb _ _;(case hvs=>(repeat (first|exact AW.nil|(apply AW.agg;(rfl);(rfl))|(apply AW.one;exact CC;(rfl);(rfl)))));(case hn=>rfl);(case hn0=>decide);(case hns=>decide));intro g w9 h9;refine AC ?_;go_step;with_reducible exact zq9.out g w9 h9):p:=h ⟨k⟩
theorem ZM(n:Nat){T q:Nat→World→Prop}(k:∀g w,T g w→q g w)(h:Hl T q→By n p:=by intro zq9;(with_reducible refine Bz ?_);(refine Ad ?_;apply Kt (o:=⟨some _,_,_,_,_,_⟩) hS 42 _ _ rfl _ _ _ _ fi _ _ _ _ _ _ rfl rfl;(case hi=>exact BJ);(case hj=>exact BJ);(case hnm=>omega);(case hb=>omega);(case h63=>unfold maxLen;omega));intro g w9 h9;refine AC ?_;go_step;with_reducible exact zq9.out g w9 h9):p:=h ⟨k⟩
theorem ZN{T q:World→Prop}(k:∀w,T w→q w)(h:Jr T q→p:=by intro zq9;(with_reducible refine Ak _ (.store 169 _ _) ?_);(refine Bl AA (Bg hS 169 _ _ rfl _ _ rfl (AI rfl) _ _ AK _ CC (by rfl) V3 rfl ?_));intro w9 h9;with_reducible exact zq9.out w9 h9):p:=h ⟨k⟩
theorem ZO{T q:World→Prop}(k:∀w,T w→q w)(h:Jr T q→p:=by intro zq9;(with_reducible refine Ak _ (.store 3 _ _) ?_);(first|(refine Bl AA (II hS 3 _ _ rfl _ _ rfl (AI rfl) _ _ AK _ (by rfl) (by omega) rfl ?_))|(refine Bl AA (Bg hS 3 _ _ rfl _ _ rfl (AI rfl) _ _ AK _ CC (by rfl) V3 rfl ?_)));intro w9 h9;with_reducible exact zq9.out w9 h9):p:=h ⟨k⟩
theorem ZP{T q:World→Prop}(k:∀w,T w→q w)(h:Jr T q→p:=by intro zq9;(with_reducible refine Ak _ (.store 35 _ _) ?_);(refine Bl AA (Bg hS 35 _ _ rfl _ _ rfl (AI rfl) _ _ AK _ CC (by rfl) V3 rfl ?_));intro w9 h9;with_reducible exact zq9.out w9 h9):p:=h ⟨k⟩
theorem ZQ(n:Nat)(k:q)(h:Au q→By n p:=by intro zq9;(with_reducible refine Bz ?_);(refine Ft (by with_reducible assumption) Tryz.underlying30 EA rfl rfl BJ (by omega) AA ?_);with_reducible exact zq9.out):p:=h ⟨k⟩
theorem ZR(n:Nat){T q:Option Addr→Nat→World→Prop}(k:∀a c w,T a c w→q a c w)(h:gL T q→By n p:=by intro zq9;(with_reducible refine Bz ?_);(refine Ad ?_;apply A7 (o:=⟨some _,_,_,_,_,_⟩) hS _ _ 30 rfl 3 1 8 Mb _ _ _ _ rfl;(case hp=>exact AK);(case hx=>exact rfl);(case hm=>(first|exact hS.slBlk AK (by rfl) (by decide)|exact hS.sl AK|with_reducible assumption|exact Sl.ext (by with_reducible assumption) hS.1|exact Sl.nil _ _|exact Sl.ext (by assumption) hS.1|assumption));(case h1=>(first|exact Cd rfl|exact CE _ _|(intro u hu;cases hu)));(case h63=>unfold maxLen;omega);(case hb=>omega));intro a9 c9 w9 h9;(first|simp only [DX] at h9|simp only [DY] at h9|simp only [DZ] at h9|simp only [Da] at h9|simp only [Db] at h9|skip);refine AC ?_;go_step;with_reducible exact zq9.out a9 c9 w9 h9):p:=h ⟨k⟩
theorem ZS(k:q)(h:Au q→p:=by intro zq9;(with_reducible refine Ak _ (.binOp .geq _ _ _ _) ?_);(refine Ap AA (V.geq rfl rfl) ?_);go_step;with_reducible exact zq9.out):p:=h ⟨k⟩
theorem ZT(k:q)(h:Au q→p:=by intro zq9;(with_reducible refine Ak _ (.binOp .shl _ _ _ _) ?_);(refine Ap AA (V.shlI rfl rfl BJ (by omega) (by omega)) ?_);go_step;with_reducible exact zq9.out):p:=h ⟨k⟩
theorem ZU(k:q)(h:Au q→p:=by intro zq9;(with_reducible refine Ak _ (.call ⟨.builtin .len,_,_⟩) ?_);(refine Ap AA (V.len Tryz.underlying88 rfl) ?_);go_step;with_reducible exact zq9.out):p:=h ⟨k⟩
theorem ZV(k:q)(h:Au q→p:=by intro zq9;(with_reducible refine Ak _ (.load 26 _) ?_);(first|(refine Ad ?_;apply Dl hS 26 _ rfl _ _ rfl 64 (AO rfl) _;(case hl=>with_reducible assumption);(case hr=>with_reducible assumption);refine AC ?_)|(refine Ad ?_;apply JB hS 26 _ rfl _ rfl 64 (AO rfl) _;(case hp=>exact AK);refine AC ?_));go_step;with_reducible exact zq9.out):p:=h ⟨k⟩
theorem ZW(k:q)(h:Au q→p:=by intro zq9;(with_reducible refine Ak _ (.load 26 _) ?_);(refine Ad ?_;apply Dl hS 26 _ rfl _ _ rfl 64 (AO rfl) _;(case hl=>with_reducible assumption);(case hr=>with_reducible assumption);refine AC ?_);go_step;with_reducible exact zq9.out):p:=h ⟨k⟩
theorem ZX(k:q)(h:Au q→p:=by intro zq9;(with_reducible refine Ak _ (.load 35 _) ?_);(refine Ad ?_;apply EP hS 35 _ rfl _ _ rfl (AI rfl) _;(case hp=>exact AK);(case hi=>(repeat (first|exact Jp.head|(apply Jp.skipI;(case hn=>exact DW);(case h=>omega);(case ho=>rfl))|apply Jp.skipV)));refine AC ?_);go_step;with_reducible exact zq9.out):p:=h ⟨k⟩
theorem ZY(k:q)(h:Au q→p:=by intro zq9;(with_reducible refine Ak _ (.load 4 _) ?_);(refine Ad ?_;apply AZ hS 4 _ rfl _ _ rfl (AI rfl) _;(case hp=>exact AK);(case hc=>rfl);refine AC ?_);go_step;with_reducible exact zq9.out):p:=h ⟨k⟩
theorem ZZ(k:q)(h:Au q→p:=by intro zq9;(with_reducible refine Ak _ (.slice 35 _ _ _ _) ?_);(refine Ap AA (V.slice Tryz.underlying35 U5 rfl (by (first|exact Lo.none|exact Lo.some rfl BJ)) (by (first|exact Up.none|exact Up.some rfl BJ)) (by omega) (by omega)) ?_);go_step;with_reducible exact zq9.out):p:=h ⟨k⟩
theorem Za(n:Nat)(k:q)(h:Au q→By n p:=by intro zq9;(with_reducible refine Bz ?_);(refine Ag (.int _ (((en:Nat):Int))) (V.as (V.subI rfl rfl (by omega)) (by omega)) (by kernel_rfl) ?_);go_step;with_reducible exact zq9.out):p:=h ⟨k⟩
theorem Zb(n:Nat)(k:q)(h:Au q→By n p:=by intro zq9;(with_reducible refine Bz ?_);(refine Ag (.int _ (((h+1:Nat):Int))) (V.as (V.addI rfl rfl (by omega)) (by omega)) (by kernel_rfl) ?_);go_step;with_reducible exact zq9.out):p:=h ⟨k⟩
theorem Zc(n:Nat)(k:q)(h:Au q→By n p:=by intro zq9;(with_reducible refine Bz ?_);(refine Ag (.int _ (((h:Nat):Int))) (V.as (V.shr rfl rfl BJ (by omega) rfl) (by omega)) (by kernel_rfl) ?_);go_step;with_reducible exact zq9.out):p:=h ⟨k⟩
theorem Zd(n:Nat)(k:q)(h:Au q→By n p:=by intro zq9;(with_reducible refine Bz ?_);(refine Ag (.int _ (((q+1:Nat):Int))) (V.as (V.addI rfl rfl (by omega)) (by omega)) (by kernel_rfl) ?_);go_step;with_reducible exact zq9.out):p:=h ⟨k⟩
theorem Ze(n:Nat)(k:q)(h:Au q→By n p:=by intro zq9;(with_reducible refine Bz ?_);(refine Ag (.int _ (((t:Nat):Int))) (V.as (V.mulI rfl rfl (by omega)) (by omega)) (by kernel_rfl) ?_);go_step;with_reducible exact zq9.out):p:=h ⟨k⟩
theorem Zf(n:Nat)(k:q)(h:Au q→By n p:=by intro zq9;(with_reducible refine Bz ?_);(refine Ag _ (V.indexIv Tryz.underlying26 Tryz.underlying3 EA rfl rfl (by (repeat (first|assumption|exact Ac.rep|apply Ac.set|((with_reducible show Ac (_::_) _);exact rfl)))) BJ (by omega)) AA ?_);go_step;with_reducible exact zq9.out):p:=h ⟨k⟩
theorem Zg(n:Nat)(k:q)(h:Au q→By n p:=by intro zq9;(with_reducible refine Bz ?_);(refine Ap AA (V.build (vs:=[]) rfl (WV)) ?_);go_step;with_reducible exact zq9.out):p:=h ⟨k⟩
theorem Zh(n:Nat)(k:q)(h:Au q→By n p:=by intro zq9;(with_reducible refine Bz ?_);(refine Ap AA (V.build (vs:=[]) rfl (fc)) ?_);go_step;with_reducible exact zq9.out):p:=h ⟨k⟩
theorem Zi(n:Nat)(k:q)(h:Au q→By n p:=by intro zq9;(with_reducible refine Bz ?_);(refine Ap AA (V.build (vs:=[]) rfl Wa) ?_);go_step;with_reducible exact zq9.out):p:=h ⟨k⟩
theorem Zj(n:Nat)(k:q)(h:Au q→By n p:=by intro zq9;(with_reducible refine Bz ?_);(refine Ap AA (V.indexAr Tryz.underlying29 EA rfl rfl BJ (by omega) (Nat.mul_one _) BK) ?_);go_step;with_reducible exact zq9.out):p:=h ⟨k⟩
theorem Zk(n:Nat)(k:q)(h:Au q→By n p:=by intro zq9;(with_reducible refine Bz ?_);(refine Ap AA (V.len Tryz.underlying160 rfl) ?_);go_step;with_reducible exact zq9.out):p:=h ⟨k⟩
theorem cV(n:Nat){T q:Nat→World→Prop}(k:∀g w,T g w→q g w)(h:Hl T q→By n p:=by intro zq9;(with_reducible refine Bz ?_);(refine Ad ?_;apply B9 (o:=⟨some _,_,_,_,_,_⟩) hS 133 rfl (.pointer none) [.pointer none] (fun w=>Tryz.zeroValue133 w) rfl);intro g w9 h9;refine AC ?_;go_step;with_reducible exact zq9.out g w9 h9):p:=h ⟨k⟩
theorem cW(n:Nat){T q:Nat→World→Prop}(k:∀g w,T g w→q g w)(h:Hl T q→By n p:=by intro zq9;(with_reducible refine Bz ?_);(refine Ad ?_;apply B9 (o:=⟨some _,_,_,_,_,_⟩) hS 197 rfl (.agg #[.int .i64 0, .int .i64 0, .int .i64 0]) [.int .i64 0, .int .i64 0, .int .i64 0] (fun w=>Tryz.zeroValue197 w) rfl);intro g w9 h9;refine AC ?_;go_step;with_reducible exact zq9.out g w9 h9):p:=h ⟨k⟩
theorem cX(n:Nat){T q:Nat→World→Prop}(k:∀g w,T g w→q g w)(h:Hl T q→By n p:=by intro zq9;(with_reducible refine Bz ?_);(refine Ad ?_;apply B9 (o:=⟨some _,_,_,_,_,_⟩) hS 203 rfl (.agg #[.int .i64 0, .int .i64 0, .int .i64 0, .int .i64 0, .int .i64 0, .int .i64 0, .int .i64 0, .int .i64 0, .int .i64 0]) [.int .i64 0, .int .i64 0, .int .i64 0, .int .i64 0, .int .i64 0, .int .i64 0, .int .i64 0, .int .i64 0, .int .i64 0] (fun w=>Tryz.zeroValue203 w) rfl);intro g w9 h9;refine AC ?_;go_step;with_reducible exact zq9.out g w9 h9):p:=h ⟨k⟩
theorem cY(n:Nat){T q:Nat→World→Prop}(k:∀g w,T g w→q g w)(h:Hl T q→By n p:=by intro zq9;(with_reducible refine Bz ?_);(refine Ad ?_;apply AT (o:=⟨some _,_,_,_,_,_⟩) hS 22 1 _ rfl 30 1 24 dq _ _;(case hvs=>(repeat (first|exact AW.nil|(apply AW.agg;(rfl);(rfl))|(apply AW.one;exact CC;(rfl);(rfl)))));(case hn=>rfl);(case hn0=>decide);(case hns=>decide));intro g w9 h9;refine AC ?_;go_step;with_reducible exact zq9.out g w9 h9):p:=h ⟨k⟩
theorem cZ{T q:World→Prop}(k:∀w,T w→q w)(h:Jr T q→p:=by intro zq9;(with_reducible refine Ak _ (.store 133 _ _) ?_);(refine Ad ?_;apply Bg hS 133 _ _ rfl _ _ rfl (AI rfl) _ _;(case hp=>exact AK);(case hy=>exact CC);(case hv=>rfl);(case hc=>exact V3);(case hd=>exact rfl));intro w9 h9;with_reducible exact zq9.out w9 h9):p:=h ⟨k⟩
theorem ce{T q:World→Prop}(k:∀w,T w→q w)(h:Jr T q→p:=by intro zq9;(with_reducible refine Ak _ (.store 197 _ _) ?_);(refine Ad ?_;apply Cb hS 197 _ _ rfl _ rfl 3 (AO rfl) _ _;(case hp=>exact AK);(case hy=>rfl);(case hn=>rfl);(case hn'=>rfl);(case hv=>rfl);(case hd=>exact rfl));intro w9 h9;with_reducible exact zq9.out w9 h9):p:=h ⟨k⟩
theorem cg{T q:World→Prop}(k:∀w,T w→q w)(h:Jr T q→p:=by intro zq9;(with_reducible refine Ak _ (.store 203 _ _) ?_);(refine Ad ?_;apply Cb hS 203 _ _ rfl _ rfl 9 (AO rfl) _ _;(case hp=>exact AK);(case hy=>rfl);(case hn=>rfl);(case hn'=>rfl);(case hv=>rfl);(case hd=>exact rfl));intro w9 h9;with_reducible exact zq9.out w9 h9):p:=h ⟨k⟩
theorem ch{T q:World→Prop}(k:∀w,T w→q w)(h:Jr T q→p:=by intro zq9;(with_reducible refine Ak _ (.store 3 _ _) ?_);(refine Ad ?_;apply KH hS 3 _ _ rfl _ _ rfl (AI rfl) _ _ _ _ _;(case hp=>exact AK);(case hy=>rfl);(case hi=>omega);(case hd=>exact rfl));intro w9 h9;with_reducible exact zq9.out w9 h9):p:=h ⟨k⟩
theorem cr{T q:World→Prop}(k:∀w,T w→q w)(h:Jr T q→p:=by intro zq9;(with_reducible refine Ak _ (.store 3 _ _) ?_);(refine Ad ?_;apply SS hS 3 _ _ rfl _ _ rfl (AI rfl) _ _;(case hp=>exact AK);(case hy=>rfl);(case hi=>(repeat (first|(apply Kx.head;(case hn=>exact DW);(case h=>omega))|(apply Kx.skipI;(case hn=>exact DW);(case h=>omega);(case ho=>rfl))|apply Kx.skipV)));(case hd=>exact rfl));intro w9 h9;with_reducible exact zq9.out w9 h9):p:=h ⟨k⟩
theorem ct{T q:World→Prop}(k:∀w,T w→q w)(h:Jr T q→p:=by intro zq9;(with_reducible refine Ak _ (.store 35 _ _) ?_);(refine Ad ?_;apply IJ hS 35 _ _ rfl _ _ rfl (AI rfl) _ _;(case hp=>exact AK);(case hy=>exact CC);(case hz=>rfl);(case hi=>(repeat (first|exact IP.head|(apply IP.skipI;(case hn=>exact DW);(case h=>omega);(case ho=>rfl))|apply IP.skipV)));(case hd=>exact rfl));intro w9 h9;with_reducible exact zq9.out w9 h9):p:=h ⟨k⟩
theorem cu(k:q)(h:Au q→p:=by intro zq9;(with_reducible refine Ak _ (.call ⟨.builtin .len,_,_⟩) ?_);(refine Ap AA (V.len Tryz.underlying141 rfl) ?_);go_step;with_reducible exact zq9.out):p:=h ⟨k⟩
theorem cw(k:q)(h:Au q→p:=by intro zq9;(with_reducible refine Ak _ (.fieldAddr 119 _ 0) ?_);(refine Ap AA (V.fieldAddr aG rfl BK) ?_);go_step;with_reducible exact zq9.out):p:=h ⟨k⟩
theorem cx(k:q)(h:Au q→p:=by intro zq9;(with_reducible refine Ak _ (.fieldAddr 94 _ 0) ?_);(refine Ap AA (V.fieldAddr OD rfl BK) ?_);go_step;with_reducible exact zq9.out):p:=h ⟨k⟩
theorem cy(k:q)(h:Au q→p:=by intro zq9;(with_reducible refine Ak _ (.fieldAddr 94 _ 1) ?_);(refine Ap AA (V.fieldAddr OE rfl BK) ?_);go_step;with_reducible exact zq9.out):p:=h ⟨k⟩
theorem cz(k:q)(h:Au q→p:=by intro zq9;(with_reducible refine Ak _ (.load 3 _) ?_);(refine Ad ?_;apply BZ hS 3 _ rfl _ _ rfl (AI rfl) _ _;(case hp=>exact AK);(case hi=>omega);refine AC ?_);go_step;with_reducible exact zq9.out):p:=h ⟨k⟩
theorem dA(k:q)(h:Au q→p:=by intro zq9;(with_reducible refine Ak _ (.load 30 _) ?_);(refine Ad ?_;apply AZ hS 30 _ rfl _ _ rfl (AI rfl) _;(case hp=>exact AK);(case hc=>rfl);refine AC ?_);go_step;with_reducible exact zq9.out):p:=h ⟨k⟩
theorem dB(k:q)(h:Au q→p:=by intro zq9;(with_reducible refine Ak _ (.load 35 _) ?_);(refine Ad ?_;apply AZ hS 35 _ rfl _ _ rfl (AI rfl) _;(case hp=>exact AK);(case hc=>rfl);refine AC ?_);go_step;with_reducible exact zq9.out):p:=h ⟨k⟩
theorem dC(n:Nat)(k:q)(h:Au q→By n p:=by intro zq9;(with_reducible refine Bz ?_);(refine Ad ?_;apply MJ (enc:=ik) hS 165 _ _ rfl _ rfl _ rfl Tryz.underlying165 (CR Tryz.underlying3) (.int .i64 0) (fun w=>Tryz.zeroValue3 w) _;(case hp=>exact AK);(case hf=>with_reducible assumption);refine AC ?_);go_step;with_reducible exact zq9.out):p:=h ⟨k⟩
theorem dD(n:Nat)(k:q)(h:Au q→By n p:=by intro zq9;(with_reducible refine Bz ?_);(refine Ag (.int _ (((2*z+y:Nat):Int))) (V.as (V.addI rfl rfl (by omega)) (by omega)) (by kernel_rfl) ?_);go_step;with_reducible exact zq9.out):p:=h ⟨k⟩
theorem dE(n:Nat)(k:q)(h:Au q→By n p:=by intro zq9;(with_reducible refine Bz ?_);(refine Ag (.int _ (((2*z:Nat):Int))) (V.as (V.shlI rfl rfl BJ (by omega) (by omega)) (by omega)) (by kernel_rfl) ?_);go_step;with_reducible exact zq9.out):p:=h ⟨k⟩
theorem dF(n:Nat)(k:q)(h:Au q→By n p:=by intro zq9;(with_reducible refine Bz ?_);(refine Ag (.int _ (((Lf%8:Nat):Int))) (V.as (V.rem rfl rfl (by omega) (by omega)) (by omega)) (by kernel_rfl) ?_);go_step;with_reducible exact zq9.out):p:=h ⟨k⟩
theorem dG(n:Nat)(k:q)(h:Au q→By n p:=by intro zq9;(with_reducible refine Bz ?_);(refine Ag (.int _ (((a+s:Nat):Int))) (V.as (V.addI rfl rfl (by omega)) (by omega)) (by kernel_rfl) ?_);go_step;with_reducible exact zq9.out):p:=h ⟨k⟩
theorem dH(n:Nat)(k:q)(h:Au q→By n p:=by intro zq9;(with_reducible refine Bz ?_);(refine Ag (.int _ (((k:Int)%16))) (V.as (V.and rfl rfl) (by exact HAnd.out)) (by kernel_rfl) ?_);go_step;with_reducible exact zq9.out):p:=h ⟨k⟩
theorem dI(n:Nat)(k:q)(h:Au q→By n p:=by intro zq9;(with_reducible refine Bz ?_);(refine Ag (.int _ (((k:Nat):Int))) (V.as (V.and rfl rfl) (by rw [HAnd.out];exact hk1.out)) (by kernel_rfl) ?_);go_step;with_reducible exact zq9.out):p:=h ⟨k⟩
theorem dJ(n:Nat)(k:q)(h:Au q→By n p:=by intro zq9;(with_reducible refine Bz ?_);(refine Ag (.int _ (((s+1:Nat):Int))) (V.as (V.addI rfl rfl (by omega)) (by omega)) (by kernel_rfl) ?_);go_step;with_reducible exact zq9.out):p:=h ⟨k⟩
theorem dK(n:Nat)(k:q)(h:Au q→By n p:=by intro zq9;(with_reducible refine Bz ?_);(refine Ag (.int _ (((x:Nat):Int))) (V.as (V.subI rfl rfl (by omega)) (by omega)) (by kernel_rfl) ?_);go_step;with_reducible exact zq9.out):p:=h ⟨k⟩
theorem dL(n:Nat)(k:q)(h:Au q→By n p:=by intro zq9;(with_reducible refine Bz ?_);(refine Ag (.int _ (0)) (V.as (V.subI rfl rfl (by omega)) (by omega)) (by kernel_rfl) ?_);go_step;with_reducible exact zq9.out):p:=h ⟨k⟩
theorem dM(n:Nat)(k:q)(h:Au q→By n p:=by intro zq9;(with_reducible refine Bz ?_);(refine Ap AA (V.build (vs:=[(0,_),(1,_),(2,_),(3,_),(4,_),(5,_),(6,_),(7,_),(8,_)]) rfl (FI _ _ _ _ _ _ _ _ _)) ?_);go_step;with_reducible exact zq9.out):p:=h ⟨k⟩
theorem dN(n:Nat)(k:q)(h:Au q→By n p:=by intro zq9;(with_reducible refine Bz ?_);(refine Ap AA (V.indexAr Tryz.underlying26 EA rfl rfl (show Bh 0 0 from rfl) (by omega) (show 0*1=0 from rfl) BK) ?_);go_step;with_reducible exact zq9.out):p:=h ⟨k⟩
theorem fF(n:Nat){T q:Nat→World→Prop}(k:∀g w,T g w→q g w)(h:Hl T q→By n p:=by intro zq9;(with_reducible refine Bz ?_);(refine Ad ?_;apply DQ (o:=⟨some _,_,_,_,_,_⟩) hS 30 1 _ rfl 3 1 8 Mb _ _;(case hvs=>(repeat (first|exact AW.nil|(apply AW.agg;(rfl);(rfl))|(apply AW.one;exact CC;(rfl);(rfl)))));(case hn=>rfl);(case hn0=>decide);(case hns=>decide));intro g w9 h9;refine AC ?_;go_step;with_reducible exact zq9.out g w9 h9):p:=h ⟨k⟩
theorem fG(n:Nat){T q:Nat→World→Prop}(k:∀g w,T g w→q g w)(h:Hl T q→By n p:=by intro zq9;(with_reducible refine Bz ?_);(refine Ad ?_;apply Kt (o:=⟨some _,_,_,_,_,_⟩) hS 30 _ _ rfl _ _ _ _ Wr _ _ _ _ _ _ rfl rfl;(case hi=>exact BJ);(case hj=>exact BJ);(case hnm=>omega);(case hb=>omega);(case h63=>unfold maxLen;omega));intro g w9 h9;refine AC ?_;go_step;with_reducible exact zq9.out g w9 h9):p:=h ⟨k⟩
theorem fH{T q:World→Prop}(k:∀w,T w→q w)(h:Jr T q→p:=by intro zq9;(with_reducible refine Ak _ (.mapUpdate 165 _ _ _) ?_);(refine Ad ?_;apply EK (enc:=ik) hS 165 _ _ _ rfl _ rfl _ rfl Tryz.underlying165 (CR Tryz.underlying3) _;(case hp=>exact AK);(case hv=>(first|exact DU.int rfl|exact DU.bool rfl|exact DU.slice rfl|exact DU.pointer rfl|exact DU.string rfl|exact DU.map rfl|exact DU.func rfl|exact DU.agg rfl));(case hd=>exact rfl));intro w9 h9;with_reducible exact zq9.out w9 h9):p:=h ⟨k⟩
theorem fI{T q:World→Prop}(k:∀w,T w→q w)(h:Jr T q→p:=by intro zq9;(with_reducible refine Ak _ (.mapUpdate 167 _ _ _) ?_);(refine Ad ?_;apply EK (enc:=ik) hS 167 _ _ _ rfl _ rfl _ rfl Tryz.underlying167 (CR Tryz.underlying3) _;(case hp=>exact AK);(case hv=>(first|exact DU.int rfl|exact DU.bool rfl|exact DU.slice rfl|exact DU.pointer rfl|exact DU.string rfl|exact DU.map rfl|exact DU.func rfl|exact DU.agg rfl));(case hd=>exact rfl));intro w9 h9;with_reducible exact zq9.out w9 h9):p:=h ⟨k⟩
theorem fJ{T q:World→Prop}(k:∀w,T w→q w)(h:Jr T q→p:=by intro zq9;(with_reducible refine Ak _ (.store 168 _ _) ?_);(refine Ad ?_;apply Bg hS 168 _ _ rfl _ _ rfl (AI rfl) _ _;(case hp=>exact AK);(case hy=>exact CC);(case hv=>rfl);(case hc=>exact V3);(case hd=>exact rfl));intro w9 h9;with_reducible exact zq9.out w9 h9):p:=h ⟨k⟩
theorem fK{T q:World→Prop}(k:∀w,T w→q w)(h:Jr T q→p:=by intro zq9;(with_reducible refine Ak _ (.store 22 _ _) ?_);(refine Ad ?_;apply Bg hS 22 _ _ rfl _ _ rfl (AI rfl) _ _;(case hp=>exact AK);(case hy=>exact CC);(case hv=>rfl);(case hc=>exact V3);(case hd=>exact rfl));intro w9 h9;with_reducible exact zq9.out w9 h9):p:=h ⟨k⟩
theorem fL(n:Nat){T q:Nat→World→Prop}(k:∀g w,T g w→q g w)(h:Hl T q→By n p:=by intro zq9;(with_reducible refine Bz ?_);(refine Ad ?_;apply DQ (o:=⟨some _,_,_,_,_,_⟩) hS 141 1 _ rfl 155 3 24 Wq _ _;(case hvs=>(repeat (first|exact AW.nil|(apply AW.agg;(rfl);(rfl))|(apply AW.one;exact CC;(rfl);(rfl)))));(case hn=>rfl);(case hn0=>decide);(case hns=>decide));intro g w9 h9;simp only [List.cons_append,List.nil_append] at h9;refine AC ?_;go_step;with_reducible exact zq9.out g w9 h9):p:=h ⟨k⟩
theorem fM(k:q)(h:Au q→p:=by intro zq9;(with_reducible refine Ak _ (.load 140 _) ?_);(refine Ad ?_;apply D7 hS 140 _ rfl _ rfl 2 (AO rfl) _;(case hp=>exact AK);(case hn=>rfl);refine AC ?_);go_step;with_reducible exact zq9.out):p:=h ⟨k⟩
theorem fO(k:q)(h:Au q→p:=by intro zq9;(with_reducible refine Ak _ (.load 155 _) ?_);(first|(refine Ad ?_;apply IG hS 155 _ rfl _ _ rfl 3 (AO rfl) _ _ _ _ _;(case hp=>exact AK);(case hi=>omega);(case hl'=>with_reducible assumption);refine AC ?_)|(refine Ad ?_;apply D7 hS 155 _ rfl _ rfl 3 (AO rfl) _;(case hp=>exact AK);(case hn=>rfl);refine AC ?_));go_step;with_reducible exact zq9.out):p:=h ⟨k⟩
theorem fP(k:q)(h:Au q→p:=by intro zq9;(with_reducible refine Ak _ (.load 168 _) ?_);(refine Ad ?_;apply AZ hS 168 _ rfl _ _ rfl (AI rfl) _;(case hp=>exact AK);(case hc=>rfl);refine AC ?_);go_step;with_reducible exact zq9.out):p:=h ⟨k⟩
theorem fQ(k:q)(h:Au q→p:=by intro zq9;(with_reducible refine Ak _ (.load 172 _) ?_);(refine Ad ?_;apply Aj hS 172 _ rfl _ rfl (AI rfl) _;(case hc=>with_reducible assumption);refine AC ?_);go_step;with_reducible exact zq9.out):p:=h ⟨k⟩
theorem fR(k:q)(h:Au q→p:=by intro zq9;(with_reducible refine Ak _ (.load 199 _) ?_);(refine Ad ?_;apply AZ hS 199 _ rfl _ _ rfl (AI rfl) _;(case hp=>exact AK);(case hc=>rfl);refine AC ?_);go_step;with_reducible exact zq9.out):p:=h ⟨k⟩
theorem fS(k:q)(h:Au q→p:=by intro zq9;(with_reducible refine Ak _ (.load 200 _) ?_);(refine Ad ?_;apply AZ hS 200 _ rfl _ _ rfl (AI rfl) _;(case hp=>exact AK);(case hc=>rfl);refine AC ?_);go_step;with_reducible exact zq9.out):p:=h ⟨k⟩
theorem fT(k:q)(h:Au q→p:=by intro zq9;(with_reducible refine Ak _ (.load 3 _) ?_);(first|(refine Ad ?_;apply IF hS 3 _ rfl _ _ rfl (AI rfl) _ _ _ _ _;(case hp=>exact AK);(case hi=>omega);refine AC ?_)|(refine Ad ?_;apply AZ hS 3 _ rfl _ _ rfl (AI rfl) _;(case hp=>exact AK);(case hc=>rfl);refine AC ?_));go_step;with_reducible exact zq9.out):p:=h ⟨k⟩
theorem fU(k:q)(h:Au q→p:=by intro zq9;(with_reducible refine Ak _ (.load 3 _) ?_);(refine Ad ?_;apply IF hS 3 _ rfl _ _ rfl (AI rfl) _ _ _ _ _;(case hp=>exact AK);(case hi=>omega);refine AC ?_);go_step;with_reducible exact zq9.out):p:=h ⟨k⟩
theorem fV(n:Nat)(k:q)(h:Au q→By n p:=by intro zq9;(with_reducible refine Bz ?_);(refine Ad ?_;apply MI (enc:=ik) hS 165 _ _ rfl _ rfl _ rfl Tryz.underlying165 (CR Tryz.underlying3) (.int .i64 0) (fun w=>Tryz.zeroValue3 w) _;(case hp=>exact AK);(case hf=>with_reducible assumption);refine AC ?_);go_step;with_reducible exact zq9.out):p:=h ⟨k⟩
theorem fW(n:Nat)(k:q)(h:Au q→By n p:=by intro zq9;(with_reducible refine Bz ?_);(refine Ag (.func (.func 101) #[] #[.pointer (some ⟨g5,0,none⟩), .pointer (some ⟨g6,0,none⟩)]) (V.makeFunc rfl) AA ?_);go_step;with_reducible exact zq9.out):p:=h ⟨k⟩
theorem fX(n:Nat)(k:q)(h:Au q→By n p:=by intro zq9;(with_reducible refine Bz ?_);(refine Ag (.func (.func 108) #[] #[.pointer (some ⟨g6,0,none⟩), .pointer (some ⟨g8,0,none⟩)]) (V.makeFunc rfl) AA ?_);go_step;with_reducible exact zq9.out):p:=h ⟨k⟩
theorem fY(n:Nat)(k:q)(h:Au q→By n p:=by intro zq9;(with_reducible refine Bz ?_);(refine Ag (.iface 140 (.agg #[.pointer (some ⟨gc,0,none⟩), .pointer (some ⟨gr,0,none⟩)])) (V.mkIf rfl (fun w=>by kernel_rfl)) AA ?_);go_step;with_reducible exact zq9.out):p:=h ⟨k⟩
end
end Go.Proofs.YtohacgmhmbijmaaGreatDoor
namespace Go.Proofs.YtohacgmhmbijmaaGreatDoor
attribute [local irreducible] Region.wanted
set_option linter.unusedVariables false
set_option maxRecDepth 100000
set_option maxHeartbeats 8000000
theorem Hb:(Tryz.prog.info? 30).map (·.size)=some 1:=by kernel_rfl
theorem Rb:AS Tryz.prog 24 0 0 3:=AS.mk' _ _ 1 Tryz.underlying24 rfl rfl rfl AA (by decide)
theorem Rc:AS Tryz.prog 24 1 1 3:=AS.mk' _ _ 1 Tryz.underlying24 rfl rfl rfl AA (by decide)
theorem Rd:AS Tryz.prog 24 2 2 22:=AS.mk' _ _ 1 Tryz.underlying24 rfl rfl rfl AA (by decide)
theorem EA:(Tryz.prog.info? 3).map (·.size)=some 1:=by kernel_rfl
theorem Re:AS Tryz.prog 32 0 0 29:=AS.mk' _ _ 16 Tryz.underlying32 rfl rfl rfl AA (by decide)
theorem LN:AS Tryz.prog 32 1 16 30:=AS.mk' _ _ 1 Tryz.underlying32 rfl rfl rfl AA (by decide)
theorem Ww:AS Tryz.prog 34 0 0 32:=AS.mk' _ _ 17 Tryz.underlying34 rfl rfl rfl AA (by decide)
theorem Wx:AS Tryz.prog 34 1 17 32:=AS.mk' _ _ 17 Tryz.underlying34 rfl rfl rfl AA (by decide)
theorem U5:(Tryz.prog.info? 5).map (·.size)=some 1:=by kernel_rfl
theorem Rf:AS Tryz.prog 37 0 0 3:=AS.mk' _ _ 1 Tryz.underlying37 rfl rfl rfl AA (by decide)
theorem Rh:AS Tryz.prog 37 1 1 3:=AS.mk' _ _ 1 Tryz.underlying37 rfl rfl rfl AA (by decide)
theorem Wy:AS Tryz.prog 37 2 2 3:=AS.mk' _ _ 1 Tryz.underlying37 rfl rfl rfl AA (by decide)
theorem Wz:AS Tryz.prog 37 3 3 26:=AS.mk' _ _ 64 Tryz.underlying37 rfl rfl rfl AA (by decide)
theorem LO:AS Tryz.prog 37 4 67 34:=AS.mk' _ _ 34 Tryz.underlying37 rfl rfl rfl AA (by decide)
theorem LP:AS Tryz.prog 37 5 101 3:=AS.mk' _ _ 1 Tryz.underlying37 rfl rfl rfl AA (by decide)
theorem LQ:AS Tryz.prog 37 6 102 35:=AS.mk' _ _ 1 Tryz.underlying37 rfl rfl rfl AA (by decide)
theorem Id:(Tryz.prog.info? 26).map (·.size)=some 64:=by kernel_rfl
theorem cB:(Tryz.prog.info? 35).map (·.size)=some 1:=by kernel_rfl
theorem fw:(Tryz.prog.info? 94).map (·.size)=some 2:=by kernel_rfl
theorem OD:AS Tryz.prog 94 0 0 3:=AS.mk' _ _ 1 Tryz.underlying94 rfl rfl rfl AA (by decide)
theorem OE:AS Tryz.prog 94 1 1 3:=AS.mk' _ _ 1 Tryz.underlying94 rfl rfl rfl AA (by decide)
theorem TB:AS Tryz.prog 107 0 0 3:=AS.mk' _ _ 1 Tryz.underlying107 rfl rfl rfl AA (by decide)
theorem TC:AS Tryz.prog 107 1 1 3:=AS.mk' _ _ 1 Tryz.underlying107 rfl rfl rfl AA (by decide)
theorem fu:(Tryz.prog.info? 32).map (·.size)=some 17:=by kernel_rfl
theorem aG:AS Tryz.prog 119 0 0 35:=AS.mk' _ _ 1 Tryz.underlying119 rfl rfl rfl AA (by decide)
theorem aH:AS Tryz.prog 119 1 1 4:=AS.mk' _ _ 1 Tryz.underlying119 rfl rfl rfl AA (by decide)
theorem Kf:AS Tryz.prog 140 0 0 133:=AS.mk' _ _ 1 Tryz.underlying140 rfl rfl rfl AA (by decide)
theorem IZ:AS Tryz.prog 140 1 1 137:=AS.mk' _ _ 1 Tryz.underlying140 rfl rfl rfl AA (by decide)
theorem OG:(Tryz.prog.info? 155).map (·.size)=some 3:=by kernel_rfl
theorem Kg:AS Tryz.prog 155 0 0 3:=AS.mk' _ _ 1 Tryz.underlying155 rfl rfl rfl AA (by decide)
theorem N8:AS Tryz.prog 155 1 1 3:=AS.mk' _ _ 1 Tryz.underlying155 rfl rfl rfl AA (by decide)
theorem TD:AS Tryz.prog 155 2 2 3:=AS.mk' _ _ 1 Tryz.underlying155 rfl rfl rfl AA (by decide)
theorem N9:AS Tryz.prog 159 0 0 3:=AS.mk' _ _ 1 Tryz.underlying159 rfl rfl rfl AA (by decide)
theorem OA:AS Tryz.prog 159 1 1 30:=AS.mk' _ _ 1 Tryz.underlying159 rfl rfl rfl AA (by decide)
theorem Rj:(Tryz.prog.info? 159).map (·.size)=some 2:=by kernel_rfl
theorem aI:AS Tryz.prog 181 0 0 172:=AS.mk' _ _ 1 Tryz.underlying181 rfl rfl rfl AA (by decide)
theorem aJ:AS Tryz.prog 181 1 1 172:=AS.mk' _ _ 1 Tryz.underlying181 rfl rfl rfl AA (by decide)
theorem TE:AS Tryz.prog 184 0 0 35:=AS.mk' _ _ 1 Tryz.underlying184 rfl rfl rfl AA (by decide)
theorem Kh:AS Tryz.prog 184 1 1 3:=AS.mk' _ _ 1 Tryz.underlying184 rfl rfl rfl AA (by decide)
theorem TF:AS Tryz.prog 197 0 0 3:=AS.mk' _ _ 1 Tryz.underlying197 rfl rfl rfl AA (by decide)
theorem TG:AS Tryz.prog 197 1 1 3:=AS.mk' _ _ 1 Tryz.underlying197 rfl rfl rfl AA (by decide)
theorem TH:AS Tryz.prog 197 2 2 3:=AS.mk' _ _ 1 Tryz.underlying197 rfl rfl rfl AA (by decide)
theorem OB:AS Tryz.prog 202 0 0 199:=AS.mk' _ _ 1 Tryz.underlying202 rfl rfl rfl AA (by decide)
theorem OC:AS Tryz.prog 202 1 1 200:=AS.mk' _ _ 1 Tryz.underlying202 rfl rfl rfl AA (by decide)
theorem dx:(Tryz.prog.info? 197).map (·.size)=some 3:=by kernel_rfl
end Go.Proofs.YtohacgmhmbijmaaGreatDoor
