/- What the laws FrameAlone FrameGray FrameNear FrameFlat TopScale TopMirror need, part 2. -/
import Derived.Test.YtohacgmhmbijmaaGreatDoorBaseNZ1
namespace Go.Proofs.YtohacgmhmbijmaaGreatDoor
open Go.RowKit
set_option linter.unusedVariables false
set_option maxRecDepth 100000
set_option maxHeartbeats 8000000
def D3(P:Program)(op:Op)(ty:TypeId)(a:Act)(v:Value):Prop:=
 ∀(d:Option Tmp)(pos:String)(af:Array Edge)(g:Option (Nat×Bool))(w:World),(execOp a.eval ⟨d,op,ty,pos,af,g⟩).run P w= .ok (.value v) w
section
variable{P:Program}{ops:Array Oper}{Q:Exit→Act→World→Prop}{rest:List Oper}{a:Act}{w:World}{d:Option Tmp}{op:Op}{ty:TypeId}{pos:String}{af:Array Edge}{g:Option (Nat×Bool)}
theorem Jt(v:Value)(K:Act→World→Prop)(h:K (a.put d v) w):(Oper.mk d (.move (.const v)) ty pos af g).wp P a w K Q:=h
theorem Af(v:Value)(hv:D3 P op ty a v)(hw:Region.wanted ⟨d,op,ty,pos,af,g⟩ (yielded ops a.tmps)=true)(h:(Oper.mk d (.move (.const v)) ty pos af g).wp P a w (wpList P ops Q rest) Q):wpList P ops Q (⟨d,op,ty,pos,af,g⟩::rest) a w:=by
 refine BF hw ?_
 unfold Oper.wp
 rw [hv d pos af g w]
 exact h
theorem i5(b:Bool)(hv:D3 P op ty a (.bool b))(hw:Region.wanted ⟨d,op,ty,pos,af,g⟩ (yielded ops a.tmps)=true)(ht:b=true→(Oper.mk d (.move (.const (.bool true))) ty pos af g).wp P a w (wpList P ops Q rest) Q)
 (hf:b=false→(Oper.mk d (.move (.const (.bool false))) ty pos af g).wp P a w (wpList P ops Q rest) Q):wpList P ops Q (⟨d,op,ty,pos,af,g⟩::rest) a w:=by
 cases b
 ·exact Af _ hv hw (hf rfl)
 exact Af _ hv hw (ht rfl)
theorem DL(p:Prop)[Decidable p](hv:D3 P op ty a (.bool (decide p)))(hw:Region.wanted ⟨d,op,ty,pos,af,g⟩ (yielded ops a.tmps)=true)(ht:p→(Oper.mk d (.move (.const (.bool true))) ty pos af g).wp P a w (wpList P ops Q rest) Q)
 (hf:¬p→(Oper.mk d (.move (.const (.bool false))) ty pos af g).wp P a w (wpList P ops Q rest) Q):wpList P ops Q (⟨d,op,ty,pos,af,g⟩::rest) a w:=
 i5 _ hv hw (fun h=>ht (of_decide_eq_true h)) (fun h=>hf (of_decide_eq_false h))
theorem AB{d:Tmp}{v:Value}(h:(Oper.mk (some d) (.move (.const v)) 0 "" #[] none).wp P a w (wpList P ops Q rest) Q):wpList P ops Q rest (a.put (some d) v) w:=h
theorem AI{md:Region.Mode}{D:List Nat}{S:World→Prop}{fuel:Nat}{listed:Array Bool}{d:Tmp}{v:Value}(h:(Oper.mk (some d) (.move (.const v)) 0 "" #[] none).wp P a w (Ac P md ops Q D S fuel listed) Q):Ac P md ops Q D S fuel listed (a.put (some d) v) w:=h
theorem BL{c x y:Operand}(hc:a.eval c= .bool true)(hw:Region.wanted ⟨d, .pick c x y,ty,pos,af,g⟩ (yielded ops a.tmps)=true)(h:(Oper.mk d (.move x) ty pos af g).wp P a w (wpList P ops Q rest) Q):wpList P ops Q (⟨d, .pick c x y,ty,pos,af,g⟩::rest) a w:=by
 refine BF hw ?_
 unfold Oper.wp execOp at*
 simp only [hc,asBool,Sem.run_bind,Sem.run_pure,Result.andThen_ok,if_true] at*
 exact h
theorem BB{c x y:Operand}(hc:a.eval c= .bool false)(hw:Region.wanted ⟨d, .pick c x y,ty,pos,af,g⟩ (yielded ops a.tmps)=true)(h:(Oper.mk d (.move y) ty pos af g).wp P a w (wpList P ops Q rest) Q):wpList P ops Q (⟨d, .pick c x y,ty,pos,af,g⟩::rest) a w:=by
 refine BF hw ?_
 unfold Oper.wp execOp at*
 simp only [hc,asBool,Sem.run_bind,Sem.run_pure,Result.andThen_ok,Bool.false_eq_true,if_false] at*
 exact h
end
def Bw(z:Int)(j:Nat):Prop:=z=(j:Int)
theorem Bw.cast{j:Nat}:Bw (j:Int) j:=rfl
theorem Bw.l0:Bw 0 0:=rfl
theorem Bw.add{x y:Int}{i j:Nat}(h:Bw x i)(k:Bw y j):Bw (x+y) (i+j):=by unfold Bw at*;omega
theorem Bw.mul{x y:Int}{i j:Nat}(h:Bw x i)(k:Bw y j):Bw (x*y) (i*j):=by unfold Bw at*;rw [h,k];push_cast;rfl
theorem Bw.div{x y:Int}{i j:Nat}(h:Bw x i)(k:Bw y j):Bw (x/y) (i/j):=by unfold Bw at*;rw [h,k];push_cast;rfl
theorem Bw.mod{x y:Int}{i j:Nat}(h:Bw x i)(k:Bw y j):Bw (x%y) (i%j):=by unfold Bw at*;rw [h,k];push_cast;rfl
theorem Bw.min{x y:Int}{i j:Nat}(h:Bw x i)(k:Bw y j):Bw (Min.min x y) (Min.min i j):=by unfold Bw at*;omega
theorem Bw.max{x y:Int}{i j:Nat}(h:Bw x i)(k:Bw y j):Bw (Max.max x y) (Max.max i j):=by unfold Bw at*;omega
class Cj(z:Int)(j:outParam Nat):Prop where
 out:Bw z j
instance Cj.cast{j:Nat}:Cj (j:Int) j:=⟨rfl⟩
instance Cj.l0:Cj 0 0:=⟨rfl⟩
instance Cj.l1:Cj 1 1:=⟨rfl⟩
instance Cj.l2:Cj 2 2:=⟨rfl⟩
instance Cj.l3:Cj 3 3:=⟨rfl⟩
instance Cj.l4:Cj 4 4:=⟨rfl⟩
instance Cj.l5:Cj 5 5:=⟨rfl⟩
instance Cj.l6:Cj 6 6:=⟨rfl⟩
instance Cj.l7:Cj 7 7:=⟨rfl⟩
instance Cj.l8:Cj 8 8:=⟨rfl⟩
instance Cj.l256:Cj 256 256:=⟨rfl⟩
instance Cj.add{x y:Int}{i j:Nat}[h:Cj x i][k:Cj y j]:Cj (x+y) (i+j):=⟨h.out.add k.out⟩
instance Cj.mul{x y:Int}{i j:Nat}[h:Cj x i][k:Cj y j]:Cj (x*y) (i*j):=⟨h.out.mul k.out⟩
instance Cj.div{x y:Int}{i j:Nat}[h:Cj x i][k:Cj y j]:Cj (x/y) (i/j):=⟨h.out.div k.out⟩
instance Cj.mod{x y:Int}{i j:Nat}[h:Cj x i][k:Cj y j]:Cj (x%y) (i%j):=⟨h.out.mod k.out⟩
theorem Bw.auto{z:Int}{j:Nat}[h:Cj z j]:Bw z j:=h.out
theorem Bw.sub{x y:Int}{i j:Nat}(h:Bw x i)(k:Bw y j)(l:j≤i):Bw (x-y) (i-j):=by unfold Bw at*;omega
theorem Bw.toNat{x:Int}(h:0≤x):Bw x x.toNat:=by unfold Bw;omega
section
variable{P:Program}{a:Act}{x y z:Operand}{t u ty:TypeId}{m n:Int}{k:IntKind}
theorem V.as{op:Op}{m':Int}(h:D3 P op ty a (.int k m))(e:m=m'):D3 P op ty a (.int k m'):=e▸ h
theorem V.add(hx:a.eval x= .int k m)(hy:a.eval y= .int k n):D3 P (.binOp .add t x y u) ty a (.int k (k.wrap (m+n))):=fun d pos af g w=>by
 simp only [execOp,hx,hy,binOp_add,Op.intArith,eqGuard];rfl
theorem V.sub(hx:a.eval x= .int k m)(hy:a.eval y= .int k n):D3 P (.binOp .sub t x y u) ty a (.int k (k.wrap (m-n))):=fun d pos af g w=>by
 simp only [execOp,hx,hy,binOp_sub,Op.intArith,eqGuard];rfl
theorem V.mul(hx:a.eval x= .int k m)(hy:a.eval y= .int k n):D3 P (.binOp .mul t x y u) ty a (.int k (k.wrap (m*n))):=fun d pos af g w=>by
 simp only [execOp,hx,hy,binOp_mul,Op.intArith,eqGuard];rfl
theorem V.addI(hx:a.eval x= .int .i64 m)(hy:a.eval y= .int .i64 n)(h: -9223372036854775808≤m+n∧m+n≤9223372036854775807):D3 P (.binOp .add t x y u) ty a (.int .i64 (m+n)):=by
 have:=V.add (P:=P) (t:=t) (u:=u) (ty:=ty) hx hy;rwa [IntWalk.i64_in _ h] at this
theorem V.subR(hk:k≠ .i64)(hx:a.eval x= .int k m)(hy:a.eval y= .int k n):D3 P (.binOp .sub t x y u) ty a (.int k (k.wrap (m-n))):=V.sub hx hy
theorem V.subI(hx:a.eval x= .int .i64 m)(hy:a.eval y= .int .i64 n)(h: -9223372036854775808≤m-n∧m-n≤9223372036854775807):D3 P (.binOp .sub t x y u) ty a (.int .i64 (m-n)):=by
 have:=V.sub (P:=P) (t:=t) (u:=u) (ty:=ty) hx hy;rwa [IntWalk.i64_in _ h] at this
theorem V.mulI(hx:a.eval x= .int .i64 m)(hy:a.eval y= .int .i64 n)(h: -9223372036854775808≤m*n∧m*n≤9223372036854775807):D3 P (.binOp .mul t x y u) ty a (.int .i64 (m*n)):=by
 have:=V.mul (P:=P) (t:=t) (u:=u) (ty:=ty) hx hy;rwa [IntWalk.i64_in _ h] at this
theorem V.neg(hx:a.eval x= .int .i64 n)(h: -9223372036854775807≤n∧n≤9223372036854775807):D3 P (.unOp .neg t x) ty a (.int .i64 (-n)):=fun d pos af g w=>by
 have e:Op.unary .neg (.int .i64 n)=pure (.int .i64 (IntKind.i64.wrap (0-n))):=rfl
 simp only [execOp,hx,e,Int.zero_sub,IntWalk.i64_in (-n) (by omega)];rfl
theorem V.quo(hx:a.eval x= .int .i64 m)(hy:a.eval y= .int .i64 n)(h:0≤m∧m≤9223372036854775807)(h2:0<n):D3 P (.binOp .quo t x y u) ty a (.int .i64 (m/n)):=fun d pos af g w=>by
 have e1:m.tdiv n=m/n:=Int.tdiv_eq_ediv_of_nonneg h.1
 have e2:0≤m/n:=Int.ediv_nonneg h.1 (by omega)
 have e3:m/n≤m:=Int.ediv_le_self n h.1
 have hn:n≠0:=by omega
 simp only [execOp,hx,hy,binOp_quo,Op.intDiv,eqGuard,if_neg hn,e1,IntWalk.i64_in (m/n) (by omega)];rfl
theorem V.rem(hx:a.eval x= .int k m)(hy:a.eval y= .int k n)(h:0≤m)(h2:0<n):D3 P (.binOp .rem t x y u) ty a (.int k (m%n)):=fun d pos af g w=>by
 have hn:n≠0:=by omega
 simp only [execOp,hx,hy,binOp_rem,Op.intDiv,eqGuard,if_neg hn,Int.tmod_eq_emod_of_nonneg h];rfl
theorem V.shl{yk:IntKind}{j:Nat}(hx:a.eval x= .int k m)(hy:a.eval y= .int yk n)(hj:Bw n j)(h:j<64)(hk:k.bits=64):D3 P (.binOp .shl t x y u) ty a (.int k (k.wrap (m*2^j))):=fun d pos af g w=>by
 unfold Bw at hj
 have h0:¬n<0:=by omega
 have hm:Min.min n.toNat k.bits=j:=by omega
 simp only [execOp,hx,hy,binOp_shl,Op.shift,eqGuard,if_neg h0,hm];rfl
theorem V.shlI{yk:IntKind}{j:Nat}(hx:a.eval x= .int .i64 m)(hy:a.eval y= .int yk n)(hj:Bw n j)(h:j<64)(h1: -9223372036854775808≤m*2^j∧m*2^j≤9223372036854775807):D3 P (.binOp .shl t x y u) ty a (.int .i64 (m*2^j)):=by
 have:=V.shl (P:=P) (t:=t) (u:=u) (ty:=ty) hx hy hj h rfl;rwa [IntWalk.i64_in _ h1] at this
theorem V.shl1{yk:IntKind}{j:Nat}(hx:a.eval x= .int .i64 1)(hy:a.eval y= .int yk n)(hj:Bw n j)(h:j<63):D3 P (.binOp .shl t x y u) ty a (.int .i64 (2^j)):=by
 have e:(2:Int)^j≤4611686018427387904:=by
  have:=Nat.pow_le_pow_right (n:=2) (by omega) (show j≤62 by omega)
  have h2:(2:Int)^j=((2^j:Nat):Int):=by push_cast;rfl
  omega
 have e0:(0:Int)≤2^j:=Int.pow_nonneg (by omega)
 have:=V.shl (P:=P) (t:=t) (u:=u) (ty:=ty) hx hy hj (by omega) rfl
 rwa [Int.one_mul,IntWalk.i64_in _ (by omega)] at this
theorem V.shr{yk:IntKind}{j:Nat}(hx:a.eval x= .int k m)(hy:a.eval y= .int yk n)(hj:Bw n j)(h:j<64)(hk:k.bits=64):D3 P (.binOp .shr t x y u) ty a (.int k (m/2^j)):=fun d pos af g w=>by
 unfold Bw at hj
 have e:m.fdiv (2^j)=m/2^j:=Int.fdiv_eq_ediv_of_nonneg _ (Int.pow_nonneg (by omega))
 have h0:¬n<0:=by omega
 have hm:Min.min n.toNat k.bits=j:=by omega
 simp only [execOp,hx,hy,binOp_shr,Op.shift,eqGuard,if_neg h0,hm,e];rfl
theorem V.and(hx:a.eval x= .int k m)(hy:a.eval y= .int k n):D3 P (.binOp .and t x y u) ty a (.int k (bits .and k m n)):=fun d pos af g w=>by
 simp only [execOp,hx,hy,binOp_and,intBits_and,eqGuard];rfl
theorem V.or(hx:a.eval x= .int k m)(hy:a.eval y= .int k n):D3 P (.binOp .or t x y u) ty a (.int k (bits .or k m n)):=fun d pos af g w=>by
 simp only [execOp,hx,hy,binOp_or,intBits_or,eqGuard];rfl
theorem V.eql(hx:a.eval x= .int k m)(hy:a.eval y= .int k n):D3 P (.binOp .eql t x y u) ty a (.bool (decide (m=n))):=fun d pos af g w=>by
 simp only [execOp,hx,hy,binOp_eql,eqGuard_at_int];rfl
theorem V.neq(hx:a.eval x= .int k m)(hy:a.eval y= .int k n):D3 P (.binOp .neq t x y u) ty a (.bool (decide (m≠n))):=fun d pos af g w=>by
 simp only [execOp,hx,hy,binOp_neq,eqGuard_at_int,ne_eq,decide_not];rfl
theorem V.lss(hx:a.eval x= .int k m)(hy:a.eval y= .int k n):D3 P (.binOp .lss t x y u) ty a (.bool (decide (m<n))):=fun d pos af g w=>by
 simp only [execOp,hx,hy,binOp_lss,eqGuard];rfl
theorem V.leq(hx:a.eval x= .int k m)(hy:a.eval y= .int k n):D3 P (.binOp .leq t x y u) ty a (.bool (decide (m≤n))):=fun d pos af g w=>by
 simp only [execOp,hx,hy,binOp_leq,eqGuard];rfl
theorem V.gtr(hx:a.eval x= .int k m)(hy:a.eval y= .int k n):D3 P (.binOp .gtr t x y u) ty a (.bool (decide (n<m))):=fun d pos af g w=>by
 simp only [execOp,hx,hy,binOp_gtr,eqGuard];rfl
theorem V.geq(hx:a.eval x= .int k m)(hy:a.eval y= .int k n):D3 P (.binOp .geq t x y u) ty a (.bool (decide (n≤m))):=fun d pos af g w=>by
 simp only [execOp,hx,hy,binOp_geq,eqGuard];rfl
theorem V.not{b:Bool}(hx:a.eval x= .bool b):D3 P (.unOp .not t x) ty a (.bool (!b)):=fun d pos af g w=>by
 simp only [execOp,hx,Op.unary];rfl
theorem V.notD{p:Prop}[Decidable p](hx:a.eval x= .bool (decide p)):D3 P (.unOp .not t x) ty a (.bool (decide (¬p))):=by
 rw [decide_not];exact V.not hx
theorem V.convI{k':IntKind}(hs:(P.underlying t).isSome=true)(hd:P.underlying u=some (.int k'))(hx:a.eval x= .int k m)(h:k'.wrap m=m):D3 P (.convert t u x) ty a (.int k' m):=fun d pos af g w=>by
 have e:P.intKind u=k':=by simp [Program.intKind,hd]
 have e2:=run_convert_int (P:=P) w t u k m hs (by rw [e];exact hd)
 rw [e,h] at e2
 simp only [execOp,hx,Sem.run_bind,e2,Result.andThen_ok,Sem.run_pure]
theorem V.conv{k':IntKind}(hs:(P.underlying t).isSome=true)(hd:P.underlying u=some (.int k'))(hx:a.eval x= .int k m):D3 P (.convert t u x) ty a (.int k' (k'.wrap m)):=fun d pos af g w=>by
 have e:P.intKind u=k':=by simp [Program.intKind,hd]
 have e2:=run_convert_int (P:=P) w t u k m hs (by rw [e];exact hd)
 rw [e] at e2
 simp only [execOp,hx,Sem.run_bind,e2,Result.andThen_ok,Sem.run_pure]
theorem V.extract{vs:List Value}{i:Nat}{v:Value}(hx:a.eval x= .tuple vs.toArray)(hv:vs[i]? =some v):D3 P (.extract x i) ty a v:=fun d pos af g w=>by
 have e:(vs.toArray)[i]? =some v:=by simpa using hv
 simp only [execOp,hx,Instr.extract,e];rfl
theorem V.nilCheck{p:Addr}(hx:a.eval x= .pointer (some p)):D3 P (.nilCheck x) ty a (.pointer (some p)):=fun d pos af g w=>by
 simp only [execOp,hx];rfl
theorem V.len{ad:Option Addr}{n c:Nat}{e:TypeId}(ht:P.underlying t=some (.slice e))(hx:a.eval x= .slice ad n c):D3 P (.call {callee:= .builtin .len,args:=#[x],argTypes:=#[t]}) ty a (.int .i64 n):=fun d pos af g w=>by
 have e:P.elem t=e:=by simp [Program.elem,ht]
 have e2:=run_len_slice (P:=P) w t ty ad n c (by rw [e];exact ht)
 simp only [execOp,resolve,invoke,builtin,Sem.run_bind,Sem.run_pure,Result.andThen_ok,List.map_toArray,List.map_cons,List.map_nil,hx,e2]
 rfl
theorem V.max{ts:Array TypeId}(hx:a.eval x= .int k m)(hy:a.eval y= .int k n):D3 P (.call {callee:= .builtin .max,args:=#[x,y],argTypes:=ts}) ty a (.int k (Max.max m n)):=fun d pos af g w=>by
 simp only [execOp,resolve,invoke,builtin,Sem.run_bind,Sem.run_pure,Result.andThen_ok,List.map_toArray,List.map_cons,List.map_nil,hx,hy,OA]
theorem V.min{ts:Array TypeId}(hx:a.eval x= .int k m)(hy:a.eval y= .int k n):D3 P (.call {callee:= .builtin .min,args:=#[x,y],argTypes:=ts}) ty a (.int k (Min.min m n)):=fun d pos af g w=>by
 simp only [execOp,resolve,invoke,builtin,Sem.run_bind,Sem.run_pure,Result.andThen_ok,List.map_toArray,List.map_cons,List.map_nil,hx,hy,OB]
theorem V.indexSl{b off n c j s js q:Nat}{e:TypeId}{i:Int}(ht:P.underlying t=some (.slice e))(hs:(P.info? e).map (·.size)=some s)(hx:a.eval x= .slice (some ⟨b,off,none⟩) n c)(hy:a.eval y= .int k i)(hj:Bw i j)(hn:j<n)(hjs:j*s=js)(hq:off+js=q):
 D3 P (.indexAddr t x y) ty a (.pointer (some ⟨b,q,none⟩)):=fun d pos af g w=>by
 unfold Bw at hj
 subst hjs
 have e0:P.elem t=e:=by simp [Program.elem,ht]
 have e2:=run_indexAt_slice (P:=P) w t ⟨b,off,none⟩ n c k i (by rw [e0];exact ht)
 rw [if_pos (by omega),e0,Bk w hs,Result.andThen_ok,Addr.add_mid,show i.toNat=j by omega,hq] at e2
 simp only [execOp,hx,hy,Sem.run_bind,e2,Result.andThen_ok,Sem.run_pure]
theorem V.indexAr{b off n j s js q:Nat}{e:TypeId}{i:Int}(ht:P.underlying t=some (.array n e))(hs:(P.info? e).map (·.size)=some s)(hx:a.eval x= .pointer (some ⟨b,off,none⟩))(hy:a.eval y= .int k i)(hj:Bw i j)(hn:j<n)(hjs:j*s=js)(hq:off+js=q):
 D3 P (.indexAddr t x y) ty a (.pointer (some ⟨b,q,none⟩)):=fun d pos af g w=>by
 unfold Bw at hj
 subst hjs
 have e0:P.elem t=e:=by simp [Program.elem,ht]
 have e1:P.arrayLen t=n:=by simp [Program.arrayLen,ht]
 have e2:=run_indexAt_array (P:=P) w t ⟨b,off,none⟩ k i (by rw [e0,e1];exact ht)
 rw [e1,if_pos (by omega),e0,Bk w hs,Result.andThen_ok,Addr.add_mid,show i.toNat=j by omega,hq] at e2
 simp only [execOp,hx,hy,Sem.run_bind,e2,Result.andThen_ok,Sem.run_pure]
theorem V.indexIv{l:List Int}{n j:Nat}{e:TypeId}{i:Int}(ht:P.underlying t=some (.array n e))(he:P.underlying e=some (.int .i64))(hs:(P.info? e).map (·.size)=some 1)(hx:a.eval x= .agg (iv l))(hy:a.eval y= .int k i)(hl:Ae l n)(hj:Bw i j)(hn:j<n):
 D3 P (.index t x y) ty a (.int .i64 (AF l j)):=fun d pos af g w=>by
 unfold Bw at hj
 have e0:P.elem t=e:=by simp [Program.elem,ht]
 have e1:P.arrayLen t=n:=by simp [Program.arrayLen,ht]
 have e3:(isAgg e).run P w= .ok false w:=by simp [isAgg,run_underlying he]
 have e2:=N9 (P:=P) w t (iv l) k i (by rw [e0,e1];exact ht)
 rw [e1,if_pos (by omega),e0,Bk w hs,Result.andThen_ok,show i.toNat=j by omega,Nat.mul_one,F7,e3,Result.andThen_ok,GT l j (by rw [hl.out];exact hn)] at e2
 simp only [execOp,hx,hy,Sem.run_bind,e2,Result.andThen_ok,Sem.run_pure,Bool.false_eq_true,if_false]
end
section
variable{P:Program}{ops:Array Oper}{Q:Exit→Act→World→Prop}{rest:List Oper}{a:Act}{W w:World}{rs:List Au}{d:Option Tmp}{x y:Operand}{t ty:TypeId}{pos:String}{af:Array Edge}{g:Option (Nat×Bool)}{k:IntKind}
theorem Iz{ad:Option Addr}{n c j s:Nat}{cs:List Value}{e:TypeId}{i:Int}(hv:Sl W s (.slice ad n c) n cs)(ht:P.underlying t=some (.slice e))(hs:(P.info? e).map (·.size)=some s)(hx:a.eval x= .slice ad n c)(hy:a.eval y= .int k i)(hj:Bw i j)(hn:j<n)
 (hw:Region.wanted ⟨d, .indexAddr t x y,ty,pos,af,g⟩ (yielded ops a.tmps)=true)
 (h:∀b o,W.rangeAt b o ((cs.drop (j*s)).take s)→(Oper.mk d (.move (.const (.pointer (some ⟨b,o,none⟩)))) ty pos af g).wp P a w (wpList P ops Q rest) Q):wpList P ops Q (⟨d, .indexAddr t x y,ty,pos,af,g⟩::rest) a w:=by
 obtain ⟨hl,a',c',e1,_,_,hor⟩:=hv
 cases e1
 rcases hor with h0|⟨b,off,rfl,hc⟩
 ·omega
 refine Af _ (V.indexSl (q:=off+j*s) ht hs hx hy hj hn rfl rfl) hw (h b _ fun m v hv=>?_)
 rw [List.getElem?_take] at hv
 split at hv
 ·rename_i hm
  rw [List.getElem?_drop] at hv
  have hjs:j*s+s≤n*s:=by have:=Nat.mul_le_mul_right s hn;rw [Nat.succ_mul] at this;exact this
  rw [Nat.add_assoc,hc (j*s+m) (by omega),hv]
 cases hv
theorem FP{ad:Option Addr}{n c j:Nat}{l:List Int}{e:TypeId}{i:Int}(hv:Sl W 1 (.slice ad n c) n (l.map (Value.int .i64)))(ht:P.underlying t=some (.slice e))(hs:(P.info? e).map (·.size)=some 1)(hx:a.eval x= .slice ad n c)(hy:a.eval y= .int k i)(hj:Bw i j)(hn:j<n)
 (hw:Region.wanted ⟨d, .indexAddr t x y,ty,pos,af,g⟩ (yielded ops a.tmps)=true)
 (h:∀b o,W.cell? ⟨b,o,none⟩=some (.int .i64 (AF l j))→(Oper.mk d (.move (.const (.pointer (some ⟨b,o,none⟩)))) ty pos af g).wp P a w (wpList P ops Q rest) Q):wpList P ops Q (⟨d, .indexAddr t x y,ty,pos,af,g⟩::rest) a w:=
 Iz hv ht hs hx hy hj hn hw fun b o hr=>h b o (by
  have hl:l.length=n:=by have:=hv.1;simpa using this
  have:=hr 0 (.int .i64 (AF l j)) (by simp [AF,List.getD,List.getElem?_drop,hl,hn])
  simpa using this)
end
structure AT(P:Program)(s:TypeId)(f:Nat)(fo:Nat)(ft:TypeId):Prop where
 ex:∃fs fl,P.underlying s=some (.struct fs)∧fs[f]? =some fl∧fl.offset=fo∧fl.type=ft
 sz:∃n,(P.info? ft).map (·.size)=some n∧n≠0
section
variable{P:Program}{a:Act}{x:Operand}{t ft ty:TypeId}{f fo:Nat}
theorem AT.mk'(fs:Array Field)(fl:Field)(n:Nat)(h1:P.underlying t=some (.struct fs))(h2:fs[f]? =some fl)(h3:fl.offset=fo)(h4:fl.type=ft)(h5:(P.info? ft).map (·.size)=some n)(h6:n≠0):AT P t f fo ft:=
 ⟨⟨fs,fl,h1,h2,h3,h4⟩,⟨n,h5,h6⟩⟩
theorem V.fieldAddr{b off q:Nat}(hf:AT P t f fo ft)(hx:a.eval x= .pointer (some ⟨b,off,none⟩))(hq:off+fo=q):D3 P (.fieldAddr t x f) ty a (.pointer (some ⟨b,q,none⟩)):=fun d pos af g w=>by
 obtain ⟨⟨fs,fl,h1,h2,rfl,rfl⟩,n,h3,h4⟩:=hf
 simp only [execOp,hx,Instr.fieldAt,Instr.sureAddr,Sem.run_bind,run_underlying h1,Result.andThen_ok,h2,fieldPlace,Bk w h3,Sem.run_pure]
 rw [if_neg h4]
 simp only [Sem.run_pure,Result.andThen_ok,Addr.add_mid,hq]
end
end Go.Proofs.YtohacgmhmbijmaaGreatDoor
/- Short Fh for what the walks say often. -/
namespace Go.Proofs.YtohacgmhmbijmaaGreatDoor
open Go.RowKit
set_option linter.unusedVariables false
set_option maxRecDepth 100000
set_option maxHeartbeats 8000000
theorem AM{r:Au}{rs rs':List Au}(h:AW r rs rs':=by (repeat (first|with_reducible exact AW.head|apply AW.tail))):AW r rs rs':=h
theorem AV{xs rs:List Au}(h:QK xs rs:=by (repeat (first|exact QK.nil|with_reducible exact QK.refl|(apply QK.cons;(case p=>(repeat (first|with_reducible exact AW.head|apply AW.tail))))|apply QK.skip))):QK xs rs:=h
theorem BJ{z:Int}{j:Nat}(h:Bw z j:=by (repeat (first|exact Bw.auto|with_reducible apply Bw.add|with_reducible apply Bw.sub|with_reducible apply Bw.mul|with_reducible apply Bw.div|with_reducible apply Bw.mod|with_reducible apply Bw.min|with_reducible apply Bw.max|(with_reducible show (_:Nat)≤_;omega)|exact Bw.toNat (by omega)))):Bw z j:=h
theorem CK{x v:Value}(h:D0 x v:=by (first|exact D0.int rfl|exact D0.bool rfl|exact D0.slice rfl|exact D0.pointer rfl|exact D0.string rfl|exact D0.map rfl|exact D0.func rfl)):D0 x v:=h
theorem Ai{o:Oper}{i:Nat}{l:List Oper}(h:IW o i l:=by (repeat (first|with_reducible exact IW.head|apply IW.tail))):IW o i l:=h
theorem lR{p:Prop}(h:p:=by exact fun _ _ _ _ h=>h):p:=h
theorem B5{p:Prop}(h:p:=by first|exact fun _ _ _ _ h=>h|exact fun _ _ _ _ h=>nomatch h.1):p:=h
theorem AS{p:Prop}(h:False:=by omega):p:=h.elim
theorem LK{p q:Prop}(h:p)(hn:¬p:=by decide):q:=absurd h hn
theorem AA{α:Type _}{a b:α}(h:a=b:=by kernel_rfl):a=b:=h
theorem BT{a b:Nat}(h:a=b:=by first|with_reducible exact Nat.zero_add _|with_reducible exact Nat.add_zero _|exact rfl):a=b:=h
theorem Xc{v:Value}{k:Nat}{cs cs':List Value}(h:E5 v k cs cs':=by (repeat (first|with_reducible exact E5.head|apply E5.tail))):E5 v k cs cs':=h
theorem D6{l:List Int}{n:Nat}(h:Ae l n:=by first|(with_reducible assumption)|exact Ae.rep|exact Ae.set (by with_reducible assumption)|exact Ae.set Ae.rep|exact Ae.set (Ae.set Ae.rep)):Ae l n:=h
structure As(p:Prop):Prop where
 out:p
structure jU(c e p q:Prop):Prop where
 t:c→p
 f:e→q
structure IG(T q:Nat→World→Prop):Prop where
 out:∀g w,T g w→q g w
structure Jv(T q:World→Prop):Prop where
 out:∀w,T w→q w
structure kT(T q:Option Addr→Nat→World→Prop):Prop where
 out:∀a c w,T a c w→q a c w
structure k8(p:Prop):Prop where
structure lA(n:Nat)(p:Prop):Prop where
structure k9(n:Nat)(p:Prop):Prop where
def Bu(_:Nat)(p:Prop):Prop:=p
section
variable{P:Program}{ops:Array Oper}{Q:Exit→Act→World→Prop}{rest:List Oper}{a:Act}{w:World}{d:Option Tmp}{op:Op}{ty:TypeId}{pos:String}{af:Array Edge}{g:Option (Nat×Bool)}{x:Operand}
theorem Ak(d:Option Tmp)(op:Op)(h:wpList P ops Q (⟨d,op,ty,pos,af,g⟩::rest) a w):wpList P ops Q (⟨d,op,ty,pos,af,g⟩::rest) a w:=h
theorem LJ(h:wpList P ops Q (⟨d, .move x,ty,pos,af,g⟩::rest) a w):wpList P ops Q (⟨d, .move x,ty,pos,af,g⟩::rest) a w:=h
theorem lU(h:(Oper.mk d op ty pos af none).wp P a w (wpList P ops Q rest) Q):wpList P ops Q (⟨d,op,ty,pos,af,none⟩::rest) a w:=BF rfl h
theorem T9(h:wpList P ops Q (⟨d, .assign x,ty,pos,af,g⟩::rest) a w):wpList P ops Q (⟨d, .assign x,ty,pos,af,g⟩::rest) a w:=h
theorem Ad{o:Oper}(h:o.wp P a w (wpList P ops Q rest) Q)(hw:Region.wanted o (yielded ops a.tmps)=true:=by kernel_rfl):wpList P ops Q (o::rest) a w:=BF hw h
theorem lQ(n:Nat)(h:wpList P ops Q (⟨some n,op,ty,pos,af,g⟩::rest) a w):wpList P ops Q (⟨some n,op,ty,pos,af,g⟩::rest) a w:=h
theorem Bv{n:Nat}(h:wpList P ops Q (⟨some n,op,ty,pos,af,g⟩::rest) a w):Bu n (wpList P ops Q (⟨some n,op,ty,pos,af,g⟩::rest) a w):=h
theorem lO{o:Oper}:k8 (wpList P ops Q (o::rest) a w):=⟨⟩
theorem lN{n:Nat}:lA n (wpList P ops Q (⟨some n,op,ty,pos,af,g⟩::rest) a w):=⟨⟩
theorem lM{n:Nat}{xs:Array Operand}{ts:Array TypeId}:k9 n (wpList P ops Q (⟨d, .call ⟨.value (.func n),xs,ts⟩,ty,pos,af,g⟩::rest) a w):=⟨⟩
theorem Aq{v:Value}(hw:Region.wanted ⟨d,op,ty,pos,af,g⟩ (yielded ops a.tmps)=true)(hv:D3 P op ty a v)(h:(Oper.mk d (.move (.const v)) ty pos af g).wp P a w (wpList P ops Q rest) Q):wpList P ops Q (⟨d,op,ty,pos,af,g⟩::rest) a w:=Af v hv hw h
theorem Ab{v:Value}{d:Tmp}(h:(Oper.mk (some d) (.move (.const v)) 0 "" #[] none).wp P a w (wpList P ops Q rest) Q):∃v',Ending.returned v= .returned v'∧wpList P ops Q rest (a.put (some d) v') w:=⟨v,rfl,h⟩
theorem Fq{W:World}{rs:List Au}{v:Value}{d:Tmp}(hS:St W w rs)(h:∀w,St W w rs→(Oper.mk (some d) (.move (.const v)) 0 "" #[] none).wp P a w (wpList P ops Q rest) Q):∀e w',(e=Ending.returned v∧Ah w w')→∃v',e= .returned v'∧wpList P ops Q rest (a.put (some d) v') w':=fun _ w' h2=>⟨v,h2.1,h w' (hS.ext h2.2)⟩
theorem An{f:FuncId}{xs:List Operand}{ts:Array TypeId}{R:Ending→World→Prop}(hw:Region.wanted ⟨d, .call ⟨.value (.func f),xs.toArray,ts⟩,ty,pos,af,g⟩ (yielded ops a.tmps)=true)(hcall:∀(args:Array Value)(w:World),(callFunc f args).run P w= .ok (.enter f args) w)(hc:Calls P f (xs.map a.eval).toArray w R)
 (h:∀e w',R e w'→∃v,e= .returned v∧wpList P ops Q rest (a.put d v) w'):wpList P ops Q (⟨d, .call ⟨.value (.func f),xs.toArray,ts⟩,ty,pos,af,g⟩::rest) a w:=AL hcall hw ⟨R,hc,h⟩
end
theorem AG{p:Prop}(k:p)(_:k8 p:=by (fail_if_success with_reducible exact lO);exact ⟨⟩):p:=k
theorem AQ(n:Nat){p:Prop}(k:p)(_:lA n p:=by with_reducible exact lN):p:=k
theorem Am(n:Nat){p:Prop}(k:p)(_:k9 n p:=by with_reducible exact lM):p:=k
section
variable{p q:Prop}
theorem X0(k:q)(h:As q→p:=by intro zq9;(first|(with_reducible refine LJ ?_)|(with_reducible refine T9 ?_));((first|go_big_want|go_step));go_step;go_step;with_reducible exact zq9.out):p:=h ⟨k⟩
theorem X1(k:q)(h:As q→p:=by intro zq9;(with_reducible refine LJ ?_);((first|go_big_want|go_step));go_step;go_step;with_reducible exact zq9.out):p:=h ⟨k⟩
theorem X2(k:q)(h:As q→p:=by intro zq9;(with_reducible refine Ak _ (.binOp .lss _ _ _ _) ?_);(refine Aq AA (V.lss rfl rfl) ?_);go_step;with_reducible exact zq9.out):p:=h ⟨k⟩
theorem X3(n:Nat)(k:q)(h:As q→Bu n p:=by intro zq9;(with_reducible refine Bv ?_);(refine Aq AA (V.extract rfl rfl) ?_);go_step;with_reducible exact zq9.out):p:=h ⟨k⟩
theorem X4(n:Nat)(k:q)(h:As q→Bu n p:=by intro zq9;(with_reducible refine Bv ?_);(refine Aq AA (V.lss rfl rfl) ?_);go_step;with_reducible exact zq9.out):p:=h ⟨k⟩
theorem X5(k:q)(h:As q→p:=by intro zq9;(with_reducible refine Ak _ (.binOp .neq 38 _ _ _) ?_);(refine Aq AA (V.neq rfl rfl) ?_);go_step;with_reducible exact zq9.out):p:=h ⟨k⟩
theorem X6(k:q)(h:As q→p:=by intro zq9;(with_reducible refine Ak _ (.binOp .add _ _ _ _) ?_);(refine Aq AA (V.addI rfl rfl (by omega)) ?_);go_step;with_reducible exact zq9.out):p:=h ⟨k⟩
theorem X7(k:q)(h:As q→p:=by intro zq9;(with_reducible refine Ak _ (.extract _ _) ?_);(refine Aq AA (V.extract rfl rfl) ?_);go_step;with_reducible exact zq9.out):p:=h ⟨k⟩
theorem X8(k:q)(h:As q→p:=by intro zq9;(with_reducible refine T9 ?_);((first|go_big_want|go_step));go_step;go_step;with_reducible exact zq9.out):p:=h ⟨k⟩
theorem X9(n:Nat){c e r:Prop}(k:c→q)(k2:e→r)(h:jU c e q r→Bu n p:=by intro zq9;(with_reducible refine Bv ?_);refine DL _ (V.neq rfl rfl) AA zq9.t zq9.f):p:=h ⟨k,k2⟩
theorem E6(k:q)(h:As q→p:=by intro zq9;(with_reducible refine Ak _ (.load 3 _) ?_);(refine Ad ?_;apply AZ hS 3 _ rfl _ _ rfl (AK rfl) _;(case hp=>exact AM);(case hc=>rfl);refine AB ?_);go_step;with_reducible exact zq9.out):p:=h ⟨k⟩
theorem FT(n:Nat){c e r:Prop}(k:c→q)(k2:e→r)(h:jU c e q r→Bu n p:=by intro zq9;(with_reducible refine Bv ?_);refine DL _ (V.lss rfl rfl) AA zq9.t zq9.f):p:=h ⟨k,k2⟩
theorem Ft{T q:World→Prop}(k:∀w,T w→q w)(h:Jv T q→p:=by intro zq9;(with_reducible refine Ak _ (.store 26 _ _) ?_);(refine Ad ?_;apply EO hS 26 _ _ rfl _ rfl 64 (AN rfl) _ _;(case hp=>exact AM);(case hy=>rfl);(case hm=>(repeat (first|assumption|exact Ae.rep|apply Ae.set|((with_reducible show Ae (_::_) _);exact rfl))));(case hd=>exact rfl));intro w9 h9;with_reducible exact zq9.out w9 h9):p:=h ⟨k⟩
theorem GE(k:q)(h:As q→p:=by intro zq9;(with_reducible refine Ak _ (.pick _ _ _) ?_);(refine BL rfl AA ?_);go_step;with_reducible exact zq9.out):p:=h ⟨k⟩
theorem GH(n:Nat)(k:q)(h:As q→Bu n p:=by intro zq9;(with_reducible refine Bv ?_);(refine Aq AA (V.fieldAddr LZ rfl BT) ?_);go_step;with_reducible exact zq9.out):p:=h ⟨k⟩
theorem Gj(k:q)(h:As q→p:=by intro zq9;(with_reducible refine Ak _ (.pick _ _ _) ?_);(refine BB rfl AA ?_);go_step;with_reducible exact zq9.out):p:=h ⟨k⟩
theorem Gq(n:Nat)(k:q)(h:As q→Bu n p:=by intro zq9;(with_reducible refine Bv ?_);(refine Aq AA (V.neq rfl rfl) ?_);go_step;with_reducible exact zq9.out):p:=h ⟨k⟩
theorem Hp(k:q)(h:As q→p:=by intro zq9;(with_reducible refine Ak _ (.load 26 _) ?_);(refine Ad ?_;apply DW hS 26 _ rfl _ rfl 64 (AN rfl) _;(case hp=>exact AM);refine AB ?_);go_step;with_reducible exact zq9.out):p:=h ⟨k⟩
theorem II(k:q)(h:As q→p:=by intro zq9;(with_reducible refine Ak _ (.binOp .gtr _ _ _ _) ?_);(refine Aq AA (V.gtr rfl rfl) ?_);go_step;with_reducible exact zq9.out):p:=h ⟨k⟩
theorem I0(n:Nat){c e r:Prop}(k:c→q)(k2:e→r)(h:jU c e q r→Bu n p:=by intro zq9;(with_reducible refine Bv ?_);refine DL _ (V.eql rfl rfl) AA zq9.t zq9.f):p:=h ⟨k,k2⟩
theorem Jw{T q:World→Prop}(k:∀w,T w→q w)(h:Jv T q→p:=by intro zq9;(with_reducible refine Ak _ (.store 155 _ _) ?_);(refine Ad ?_;apply Cd hS 155 _ _ rfl _ rfl 3 (AN rfl) _ _;(case hp=>exact AM);(case hy=>rfl);(case hn=>rfl);(case hn'=>rfl);(case hv=>rfl);(case hd=>exact rfl));intro w9 h9;with_reducible exact zq9.out w9 h9):p:=h ⟨k⟩
theorem Jy(n:Nat)(k:q)(h:As q→Bu n p:=by intro zq9;(with_reducible refine Bv ?_);(refine Aq AA (V.fieldAddr PH rfl BT) ?_);go_step;with_reducible exact zq9.out):p:=h ⟨k⟩
theorem KA(n:Nat){T q:Nat→World→Prop}(k:∀g w,T g w→q g w)(h:IG T q→Bu n p:=by intro zq9;(with_reducible refine Bv ?_);(refine Ad ?_;apply CN (o:=⟨some _,_,_,_,_,_⟩) hS 155 rfl (.agg #[.int .i64 0, .int .i64 0, .int .i64 0]) [.int .i64 0, .int .i64 0, .int .i64 0] (fun w=>Tryz.zeroValue155 w) rfl);intro g w9 h9;refine AB ?_;go_step;with_reducible exact zq9.out g w9 h9):p:=h ⟨k⟩
theorem Kk(n:Nat){T q:Nat→World→Prop}(k:∀g w,T g w→q g w)(h:IG T q→Bu n p:=by intro zq9;(with_reducible refine Bv ?_);(refine Ad ?_;apply DJ (o:=⟨some _,_,_,_,_,_⟩) hS 26 rfl (List.replicate 64 0) 64 List.length_replicate QC);intro g w9 h9;refine AB ?_;go_step;with_reducible exact zq9.out g w9 h9):p:=h ⟨k⟩
theorem Kl(k:q)(h:As q→p:=by intro zq9;(with_reducible refine Ak _ (.pick _ _ _) ?_);(first|(refine BL rfl AA ?_)|(refine BB rfl AA ?_));go_step;with_reducible exact zq9.out):p:=h ⟨k⟩
theorem LH(k:q)(h:As q→p:=by intro zq9;(with_reducible refine Ak _ (.binOp .neq 3 _ _ _) ?_);(refine Aq AA (V.neq rfl rfl) ?_);go_step;with_reducible exact zq9.out):p:=h ⟨k⟩
theorem LO(n:Nat){c e r:Prop}(k:c→q)(k2:e→r)(h:jU c e q r→Bu n p:=by intro zq9;(with_reducible refine Bv ?_);refine i5 _ (V.not rfl) AA zq9.t zq9.f):p:=h ⟨k,k2⟩
theorem LP(n:Nat){c e r:Prop}(k:c→q)(k2:e→r)(h:jU c e q r→Bu n p:=by intro zq9;(with_reducible refine Bv ?_);refine DL _ (V.gtr rfl rfl) AA zq9.t zq9.f):p:=h ⟨k,k2⟩
theorem LQ(n:Nat)(k:q)(h:As q→Bu n p:=by intro zq9;(with_reducible refine Bv ?_);(refine Aq AA (V.eql rfl rfl) ?_);go_step;with_reducible exact zq9.out):p:=h ⟨k⟩
theorem LR(n:Nat)(k:q)(h:As q→Bu n p:=by intro zq9;(with_reducible refine Bv ?_);(refine Aq AA (V.len Tryz.underlying30 rfl) ?_);go_step;with_reducible exact zq9.out):p:=h ⟨k⟩
theorem L7(n:Nat){T q:Nat→World→Prop}(k:∀g w,T g w→q g w)(h:IG T q→Bu n p:=by intro zq9;(with_reducible refine Bv ?_);(refine Ad ?_;apply Gc (o:=⟨some _,_,_,_,_,_⟩) hS 26 _ rfl _ 64 rfl;(case hn=>assumption));intro g w9 h9;refine AB ?_;go_step;with_reducible exact zq9.out g w9 h9):p:=h ⟨k⟩
theorem L8(k:q)(h:As q→p:=by intro zq9;(with_reducible refine Ak _ (.load 32 _) ?_);(refine Ad ?_;apply DK hS 32 _ rfl _ _ rfl 17 (AN rfl) _;(case hp=>exact AM);(case hi=>(repeat (first|(apply Hn.head;(repeat (first|exact Bx.nil|(apply Bx.ints;(case hn=>exact D6);(case h=>omega);(case hm=>rfl))|apply Bx.val)))|(apply Hn.skipI;(case hn=>exact D6);(case h=>omega);(case ho=>rfl))|apply Hn.skipV)));refine AB ?_);go_step;with_reducible exact zq9.out):p:=h ⟨k⟩
theorem L9(n:Nat)(k:q)(h:As q→Bu n p:=by intro zq9;(with_reducible refine Bv ?_);(refine Aq AA (V.gtr rfl rfl) ?_);go_step;with_reducible exact zq9.out):p:=h ⟨k⟩
theorem Ns(n:Nat)(k:q)(h:As q→Bu n p:=by intro zq9;(with_reducible refine Bv ?_);(refine Aq AA (V.addI rfl rfl (by omega)) ?_);go_step;with_reducible exact zq9.out):p:=h ⟨k⟩
theorem SC(k:q)(h:As q→p:=by intro zq9;(with_reducible refine Ak _ (.load 30 _) ?_);(refine Ad ?_;apply Aj hS 30 _ rfl _ rfl (AK rfl) _;(case hc=>with_reducible assumption);refine AB ?_);go_step;with_reducible exact zq9.out):p:=h ⟨k⟩
theorem SD(k:q)(h:As q→p:=by intro zq9;(with_reducible refine Ak _ (.load 37 _) ?_);(refine Ad ?_;apply DK hS 37 _ rfl _ _ rfl 103 (AN rfl) _;(case hp=>exact AM);(case hi=>(repeat (first|(apply Hn.head;(repeat (first|exact Bx.nil|(apply Bx.ints;(case hn=>exact D6);(case h=>omega);(case hm=>rfl))|apply Bx.val)))|(apply Hn.skipI;(case hn=>exact D6);(case h=>omega);(case ho=>rfl))|apply Hn.skipV)));refine AB ?_);go_step;with_reducible exact zq9.out):p:=h ⟨k⟩
theorem SE(k:q)(h:As q→p:=by intro zq9;(with_reducible refine Ak _ (.unOp .not _ _) ?_);(refine Aq AA (V.not rfl) ?_);go_step;with_reducible exact zq9.out):p:=h ⟨k⟩
theorem SM(n:Nat){T q:Nat→World→Prop}(k:∀g w,T g w→q g w)(h:IG T q→Bu n p:=by intro zq9;(with_reducible refine Bv ?_);(refine Ad ?_;apply IE (o:=⟨some _,_,_,_,_,_⟩) hS 32 rfl _ k6);intro g w9 h9;refine AB ?_;go_step;with_reducible exact zq9.out g w9 h9):p:=h ⟨k⟩
theorem SN(n:Nat){T q:Nat→World→Prop}(k:∀g w,T g w→q g w)(h:IG T q→Bu n p:=by intro zq9;(with_reducible refine Bv ?_);(refine Ad ?_;apply Js (o:=⟨some _,_,_,_,_,_⟩) hS 34 _ rfl _ rfl);intro g w9 h9;refine AB ?_;go_step;with_reducible exact zq9.out g w9 h9):p:=h ⟨k⟩
theorem SO{T q:World→Prop}(k:∀w,T w→q w)(h:Jv T q→p:=by intro zq9;(with_reducible refine Ak _ (.store 32 _ _) ?_);(refine Ad ?_;apply Ge hS 32 _ _ rfl _ rfl 17 (AN rfl) _ _;(case hp=>exact AM);(case hy=>rfl);(case hn=>(repeat (first|exact Bx.nil|(apply Bx.ints;(case hn=>exact D6);(case h=>omega);(case hm=>rfl))|apply Bx.val)));(case hn'=>(repeat (first|exact Bx.nil|(apply Bx.ints;(case hn=>exact D6);(case h=>omega);(case hm=>rfl))|apply Bx.val)));(case hv=>rfl);(case hd=>exact rfl));intro w9 h9;with_reducible exact zq9.out w9 h9):p:=h ⟨k⟩
theorem SP{T q:World→Prop}(k:∀w,T w→q w)(h:Jv T q→p:=by intro zq9;(with_reducible refine Ak _ (.store 37 _ _) ?_);(refine Ad ?_;apply Ge hS 37 _ _ rfl _ rfl 103 (AN rfl) _ _;(case hp=>exact AM);(case hy=>rfl);(case hn=>(repeat (first|exact Bx.nil|(apply Bx.ints;(case hn=>exact D6);(case h=>omega);(case hm=>rfl))|apply Bx.val)));(case hn'=>(repeat (first|exact Bx.nil|(apply Bx.ints;(case hn=>exact D6);(case h=>omega);(case hm=>rfl))|apply Bx.val)));(case hv=>rfl);(case hd=>exact rfl));intro w9 h9;with_reducible exact zq9.out w9 h9):p:=h ⟨k⟩
theorem SQ(k:q)(h:As q→p:=by intro zq9;(with_reducible refine Ak _ (.load 3 _) ?_);(refine Ad ?_;apply Aj hS 3 _ rfl _ rfl (AK rfl) _;(case hc=>with_reducible assumption);refine AB ?_);go_step;with_reducible exact zq9.out):p:=h ⟨k⟩
theorem Tz(n:Nat){T q:Nat→World→Prop}(k:∀g w,T g w→q g w)(h:IG T q→Bu n p:=by intro zq9;(with_reducible refine Bv ?_);(refine Ad ?_;apply CN (o:=⟨some _,_,_,_,_,_⟩) hS 24 rfl (.agg #[.int .i64 0, .int .i64 0, .slice none 0 0]) [.int .i64 0, .int .i64 0, .slice none 0 0] (fun w=>Tryz.zeroValue24 w) rfl);intro g w9 h9;refine AB ?_;go_step;with_reducible exact zq9.out g w9 h9):p:=h ⟨k⟩
theorem T0(n:Nat){T q:Nat→World→Prop}(k:∀g w,T g w→q g w)(h:IG T q→Bu n p:=by intro zq9;(with_reducible refine Bv ?_);(refine Ad ?_;apply CZ (o:=⟨some _,_,_,_,_,_⟩) hS 24 _ rfl _ rfl);intro g w9 h9;refine AB ?_;go_step;with_reducible exact zq9.out g w9 h9):p:=h ⟨k⟩
theorem T1(n:Nat){T q:Nat→World→Prop}(k:∀g w,T g w→q g w)(h:IG T q→Bu n p:=by intro zq9;(with_reducible refine Bv ?_);(refine Ad ?_;apply Js (o:=⟨some _,_,_,_,_,_⟩) hS 37 _ rfl _ rfl);intro g w9 h9;refine AB ?_;go_step;with_reducible exact zq9.out g w9 h9):p:=h ⟨k⟩
theorem T2{T q:World→Prop}(k:∀w,T w→q w)(h:Jv T q→p:=by intro zq9;(with_reducible refine Ak _ (.store 24 _ _) ?_);(refine Ad ?_;apply Cd hS 24 _ _ rfl _ rfl 3 (AN rfl) _ _;(case hp=>exact AM);(case hy=>rfl);(case hn=>rfl);(case hn'=>rfl);(case hv=>rfl);(case hd=>exact rfl));intro w9 h9;with_reducible exact zq9.out w9 h9):p:=h ⟨k⟩
theorem T3(n:Nat){T q:Nat→World→Prop}(k:∀g w,T g w→q g w)(h:IG T q→Bu n p:=by intro zq9;(with_reducible refine Bv ?_);(refine Ad ?_;apply AU (o:=⟨some _,_,_,_,_,_⟩) hS 141 1 _ rfl 155 3 24 Yo _ _;(case hvs=>(repeat (first|exact AX.nil|(apply AX.agg;(rfl);(rfl))|(apply AX.one;exact CK;(rfl);(rfl)))));(case hn=>rfl);(case hn0=>decide);(case hns=>decide));intro g w9 h9;simp only [List.cons_append,List.nil_append] at h9;refine AB ?_;go_step;with_reducible exact zq9.out g w9 h9):p:=h ⟨k⟩
theorem T4(k:q)(h:As q→p:=by intro zq9;(with_reducible refine Ak _ (.fieldAddr 155 _ 1) ?_);(refine Aq AA (V.fieldAddr PH rfl BT) ?_);go_step;with_reducible exact zq9.out):p:=h ⟨k⟩
theorem T5(k:q)(h:As q→p:=by intro zq9;(with_reducible refine Ak _ (.load 155 _) ?_);(refine Ad ?_;apply CP hS 155 _ rfl _ rfl 3 (AN rfl) _;(case hp=>exact AM);(case hn=>rfl);refine AB ?_);go_step;with_reducible exact zq9.out):p:=h ⟨k⟩
theorem T6(k:q)(h:As q→p:=by intro zq9;(with_reducible refine Ak _ (.load 34 _) ?_);(refine Ad ?_;apply DK hS 34 _ rfl _ _ rfl 34 (AN rfl) _;(case hp=>exact AM);(case hi=>(repeat (first|(apply Hn.head;(repeat (first|exact Bx.nil|(apply Bx.ints;(case hn=>exact D6);(case h=>omega);(case hm=>rfl))|apply Bx.val)))|(apply Hn.skipI;(case hn=>exact D6);(case h=>omega);(case ho=>rfl))|apply Hn.skipV)));refine AB ?_);go_step;with_reducible exact zq9.out):p:=h ⟨k⟩
theorem T7(n:Nat)(k:q)(h:As q→Bu n p:=by intro zq9;(with_reducible refine Bv ?_);(refine Aq AA (V.not rfl) ?_);go_step;with_reducible exact zq9.out):p:=h ⟨k⟩
theorem Vs(k:q)(h:As q→p:=by intro zq9;(with_reducible refine Ak _ (.call ⟨.builtin .len,_,_⟩) ?_);(refine Aq AA (V.len Tryz.underlying30 rfl) ?_);go_step;with_reducible exact zq9.out):p:=h ⟨k⟩
theorem Vt(k:q)(h:As q→p:=by intro zq9;(with_reducible refine Ak _ (.nilCheck _) ?_);(refine Aq AA (V.nilCheck rfl) ?_);go_step;with_reducible exact zq9.out):p:=h ⟨k⟩
theorem Vu(n:Nat)(k:q)(h:As q→Bu n p:=by intro zq9;(with_reducible refine Bv ?_);(refine Aq AA (V.indexSl Tryz.underlying30 Ef rfl rfl BJ (by omega) (Nat.mul_one _) BT) ?_);go_step;with_reducible exact zq9.out):p:=h ⟨k⟩
theorem XX(n:Nat){T q:Nat→World→Prop}(k:∀g w,T g w→q g w)(h:IG T q→Bu n p:=by intro zq9;(with_reducible refine Bv ?_);(refine Ad ?_;apply IE (o:=⟨some _,_,_,_,_,_⟩) hS 37 rfl _ jD);intro g w9 h9;refine AB ?_;go_step;with_reducible exact zq9.out g w9 h9):p:=h ⟨k⟩
theorem XY(k:q)(h:As q→p:=by intro zq9;(with_reducible refine Ak _ (.binOp .eql 3 _ _ _) ?_);(refine Aq AA (V.eql rfl rfl) ?_);go_step;with_reducible exact zq9.out):p:=h ⟨k⟩
theorem XZ(k:q)(h:As q→p:=by intro zq9;(with_reducible refine Ak _ (.load 24 _) ?_);(refine Ad ?_;apply CP hS 24 _ rfl _ rfl 3 (AN rfl) _;(case hp=>exact AM);(case hn=>rfl);refine AB ?_);go_step;with_reducible exact zq9.out):p:=h ⟨k⟩
theorem Xa(n:Nat)(k:q)(h:As q→Bu n p:=by intro zq9;(with_reducible refine Bv ?_);(refine Aq AA (V.fieldAddr Sq rfl BT) ?_);go_step;with_reducible exact zq9.out):p:=h ⟨k⟩
theorem YD(n:Nat){T q:Option Addr→Nat→World→Prop}(k:∀a c w,T a c w→q a c w)(h:kT T q→Bu n p:=by intro zq9;(with_reducible refine Bv ?_);(refine Ad ?_;apply A7 (o:=⟨some _,_,_,_,_,_⟩) hS _ _ 141 rfl 155 3 24 Yo _ _ _ _ rfl;(case hp=>exact AM);(case hx=>exact rfl);(case hm=>(first|exact hS.slBlk AM (by rfl) (by decide)|exact hS.sl AM|with_reducible assumption|exact Sl.ext (by with_reducible assumption) hS.1|exact Sl.nil _ _|exact Sl.ext (by assumption) hS.1|assumption));(case h1=>(first|exact Cx rfl|exact CS _ _|(intro u hu;cases hu)));(case h63=>unfold maxLen;omega);(case hb=>omega));intro a9 c9 w9 h9;(first|simp only [D7] at h9|simp only [D8] at h9|simp only [D9] at h9|simp only [EA] at h9|simp only [EB] at h9|skip);refine AB ?_;go_step;with_reducible exact zq9.out a9 c9 w9 h9):p:=h ⟨k⟩
theorem YE(k:q)(h:As q→p:=by intro zq9;(with_reducible refine Ak _ (.call ⟨.builtin .len,_,_⟩) ?_);(refine Aq AA (V.len Tryz.underlying42 rfl) ?_);go_step;with_reducible exact zq9.out):p:=h ⟨k⟩
theorem YF(k:q)(h:As q→p:=by intro zq9;(with_reducible refine Ak _ (.load 3 _) ?_);(refine Ad ?_;apply Ey hS 3 _ rfl _ _ rfl (AK rfl) _;(case hp=>exact AM);(case hi=>(repeat (first|exact Ki.head|(apply Ki.skipI;(case hn=>exact D6);(case h=>omega);(case ho=>rfl))|apply Ki.skipV)));refine AB ?_);go_step;with_reducible exact zq9.out):p:=h ⟨k⟩
theorem YG(n:Nat)(k:q)(h:As q→Bu n p:=by intro zq9;(with_reducible refine Bv ?_);(refine Aq AA (V.build (vs:=[(0,_),(1,_),(2,_)]) rfl (ST _ _ _ _ _)) ?_);go_step;with_reducible exact zq9.out):p:=h ⟨k⟩
theorem YH(n:Nat)(k:q)(h:As q→Bu n p:=by intro zq9;(with_reducible refine Bv ?_);(refine Aq AA (V.indexSl Tryz.underlying115 kC rfl rfl BJ (by omega) rfl BT) ?_);go_step;with_reducible exact zq9.out):p:=h ⟨k⟩
theorem YI(n:Nat)(k:q)(h:As q→Bu n p:=by intro zq9;(with_reducible refine Bv ?_);(refine Aq AA (V.indexSl Tryz.underlying35 Wf rfl rfl BJ (by omega) (Nat.mul_one _) BT) ?_);go_step;with_reducible exact zq9.out):p:=h ⟨k⟩
theorem YJ(n:Nat)(k:q)(h:As q→Bu n p:=by intro zq9;(with_reducible refine Bv ?_);(refine Aq AA (V.len Tryz.underlying42 rfl) ?_);go_step;with_reducible exact zq9.out):p:=h ⟨k⟩
theorem bQ{T q:World→Prop}(k:∀w,T w→q w)(h:Jv T q→p:=by intro zq9;(with_reducible refine Ak _ (.store 3 _ _) ?_);(first|(refine BF AA (Ix hS 3 _ _ rfl _ _ rfl (AK rfl) _ _ AM _ (by rfl) (by omega) rfl ?_))|(refine BF AA (Bt hS 3 _ _ rfl _ _ rfl (AK rfl) _ _ AM _ CK (by rfl) Xc rfl ?_)));intro w9 h9;with_reducible exact zq9.out w9 h9):p:=h ⟨k⟩
theorem bR(n:Nat)(k:q)(h:As q→Bu n p:=by intro zq9;(with_reducible refine Bv ?_);(refine NX (by with_reducible assumption) Tryz.underlying42 JJ rfl rfl BJ (by omega) AA ?_);with_reducible exact zq9.out):p:=h ⟨k⟩
theorem bS(k:q)(h:As q→p:=by intro zq9;(with_reducible refine Ak _ (.load 107 _) ?_);(refine Ad ?_;apply CP hS 107 _ rfl _ rfl 2 (AN rfl) _;(case hp=>exact AM);(case hn=>rfl);refine AB ?_);go_step;with_reducible exact zq9.out):p:=h ⟨k⟩
theorem bT(k:q)(h:As q→p:=by intro zq9;(with_reducible refine Ak _ (.load 5 _) ?_);(refine Ad ?_;apply Aj hS 5 _ rfl _ rfl (AK rfl) _;(case hc=>with_reducible assumption);refine AB ?_);go_step;with_reducible exact zq9.out):p:=h ⟨k⟩
theorem bU(n:Nat)(k:q)(h:As q→Bu n p:=by intro zq9;(with_reducible refine Bv ?_);(refine Aq AA (V.indexSl Tryz.underlying22 MY rfl rfl (show Bw 0 0 from rfl) (by omega) (show 0*1=0 from rfl) BT) ?_);go_step;with_reducible exact zq9.out):p:=h ⟨k⟩
theorem cT(n:Nat)(k:q)(h:As q→Bu n p:=by intro zq9;(with_reducible refine Bv ?_);(refine FP (by with_reducible assumption) Tryz.underlying30 Ef rfl rfl BJ (by omega) AA ?_);with_reducible exact zq9.out):p:=h ⟨k⟩
theorem cU(n:Nat){T q:Option Addr→Nat→World→Prop}(k:∀a c w,T a c w→q a c w)(h:kT T q→Bu n p:=by intro zq9;(with_reducible refine Bv ?_);(refine Ad ?_;apply A7 (o:=⟨some _,_,_,_,_,_⟩) hS _ _ 35 rfl 5 1 1 Ic _ _ _ _ rfl;(case hp=>exact AM);(case hx=>exact rfl);(case hm=>(first|exact hS.slBlk AM (by rfl) (by decide)|exact hS.sl AM|with_reducible assumption|exact Sl.ext (by with_reducible assumption) hS.1|exact Sl.nil _ _|exact Sl.ext (by assumption) hS.1|assumption));(case h1=>(first|exact Cx rfl|exact CS _ _|(intro u hu;cases hu)));(case h63=>unfold maxLen;omega);(case hb=>omega));intro a9 c9 w9 h9;(first|simp only [D7] at h9|simp only [D8] at h9|simp only [D9] at h9|simp only [EA] at h9|simp only [EB] at h9|skip);refine AB ?_;go_step;with_reducible exact zq9.out a9 c9 w9 h9):p:=h ⟨k⟩
theorem cV(k:q)(h:As q→p:=by intro zq9;(with_reducible refine Ak _ (.binOp .sub _ _ _ _) ?_);(refine Aq AA (V.subI rfl rfl (by omega)) ?_);go_step;with_reducible exact zq9.out):p:=h ⟨k⟩
theorem cW(k:q)(h:As q→p:=by intro zq9;(with_reducible refine Ak _ (.fieldAddr 37 _ 0) ?_);(refine Aq AA (V.fieldAddr Su rfl BT) ?_);go_step;with_reducible exact zq9.out):p:=h ⟨k⟩
theorem cX(k:q)(h:As q→p:=by intro zq9;(with_reducible refine Ak _ (.load 22 _) ?_);(refine Ad ?_;apply Aj hS 22 _ rfl _ rfl (AK rfl) _;(case hc=>with_reducible assumption);refine AB ?_);go_step;with_reducible exact zq9.out):p:=h ⟨k⟩
theorem cY(n:Nat)(k:q)(h:As q→Bu n p:=by intro zq9;(with_reducible refine Bv ?_);(refine Aq AA (V.len Tryz.underlying35 rfl) ?_);go_step;with_reducible exact zq9.out):p:=h ⟨k⟩
theorem eh(n:Nat){T q:Nat→World→Prop}(k:∀g w,T g w→q g w)(h:IG T q→Bu n p:=by intro zq9;(with_reducible refine Bv ?_);(refine Ad ?_;apply AU (o:=⟨some _,_,_,_,_,_⟩) hS 22 1 _ rfl 30 1 24 dM _ _;(case hvs=>(repeat (first|exact AX.nil|(apply AX.agg;(rfl);(rfl))|(apply AX.one;exact CK;(rfl);(rfl)))));(case hn=>rfl);(case hn0=>decide);(case hns=>decide));intro g w9 h9;refine AB ?_;go_step;with_reducible exact zq9.out g w9 h9):p:=h ⟨k⟩
theorem ek(k:q)(h:As q→p:=by intro zq9;(with_reducible refine Ak _ (.binOp .leq _ _ _ _) ?_);(refine Aq AA (V.leq rfl rfl) ?_);go_step;with_reducible exact zq9.out):p:=h ⟨k⟩
theorem eo(k:q)(h:As q→p:=by intro zq9;(with_reducible refine Ak _ (.call ⟨.builtin .len,_,_⟩) ?_);(refine Aq AA (V.len Tryz.underlying22 rfl) ?_);go_step;with_reducible exact zq9.out):p:=h ⟨k⟩
theorem ep(k:q)(h:As q→p:=by intro zq9;(with_reducible refine Ak _ (.fieldAddr 34 _ 0) ?_);(refine Aq AA (V.fieldAddr Yt rfl BT) ?_);go_step;with_reducible exact zq9.out):p:=h ⟨k⟩
theorem ew(k:q)(h:As q→p:=by intro zq9;(with_reducible refine Ak _ (.fieldAddr 34 _ 1) ?_);(refine Aq AA (V.fieldAddr Yu rfl BT) ?_);go_step;with_reducible exact zq9.out):p:=h ⟨k⟩
theorem ez(k:q)(h:As q→p:=by intro zq9;(with_reducible refine Ak _ (.fieldAddr 37 _ 1) ?_);(refine Aq AA (V.fieldAddr Sv rfl BT) ?_);go_step;with_reducible exact zq9.out):p:=h ⟨k⟩
theorem e7(n:Nat)(k:q)(h:As q→Bu n p:=by intro zq9;(with_reducible refine Bv ?_);(refine Aq AA (V.fieldAddr UY rfl BT) ?_);go_step;with_reducible exact zq9.out):p:=h ⟨k⟩
theorem gS(n:Nat){T q:Nat→World→Prop}(k:∀g w,T g w→q g w)(h:IG T q→Bu n p:=by intro zq9;(with_reducible refine Bv ?_);(refine Ad ?_;apply CN (o:=⟨some _,_,_,_,_,_⟩) hS 107 rfl (.agg #[.int .i64 0, .int .i64 0]) [.int .i64 0, .int .i64 0] (fun w=>Tryz.zeroValue107 w) rfl);intro g w9 h9;refine AB ?_;go_step;with_reducible exact zq9.out g w9 h9):p:=h ⟨k⟩
theorem gT(n:Nat){T q:Nat→World→Prop}(k:∀g w,T g w→q g w)(h:IG T q→Bu n p:=by intro zq9;(with_reducible refine Bv ?_);(refine Ad ?_;apply Js (o:=⟨some _,_,_,_,_,_⟩) hS 32 _ rfl _ rfl);intro g w9 h9;refine AB ?_;go_step;with_reducible exact zq9.out g w9 h9):p:=h ⟨k⟩
theorem gU{T q:World→Prop}(k:∀w,T w→q w)(h:Jv T q→p:=by intro zq9;(with_reducible refine Ak _ (.store 107 _ _) ?_);(refine Ad ?_;apply Cd hS 107 _ _ rfl _ rfl 2 (AN rfl) _ _;(case hp=>exact AM);(case hy=>rfl);(case hn=>rfl);(case hn'=>rfl);(case hv=>rfl);(case hd=>exact rfl));intro w9 h9;with_reducible exact zq9.out w9 h9):p:=h ⟨k⟩
theorem gV(k:q)(h:As q→p:=by intro zq9;(with_reducible refine Ak _ (.call ⟨.builtin .len,_,_⟩) ?_);(refine Aq AA (V.len Tryz.underlying35 rfl) ?_);go_step;with_reducible exact zq9.out):p:=h ⟨k⟩
theorem gW(k:q)(h:As q→p:=by intro zq9;(with_reducible refine Ak _ (.fieldAddr 140 _ 1) ?_);(refine Aq AA (V.fieldAddr JH rfl BT) ?_);go_step;with_reducible exact zq9.out):p:=h ⟨k⟩
theorem gX(k:q)(h:As q→p:=by intro zq9;(with_reducible refine Ak _ (.fieldAddr 155 _ 2) ?_);(refine Aq AA (V.fieldAddr UY rfl BT) ?_);go_step;with_reducible exact zq9.out):p:=h ⟨k⟩
theorem gY(k:q)(h:As q→p:=by intro zq9;(with_reducible refine Ak _ (.fieldAddr 24 _ 0) ?_);(refine Aq AA (V.fieldAddr So rfl BT) ?_);go_step;with_reducible exact zq9.out):p:=h ⟨k⟩
theorem gZ(k:q)(h:As q→p:=by intro zq9;(with_reducible refine Ak _ (.fieldAddr 24 _ 1) ?_);(refine Aq AA (V.fieldAddr Sp rfl BT) ?_);go_step;with_reducible exact zq9.out):p:=h ⟨k⟩
theorem ga(k:q)(h:As q→p:=by intro zq9;(with_reducible refine Ak _ (.fieldAddr 37 _ 2) ?_);(refine Aq AA (V.fieldAddr Yv rfl BT) ?_);go_step;with_reducible exact zq9.out):p:=h ⟨k⟩
theorem gg(k:q)(h:As q→p:=by intro zq9;(with_reducible refine Ak _ (.load 137 _) ?_);(refine Ad ?_;apply AZ hS 137 _ rfl _ _ rfl (AK rfl) _;(case hp=>exact AM);(case hc=>rfl);refine AB ?_);go_step;with_reducible exact zq9.out):p:=h ⟨k⟩
theorem gh(k:q)(h:As q→p:=by intro zq9;(with_reducible refine Ak _ (.slice 26 _ _ _ _) ?_);(refine Aq AA (V.sliceA Tryz.underlying26 Ef rfl (by (first|exact Lo.none|exact Lo.some rfl BJ)) (by (first|exact Up.none|exact Up.some rfl BJ)) (by omega) (by omega) (by omega) rfl rfl rfl) ?_);go_step;with_reducible exact zq9.out):p:=h ⟨k⟩
theorem gl(n:Nat)(k:q)(h:As q→Bu n p:=by intro zq9;(with_reducible refine Bv ?_);(refine Af (.int _ (((i+1:Nat):Int))) (V.as (V.addI rfl rfl (by omega)) (by omega)) (by kernel_rfl) ?_);go_step;with_reducible exact zq9.out):p:=h ⟨k⟩
theorem gm(n:Nat)(k:q)(h:As q→Bu n p:=by intro zq9;(with_reducible refine Bv ?_);(refine Af (.int _ ((M:Int))) (V.as (V.mulI rfl rfl (by omega)) (by omega)) (by kernel_rfl) ?_);go_step;with_reducible exact zq9.out):p:=h ⟨k⟩
theorem go(n:Nat)(k:q)(h:As q→Bu n p:=by intro zq9;(with_reducible refine Bv ?_);(refine Aq AA (V.build (vs:=[(0,_),(1,_)]) rfl (Vy _ _)) ?_);go_step;with_reducible exact zq9.out):p:=h ⟨k⟩
theorem gq(n:Nat)(k:q)(h:As q→Bu n p:=by intro zq9;(with_reducible refine Bv ?_);(refine Aq AA (V.indexSl Tryz.underlying22 MY rfl rfl BJ (by omega) (Nat.mul_one _) BT) ?_);go_step;with_reducible exact zq9.out):p:=h ⟨k⟩
theorem jH(n:Nat){T q:Nat→World→Prop}(k:∀g w,T g w→q g w)(h:IG T q→Bu n p:=by intro zq9;(with_reducible refine Bv ?_);(refine Ad ?_;apply AU (o:=⟨some _,_,_,_,_,_⟩) hS 35 2 _ rfl 5 1 1 Ic _ _;(case hvs=>(repeat (first|exact AX.nil|(apply AX.agg;(rfl);(rfl))|(apply AX.one;exact CK;(rfl);(rfl)))));(case hn=>rfl);(case hn0=>decide);(case hns=>decide));intro g w9 h9;refine AB ?_;go_step;with_reducible exact zq9.out g w9 h9):p:=h ⟨k⟩
theorem jI{T q:World→Prop}(k:∀w,T w→q w)(h:Jv T q→p:=by intro zq9;(with_reducible refine Ak _ (.store 26 _ _) ?_);(first|(refine BF AA (EO hS 26 _ _ rfl _ rfl 64 (AN rfl) _ _ AM (by rfl) (by (repeat (first|assumption|exact Ae.rep|apply Ae.set|((with_reducible show Ae (_::_) _);exact rfl)))) rfl ?_))|(refine BF AA (Cd hS 26 _ _ rfl _ rfl 64 (AN rfl) _ _ AM (by rfl) (by rfl) (by rfl) (by rfl) rfl ?_)));intro w9 h9;with_reducible exact zq9.out w9 h9):p:=h ⟨k⟩
theorem Vf{T q:World→Prop}(k:∀w,T w→q w)(h:Jv T q→p:=by intro zq9;(with_reducible refine Ak _ (.store 3 _ _) ?_);(refine Ad ?_;apply Bt hS 3 _ _ rfl _ _ rfl (AK rfl) _ _;(case hp=>exact AM);(case hy=>exact CK);(case hv=>rfl);(case hc=>exact Xc);(case hd=>exact rfl));intro w9 h9;with_reducible exact zq9.out w9 h9):p:=h ⟨k⟩
theorem Vg{T q:World→Prop}(k:∀w,T w→q w)(h:Jv T q→p:=by intro zq9;(with_reducible refine Ak _ (.store 3 _ _) ?_);(refine Ad ?_;apply K7 hS 3 _ _ rfl _ _ rfl (AK rfl) _ _ _ _ _;(case hp=>exact AM);(case hy=>rfl);(case hi=>omega);(case hd=>exact rfl));intro w9 h9;with_reducible exact zq9.out w9 h9):p:=h ⟨k⟩
theorem Vh(k:q)(h:As q→p:=by intro zq9;(with_reducible refine Ak _ (.call ⟨.builtin .len,_,_⟩) ?_);(refine Aq AA (V.len Tryz.underlying115 rfl) ?_);go_step;with_reducible exact zq9.out):p:=h ⟨k⟩
theorem Vi(k:q)(h:As q→p:=by intro zq9;(with_reducible refine Ak _ (.fieldAddr 32 _ 0) ?_);(refine Aq AA (V.fieldAddr Ss rfl BT) ?_);go_step;with_reducible exact zq9.out):p:=h ⟨k⟩
theorem Vj(k:q)(h:As q→p:=by intro zq9;(with_reducible refine Ak _ (.fieldAddr 37 _ 4) ?_);(refine Aq AA (V.fieldAddr Sw rfl BT) ?_);go_step;with_reducible exact zq9.out):p:=h ⟨k⟩
theorem Vk(k:q)(h:As q→p:=by intro zq9;(with_reducible refine Ak _ (.load 22 _) ?_);(refine Ad ?_;apply AZ hS 22 _ rfl _ _ rfl (AK rfl) _;(case hp=>exact AM);(case hc=>rfl);refine AB ?_);go_step;with_reducible exact zq9.out):p:=h ⟨k⟩
theorem Vl(n:Nat)(k:q)(h:As q→Bu n p:=by intro zq9;(with_reducible refine Bv ?_);(refine Af (.int .i64 ((y:Nat):Int)) (V.as (V.indexIv Tryz.underlying29 Tryz.underlying3 Ef rfl rfl hC Bw.cast (by omega)) HX.out) AA ?_);go_step;with_reducible exact zq9.out):p:=h ⟨k⟩
theorem Vm(n:Nat)(k:q)(h:As q→Bu n p:=by intro zq9;(with_reducible refine Bv ?_);(refine Af (.int _ ((u0%16))) (V.as (V.and rfl rfl) (by exact HAnd.out)) (by kernel_rfl) ?_);go_step;with_reducible exact zq9.out):p:=h ⟨k⟩
theorem Vn(n:Nat)(k:q)(h:As q→Bu n p:=by intro zq9;(with_reducible refine Bv ?_);(refine Aq AA (V.build (vs:=[(0,_),(1,_)]) rfl (V3 _ _)) ?_);go_step;with_reducible exact zq9.out):p:=h ⟨k⟩
theorem Vo(n:Nat)(k:q)(h:As q→Bu n p:=by intro zq9;(with_reducible refine Bv ?_);(refine Aq AA (V.convI (by rw [Tryz.underlying116];rfl) Tryz.underlying3 rfl (IntWalk.i64_in _ (by omega))) ?_);go_step;with_reducible exact zq9.out):p:=h ⟨k⟩
theorem Vp(n:Nat)(k:q)(h:As q→Bu n p:=by intro zq9;(with_reducible refine Bv ?_);(refine Aq AA (V.convI (by rw [Tryz.underlying3];rfl) Tryz.underlying116 rfl (IntWalk.u64_in _ (by omega))) ?_);go_step;with_reducible exact zq9.out):p:=h ⟨k⟩
theorem Vq(n:Nat)(k:q)(h:As q→Bu n p:=by intro zq9;(with_reducible refine Bv ?_);(refine Aq AA (V.indexAr Tryz.underlying26 Ef rfl rfl BJ (by omega) (Nat.mul_one _) BT) ?_);go_step;with_reducible exact zq9.out):p:=h ⟨k⟩
theorem Vr(n:Nat)(k:q)(h:As q→Bu n p:=by intro zq9;(with_reducible refine Bv ?_);(refine Aq AA (V.leq rfl rfl) ?_);go_step;with_reducible exact zq9.out):p:=h ⟨k⟩
theorem Xl(n:Nat){T q:Nat→World→Prop}(k:∀g w,T g w→q g w)(h:IG T q→Bu n p:=by intro zq9;(with_reducible refine Bv ?_);(refine Ad ?_;apply AU (o:=⟨some _,_,_,_,_,_⟩) hS 35 1 _ rfl 5 1 1 Ic _ _;(case hvs=>(repeat (first|exact AX.nil|(apply AX.agg;(rfl);(rfl))|(apply AX.one;exact CK;(rfl);(rfl)))));(case hn=>rfl);(case hn0=>decide);(case hns=>decide));intro g w9 h9;refine AB ?_;go_step;with_reducible exact zq9.out g w9 h9):p:=h ⟨k⟩
theorem Xm{T q:World→Prop}(k:∀w,T w→q w)(h:Jv T q→p:=by intro zq9;(with_reducible refine Ak _ (.store 3 _ _) ?_);(refine Ad ?_;apply Ix hS 3 _ _ rfl _ _ rfl (AK rfl) _ _;(case hp=>exact AM);(case hy=>rfl);(case hi=>omega);(case hd=>exact rfl));intro w9 h9;with_reducible exact zq9.out w9 h9):p:=h ⟨k⟩
theorem Xn(k:q)(h:As q→p:=by intro zq9;(with_reducible refine Ak _ (.binOp .mul _ _ _ _) ?_);(refine Aq AA (V.mulI rfl rfl (by omega)) ?_);go_step;with_reducible exact zq9.out):p:=h ⟨k⟩
theorem Xo(k:q)(h:As q→p:=by intro zq9;(with_reducible refine Ak _ (.call ⟨.builtin .len,_,_⟩) ?_);(refine Aq AA (V.len Tryz.underlying91 rfl) ?_);go_step;with_reducible exact zq9.out):p:=h ⟨k⟩
theorem Xp(k:q)(h:As q→p:=by intro zq9;(with_reducible refine Ak _ (.convert 3 5 _) ?_);(refine Aq AA (V.convI (by rw [Tryz.underlying3];rfl) Tryz.underlying5 rfl (IntWalk.u8_in _ (by omega))) ?_);go_step;with_reducible exact zq9.out):p:=h ⟨k⟩
theorem Xq(k:q)(h:As q→p:=by intro zq9;(with_reducible refine Ak _ (.fieldAddr 119 _ 1) ?_);(refine Aq AA (V.fieldAddr dU rfl BT) ?_);go_step;with_reducible exact zq9.out):p:=h ⟨k⟩
theorem Xr(k:q)(h:As q→p:=by intro zq9;(with_reducible refine Ak _ (.fieldAddr 155 _ 0) ?_);(refine Aq AA (V.fieldAddr LZ rfl BT) ?_);go_step;with_reducible exact zq9.out):p:=h ⟨k⟩
theorem Xs(k:q)(h:As q→p:=by intro zq9;(with_reducible refine Ak _ (.fieldAddr 24 _ 2) ?_);(refine Aq AA (V.fieldAddr Sq rfl BT) ?_);go_step;with_reducible exact zq9.out):p:=h ⟨k⟩
theorem Xt(k:q)(h:As q→p:=by intro zq9;(with_reducible refine Ak _ (.fieldAddr 37 _ 3) ?_);(refine Aq AA (V.fieldAddr Yw rfl BT) ?_);go_step;with_reducible exact zq9.out):p:=h ⟨k⟩
theorem Xu(k:q)(h:As q→p:=by intro zq9;(with_reducible refine Ak _ (.fieldAddr 37 _ 5) ?_);(refine Aq AA (V.fieldAddr Sx rfl BT) ?_);go_step;with_reducible exact zq9.out):p:=h ⟨k⟩
theorem Xv(k:q)(h:As q→p:=by intro zq9;(with_reducible refine Ak _ (.fieldAddr 37 _ 6) ?_);(refine Aq AA (V.fieldAddr Sy rfl BT) ?_);go_step;with_reducible exact zq9.out):p:=h ⟨k⟩
theorem Xw(k:q)(h:As q→p:=by intro zq9;(with_reducible refine Ak _ (.load 26 _) ?_);(first|(refine Ad ?_;apply EN hS 26 _ rfl _ _ rfl 64 (AN rfl) _;(case hl=>with_reducible assumption);(case hr=>with_reducible assumption);refine AB ?_)|(refine Ad ?_;apply DW hS 26 _ rfl _ rfl 64 (AN rfl) _;(case hp=>exact AM);refine AB ?_));go_step;with_reducible exact zq9.out):p:=h ⟨k⟩
theorem Xx(k:q)(h:As q→p:=by intro zq9;(with_reducible refine Ak _ (.load 26 _) ?_);(refine Ad ?_;apply EN hS 26 _ rfl _ _ rfl 64 (AN rfl) _;(case hl=>with_reducible assumption);(case hr=>with_reducible assumption);refine AB ?_);go_step;with_reducible exact zq9.out):p:=h ⟨k⟩
theorem Xy(k:q)(h:As q→p:=by intro zq9;(with_reducible refine Ak _ (.load 29 _) ?_);(refine Ad ?_;apply Oy hS 29 _ rfl _ _ rfl 16 (AN rfl) _;(case hp=>exact AM);(case hi=>(repeat (first|(apply Tt.head;exact D6)|(apply Tt.skipI;(case hn=>exact D6);(case h=>omega);(case ho=>rfl))|apply Tt.skipV)));refine AB ?_);go_step;with_reducible exact zq9.out):p:=h ⟨k⟩
theorem Xz(k:q)(h:As q→p:=by intro zq9;(with_reducible refine Ak _ (.load 30 _) ?_);(refine Ad ?_;apply Ey hS 30 _ rfl _ _ rfl (AK rfl) _;(case hp=>exact AM);(case hi=>(repeat (first|exact Ki.head|(apply Ki.skipI;(case hn=>exact D6);(case h=>omega);(case ho=>rfl))|apply Ki.skipV)));refine AB ?_);go_step;with_reducible exact zq9.out):p:=h ⟨k⟩
theorem YA(n:Nat)(k:q)(h:As q→Bu n p:=by intro zq9;(with_reducible refine Bv ?_);(refine Af (.int _ (((k+1:Nat):Int))) (V.as (V.addI rfl rfl (by omega)) (by omega)) (by kernel_rfl) ?_);go_step;with_reducible exact zq9.out):p:=h ⟨k⟩
theorem YB(n:Nat)(k:q)(h:As q→Bu n p:=by intro zq9;(with_reducible refine Bv ?_);(refine Af _ (V.indexIv Tryz.underlying26 Tryz.underlying3 Ef rfl rfl (by (repeat (first|assumption|exact Ae.rep|apply Ae.set|((with_reducible show Ae (_::_) _);exact rfl)))) BJ (by omega)) AA ?_);go_step;with_reducible exact zq9.out):p:=h ⟨k⟩
theorem YC(n:Nat)(k:q)(h:As q→Bu n p:=by intro zq9;(with_reducible refine Bv ?_);(refine Aq AA (V.len Tryz.underlying22 rfl) ?_);go_step;with_reducible exact zq9.out):p:=h ⟨k⟩
theorem bn(n:Nat){T q:Nat→World→Prop}(k:∀g w,T g w→q g w)(h:IG T q→Bu n p:=by intro zq9;(with_reducible refine Bv ?_);(refine Ad ?_;apply CN (o:=⟨some _,_,_,_,_,_⟩) hS 94 rfl (.agg #[.int .i64 0, .int .i64 0]) [.int .i64 0, .int .i64 0] (fun w=>Tryz.zeroValue94 w) rfl);intro g w9 h9;refine AB ?_;go_step;with_reducible exact zq9.out g w9 h9):p:=h ⟨k⟩
theorem bq(n:Nat){T q:Nat→World→Prop}(k:∀g w,T g w→q g w)(h:IG T q→Bu n p:=by intro zq9;(with_reducible refine Bv ?_);(refine Ad ?_;apply CZ (o:=⟨some _,_,_,_,_,_⟩) hS 140 _ rfl _ rfl);intro g w9 h9;refine AB ?_;go_step;with_reducible exact zq9.out g w9 h9):p:=h ⟨k⟩
theorem bt(n:Nat){T q:Nat→World→Prop}(k:∀g w,T g w→q g w)(h:IG T q→Bu n p:=by intro zq9;(with_reducible refine Bv ?_);(refine Ad ?_;apply CZ (o:=⟨some _,_,_,_,_,_⟩) hS 155 _ rfl _ rfl);intro g w9 h9;refine AB ?_;go_step;with_reducible exact zq9.out g w9 h9):p:=h ⟨k⟩
theorem bu(n:Nat){T q:Nat→World→Prop}(k:∀g w,T g w→q g w)(h:IG T q→Bu n p:=by intro zq9;(with_reducible refine Bv ?_);(refine Ad ?_;apply AU (o:=⟨some _,_,_,_,_,_⟩) hS 22 3 _ rfl 30 1 24 dM _ _;(case hvs=>(repeat (first|exact AX.nil|(apply AX.agg;(rfl);(rfl))|(apply AX.one;exact CK;(rfl);(rfl)))));(case hn=>rfl);(case hn0=>decide);(case hns=>decide));intro g w9 h9;refine AB ?_;go_step;with_reducible exact zq9.out g w9 h9):p:=h ⟨k⟩
theorem bw(n:Nat){T q:Nat→World→Prop}(k:∀g w,T g w→q g w)(h:IG T q→Bu n p:=by intro zq9;(with_reducible refine Bv ?_);(refine Ad ?_;apply Lp (o:=⟨some _,_,_,_,_,_⟩) hS 30 _ _ rfl _ _ _ _ Yp _ _ _ _ _ _ rfl rfl;(case hi=>exact BJ);(case hj=>exact BJ);(case hnm=>omega);(case hb=>omega);(case h63=>unfold maxLen;omega));intro g w9 h9;refine AB ?_;go_step;with_reducible exact zq9.out g w9 h9):p:=h ⟨k⟩
theorem b6{T q:World→Prop}(k:∀w,T w→q w)(h:Jv T q→p:=by intro zq9;(with_reducible refine Ak _ (.store 169 _ _) ?_);(refine BF AA (Bt hS 169 _ _ rfl _ _ rfl (AK rfl) _ _ AM _ CK (by rfl) Xc rfl ?_));intro w9 h9;with_reducible exact zq9.out w9 h9):p:=h ⟨k⟩
theorem b7{T q:World→Prop}(k:∀w,T w→q w)(h:Jv T q→p:=by intro zq9;(with_reducible refine Ak _ (.store 35 _ _) ?_);(refine BF AA (Bt hS 35 _ _ rfl _ _ rfl (AK rfl) _ _ AM _ CK (by rfl) Xc rfl ?_));intro w9 h9;with_reducible exact zq9.out w9 h9):p:=h ⟨k⟩
theorem b9{T q:World→Prop}(k:∀w,T w→q w)(h:Jv T q→p:=by intro zq9;(with_reducible refine Ak _ (.store 94 _ _) ?_);(refine Ad ?_;apply Cd hS 94 _ _ rfl _ rfl 2 (AN rfl) _ _;(case hp=>exact AM);(case hy=>rfl);(case hn=>rfl);(case hn'=>rfl);(case hv=>rfl);(case hd=>exact rfl));intro w9 h9;with_reducible exact zq9.out w9 h9):p:=h ⟨k⟩
theorem cA(k:q)(h:As q→p:=by intro zq9;(with_reducible refine Ak _ (.binOp .geq _ _ _ _) ?_);(refine Aq AA (V.geq rfl rfl) ?_);go_step;with_reducible exact zq9.out):p:=h ⟨k⟩
theorem cB(k:q)(h:As q→p:=by intro zq9;(with_reducible refine Ak _ (.binOp .shl _ _ _ _) ?_);(refine Aq AA (V.shlI rfl rfl BJ (by omega) (by omega)) ?_);go_step;with_reducible exact zq9.out):p:=h ⟨k⟩
theorem cC(k:q)(h:As q→p:=by intro zq9;(with_reducible refine Ak _ (.fieldAddr 32 _ 1) ?_);(refine Aq AA (V.fieldAddr MV rfl BT) ?_);go_step;with_reducible exact zq9.out):p:=h ⟨k⟩
theorem cD(k:q)(h:As q→p:=by intro zq9;(with_reducible refine Ak _ (.load 26 _) ?_);(refine Ad ?_;apply Oy hS 26 _ rfl _ _ rfl 64 (AN rfl) _;(case hp=>exact AM);(case hi=>(repeat (first|(apply Tt.head;exact D6)|(apply Tt.skipI;(case hn=>exact D6);(case h=>omega);(case ho=>rfl))|apply Tt.skipV)));refine AB ?_);go_step;with_reducible exact zq9.out):p:=h ⟨k⟩
theorem cE(k:q)(h:As q→p:=by intro zq9;(with_reducible refine Ak _ (.load 4 _) ?_);(refine Ad ?_;apply AZ hS 4 _ rfl _ _ rfl (AK rfl) _;(case hp=>exact AM);(case hc=>rfl);refine AB ?_);go_step;with_reducible exact zq9.out):p:=h ⟨k⟩
theorem cF(k:q)(h:As q→p:=by intro zq9;(with_reducible refine Ak _ (.load 94 _) ?_);(refine Ad ?_;apply Iw hS 94 _ rfl _ _ rfl 2 (AN rfl) _ _ _ _ _;(case hp=>exact AM);(case hi=>omega);(case hl'=>with_reducible assumption);refine AB ?_);go_step;with_reducible exact zq9.out):p:=h ⟨k⟩
theorem cG(k:q)(h:As q→p:=by intro zq9;(with_reducible refine Ak _ (.slice 35 _ _ _ _) ?_);(refine Aq AA (V.slice Tryz.underlying35 Wf rfl (by (first|exact Lo.none|exact Lo.some rfl BJ)) (by (first|exact Up.none|exact Up.some rfl BJ)) (by omega) (by omega)) ?_);go_step;with_reducible exact zq9.out):p:=h ⟨k⟩
theorem cH(n:Nat)(k:q)(h:As q→Bu n p:=by intro zq9;(with_reducible refine Bv ?_);(refine Af (.int _ (((en:Nat):Int))) (V.as (V.subI rfl rfl (by omega)) (by omega)) (by kernel_rfl) ?_);go_step;with_reducible exact zq9.out):p:=h ⟨k⟩
theorem cI(n:Nat)(k:q)(h:As q→Bu n p:=by intro zq9;(with_reducible refine Bv ?_);(refine Af (.int _ (((h+1:Nat):Int))) (V.as (V.addI rfl rfl (by omega)) (by omega)) (by kernel_rfl) ?_);go_step;with_reducible exact zq9.out):p:=h ⟨k⟩
theorem cJ(n:Nat)(k:q)(h:As q→Bu n p:=by intro zq9;(with_reducible refine Bv ?_);(refine Af (.int _ (((h:Nat):Int))) (V.as (V.shr rfl rfl BJ (by omega) rfl) (by omega)) (by kernel_rfl) ?_);go_step;with_reducible exact zq9.out):p:=h ⟨k⟩
theorem cK(n:Nat)(k:q)(h:As q→Bu n p:=by intro zq9;(with_reducible refine Bv ?_);(refine Af (.int _ (((q+1:Nat):Int))) (V.as (V.addI rfl rfl (by omega)) (by omega)) (by kernel_rfl) ?_);go_step;with_reducible exact zq9.out):p:=h ⟨k⟩
theorem cL(n:Nat)(k:q)(h:As q→Bu n p:=by intro zq9;(with_reducible refine Bv ?_);(refine Af (.int _ (((t:Nat):Int))) (V.as (V.mulI rfl rfl (by omega)) (by omega)) (by kernel_rfl) ?_);go_step;with_reducible exact zq9.out):p:=h ⟨k⟩
theorem cM(n:Nat)(k:q)(h:As q→Bu n p:=by intro zq9;(with_reducible refine Bv ?_);(refine Aq AA (V.build (vs:=[]) rfl (YO)) ?_);go_step;with_reducible exact zq9.out):p:=h ⟨k⟩
theorem cN(n:Nat)(k:q)(h:As q→Bu n p:=by intro zq9;(with_reducible refine Bv ?_);(refine Aq AA (V.build (vs:=[]) rfl YU) ?_);go_step;with_reducible exact zq9.out):p:=h ⟨k⟩
theorem cO(n:Nat)(k:q)(h:As q→Bu n p:=by intro zq9;(with_reducible refine Bv ?_);(refine Aq AA (V.indexAr Tryz.underlying29 Ef rfl rfl BJ (by omega) (Nat.mul_one _) BT) ?_);go_step;with_reducible exact zq9.out):p:=h ⟨k⟩
theorem cP(n:Nat)(k:q)(h:As q→Bu n p:=by intro zq9;(with_reducible refine Bv ?_);(refine Aq AA (V.indexSl Tryz.underlying91 kE rfl rfl BJ (by omega) rfl BT) ?_);go_step;with_reducible exact zq9.out):p:=h ⟨k⟩
theorem cQ(n:Nat)(k:q)(h:As q→Bu n p:=by intro zq9;(with_reducible refine Bv ?_);(refine Aq AA (V.len Tryz.underlying160 rfl) ?_);go_step;with_reducible exact zq9.out):p:=h ⟨k⟩
theorem cR(n:Nat)(k:q)(h:As q→Bu n p:=by intro zq9;(with_reducible refine Bv ?_);(refine Aq AA (V.max rfl rfl) ?_);go_step;with_reducible exact zq9.out):p:=h ⟨k⟩
theorem cS(n:Nat)(k:q)(h:As q→Bu n p:=by intro zq9;(with_reducible refine Bv ?_);(refine Aq AA (V.neg rfl (by omega)) ?_);go_step;with_reducible exact zq9.out):p:=h ⟨k⟩
theorem fi(n:Nat){T q:Nat→World→Prop}(k:∀g w,T g w→q g w)(h:IG T q→Bu n p:=by intro zq9;(with_reducible refine Bv ?_);(refine Ad ?_;apply CN (o:=⟨some _,_,_,_,_,_⟩) hS 133 rfl (.pointer none) [.pointer none] (fun w=>Tryz.zeroValue133 w) rfl);intro g w9 h9;refine AB ?_;go_step;with_reducible exact zq9.out g w9 h9):p:=h ⟨k⟩
theorem fj(n:Nat){T q:Nat→World→Prop}(k:∀g w,T g w→q g w)(h:IG T q→Bu n p:=by intro zq9;(with_reducible refine Bv ?_);(refine Ad ?_;apply CN (o:=⟨some _,_,_,_,_,_⟩) hS 197 rfl (.agg #[.int .i64 0, .int .i64 0, .int .i64 0]) [.int .i64 0, .int .i64 0, .int .i64 0] (fun w=>Tryz.zeroValue197 w) rfl);intro g w9 h9;refine AB ?_;go_step;with_reducible exact zq9.out g w9 h9):p:=h ⟨k⟩
theorem fk(n:Nat){T q:Nat→World→Prop}(k:∀g w,T g w→q g w)(h:IG T q→Bu n p:=by intro zq9;(with_reducible refine Bv ?_);(refine Ad ?_;apply CN (o:=⟨some _,_,_,_,_,_⟩) hS 203 rfl (.agg #[.int .i64 0, .int .i64 0, .int .i64 0, .int .i64 0, .int .i64 0, .int .i64 0, .int .i64 0, .int .i64 0, .int .i64 0]) [.int .i64 0, .int .i64 0, .int .i64 0, .int .i64 0, .int .i64 0, .int .i64 0, .int .i64 0, .int .i64 0, .int .i64 0] (fun w=>Tryz.zeroValue203 w) rfl);intro g w9 h9;refine AB ?_;go_step;with_reducible exact zq9.out g w9 h9):p:=h ⟨k⟩
theorem fm{T q:World→Prop}(k:∀w,T w→q w)(h:Jv T q→p:=by intro zq9;(with_reducible refine Ak _ (.store 133 _ _) ?_);(refine Ad ?_;apply Bt hS 133 _ _ rfl _ _ rfl (AK rfl) _ _;(case hp=>exact AM);(case hy=>exact CK);(case hv=>rfl);(case hc=>exact Xc);(case hd=>exact rfl));intro w9 h9;with_reducible exact zq9.out w9 h9):p:=h ⟨k⟩
theorem fq{T q:World→Prop}(k:∀w,T w→q w)(h:Jv T q→p:=by intro zq9;(with_reducible refine Ak _ (.store 197 _ _) ?_);(refine Ad ?_;apply Cd hS 197 _ _ rfl _ rfl 3 (AN rfl) _ _;(case hp=>exact AM);(case hy=>rfl);(case hn=>rfl);(case hn'=>rfl);(case hv=>rfl);(case hd=>exact rfl));intro w9 h9;with_reducible exact zq9.out w9 h9):p:=h ⟨k⟩
theorem fu{T q:World→Prop}(k:∀w,T w→q w)(h:Jv T q→p:=by intro zq9;(with_reducible refine Ak _ (.store 203 _ _) ?_);(refine Ad ?_;apply Cd hS 203 _ _ rfl _ rfl 9 (AN rfl) _ _;(case hp=>exact AM);(case hy=>rfl);(case hn=>rfl);(case hn'=>rfl);(case hv=>rfl);(case hd=>exact rfl));intro w9 h9;with_reducible exact zq9.out w9 h9):p:=h ⟨k⟩
theorem fw{T q:World→Prop}(k:∀w,T w→q w)(h:Jv T q→p:=by intro zq9;(with_reducible refine Ak _ (.store 3 _ _) ?_);(refine Ad ?_;apply Tr hS 3 _ _ rfl _ _ rfl (AK rfl) _ _;(case hp=>exact AM);(case hy=>rfl);(case hi=>(repeat (first|(apply Ly.head;(case hn=>exact D6);(case h=>omega))|(apply Ly.skipI;(case hn=>exact D6);(case h=>omega);(case ho=>rfl))|apply Ly.skipV)));(case hd=>exact rfl));intro w9 h9;with_reducible exact zq9.out w9 h9):p:=h ⟨k⟩
theorem fx{T q:World→Prop}(k:∀w,T w→q w)(h:Jv T q→p:=by intro zq9;(with_reducible refine Ak _ (.store 35 _ _) ?_);(refine Ad ?_;apply Iy hS 35 _ _ rfl _ _ rfl (AK rfl) _ _;(case hp=>exact AM);(case hy=>exact CK);(case hz=>rfl);(case hi=>(repeat (first|exact I6.head|(apply I6.skipI;(case hn=>exact D6);(case h=>omega);(case ho=>rfl))|apply I6.skipV)));(case hd=>exact rfl));intro w9 h9;with_reducible exact zq9.out w9 h9):p:=h ⟨k⟩
theorem fy(n:Nat){T q:Option Addr→Nat→World→Prop}(k:∀a c w,T a c w→q a c w)(h:kT T q→Bu n p:=by intro zq9;(with_reducible refine Bv ?_);(refine Ad ?_;apply A7 (o:=⟨some _,_,_,_,_,_⟩) hS _ _ 42 rfl 26 64 512 iH _ _ _ _ rfl;(case hp=>exact AM);(case hx=>exact rfl);(case hm=>(first|exact hS.slBlk AM (by rfl) (by decide)|exact hS.sl AM|with_reducible assumption|exact Sl.ext (by with_reducible assumption) hS.1|exact Sl.nil _ _|exact Sl.ext (by assumption) hS.1|assumption));(case h1=>(first|exact Cx rfl|exact CS _ _|(intro u hu;cases hu)));(case h63=>unfold maxLen;omega);(case hb=>omega));intro a9 c9 w9 h9;(first|simp only [D7] at h9|simp only [D8] at h9|simp only [D9] at h9|simp only [EA] at h9|simp only [EB] at h9|skip);refine AB ?_;go_step;with_reducible exact zq9.out a9 c9 w9 h9):p:=h ⟨k⟩
theorem f8(k:q)(h:As q→p:=by intro zq9;(with_reducible refine Ak _ (.binOp .eql 38 _ _ _) ?_);(refine Aq AA (V.eql rfl rfl) ?_);go_step;with_reducible exact zq9.out):p:=h ⟨k⟩
theorem f9(k:q)(h:As q→p:=by intro zq9;(with_reducible refine Ak _ (.call ⟨.builtin .len,_,_⟩) ?_);(refine Aq AA (V.len Tryz.underlying141 rfl) ?_);go_step;with_reducible exact zq9.out):p:=h ⟨k⟩
theorem gA(k:q)(h:As q→p:=by intro zq9;(with_reducible refine Ak _ (.fieldAddr 119 _ 0) ?_);(refine Aq AA (V.fieldAddr dT rfl BT) ?_);go_step;with_reducible exact zq9.out):p:=h ⟨k⟩
theorem gB(k:q)(h:As q→p:=by intro zq9;(with_reducible refine Ak _ (.load 3 _) ?_);(refine Ad ?_;apply Bh hS 3 _ rfl _ _ rfl (AK rfl) _ _;(case hp=>exact AM);(case hi=>omega);refine AB ?_);go_step;with_reducible exact zq9.out):p:=h ⟨k⟩
theorem gC(k:q)(h:As q→p:=by intro zq9;(with_reducible refine Ak _ (.load 30 _) ?_);(refine Ad ?_;apply AZ hS 30 _ rfl _ _ rfl (AK rfl) _;(case hp=>exact AM);(case hc=>rfl);refine AB ?_);go_step;with_reducible exact zq9.out):p:=h ⟨k⟩
theorem gD(k:q)(h:As q→p:=by intro zq9;(with_reducible refine Ak _ (.load 35 _) ?_);(refine Ad ?_;apply AZ hS 35 _ rfl _ _ rfl (AK rfl) _;(case hp=>exact AM);(case hc=>rfl);refine AB ?_);go_step;with_reducible exact zq9.out):p:=h ⟨k⟩
theorem gE(n:Nat)(k:q)(h:As q→Bu n p:=by intro zq9;(with_reducible refine Bv ?_);(refine Ad ?_;apply NV (enc:=ik) hS 165 _ _ rfl _ rfl _ rfl Tryz.underlying165 (Cl Tryz.underlying3) (.int .i64 0) (fun w=>Tryz.zeroValue3 w) _;(case hp=>exact AM);(case hf=>with_reducible assumption);refine AB ?_);go_step;with_reducible exact zq9.out):p:=h ⟨k⟩
theorem gF(n:Nat)(k:q)(h:As q→Bu n p:=by intro zq9;(with_reducible refine Bv ?_);(refine Af (.int _ (((2*z+y:Nat):Int))) (V.as (V.addI rfl rfl (by omega)) (by omega)) (by kernel_rfl) ?_);go_step;with_reducible exact zq9.out):p:=h ⟨k⟩
theorem gH(n:Nat)(k:q)(h:As q→Bu n p:=by intro zq9;(with_reducible refine Bv ?_);(refine Af (.int _ (((2*z:Nat):Int))) (V.as (V.shlI rfl rfl BJ (by omega) (by omega)) (by omega)) (by kernel_rfl) ?_);go_step;with_reducible exact zq9.out):p:=h ⟨k⟩
theorem gI(n:Nat)(k:q)(h:As q→Bu n p:=by intro zq9;(with_reducible refine Bv ?_);(refine Af (.int _ (((Lf%8:Nat):Int))) (V.as (V.rem rfl rfl (by omega) (by omega)) (by omega)) (by kernel_rfl) ?_);go_step;with_reducible exact zq9.out):p:=h ⟨k⟩
theorem gJ(n:Nat)(k:q)(h:As q→Bu n p:=by intro zq9;(with_reducible refine Bv ?_);(refine Af (.int _ (((a+s:Nat):Int))) (V.as (V.addI rfl rfl (by omega)) (by omega)) (by kernel_rfl) ?_);go_step;with_reducible exact zq9.out):p:=h ⟨k⟩
theorem gK(n:Nat)(k:q)(h:As q→Bu n p:=by intro zq9;(with_reducible refine Bv ?_);(refine Af (.int _ (((k:Int)%16))) (V.as (V.and rfl rfl) (by exact HAnd.out)) (by kernel_rfl) ?_);go_step;with_reducible exact zq9.out):p:=h ⟨k⟩
theorem gL(n:Nat)(k:q)(h:As q→Bu n p:=by intro zq9;(with_reducible refine Bv ?_);(refine Af (.int _ (((k:Nat):Int))) (V.as (V.and rfl rfl) (by rw [HAnd.out];exact hk1.out)) (by kernel_rfl) ?_);go_step;with_reducible exact zq9.out):p:=h ⟨k⟩
theorem gM(n:Nat)(k:q)(h:As q→Bu n p:=by intro zq9;(with_reducible refine Bv ?_);(refine Af (.int _ (((s+1:Nat):Int))) (V.as (V.addI rfl rfl (by omega)) (by omega)) (by kernel_rfl) ?_);go_step;with_reducible exact zq9.out):p:=h ⟨k⟩
theorem gN(n:Nat)(k:q)(h:As q→Bu n p:=by intro zq9;(with_reducible refine Bv ?_);(refine Af (.int _ (((x:Nat):Int))) (V.as (V.subI rfl rfl (by omega)) (by omega)) (by kernel_rfl) ?_);go_step;with_reducible exact zq9.out):p:=h ⟨k⟩
theorem gO(n:Nat)(k:q)(h:As q→Bu n p:=by intro zq9;(with_reducible refine Bv ?_);(refine Af (.int _ (0)) (V.as (V.subI rfl rfl (by omega)) (by omega)) (by kernel_rfl) ?_);go_step;with_reducible exact zq9.out):p:=h ⟨k⟩
theorem gP(n:Nat)(k:q)(h:As q→Bu n p:=by intro zq9;(with_reducible refine Bv ?_);(refine Aq AA (V.build (vs:=[(0,_),(1,_),(2,_),(3,_),(4,_),(5,_),(6,_),(7,_),(8,_)]) rfl (Fu _ _ _ _ _ _ _ _ _)) ?_);go_step;with_reducible exact zq9.out):p:=h ⟨k⟩
theorem gQ(n:Nat)(k:q)(h:As q→Bu n p:=by intro zq9;(with_reducible refine Bv ?_);(refine Aq AA (V.indexAr Tryz.underlying26 Ef rfl rfl (show Bw 0 0 from rfl) (by omega) (show 0*1=0 from rfl) BT) ?_);go_step;with_reducible exact zq9.out):p:=h ⟨k⟩
theorem gR(n:Nat)(k:q)(h:As q→Bu n p:=by intro zq9;(with_reducible refine Bv ?_);(refine Aq AA (V.indexSl Tryz.underlying42 JJ rfl rfl BJ (by omega) rfl BT) ?_);go_step;with_reducible exact zq9.out):p:=h ⟨k⟩
theorem jV(n:Nat){T q:Nat→World→Prop}(k:∀g w,T g w→q g w)(h:IG T q→Bu n p:=by intro zq9;(with_reducible refine Bv ?_);(refine Ad ?_;apply AU (o:=⟨some _,_,_,_,_,_⟩) hS 30 1 _ rfl 3 1 8 Nv _ _;(case hvs=>(repeat (first|exact AX.nil|(apply AX.agg;(rfl);(rfl))|(apply AX.one;exact CK;(rfl);(rfl)))));(case hn=>rfl);(case hn0=>decide);(case hns=>decide));intro g w9 h9;refine AB ?_;go_step;with_reducible exact zq9.out g w9 h9):p:=h ⟨k⟩
theorem jW(n:Nat){T q:Nat→World→Prop}(k:∀g w,T g w→q g w)(h:IG T q→Bu n p:=by intro zq9;(with_reducible refine Bv ?_);(refine Ad ?_;apply Dx (o:=⟨some _,_,_,_,_,_⟩) hS 30 1 _ rfl 3 1 8 Nv _ _;(case hvs=>(repeat (first|exact AX.nil|(apply AX.agg;(rfl);(rfl))|(apply AX.one;exact CK;(rfl);(rfl)))));(case hn=>rfl);(case hn0=>decide);(case hns=>decide));intro g w9 h9;refine AB ?_;go_step;with_reducible exact zq9.out g w9 h9):p:=h ⟨k⟩
theorem jX(n:Nat){T q:Nat→World→Prop}(k:∀g w,T g w→q g w)(h:IG T q→Bu n p:=by intro zq9;(with_reducible refine Bv ?_);(refine Ad ?_;apply Lp (o:=⟨some _,_,_,_,_,_⟩) hS 42 _ _ rfl _ _ _ _ j9 _ _ _ _ _ _ rfl rfl;(case hi=>exact BJ);(case hj=>exact BJ);(case hnm=>omega);(case hb=>omega);(case h63=>unfold maxLen;omega));intro g w9 h9;refine AB ?_;go_step;with_reducible exact zq9.out g w9 h9):p:=h ⟨k⟩
theorem jY{T q:World→Prop}(k:∀w,T w→q w)(h:Jv T q→p:=by intro zq9;(with_reducible refine Ak _ (.mapUpdate 165 _ _ _) ?_);(refine Ad ?_;apply Es (enc:=ik) hS 165 _ _ _ rfl _ rfl _ rfl Tryz.underlying165 (Cl Tryz.underlying3) _;(case hp=>exact AM);(case hv=>(first|exact D0.int rfl|exact D0.bool rfl|exact D0.slice rfl|exact D0.pointer rfl|exact D0.string rfl|exact D0.map rfl|exact D0.func rfl|exact D0.agg rfl));(case hd=>exact rfl));intro w9 h9;with_reducible exact zq9.out w9 h9):p:=h ⟨k⟩
theorem jZ{T q:World→Prop}(k:∀w,T w→q w)(h:Jv T q→p:=by intro zq9;(with_reducible refine Ak _ (.mapUpdate 167 _ _ _) ?_);(refine Ad ?_;apply Es (enc:=ik) hS 167 _ _ _ rfl _ rfl _ rfl Tryz.underlying167 (Cl Tryz.underlying3) _;(case hp=>exact AM);(case hv=>(first|exact D0.int rfl|exact D0.bool rfl|exact D0.slice rfl|exact D0.pointer rfl|exact D0.string rfl|exact D0.map rfl|exact D0.func rfl|exact D0.agg rfl));(case hd=>exact rfl));intro w9 h9;with_reducible exact zq9.out w9 h9):p:=h ⟨k⟩
theorem ja{T q:World→Prop}(k:∀w,T w→q w)(h:Jv T q→p:=by intro zq9;(with_reducible refine Ak _ (.store 168 _ _) ?_);(refine Ad ?_;apply Bt hS 168 _ _ rfl _ _ rfl (AK rfl) _ _;(case hp=>exact AM);(case hy=>exact CK);(case hv=>rfl);(case hc=>exact Xc);(case hd=>exact rfl));intro w9 h9;with_reducible exact zq9.out w9 h9):p:=h ⟨k⟩
theorem jb{T q:World→Prop}(k:∀w,T w→q w)(h:Jv T q→p:=by intro zq9;(with_reducible refine Ak _ (.store 22 _ _) ?_);(refine Ad ?_;apply Bt hS 22 _ _ rfl _ _ rfl (AK rfl) _ _;(case hp=>exact AM);(case hy=>exact CK);(case hv=>rfl);(case hc=>exact Xc);(case hd=>exact rfl));intro w9 h9;with_reducible exact zq9.out w9 h9):p:=h ⟨k⟩
theorem jc(n:Nat)(k:q)(h:As q→Bu n p:=by intro zq9;(with_reducible refine Bv ?_);(refine FP (by with_reducible assumption) Tryz.underlying30 Ef rfl rfl (show Bw 0 0 from rfl) (by omega) AA ?_);with_reducible exact zq9.out):p:=h ⟨k⟩
theorem je(n:Nat){T q:Nat→World→Prop}(k:∀g w,T g w→q g w)(h:IG T q→Bu n p:=by intro zq9;(with_reducible refine Bv ?_);(refine Ad ?_;apply Dx (o:=⟨some _,_,_,_,_,_⟩) hS 141 1 _ rfl 155 3 24 Yo _ _;(case hvs=>(repeat (first|exact AX.nil|(apply AX.agg;(rfl);(rfl))|(apply AX.one;exact CK;(rfl);(rfl)))));(case hn=>rfl);(case hn0=>decide);(case hns=>decide));intro g w9 h9;simp only [List.cons_append,List.nil_append] at h9;refine AB ?_;go_step;with_reducible exact zq9.out g w9 h9):p:=h ⟨k⟩
theorem jf(n:Nat){T q:Option Addr→Nat→World→Prop}(k:∀a c w,T a c w→q a c w)(h:kT T q→Bu n p:=by intro zq9;(with_reducible refine Bv ?_);(refine Ad ?_;apply A7 (o:=⟨some _,_,_,_,_,_⟩) hS _ _ 30 rfl 3 1 8 Nv _ _ _ _ rfl;(case hp=>exact AM);(case hx=>exact rfl);(case hm=>(first|exact hS.slBlk AM (by rfl) (by decide)|exact hS.sl AM|with_reducible assumption|exact Sl.ext (by with_reducible assumption) hS.1|exact Sl.nil _ _|exact Sl.ext (by assumption) hS.1|assumption));(case h1=>(first|exact Cx rfl|exact CS _ _|(intro u hu;cases hu)));(case h63=>unfold maxLen;omega);(case hb=>omega));intro a9 c9 w9 h9;(first|simp only [D7] at h9|simp only [D8] at h9|simp only [D9] at h9|simp only [EA] at h9|simp only [EB] at h9|skip);refine AB ?_;go_step;with_reducible exact zq9.out a9 c9 w9 h9):p:=h ⟨k⟩
theorem jg(k:q)(h:As q→p:=by intro zq9;(with_reducible refine Ak _ (.load 140 _) ?_);(refine Ad ?_;apply CP hS 140 _ rfl _ rfl 2 (AN rfl) _;(case hp=>exact AM);(case hn=>rfl);refine AB ?_);go_step;with_reducible exact zq9.out):p:=h ⟨k⟩
theorem jh(k:q)(h:As q→p:=by intro zq9;(with_reducible refine Ak _ (.load 155 _) ?_);(first|(refine Ad ?_;apply Iw hS 155 _ rfl _ _ rfl 3 (AN rfl) _ _ _ _ _;(case hp=>exact AM);(case hi=>omega);(case hl'=>with_reducible assumption);refine AB ?_)|(refine Ad ?_;apply CP hS 155 _ rfl _ rfl 3 (AN rfl) _;(case hp=>exact AM);(case hn=>rfl);refine AB ?_));go_step;with_reducible exact zq9.out):p:=h ⟨k⟩
theorem ji(k:q)(h:As q→p:=by intro zq9;(with_reducible refine Ak _ (.load 168 _) ?_);(refine Ad ?_;apply AZ hS 168 _ rfl _ _ rfl (AK rfl) _;(case hp=>exact AM);(case hc=>rfl);refine AB ?_);go_step;with_reducible exact zq9.out):p:=h ⟨k⟩
theorem jj(k:q)(h:As q→p:=by intro zq9;(with_reducible refine Ak _ (.load 172 _) ?_);(refine Ad ?_;apply Aj hS 172 _ rfl _ rfl (AK rfl) _;(case hc=>with_reducible assumption);refine AB ?_);go_step;with_reducible exact zq9.out):p:=h ⟨k⟩
theorem jk(k:q)(h:As q→p:=by intro zq9;(with_reducible refine Ak _ (.load 199 _) ?_);(refine Ad ?_;apply AZ hS 199 _ rfl _ _ rfl (AK rfl) _;(case hp=>exact AM);(case hc=>rfl);refine AB ?_);go_step;with_reducible exact zq9.out):p:=h ⟨k⟩
theorem jl(k:q)(h:As q→p:=by intro zq9;(with_reducible refine Ak _ (.load 200 _) ?_);(refine Ad ?_;apply AZ hS 200 _ rfl _ _ rfl (AK rfl) _;(case hp=>exact AM);(case hc=>rfl);refine AB ?_);go_step;with_reducible exact zq9.out):p:=h ⟨k⟩
theorem jm(k:q)(h:As q→p:=by intro zq9;(with_reducible refine Ak _ (.load 3 _) ?_);(first|(refine Ad ?_;apply Iv hS 3 _ rfl _ _ rfl (AK rfl) _ _ _ _ _;(case hp=>exact AM);(case hi=>omega);refine AB ?_)|(refine Ad ?_;apply AZ hS 3 _ rfl _ _ rfl (AK rfl) _;(case hp=>exact AM);(case hc=>rfl);refine AB ?_));go_step;with_reducible exact zq9.out):p:=h ⟨k⟩
theorem jn(k:q)(h:As q→p:=by intro zq9;(with_reducible refine Ak _ (.load 3 _) ?_);(refine Ad ?_;apply Iv hS 3 _ rfl _ _ rfl (AK rfl) _ _ _ _ _;(case hp=>exact AM);(case hi=>omega);refine AB ?_);go_step;with_reducible exact zq9.out):p:=h ⟨k⟩
theorem jo(k:q)(h:As q→p:=by intro zq9;(with_reducible refine Ak _ (.load 35 _) ?_);(refine Ad ?_;apply Ey hS 35 _ rfl _ _ rfl (AK rfl) _;(case hp=>exact AM);(case hi=>(repeat (first|exact Ki.head|(apply Ki.skipI;(case hn=>exact D6);(case h=>omega);(case ho=>rfl))|apply Ki.skipV)));refine AB ?_);go_step;with_reducible exact zq9.out):p:=h ⟨k⟩
theorem jp(n:Nat)(k:q)(h:As q→Bu n p:=by intro zq9;(with_reducible refine Bv ?_);(refine Ad ?_;apply NU (enc:=ik) hS 165 _ _ rfl _ rfl _ rfl Tryz.underlying165 (Cl Tryz.underlying3) (.int .i64 0) (fun w=>Tryz.zeroValue3 w) _;(case hp=>exact AM);(case hf=>with_reducible assumption);refine AB ?_);go_step;with_reducible exact zq9.out):p:=h ⟨k⟩
theorem jq(n:Nat)(k:q)(h:As q→Bu n p:=by intro zq9;(with_reducible refine Bv ?_);(refine Af (.func (.func 101) #[] #[.pointer (some ⟨g5,0,none⟩), .pointer (some ⟨g6,0,none⟩)]) (V.makeFunc rfl) AA ?_);go_step;with_reducible exact zq9.out):p:=h ⟨k⟩
theorem jr(n:Nat)(k:q)(h:As q→Bu n p:=by intro zq9;(with_reducible refine Bv ?_);(refine Af (.func (.func 108) #[] #[.pointer (some ⟨g6,0,none⟩), .pointer (some ⟨g8,0,none⟩)]) (V.makeFunc rfl) AA ?_);go_step;with_reducible exact zq9.out):p:=h ⟨k⟩
theorem jt(n:Nat)(k:q)(h:As q→Bu n p:=by intro zq9;(with_reducible refine Bv ?_);(refine Af (.iface 140 (.agg #[.pointer (some ⟨gc,0,none⟩), .pointer (some ⟨gr,0,none⟩)])) (V.mkIf rfl (fun w=>by kernel_rfl)) AA ?_);go_step;with_reducible exact zq9.out):p:=h ⟨k⟩
theorem ju(n:Nat)(k:q)(h:As q→Bu n p:=by intro zq9;(with_reducible refine Bv ?_);(refine Aq AA (V.slice Tryz.underlying42 JJ rfl (by (first|exact Lo.none|exact Lo.some rfl BJ)) (by (first|exact Up.none|exact Up.some rfl BJ)) (by omega) (by omega)) ?_);go_step;with_reducible exact zq9.out):p:=h ⟨k⟩
end
end Go.Proofs.YtohacgmhmbijmaaGreatDoor
namespace Go.Proofs.YtohacgmhmbijmaaGreatDoor
attribute [local irreducible] Region.wanted
set_option linter.unusedVariables false
set_option maxRecDepth 100000
set_option maxHeartbeats 8000000
theorem MY:(Tryz.prog.info? 30).map (·.size)=some 1:=by kernel_rfl
theorem So:AT Tryz.prog 24 0 0 3:=AT.mk' _ _ 1 Tryz.underlying24 rfl rfl rfl AA (by decide)
theorem Sp:AT Tryz.prog 24 1 1 3:=AT.mk' _ _ 1 Tryz.underlying24 rfl rfl rfl AA (by decide)
theorem Sq:AT Tryz.prog 24 2 2 22:=AT.mk' _ _ 1 Tryz.underlying24 rfl rfl rfl AA (by decide)
theorem Ef:(Tryz.prog.info? 3).map (·.size)=some 1:=by kernel_rfl
theorem Ss:AT Tryz.prog 32 0 0 29:=AT.mk' _ _ 16 Tryz.underlying32 rfl rfl rfl AA (by decide)
theorem MV:AT Tryz.prog 32 1 16 30:=AT.mk' _ _ 1 Tryz.underlying32 rfl rfl rfl AA (by decide)
theorem Yt:AT Tryz.prog 34 0 0 32:=AT.mk' _ _ 17 Tryz.underlying34 rfl rfl rfl AA (by decide)
theorem Yu:AT Tryz.prog 34 1 17 32:=AT.mk' _ _ 17 Tryz.underlying34 rfl rfl rfl AA (by decide)
theorem Wf:(Tryz.prog.info? 5).map (·.size)=some 1:=by kernel_rfl
theorem Su:AT Tryz.prog 37 0 0 3:=AT.mk' _ _ 1 Tryz.underlying37 rfl rfl rfl AA (by decide)
theorem Sv:AT Tryz.prog 37 1 1 3:=AT.mk' _ _ 1 Tryz.underlying37 rfl rfl rfl AA (by decide)
theorem Yv:AT Tryz.prog 37 2 2 3:=AT.mk' _ _ 1 Tryz.underlying37 rfl rfl rfl AA (by decide)
theorem Yw:AT Tryz.prog 37 3 3 26:=AT.mk' _ _ 64 Tryz.underlying37 rfl rfl rfl AA (by decide)
theorem Sw:AT Tryz.prog 37 4 67 34:=AT.mk' _ _ 34 Tryz.underlying37 rfl rfl rfl AA (by decide)
theorem Sx:AT Tryz.prog 37 5 101 3:=AT.mk' _ _ 1 Tryz.underlying37 rfl rfl rfl AA (by decide)
theorem Sy:AT Tryz.prog 37 6 102 35:=AT.mk' _ _ 1 Tryz.underlying37 rfl rfl rfl AA (by decide)
theorem JJ:(Tryz.prog.info? 26).map (·.size)=some 64:=by kernel_rfl
theorem kD:(Tryz.prog.info? 35).map (·.size)=some 1:=by kernel_rfl
theorem kE:(Tryz.prog.info? 94).map (·.size)=some 2:=by kernel_rfl
theorem PM:AT Tryz.prog 94 0 0 3:=AT.mk' _ _ 1 Tryz.underlying94 rfl rfl rfl AA (by decide)
theorem PN:AT Tryz.prog 94 1 1 3:=AT.mk' _ _ 1 Tryz.underlying94 rfl rfl rfl AA (by decide)
theorem UW:AT Tryz.prog 107 0 0 3:=AT.mk' _ _ 1 Tryz.underlying107 rfl rfl rfl AA (by decide)
theorem UX:AT Tryz.prog 107 1 1 3:=AT.mk' _ _ 1 Tryz.underlying107 rfl rfl rfl AA (by decide)
theorem kC:(Tryz.prog.info? 32).map (·.size)=some 17:=by kernel_rfl
theorem dT:AT Tryz.prog 119 0 0 35:=AT.mk' _ _ 1 Tryz.underlying119 rfl rfl rfl AA (by decide)
theorem dU:AT Tryz.prog 119 1 1 4:=AT.mk' _ _ 1 Tryz.underlying119 rfl rfl rfl AA (by decide)
theorem LY:AT Tryz.prog 140 0 0 133:=AT.mk' _ _ 1 Tryz.underlying140 rfl rfl rfl AA (by decide)
theorem JH:AT Tryz.prog 140 1 1 137:=AT.mk' _ _ 1 Tryz.underlying140 rfl rfl rfl AA (by decide)
theorem PQ:(Tryz.prog.info? 155).map (·.size)=some 3:=by kernel_rfl
theorem LZ:AT Tryz.prog 155 0 0 3:=AT.mk' _ _ 1 Tryz.underlying155 rfl rfl rfl AA (by decide)
theorem PH:AT Tryz.prog 155 1 1 3:=AT.mk' _ _ 1 Tryz.underlying155 rfl rfl rfl AA (by decide)
theorem UY:AT Tryz.prog 155 2 2 3:=AT.mk' _ _ 1 Tryz.underlying155 rfl rfl rfl AA (by decide)
theorem PI:AT Tryz.prog 159 0 0 3:=AT.mk' _ _ 1 Tryz.underlying159 rfl rfl rfl AA (by decide)
theorem PJ:AT Tryz.prog 159 1 1 30:=AT.mk' _ _ 1 Tryz.underlying159 rfl rfl rfl AA (by decide)
theorem S7:(Tryz.prog.info? 159).map (·.size)=some 2:=by kernel_rfl
theorem dV:AT Tryz.prog 181 0 0 172:=AT.mk' _ _ 1 Tryz.underlying181 rfl rfl rfl AA (by decide)
theorem dW:AT Tryz.prog 181 1 1 172:=AT.mk' _ _ 1 Tryz.underlying181 rfl rfl rfl AA (by decide)
theorem UZ:AT Tryz.prog 184 0 0 35:=AT.mk' _ _ 1 Tryz.underlying184 rfl rfl rfl AA (by decide)
theorem La:AT Tryz.prog 184 1 1 3:=AT.mk' _ _ 1 Tryz.underlying184 rfl rfl rfl AA (by decide)
theorem Ua:AT Tryz.prog 197 0 0 3:=AT.mk' _ _ 1 Tryz.underlying197 rfl rfl rfl AA (by decide)
theorem Ub:AT Tryz.prog 197 1 1 3:=AT.mk' _ _ 1 Tryz.underlying197 rfl rfl rfl AA (by decide)
theorem Uc:AT Tryz.prog 197 2 2 3:=AT.mk' _ _ 1 Tryz.underlying197 rfl rfl rfl AA (by decide)
theorem PK:AT Tryz.prog 202 0 0 199:=AT.mk' _ _ 1 Tryz.underlying202 rfl rfl rfl AA (by decide)
theorem PL:AT Tryz.prog 202 1 1 200:=AT.mk' _ _ 1 Tryz.underlying202 rfl rfl rfl AA (by decide)
theorem iO:(Tryz.prog.info? 197).map (·.size)=some 3:=by kernel_rfl
end Go.Proofs.YtohacgmhmbijmaaGreatDoor
