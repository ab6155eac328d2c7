/- What the laws FrameThree need, part 2. -/
import Derived.Test.YtohacgmhmbijmaaGreatDoorBaseTZ1
namespace Go.Proofs.YtohacgmhmbijmaaGreatDoor
open Go.RowKit
set_option linter.unusedVariables false
set_option maxRecDepth 100000
set_option maxHeartbeats 8000000
def DK(P:Program)(op:Op)(ty:TypeId)(a:Act)(v:Value):Prop:=
 ∀(d:Option Tmp)(pos:String)(af:Array Edge)(g:Option (Nat×Bool))(w:World),(execOp a.eval ⟨d,op,ty,pos,af,g⟩).run P w= .ok (.value v) w
section
variable{P:Program}{ops:Array Oper}{Q:Exit→Act→World→Prop}{rest:List Oper}{a:Act}{w:World}{d:Option Tmp}{op:Op}{ty:TypeId}{pos:String}{af:Array Edge}{g:Option (Nat×Bool)}
theorem H5(v:Value)(K:Act→World→Prop)(h:K (a.put d v) w):(Oper.mk d (.move (.const v)) ty pos af g).wp P a w K Q:=h
theorem Ak(v:Value)(hv:DK P op ty a v)(hw:Region.wanted ⟨d,op,ty,pos,af,g⟩ (yielded ops a.tmps)=true)(h:(Oper.mk d (.move (.const v)) ty pos af g).wp P a w (wpList P ops Q rest) Q):wpList P ops Q (⟨d,op,ty,pos,af,g⟩::rest) a w:=by
 refine Bi hw ?_
 unfold Oper.wp
 rw [hv d pos af g w]
 exact h
theorem aJ(b:Bool)(hv:DK P op ty a (.bool b))(hw:Region.wanted ⟨d,op,ty,pos,af,g⟩ (yielded ops a.tmps)=true)(ht:b=true→(Oper.mk d (.move (.const (.bool true))) ty pos af g).wp P a w (wpList P ops Q rest) Q)
 (hf:b=false→(Oper.mk d (.move (.const (.bool false))) ty pos af g).wp P a w (wpList P ops Q rest) Q):wpList P ops Q (⟨d,op,ty,pos,af,g⟩::rest) a w:=by
 cases b
 ·exact Ak _ hv hw (hf rfl)
 exact Ak _ hv hw (ht rfl)
theorem Cg(p:Prop)[Decidable p](hv:DK P op ty a (.bool (decide p)))(hw:Region.wanted ⟨d,op,ty,pos,af,g⟩ (yielded ops a.tmps)=true)(ht:p→(Oper.mk d (.move (.const (.bool true))) ty pos af g).wp P a w (wpList P ops Q rest) Q)
 (hf:¬p→(Oper.mk d (.move (.const (.bool false))) ty pos af g).wp P a w (wpList P ops Q rest) Q):wpList P ops Q (⟨d,op,ty,pos,af,g⟩::rest) a w:=
 aJ _ hv hw (fun h=>ht (of_decide_eq_true h)) (fun h=>hf (of_decide_eq_false h))
theorem AB{d:Tmp}{v:Value}(h:(Oper.mk (some d) (.move (.const v)) 0 "" #[] none).wp P a w (wpList P ops Q rest) Q):wpList P ops Q rest (a.put (some d) v) w:=h
theorem AF{md:Region.Mode}{D:List Nat}{S:World→Prop}{fuel:Nat}{listed:Array Bool}{d:Tmp}{v:Value}(h:(Oper.mk (some d) (.move (.const v)) 0 "" #[] none).wp P a w (AZ P md ops Q D S fuel listed) Q):AZ P md ops Q D S fuel listed (a.put (some d) v) w:=h
theorem BJ{c x y:Operand}(hc:a.eval c= .bool true)(hw:Region.wanted ⟨d, .pick c x y,ty,pos,af,g⟩ (yielded ops a.tmps)=true)(h:(Oper.mk d (.move x) ty pos af g).wp P a w (wpList P ops Q rest) Q):wpList P ops Q (⟨d, .pick c x y,ty,pos,af,g⟩::rest) a w:=by
 refine Bi hw ?_
 unfold Oper.wp execOp at*
 simp only [hc,asBool,Sem.run_bind,Sem.run_pure,Result.andThen_ok,if_true] at*
 exact h
theorem BC{c x y:Operand}(hc:a.eval c= .bool false)(hw:Region.wanted ⟨d, .pick c x y,ty,pos,af,g⟩ (yielded ops a.tmps)=true)(h:(Oper.mk d (.move y) ty pos af g).wp P a w (wpList P ops Q rest) Q):wpList P ops Q (⟨d, .pick c x y,ty,pos,af,g⟩::rest) a w:=by
 refine Bi hw ?_
 unfold Oper.wp execOp at*
 simp only [hc,asBool,Sem.run_bind,Sem.run_pure,Result.andThen_ok,Bool.false_eq_true,if_false] at*
 exact h
end
def Bq(z:Int)(j:Nat):Prop:=z=(j:Int)
theorem Bq.cast{j:Nat}:Bq (j:Int) j:=rfl
theorem Bq.add{x y:Int}{i j:Nat}(h:Bq x i)(k:Bq y j):Bq (x+y) (i+j):=by unfold Bq at*;omega
theorem Bq.mul{x y:Int}{i j:Nat}(h:Bq x i)(k:Bq y j):Bq (x*y) (i*j):=by unfold Bq at*;rw [h,k];push_cast;rfl
theorem Bq.div{x y:Int}{i j:Nat}(h:Bq x i)(k:Bq y j):Bq (x/y) (i/j):=by unfold Bq at*;rw [h,k];push_cast;rfl
theorem Bq.mod{x y:Int}{i j:Nat}(h:Bq x i)(k:Bq y j):Bq (x%y) (i%j):=by unfold Bq at*;rw [h,k];push_cast;rfl
theorem Bq.min{x y:Int}{i j:Nat}(h:Bq x i)(k:Bq y j):Bq (Min.min x y) (Min.min i j):=by unfold Bq at*;omega
theorem Bq.max{x y:Int}{i j:Nat}(h:Bq x i)(k:Bq y j):Bq (Max.max x y) (Max.max i j):=by unfold Bq at*;omega
class CJ(z:Int)(j:outParam Nat):Prop where
 out:Bq z j
instance CJ.cast{j:Nat}:CJ (j:Int) j:=⟨rfl⟩
instance CJ.l0:CJ 0 0:=⟨rfl⟩
instance CJ.l1:CJ 1 1:=⟨rfl⟩
instance CJ.l2:CJ 2 2:=⟨rfl⟩
instance CJ.l3:CJ 3 3:=⟨rfl⟩
instance CJ.l4:CJ 4 4:=⟨rfl⟩
instance CJ.l5:CJ 5 5:=⟨rfl⟩
instance CJ.l6:CJ 6 6:=⟨rfl⟩
instance CJ.l7:CJ 7 7:=⟨rfl⟩
instance CJ.l8:CJ 8 8:=⟨rfl⟩
instance CJ.l256:CJ 256 256:=⟨rfl⟩
instance CJ.add{x y:Int}{i j:Nat}[h:CJ x i][k:CJ y j]:CJ (x+y) (i+j):=⟨h.out.add k.out⟩
instance CJ.mul{x y:Int}{i j:Nat}[h:CJ x i][k:CJ y j]:CJ (x*y) (i*j):=⟨h.out.mul k.out⟩
instance CJ.div{x y:Int}{i j:Nat}[h:CJ x i][k:CJ y j]:CJ (x/y) (i/j):=⟨h.out.div k.out⟩
instance CJ.mod{x y:Int}{i j:Nat}[h:CJ x i][k:CJ y j]:CJ (x%y) (i%j):=⟨h.out.mod k.out⟩
theorem Bq.auto{z:Int}{j:Nat}[h:CJ z j]:Bq z j:=h.out
theorem Bq.sub{x y:Int}{i j:Nat}(h:Bq x i)(k:Bq y j)(l:j≤i):Bq (x-y) (i-j):=by unfold Bq at*;omega
theorem Bq.toNat{x:Int}(h:0≤x):Bq x x.toNat:=by unfold Bq;omega
section
variable{P:Program}{a:Act}{x y z:Operand}{t u ty:TypeId}{m n:Int}{k:IntKind}
theorem V.as{op:Op}{m':Int}(h:DK P op ty a (.int k m))(e:m=m'):DK P op ty a (.int k m'):=e▸ h
theorem V.add(hx:a.eval x= .int k m)(hy:a.eval y= .int k n):DK P (.binOp .add t x y u) ty a (.int k (k.wrap (m+n))):=fun d pos af g w=>by
 simp only [execOp,hx,hy,binOp_add,Op.intArith,eqGuard];rfl
theorem V.sub(hx:a.eval x= .int k m)(hy:a.eval y= .int k n):DK P (.binOp .sub t x y u) ty a (.int k (k.wrap (m-n))):=fun d pos af g w=>by
 simp only [execOp,hx,hy,binOp_sub,Op.intArith,eqGuard];rfl
theorem V.mul(hx:a.eval x= .int k m)(hy:a.eval y= .int k n):DK P (.binOp .mul t x y u) ty a (.int k (k.wrap (m*n))):=fun d pos af g w=>by
 simp only [execOp,hx,hy,binOp_mul,Op.intArith,eqGuard];rfl
theorem V.addI(hx:a.eval x= .int .i64 m)(hy:a.eval y= .int .i64 n)(h: -9223372036854775808≤m+n∧m+n≤9223372036854775807):DK P (.binOp .add t x y u) ty a (.int .i64 (m+n)):=by
 have:=V.add (P:=P) (t:=t) (u:=u) (ty:=ty) hx hy;rwa [IntWalk.i64_in _ h] at this
theorem V.subR(hk:k≠ .i64)(hx:a.eval x= .int k m)(hy:a.eval y= .int k n):DK P (.binOp .sub t x y u) ty a (.int k (k.wrap (m-n))):=V.sub hx hy
theorem V.subI(hx:a.eval x= .int .i64 m)(hy:a.eval y= .int .i64 n)(h: -9223372036854775808≤m-n∧m-n≤9223372036854775807):DK P (.binOp .sub t x y u) ty a (.int .i64 (m-n)):=by
 have:=V.sub (P:=P) (t:=t) (u:=u) (ty:=ty) hx hy;rwa [IntWalk.i64_in _ h] at this
theorem V.mulI(hx:a.eval x= .int .i64 m)(hy:a.eval y= .int .i64 n)(h: -9223372036854775808≤m*n∧m*n≤9223372036854775807):DK P (.binOp .mul t x y u) ty a (.int .i64 (m*n)):=by
 have:=V.mul (P:=P) (t:=t) (u:=u) (ty:=ty) hx hy;rwa [IntWalk.i64_in _ h] at this
theorem V.neg(hx:a.eval x= .int .i64 n)(h: -9223372036854775807≤n∧n≤9223372036854775807):DK P (.unOp .neg t x) ty a (.int .i64 (-n)):=fun d pos af g w=>by
 have e:Op.unary .neg (.int .i64 n)=pure (.int .i64 (IntKind.i64.wrap (0-n))):=rfl
 simp only [execOp,hx,e,Int.zero_sub,IntWalk.i64_in (-n) (by omega)];rfl
theorem V.quo(hx:a.eval x= .int .i64 m)(hy:a.eval y= .int .i64 n)(h:0≤m∧m≤9223372036854775807)(h2:0<n):DK P (.binOp .quo t x y u) ty a (.int .i64 (m/n)):=fun d pos af g w=>by
 have e1:m.tdiv n=m/n:=Int.tdiv_eq_ediv_of_nonneg h.1
 have e2:0≤m/n:=Int.ediv_nonneg h.1 (by omega)
 have e3:m/n≤m:=Int.ediv_le_self n h.1
 have hn:n≠0:=by omega
 simp only [execOp,hx,hy,binOp_quo,Op.intDiv,eqGuard,if_neg hn,e1,IntWalk.i64_in (m/n) (by omega)];rfl
theorem V.rem(hx:a.eval x= .int k m)(hy:a.eval y= .int k n)(h:0≤m)(h2:0<n):DK P (.binOp .rem t x y u) ty a (.int k (m%n)):=fun d pos af g w=>by
 have hn:n≠0:=by omega
 simp only [execOp,hx,hy,binOp_rem,Op.intDiv,eqGuard,if_neg hn,Int.tmod_eq_emod_of_nonneg h];rfl
theorem V.shl{yk:IntKind}{j:Nat}(hx:a.eval x= .int k m)(hy:a.eval y= .int yk n)(hj:Bq n j)(h:j<64)(hk:k.bits=64):DK P (.binOp .shl t x y u) ty a (.int k (k.wrap (m*2^j))):=fun d pos af g w=>by
 unfold Bq at hj
 have h0:¬n<0:=by omega
 have hm:Min.min n.toNat k.bits=j:=by omega
 simp only [execOp,hx,hy,binOp_shl,Op.shift,eqGuard,if_neg h0,hm];rfl
theorem V.shlI{yk:IntKind}{j:Nat}(hx:a.eval x= .int .i64 m)(hy:a.eval y= .int yk n)(hj:Bq n j)(h:j<64)(h1: -9223372036854775808≤m*2^j∧m*2^j≤9223372036854775807):DK P (.binOp .shl t x y u) ty a (.int .i64 (m*2^j)):=by
 have:=V.shl (P:=P) (t:=t) (u:=u) (ty:=ty) hx hy hj h rfl;rwa [IntWalk.i64_in _ h1] at this
theorem V.shl1{yk:IntKind}{j:Nat}(hx:a.eval x= .int .i64 1)(hy:a.eval y= .int yk n)(hj:Bq n j)(h:j<63):DK P (.binOp .shl t x y u) ty a (.int .i64 (2^j)):=by
 have e:(2:Int)^j≤4611686018427387904:=by
  have:=Nat.pow_le_pow_right (n:=2) (by omega) (show j≤62 by omega)
  have h2:(2:Int)^j=((2^j:Nat):Int):=by push_cast;rfl
  omega
 have e0:(0:Int)≤2^j:=Int.pow_nonneg (by omega)
 have:=V.shl (P:=P) (t:=t) (u:=u) (ty:=ty) hx hy hj (by omega) rfl
 rwa [Int.one_mul,IntWalk.i64_in _ (by omega)] at this
theorem V.shr{yk:IntKind}{j:Nat}(hx:a.eval x= .int k m)(hy:a.eval y= .int yk n)(hj:Bq n j)(h:j<64)(hk:k.bits=64):DK P (.binOp .shr t x y u) ty a (.int k (m/2^j)):=fun d pos af g w=>by
 unfold Bq at hj
 have e:m.fdiv (2^j)=m/2^j:=Int.fdiv_eq_ediv_of_nonneg _ (Int.pow_nonneg (by omega))
 have h0:¬n<0:=by omega
 have hm:Min.min n.toNat k.bits=j:=by omega
 simp only [execOp,hx,hy,binOp_shr,Op.shift,eqGuard,if_neg h0,hm,e];rfl
theorem V.and(hx:a.eval x= .int k m)(hy:a.eval y= .int k n):DK P (.binOp .and t x y u) ty a (.int k (bits .and k m n)):=fun d pos af g w=>by
 simp only [execOp,hx,hy,binOp_and,intBits_and,eqGuard];rfl
theorem V.or(hx:a.eval x= .int k m)(hy:a.eval y= .int k n):DK P (.binOp .or t x y u) ty a (.int k (bits .or k m n)):=fun d pos af g w=>by
 simp only [execOp,hx,hy,binOp_or,intBits_or,eqGuard];rfl
theorem V.eql(hx:a.eval x= .int k m)(hy:a.eval y= .int k n):DK P (.binOp .eql t x y u) ty a (.bool (decide (m=n))):=fun d pos af g w=>by
 simp only [execOp,hx,hy,binOp_eql,eqGuard_at_int];rfl
theorem V.neq(hx:a.eval x= .int k m)(hy:a.eval y= .int k n):DK P (.binOp .neq t x y u) ty a (.bool (decide (m≠n))):=fun d pos af g w=>by
 simp only [execOp,hx,hy,binOp_neq,eqGuard_at_int,ne_eq,decide_not];rfl
theorem V.lss(hx:a.eval x= .int k m)(hy:a.eval y= .int k n):DK P (.binOp .lss t x y u) ty a (.bool (decide (m<n))):=fun d pos af g w=>by
 simp only [execOp,hx,hy,binOp_lss,eqGuard];rfl
theorem V.leq(hx:a.eval x= .int k m)(hy:a.eval y= .int k n):DK P (.binOp .leq t x y u) ty a (.bool (decide (m≤n))):=fun d pos af g w=>by
 simp only [execOp,hx,hy,binOp_leq,eqGuard];rfl
theorem V.gtr(hx:a.eval x= .int k m)(hy:a.eval y= .int k n):DK P (.binOp .gtr t x y u) ty a (.bool (decide (n<m))):=fun d pos af g w=>by
 simp only [execOp,hx,hy,binOp_gtr,eqGuard];rfl
theorem V.geq(hx:a.eval x= .int k m)(hy:a.eval y= .int k n):DK P (.binOp .geq t x y u) ty a (.bool (decide (n≤m))):=fun d pos af g w=>by
 simp only [execOp,hx,hy,binOp_geq,eqGuard];rfl
theorem V.not{b:Bool}(hx:a.eval x= .bool b):DK P (.unOp .not t x) ty a (.bool (!b)):=fun d pos af g w=>by
 simp only [execOp,hx,Op.unary];rfl
theorem V.notD{p:Prop}[Decidable p](hx:a.eval x= .bool (decide p)):DK P (.unOp .not t x) ty a (.bool (decide (¬p))):=by
 rw [decide_not];exact V.not hx
theorem V.convI{k':IntKind}(hs:(P.underlying t).isSome=true)(hd:P.underlying u=some (.int k'))(hx:a.eval x= .int k m)(h:k'.wrap m=m):DK P (.convert t u x) ty a (.int k' m):=fun d pos af g w=>by
 have e:P.intKind u=k':=by simp [Program.intKind,hd]
 have e2:=run_convert_int (P:=P) w t u k m hs (by rw [e];exact hd)
 rw [e,h] at e2
 simp only [execOp,hx,Sem.run_bind,e2,Result.andThen_ok,Sem.run_pure]
theorem V.extract{vs:List Value}{i:Nat}{v:Value}(hx:a.eval x= .tuple vs.toArray)(hv:vs[i]? =some v):DK P (.extract x i) ty a v:=fun d pos af g w=>by
 have e:(vs.toArray)[i]? =some v:=by simpa using hv
 simp only [execOp,hx,Instr.extract,e];rfl
theorem V.nilCheck{p:Addr}(hx:a.eval x= .pointer (some p)):DK P (.nilCheck x) ty a (.pointer (some p)):=fun d pos af g w=>by
 simp only [execOp,hx];rfl
theorem V.len{ad:Option Addr}{n c:Nat}{e:TypeId}(ht:P.underlying t=some (.slice e))(hx:a.eval x= .slice ad n c):DK P (.call {callee:= .builtin .len,args:=#[x],argTypes:=#[t]}) ty a (.int .i64 n):=fun d pos af g w=>by
 have e:P.elem t=e:=by simp [Program.elem,ht]
 have e2:=run_len_slice (P:=P) w t ty ad n c (by rw [e];exact ht)
 simp only [execOp,resolve,invoke,builtin,Sem.run_bind,Sem.run_pure,Result.andThen_ok,List.map_toArray,List.map_cons,List.map_nil,hx,e2]
 rfl
theorem V.max{ts:Array TypeId}(hx:a.eval x= .int k m)(hy:a.eval y= .int k n):DK P (.call {callee:= .builtin .max,args:=#[x,y],argTypes:=ts}) ty a (.int k (Max.max m n)):=fun d pos af g w=>by
 simp only [execOp,resolve,invoke,builtin,Sem.run_bind,Sem.run_pure,Result.andThen_ok,List.map_toArray,List.map_cons,List.map_nil,hx,hy,LL]
theorem V.min{ts:Array TypeId}(hx:a.eval x= .int k m)(hy:a.eval y= .int k n):DK P (.call {callee:= .builtin .min,args:=#[x,y],argTypes:=ts}) ty a (.int k (Min.min m n)):=fun d pos af g w=>by
 simp only [execOp,resolve,invoke,builtin,Sem.run_bind,Sem.run_pure,Result.andThen_ok,List.map_toArray,List.map_cons,List.map_nil,hx,hy,LM]
theorem V.indexSl{b off n c j s js q:Nat}{e:TypeId}{i:Int}(ht:P.underlying t=some (.slice e))(hs:(P.info? e).map (·.size)=some s)(hx:a.eval x= .slice (some ⟨b,off,none⟩) n c)(hy:a.eval y= .int k i)(hj:Bq i j)(hn:j<n)(hjs:j*s=js)(hq:off+js=q):
 DK P (.indexAddr t x y) ty a (.pointer (some ⟨b,q,none⟩)):=fun d pos af g w=>by
 unfold Bq at hj
 subst hjs
 have e0:P.elem t=e:=by simp [Program.elem,ht]
 have e2:=run_indexAt_slice (P:=P) w t ⟨b,off,none⟩ n c k i (by rw [e0];exact ht)
 rw [if_pos (by omega),e0,BZ w hs,Result.andThen_ok,Addr.add_mid,show i.toNat=j by omega,hq] at e2
 simp only [execOp,hx,hy,Sem.run_bind,e2,Result.andThen_ok,Sem.run_pure]
theorem V.indexAr{b off n j s js q:Nat}{e:TypeId}{i:Int}(ht:P.underlying t=some (.array n e))(hs:(P.info? e).map (·.size)=some s)(hx:a.eval x= .pointer (some ⟨b,off,none⟩))(hy:a.eval y= .int k i)(hj:Bq i j)(hn:j<n)(hjs:j*s=js)(hq:off+js=q):
 DK P (.indexAddr t x y) ty a (.pointer (some ⟨b,q,none⟩)):=fun d pos af g w=>by
 unfold Bq at hj
 subst hjs
 have e0:P.elem t=e:=by simp [Program.elem,ht]
 have e1:P.arrayLen t=n:=by simp [Program.arrayLen,ht]
 have e2:=run_indexAt_array (P:=P) w t ⟨b,off,none⟩ k i (by rw [e0,e1];exact ht)
 rw [e1,if_pos (by omega),e0,BZ w hs,Result.andThen_ok,Addr.add_mid,show i.toNat=j by omega,hq] at e2
 simp only [execOp,hx,hy,Sem.run_bind,e2,Result.andThen_ok,Sem.run_pure]
theorem V.indexIv{l:List Int}{n j:Nat}{e:TypeId}{i:Int}(ht:P.underlying t=some (.array n e))(he:P.underlying e=some (.int .i64))(hs:(P.info? e).map (·.size)=some 1)(hx:a.eval x= .agg (iv l))(hy:a.eval y= .int k i)(hl:Ap l n)(hj:Bq i j)(hn:j<n):
 DK P (.index t x y) ty a (.int .i64 (AK l j)):=fun d pos af g w=>by
 unfold Bq at hj
 have e0:P.elem t=e:=by simp [Program.elem,ht]
 have e1:P.arrayLen t=n:=by simp [Program.arrayLen,ht]
 have e3:(isAgg e).run P w= .ok false w:=by simp [isAgg,run_underlying he]
 have e2:=LK (P:=P) w t (iv l) k i (by rw [e0,e1];exact ht)
 rw [e1,if_pos (by omega),e0,BZ w hs,Result.andThen_ok,show i.toNat=j by omega,Nat.mul_one,Ek,e3,Result.andThen_ok,FY l j (by rw [hl.out];exact hn)] at e2
 simp only [execOp,hx,hy,Sem.run_bind,e2,Result.andThen_ok,Sem.run_pure,Bool.false_eq_true,if_false]
end
section
variable{P:Program}{ops:Array Oper}{Q:Exit→Act→World→Prop}{rest:List Oper}{a:Act}{W w:World}{rs:List Au}{d:Option Tmp}{x y:Operand}{t ty:TypeId}{pos:String}{af:Array Edge}{g:Option (Nat×Bool)}{k:IntKind}
theorem Ku{ad:Option Addr}{n c j s:Nat}{cs:List Value}{e:TypeId}{i:Int}(hv:Sl W s (.slice ad n c) n cs)(ht:P.underlying t=some (.slice e))(hs:(P.info? e).map (·.size)=some s)(hx:a.eval x= .slice ad n c)(hy:a.eval y= .int k i)(hj:Bq i j)(hn:j<n)
 (hw:Region.wanted ⟨d, .indexAddr t x y,ty,pos,af,g⟩ (yielded ops a.tmps)=true)
 (h:∀b o,W.rangeAt b o ((cs.drop (j*s)).take s)→(Oper.mk d (.move (.const (.pointer (some ⟨b,o,none⟩)))) ty pos af g).wp P a w (wpList P ops Q rest) Q):wpList P ops Q (⟨d, .indexAddr t x y,ty,pos,af,g⟩::rest) a w:=by
 obtain ⟨hl,a',c',e1,_,_,hor⟩:=hv
 cases e1
 rcases hor with h0|⟨b,off,rfl,hc⟩
 ·omega
 refine Ak _ (V.indexSl (q:=off+j*s) ht hs hx hy hj hn rfl rfl) hw (h b _ fun m v hv=>?_)
 rw [List.getElem?_take] at hv
 split at hv
 ·rename_i hm
  rw [List.getElem?_drop] at hv
  have hjs:j*s+s≤n*s:=by have:=Nat.mul_le_mul_right s hn;rw [Nat.succ_mul] at this;exact this
  rw [Nat.add_assoc,hc (j*s+m) (by omega),hv]
 cases hv
theorem FF{ad:Option Addr}{n c j:Nat}{l:List Int}{e:TypeId}{i:Int}(hv:Sl W 1 (.slice ad n c) n (l.map (Value.int .i64)))(ht:P.underlying t=some (.slice e))(hs:(P.info? e).map (·.size)=some 1)(hx:a.eval x= .slice ad n c)(hy:a.eval y= .int k i)(hj:Bq i j)(hn:j<n)
 (hw:Region.wanted ⟨d, .indexAddr t x y,ty,pos,af,g⟩ (yielded ops a.tmps)=true)
 (h:∀b o,W.cell? ⟨b,o,none⟩=some (.int .i64 (AK l j))→(Oper.mk d (.move (.const (.pointer (some ⟨b,o,none⟩)))) ty pos af g).wp P a w (wpList P ops Q rest) Q):wpList P ops Q (⟨d, .indexAddr t x y,ty,pos,af,g⟩::rest) a w:=
 Ku hv ht hs hx hy hj hn hw fun b o hr=>h b o (by
  have hl:l.length=n:=by have:=hv.1;simpa using this
  have:=hr 0 (.int .i64 (AK l j)) (by simp [AK,List.getD,List.getElem?_drop,hl,hn])
  simpa using this)
end
structure AR(P:Program)(s:TypeId)(f:Nat)(fo:Nat)(ft:TypeId):Prop where
 ex:∃fs fl,P.underlying s=some (.struct fs)∧fs[f]? =some fl∧fl.offset=fo∧fl.type=ft
 sz:∃n,(P.info? ft).map (·.size)=some n∧n≠0
section
variable{P:Program}{a:Act}{x:Operand}{t ft ty:TypeId}{f fo:Nat}
theorem AR.mk'(fs:Array Field)(fl:Field)(n:Nat)(h1:P.underlying t=some (.struct fs))(h2:fs[f]? =some fl)(h3:fl.offset=fo)(h4:fl.type=ft)(h5:(P.info? ft).map (·.size)=some n)(h6:n≠0):AR P t f fo ft:=
 ⟨⟨fs,fl,h1,h2,h3,h4⟩,⟨n,h5,h6⟩⟩
theorem V.fieldAddr{b off q:Nat}(hf:AR P t f fo ft)(hx:a.eval x= .pointer (some ⟨b,off,none⟩))(hq:off+fo=q):DK P (.fieldAddr t x f) ty a (.pointer (some ⟨b,q,none⟩)):=fun d pos af g w=>by
 obtain ⟨⟨fs,fl,h1,h2,rfl,rfl⟩,n,h3,h4⟩:=hf
 simp only [execOp,hx,Instr.fieldAt,Instr.sureAddr,Sem.run_bind,run_underlying h1,Result.andThen_ok,h2,fieldPlace,BZ w h3,Sem.run_pure]
 rw [if_neg h4]
 simp only [Sem.run_pure,Result.andThen_ok,Addr.add_mid,hq]
end
end Go.Proofs.YtohacgmhmbijmaaGreatDoor
/- Short EV for what the walks say often. -/
namespace Go.Proofs.YtohacgmhmbijmaaGreatDoor
open Go.RowKit
set_option linter.unusedVariables false
set_option maxRecDepth 100000
set_option maxHeartbeats 8000000
theorem AJ{r:Au}{rs rs':List Au}(h:AT r rs rs':=by (repeat (first|with_reducible exact AT.head|apply AT.tail))):AT r rs rs':=h
theorem AV{xs rs:List Au}(h:NV xs rs:=by (repeat (first|exact NV.nil|with_reducible exact NV.refl|(apply NV.cons;(case p=>(repeat (first|with_reducible exact AT.head|apply AT.tail))))|apply NV.skip))):NV xs rs:=h
theorem BI{z:Int}{j:Nat}(h:Bq z j:=by (repeat (first|exact Bq.auto|with_reducible apply Bq.add|with_reducible apply Bq.sub|with_reducible apply Bq.mul|with_reducible apply Bq.div|with_reducible apply Bq.mod|with_reducible apply Bq.min|with_reducible apply Bq.max|(with_reducible show (_:Nat)≤_;omega)|exact Bq.toNat (by omega)))):Bq z j:=h
theorem CG{x v:Value}(h:DI x v:=by (first|exact DI.int rfl|exact DI.bool rfl|exact DI.slice rfl|exact DI.pointer rfl|exact DI.string rfl|exact DI.map rfl|exact DI.func rfl)):DI x v:=h
theorem Am{o:Oper}{i:Nat}{l:List Oper}(h:GV o i l:=by (repeat (first|with_reducible exact GV.head|apply GV.tail))):GV o i l:=h
theorem dc{p:Prop}(h:p:=by exact fun _ _ _ _ h=>h):p:=h
theorem Ch{p:Prop}(h:p:=by first|exact fun _ _ _ _ h=>h|exact fun _ _ _ _ h=>nomatch h.1):p:=h
theorem AW{p:Prop}(h:False:=by omega):p:=h.elim
theorem JX{p q:Prop}(h:p)(hn:¬p:=by decide):q:=absurd h hn
theorem AA{α:Type _}{a b:α}(h:a=b:=by kernel_rfl):a=b:=h
theorem BO{a b:Nat}(h:a=b:=by first|with_reducible exact Nat.zero_add _|with_reducible exact Nat.add_zero _|exact rfl):a=b:=h
theorem Uq{v:Value}{k:Nat}{cs cs':List Value}(h:D3 v k cs cs':=by (repeat (first|with_reducible exact D3.head|apply D3.tail))):D3 v k cs cs':=h
theorem EJ{l:List Int}{n:Nat}(h:Ap l n:=by first|(with_reducible assumption)|exact Ap.rep|exact Ap.set (by with_reducible assumption)|exact Ap.set Ap.rep|exact Ap.set (Ap.set Ap.rep)):Ap l n:=h
structure A6(p:Prop):Prop where
 out:p
structure bD(c e p q:Prop):Prop where
 t:c→p
 f:e→q
structure GM(T q:Nat→World→Prop):Prop where
 out:∀g w,T g w→q g w
structure In(T q:World→Prop):Prop where
 out:∀w,T w→q w
structure cR(T q:Option Addr→Nat→World→Prop):Prop where
 out:∀a c w,T a c w→q a c w
structure dL(p:Prop):Prop where
structure dN(n:Nat)(p:Prop):Prop where
structure dM(n:Nat)(p:Prop):Prop where
def B5(_:Nat)(p:Prop):Prop:=p
section
variable{P:Program}{ops:Array Oper}{Q:Exit→Act→World→Prop}{rest:List Oper}{a:Act}{w:World}{d:Option Tmp}{op:Op}{ty:TypeId}{pos:String}{af:Array Edge}{g:Option (Nat×Bool)}{x:Operand}
theorem An(d:Option Tmp)(op:Op)(h:wpList P ops Q (⟨d,op,ty,pos,af,g⟩::rest) a w):wpList P ops Q (⟨d,op,ty,pos,af,g⟩::rest) a w:=h
theorem JG(h:wpList P ops Q (⟨d, .move x,ty,pos,af,g⟩::rest) a w):wpList P ops Q (⟨d, .move x,ty,pos,af,g⟩::rest) a w:=h
theorem df(h:(Oper.mk d op ty pos af none).wp P a w (wpList P ops Q rest) Q):wpList P ops Q (⟨d,op,ty,pos,af,none⟩::rest) a w:=Bi rfl h
theorem QW(h:wpList P ops Q (⟨d, .assign x,ty,pos,af,g⟩::rest) a w):wpList P ops Q (⟨d, .assign x,ty,pos,af,g⟩::rest) a w:=h
theorem Ag{o:Oper}(h:o.wp P a w (wpList P ops Q rest) Q)(hw:Region.wanted o (yielded ops a.tmps)=true:=by kernel_rfl):wpList P ops Q (o::rest) a w:=Bi hw h
theorem db(n:Nat)(h:wpList P ops Q (⟨some n,op,ty,pos,af,g⟩::rest) a w):wpList P ops Q (⟨some n,op,ty,pos,af,g⟩::rest) a w:=h
theorem B7{n:Nat}(h:wpList P ops Q (⟨some n,op,ty,pos,af,g⟩::rest) a w):B5 n (wpList P ops Q (⟨some n,op,ty,pos,af,g⟩::rest) a w):=h
theorem dZ{o:Oper}:dL (wpList P ops Q (o::rest) a w):=⟨⟩
theorem dY{n:Nat}:dN n (wpList P ops Q (⟨some n,op,ty,pos,af,g⟩::rest) a w):=⟨⟩
theorem dX{n:Nat}{xs:Array Operand}{ts:Array TypeId}:dM n (wpList P ops Q (⟨d, .call ⟨.value (.func n),xs,ts⟩,ty,pos,af,g⟩::rest) a w):=⟨⟩
theorem As{v:Value}(hw:Region.wanted ⟨d,op,ty,pos,af,g⟩ (yielded ops a.tmps)=true)(hv:DK P op ty a v)(h:(Oper.mk d (.move (.const v)) ty pos af g).wp P a w (wpList P ops Q rest) Q):wpList P ops Q (⟨d,op,ty,pos,af,g⟩::rest) a w:=Ak v hv hw h
theorem Ae{v:Value}{d:Tmp}(h:(Oper.mk (some d) (.move (.const v)) 0 "" #[] none).wp P a w (wpList P ops Q rest) Q):∃v',Ending.returned v= .returned v'∧wpList P ops Q rest (a.put (some d) v') w:=⟨v,rfl,h⟩
theorem Gb{W:World}{rs:List Au}{v:Value}{d:Tmp}(hS:St W w rs)(h:∀w,St W w rs→(Oper.mk (some d) (.move (.const v)) 0 "" #[] none).wp P a w (wpList P ops Q rest) Q):∀e w',(e=Ending.returned v∧Al w w')→∃v',e= .returned v'∧wpList P ops Q rest (a.put (some d) v') w':=fun _ w' h2=>⟨v,h2.1,h w' (hS.ext h2.2)⟩
theorem A4{f:FuncId}{xs:List Operand}{ts:Array TypeId}{R:Ending→World→Prop}(hw:Region.wanted ⟨d, .call ⟨.value (.func f),xs.toArray,ts⟩,ty,pos,af,g⟩ (yielded ops a.tmps)=true)(hcall:∀(args:Array Value)(w:World),(callFunc f args).run P w= .ok (.enter f args) w)(hc:Calls P f (xs.map a.eval).toArray w R)
 (h:∀e w',R e w'→∃v,e= .returned v∧wpList P ops Q rest (a.put d v) w'):wpList P ops Q (⟨d, .call ⟨.value (.func f),xs.toArray,ts⟩,ty,pos,af,g⟩::rest) a w:=AN hcall hw ⟨R,hc,h⟩
end
theorem AG{p:Prop}(k:p)(_:dL p:=by (fail_if_success with_reducible exact dZ);exact ⟨⟩):p:=k
theorem AS(n:Nat){p:Prop}(k:p)(_:dN n p:=by with_reducible exact dY):p:=k
theorem A3(n:Nat){p:Prop}(k:p)(_:dM n p:=by with_reducible exact dX):p:=k
section
variable{p q:Prop}
theorem X0(k:q)(h:A6 q→p:=by intro zq9;(first|(with_reducible refine JG ?_)|(with_reducible refine QW ?_));((first|go_big_want|go_step));go_step;go_step;with_reducible exact zq9.out):p:=h ⟨k⟩
theorem X1(k:q)(h:A6 q→p:=by intro zq9;(with_reducible refine JG ?_);((first|go_big_want|go_step));go_step;go_step;with_reducible exact zq9.out):p:=h ⟨k⟩
theorem X2(k:q)(h:A6 q→p:=by intro zq9;(with_reducible refine An _ (.binOp .lss _ _ _ _) ?_);(refine As AA (V.lss rfl rfl) ?_);go_step;with_reducible exact zq9.out):p:=h ⟨k⟩
theorem X3(k:q)(h:A6 q→p:=by intro zq9;(with_reducible refine An _ (.binOp .neq 38 _ _ _) ?_);(refine As AA (V.neq rfl rfl) ?_);go_step;with_reducible exact zq9.out):p:=h ⟨k⟩
theorem X4(n:Nat)(k:q)(h:A6 q→B5 n p:=by intro zq9;(with_reducible refine B7 ?_);(refine As AA (V.lss rfl rfl) ?_);go_step;with_reducible exact zq9.out):p:=h ⟨k⟩
theorem X5(n:Nat)(k:q)(h:A6 q→B5 n p:=by intro zq9;(with_reducible refine B7 ?_);(refine As AA (V.extract rfl rfl) ?_);go_step;with_reducible exact zq9.out):p:=h ⟨k⟩
theorem X6(k:q)(h:A6 q→p:=by intro zq9;(with_reducible refine An _ (.extract _ _) ?_);(refine As AA (V.extract rfl rfl) ?_);go_step;with_reducible exact zq9.out):p:=h ⟨k⟩
theorem X7(k:q)(h:A6 q→p:=by intro zq9;(with_reducible refine An _ (.binOp .add _ _ _ _) ?_);(refine As AA (V.addI rfl rfl (by omega)) ?_);go_step;with_reducible exact zq9.out):p:=h ⟨k⟩
theorem X8(k:q)(h:A6 q→p:=by intro zq9;(with_reducible refine QW ?_);((first|go_big_want|go_step));go_step;go_step;with_reducible exact zq9.out):p:=h ⟨k⟩
theorem X9(k:q)(h:A6 q→p:=by intro zq9;(with_reducible refine An _ (.load 3 _) ?_);(refine Ag ?_;apply AY hS 3 _ rfl _ _ rfl (AH rfl) _;(case hp=>exact AJ);(case hc=>rfl);refine AB ?_);go_step;with_reducible exact zq9.out):p:=h ⟨k⟩
theorem EN(n:Nat){c e r:Prop}(k:c→q)(k2:e→r)(h:bD c e q r→B5 n p:=by intro zq9;(with_reducible refine B7 ?_);refine Cg _ (V.lss rfl rfl) AA zq9.t zq9.f):p:=h ⟨k,k2⟩
theorem Es(n:Nat){c e r:Prop}(k:c→q)(k2:e→r)(h:bD c e q r→B5 n p:=by intro zq9;(with_reducible refine B7 ?_);refine Cg _ (V.neq rfl rfl) AA zq9.t zq9.f):p:=h ⟨k,k2⟩
theorem Ew{T q:World→Prop}(k:∀w,T w→q w)(h:In T q→p:=by intro zq9;(with_reducible refine An _ (.store 26 _ _) ?_);(refine Ag ?_;apply MA hS 26 _ _ rfl _ rfl 64 (AP rfl) _ _;(case hp=>exact AJ);(case hy=>rfl);(case hm=>(repeat (first|assumption|exact Ap.rep|apply Ap.set|((with_reducible show Ap (_::_) _);exact rfl))));(case hd=>exact rfl));intro w9 h9;with_reducible exact zq9.out w9 h9):p:=h ⟨k⟩
theorem Ex(n:Nat)(k:q)(h:A6 q→B5 n p:=by intro zq9;(with_reducible refine B7 ?_);(refine As AA (V.fieldAddr JS rfl BO) ?_);go_step;with_reducible exact zq9.out):p:=h ⟨k⟩
theorem FJ(k:q)(h:A6 q→p:=by intro zq9;(with_reducible refine An _ (.pick _ _ _) ?_);(refine BJ rfl AA ?_);go_step;with_reducible exact zq9.out):p:=h ⟨k⟩
theorem Gv(k:q)(h:A6 q→p:=by intro zq9;(with_reducible refine An _ (.binOp .gtr _ _ _ _) ?_);(refine As AA (V.gtr rfl rfl) ?_);go_step;with_reducible exact zq9.out):p:=h ⟨k⟩
theorem Gz(k:q)(h:A6 q→p:=by intro zq9;(with_reducible refine An _ (.pick _ _ _) ?_);(refine BC rfl AA ?_);go_step;with_reducible exact zq9.out):p:=h ⟨k⟩
theorem H9{T q:World→Prop}(k:∀w,T w→q w)(h:In T q→p:=by intro zq9;(with_reducible refine An _ (.store 155 _ _) ?_);(refine Ag ?_;apply CV hS 155 _ _ rfl _ rfl 3 (AP rfl) _ _;(case hp=>exact AJ);(case hy=>rfl);(case hn=>rfl);(case hn'=>rfl);(case hv=>rfl);(case hd=>exact rfl));intro w9 h9;with_reducible exact zq9.out w9 h9):p:=h ⟨k⟩
theorem IA(n:Nat){c e r:Prop}(k:c→q)(k2:e→r)(h:bD c e q r→B5 n p:=by intro zq9;(with_reducible refine B7 ?_);refine Cg _ (V.eql rfl rfl) AA zq9.t zq9.f):p:=h ⟨k,k2⟩
theorem IB(n:Nat)(k:q)(h:A6 q→B5 n p:=by intro zq9;(with_reducible refine B7 ?_);(refine As AA (V.fieldAddr MS rfl BO) ?_);go_step;with_reducible exact zq9.out):p:=h ⟨k⟩
theorem II(n:Nat){T q:Nat→World→Prop}(k:∀g w,T g w→q g w)(h:GM T q→B5 n p:=by intro zq9;(with_reducible refine B7 ?_);(refine Ag ?_;apply B3 (o:=⟨some _,_,_,_,_,_⟩) hS 155 rfl (.agg #[.int .i64 0, .int .i64 0, .int .i64 0]) [.int .i64 0, .int .i64 0, .int .i64 0] (fun w=>Tryz.zeroValue155 w) rfl);intro g w9 h9;refine AB ?_;go_step;with_reducible exact zq9.out g w9 h9):p:=h ⟨k⟩
theorem IJ(k:q)(h:A6 q→p:=by intro zq9;(with_reducible refine An _ (.binOp .neq 3 _ _ _) ?_);(refine As AA (V.neq rfl rfl) ?_);go_step;with_reducible exact zq9.out):p:=h ⟨k⟩
theorem IK(k:q)(h:A6 q→p:=by intro zq9;(with_reducible refine An _ (.load 26 _) ?_);(refine Ag ?_;apply H7 hS 26 _ rfl _ rfl 64 (AP rfl) _;(case hp=>exact AJ);refine AB ?_);go_step;with_reducible exact zq9.out):p:=h ⟨k⟩
theorem IL(k:q)(h:A6 q→p:=by intro zq9;(with_reducible refine An _ (.pick _ _ _) ?_);(first|(refine BJ rfl AA ?_)|(refine BC rfl AA ?_));go_step;with_reducible exact zq9.out):p:=h ⟨k⟩
theorem JE(n:Nat)(k:q)(h:A6 q→B5 n p:=by intro zq9;(with_reducible refine B7 ?_);(refine As AA (V.neq rfl rfl) ?_);go_step;with_reducible exact zq9.out):p:=h ⟨k⟩
theorem JL(n:Nat){T q:Nat→World→Prop}(k:∀g w,T g w→q g w)(h:GM T q→B5 n p:=by intro zq9;(with_reducible refine B7 ?_);(refine Ag ?_;apply L5 (o:=⟨some _,_,_,_,_,_⟩) hS 26 rfl (List.replicate 64 0) 64 List.length_replicate cQ);intro g w9 h9;refine AB ?_;go_step;with_reducible exact zq9.out g w9 h9):p:=h ⟨k⟩
theorem JM(n:Nat){c e r:Prop}(k:c→q)(k2:e→r)(h:bD c e q r→B5 n p:=by intro zq9;(with_reducible refine B7 ?_);refine Cg _ (V.gtr rfl rfl) AA zq9.t zq9.f):p:=h ⟨k,k2⟩
theorem Jk(n:Nat){c e r:Prop}(k:c→q)(k2:e→r)(h:bD c e q r→B5 n p:=by intro zq9;(with_reducible refine B7 ?_);refine aJ _ (V.not rfl) AA zq9.t zq9.f):p:=h ⟨k,k2⟩
theorem K1(n:Nat)(k:q)(h:A6 q→B5 n p:=by intro zq9;(with_reducible refine B7 ?_);(refine As AA (V.eql rfl rfl) ?_);go_step;with_reducible exact zq9.out):p:=h ⟨k⟩
theorem LU(k:q)(h:A6 q→p:=by intro zq9;(with_reducible refine An _ (.load 32 _) ?_);(refine Ag ?_;apply C8 hS 32 _ rfl _ _ rfl 17 (AP rfl) _;(case hp=>exact AJ);(case hi=>(repeat (first|(apply GK.head;(repeat (first|exact CH.nil|(apply CH.ints;(case hn=>exact EJ);(case h=>omega);(case hm=>rfl))|apply CH.val)))|(apply GK.skipI;(case hn=>exact EJ);(case h=>omega);(case ho=>rfl))|apply GK.skipV)));refine AB ?_);go_step;with_reducible exact zq9.out):p:=h ⟨k⟩
theorem MD(n:Nat){T q:Nat→World→Prop}(k:∀g w,T g w→q g w)(h:GM T q→B5 n p:=by intro zq9;(with_reducible refine B7 ?_);(refine Ag ?_;apply Xx (o:=⟨some _,_,_,_,_,_⟩) hS 26 _ rfl _ 64 rfl;(case hn=>assumption));intro g w9 h9;refine AB ?_;go_step;with_reducible exact zq9.out g w9 h9):p:=h ⟨k⟩
theorem ME(n:Nat)(k:q)(h:A6 q→B5 n p:=by intro zq9;(with_reducible refine B7 ?_);(refine As AA (V.gtr rfl rfl) ?_);go_step;with_reducible exact zq9.out):p:=h ⟨k⟩
theorem NW(k:q)(h:A6 q→p:=by intro zq9;(with_reducible refine An _ (.unOp .not _ _) ?_);(refine As AA (V.not rfl) ?_);go_step;with_reducible exact zq9.out):p:=h ⟨k⟩
theorem PF(n:Nat){T q:Nat→World→Prop}(k:∀g w,T g w→q g w)(h:GM T q→B5 n p:=by intro zq9;(with_reducible refine B7 ?_);(refine Ag ?_;apply CP (o:=⟨some _,_,_,_,_,_⟩) hS 24 _ rfl _ rfl);intro g w9 h9;refine AB ?_;go_step;with_reducible exact zq9.out g w9 h9):p:=h ⟨k⟩
theorem PG(n:Nat){T q:Nat→World→Prop}(k:∀g w,T g w→q g w)(h:GM T q→B5 n p:=by intro zq9;(with_reducible refine B7 ?_);(refine Ag ?_;apply H4 (o:=⟨some _,_,_,_,_,_⟩) hS 34 _ rfl _ rfl);intro g w9 h9;refine AB ?_;go_step;with_reducible exact zq9.out g w9 h9):p:=h ⟨k⟩
theorem QR(n:Nat){T q:Nat→World→Prop}(k:∀g w,T g w→q g w)(h:GM T q→B5 n p:=by intro zq9;(with_reducible refine B7 ?_);(refine Ag ?_;apply AU (o:=⟨some _,_,_,_,_,_⟩) hS 141 1 _ rfl 155 3 24 Tu _ _;(case hvs=>(repeat (first|exact AX.nil|(apply AX.agg;(rfl);(rfl))|(apply AX.one;exact CG;(rfl);(rfl)))));(case hn=>rfl);(case hn0=>decide);(case hns=>decide));intro g w9 h9;simp only [List.cons_append,List.nil_append] at h9;refine AB ?_;go_step;with_reducible exact zq9.out g w9 h9):p:=h ⟨k⟩
theorem QS(k:q)(h:A6 q→p:=by intro zq9;(with_reducible refine An _ (.fieldAddr 155 _ 1) ?_);(refine As AA (V.fieldAddr MS rfl BO) ?_);go_step;with_reducible exact zq9.out):p:=h ⟨k⟩
theorem QT(k:q)(h:A6 q→p:=by intro zq9;(with_reducible refine An _ (.load 155 _) ?_);(refine Ag ?_;apply Di hS 155 _ rfl _ rfl 3 (AP rfl) _;(case hp=>exact AJ);(case hn=>rfl);refine AB ?_);go_step;with_reducible exact zq9.out):p:=h ⟨k⟩
theorem QU(k:q)(h:A6 q→p:=by intro zq9;(with_reducible refine An _ (.load 34 _) ?_);(refine Ag ?_;apply C8 hS 34 _ rfl _ _ rfl 34 (AP rfl) _;(case hp=>exact AJ);(case hi=>(repeat (first|(apply GK.head;(repeat (first|exact CH.nil|(apply CH.ints;(case hn=>exact EJ);(case h=>omega);(case hm=>rfl))|apply CH.val)))|(apply GK.skipI;(case hn=>exact EJ);(case h=>omega);(case ho=>rfl))|apply GK.skipV)));refine AB ?_);go_step;with_reducible exact zq9.out):p:=h ⟨k⟩
theorem Rk(n:Nat){T q:Nat→World→Prop}(k:∀g w,T g w→q g w)(h:GM T q→B5 n p:=by intro zq9;(with_reducible refine B7 ?_);(refine Ag ?_;apply GF (o:=⟨some _,_,_,_,_,_⟩) hS 32 rfl _ dJ);intro g w9 h9;refine AB ?_;go_step;with_reducible exact zq9.out g w9 h9):p:=h ⟨k⟩
theorem TD(n:Nat){T q:Nat→World→Prop}(k:∀g w,T g w→q g w)(h:GM T q→B5 n p:=by intro zq9;(with_reducible refine B7 ?_);(refine Ag ?_;apply H4 (o:=⟨some _,_,_,_,_,_⟩) hS 37 _ rfl _ rfl);intro g w9 h9;refine AB ?_;go_step;with_reducible exact zq9.out g w9 h9):p:=h ⟨k⟩
theorem TE{T q:World→Prop}(k:∀w,T w→q w)(h:In T q→p:=by intro zq9;(with_reducible refine An _ (.store 32 _ _) ?_);(refine Ag ?_;apply FE hS 32 _ _ rfl _ rfl 17 (AP rfl) _ _;(case hp=>exact AJ);(case hy=>rfl);(case hn=>(repeat (first|exact CH.nil|(apply CH.ints;(case hn=>exact EJ);(case h=>omega);(case hm=>rfl))|apply CH.val)));(case hn'=>(repeat (first|exact CH.nil|(apply CH.ints;(case hn=>exact EJ);(case h=>omega);(case hm=>rfl))|apply CH.val)));(case hv=>rfl);(case hd=>exact rfl));intro w9 h9;with_reducible exact zq9.out w9 h9):p:=h ⟨k⟩
theorem TF(k:q)(h:A6 q→p:=by intro zq9;(with_reducible refine An _ (.call ⟨.builtin .len,_,_⟩) ?_);(refine As AA (V.len Tryz.underlying42 rfl) ?_);go_step;with_reducible exact zq9.out):p:=h ⟨k⟩
theorem TG(k:q)(h:A6 q→p:=by intro zq9;(with_reducible refine An _ (.load 24 _) ?_);(refine Ag ?_;apply Di hS 24 _ rfl _ rfl 3 (AP rfl) _;(case hp=>exact AJ);(case hn=>rfl);refine AB ?_);go_step;with_reducible exact zq9.out):p:=h ⟨k⟩
theorem TH(n:Nat)(k:q)(h:A6 q→B5 n p:=by intro zq9;(with_reducible refine B7 ?_);(refine As AA (V.len Tryz.underlying30 rfl) ?_);go_step;with_reducible exact zq9.out):p:=h ⟨k⟩
theorem TS(n:Nat){T q:Option Addr→Nat→World→Prop}(k:∀a c w,T a c w→q a c w)(h:cR T q→B5 n p:=by intro zq9;(with_reducible refine B7 ?_);(refine Ag ?_;apply AO (o:=⟨some _,_,_,_,_,_⟩) hS _ _ 141 rfl 155 3 24 Tu _ _ _ _ rfl;(case hp=>exact AJ);(case hx=>exact rfl);(case hm=>(first|exact hS.slBlk AJ (by rfl) (by decide)|exact hS.sl AJ|with_reducible assumption|exact Sl.ext (by with_reducible assumption) hS.1|exact Sl.nil _ _|exact Sl.ext (by assumption) hS.1|assumption));(case h1=>(first|exact Ad rfl|exact Ac _ _|(intro u hu;cases hu)));(case h63=>unfold maxLen;omega);(case hb=>omega));intro a9 c9 w9 h9;(first|simp only [Av] at h9|simp only [Aw] at h9|simp only [Ax] at h9|simp only [Ay] at h9|simp only [Az] at h9|skip);refine AB ?_;go_step;with_reducible exact zq9.out a9 c9 w9 h9):p:=h ⟨k⟩
theorem TT(k:q)(h:A6 q→p:=by intro zq9;(with_reducible refine An _ (.binOp .eql 3 _ _ _) ?_);(refine As AA (V.eql rfl rfl) ?_);go_step;with_reducible exact zq9.out):p:=h ⟨k⟩
theorem TU(k:q)(h:A6 q→p:=by intro zq9;(with_reducible refine An _ (.call ⟨.builtin .len,_,_⟩) ?_);(refine As AA (V.len Tryz.underlying22 rfl) ?_);go_step;with_reducible exact zq9.out):p:=h ⟨k⟩
theorem TV(k:q)(h:A6 q→p:=by intro zq9;(with_reducible refine An _ (.call ⟨.builtin .len,_,_⟩) ?_);(refine As AA (V.len Tryz.underlying30 rfl) ?_);go_step;with_reducible exact zq9.out):p:=h ⟨k⟩
theorem TW(n:Nat)(k:q)(h:A6 q→B5 n p:=by intro zq9;(with_reducible refine B7 ?_);(refine As AA (V.addI rfl rfl (by omega)) ?_);go_step;with_reducible exact zq9.out):p:=h ⟨k⟩
theorem TX(n:Nat)(k:q)(h:A6 q→B5 n p:=by intro zq9;(with_reducible refine B7 ?_);(refine As AA (V.indexSl Tryz.underlying35 UF rfl rfl BI (by omega) (Nat.mul_one _) BO) ?_);go_step;with_reducible exact zq9.out):p:=h ⟨k⟩
theorem Vh(k:q)(h:A6 q→p:=by intro zq9;(with_reducible refine An _ (.load 107 _) ?_);(refine Ag ?_;apply Di hS 107 _ rfl _ rfl 2 (AP rfl) _;(case hp=>exact AJ);(case hn=>rfl);refine AB ?_);go_step;with_reducible exact zq9.out):p:=h ⟨k⟩
theorem Vi(k:q)(h:A6 q→p:=by intro zq9;(with_reducible refine An _ (.load 3 _) ?_);(refine Ag ?_;apply Ep hS 3 _ rfl _ _ rfl (AH rfl) _;(case hp=>exact AJ);(case hi=>(repeat (first|exact Jd.head|(apply Jd.skipI;(case hn=>exact EJ);(case h=>omega);(case ho=>rfl))|apply Jd.skipV)));refine AB ?_);go_step;with_reducible exact zq9.out):p:=h ⟨k⟩
theorem Vj(k:q)(h:A6 q→p:=by intro zq9;(with_reducible refine An _ (.load 5 _) ?_);(refine Ag ?_;apply Aj hS 5 _ rfl _ rfl (AH rfl) _;(case hc=>with_reducible assumption);refine AB ?_);go_step;with_reducible exact zq9.out):p:=h ⟨k⟩
theorem Vk(n:Nat)(k:q)(h:A6 q→B5 n p:=by intro zq9;(with_reducible refine B7 ?_);(refine As AA (V.indexSl Tryz.underlying115 cC rfl rfl BI (by omega) rfl BO) ?_);go_step;with_reducible exact zq9.out):p:=h ⟨k⟩
theorem Vl(n:Nat)(k:q)(h:A6 q→B5 n p:=by intro zq9;(with_reducible refine B7 ?_);(refine As AA (V.indexSl Tryz.underlying30 EL rfl rfl BI (by omega) (Nat.mul_one _) BO) ?_);go_step;with_reducible exact zq9.out):p:=h ⟨k⟩
theorem WW(k:q)(h:A6 q→p:=by intro zq9;(with_reducible refine An _ (.binOp .sub _ _ _ _) ?_);(refine As AA (V.subI rfl rfl (by omega)) ?_);go_step;with_reducible exact zq9.out):p:=h ⟨k⟩
theorem WX(k:q)(h:A6 q→p:=by intro zq9;(with_reducible refine An _ (.load 22 _) ?_);(refine Ag ?_;apply AY hS 22 _ rfl _ _ rfl (AH rfl) _;(case hp=>exact AJ);(case hc=>rfl);refine AB ?_);go_step;with_reducible exact zq9.out):p:=h ⟨k⟩
theorem WY(n:Nat)(k:q)(h:A6 q→B5 n p:=by intro zq9;(with_reducible refine B7 ?_);(refine As AA (V.len Tryz.underlying35 rfl) ?_);go_step;with_reducible exact zq9.out):p:=h ⟨k⟩
theorem YA(n:Nat)(k:q)(h:A6 q→B5 n p:=by intro zq9;(with_reducible refine B7 ?_);(refine Kt (by with_reducible assumption) Tryz.underlying42 Hc rfl rfl BI (by omega) AA ?_);with_reducible exact zq9.out):p:=h ⟨k⟩
theorem YB(k:q)(h:A6 q→p:=by intro zq9;(with_reducible refine An _ (.binOp .leq _ _ _ _) ?_);(refine As AA (V.leq rfl rfl) ?_);go_step;with_reducible exact zq9.out):p:=h ⟨k⟩
theorem YC(k:q)(h:A6 q→p:=by intro zq9;(with_reducible refine An _ (.fieldAddr 24 _ 0) ?_);(refine As AA (V.fieldAddr PY rfl BO) ?_);go_step;with_reducible exact zq9.out):p:=h ⟨k⟩
theorem YD(k:q)(h:A6 q→p:=by intro zq9;(with_reducible refine An _ (.fieldAddr 24 _ 1) ?_);(refine As AA (V.fieldAddr PZ rfl BO) ?_);go_step;with_reducible exact zq9.out):p:=h ⟨k⟩
theorem YE(k:q)(h:A6 q→p:=by intro zq9;(with_reducible refine An _ (.fieldAddr 24 _ 2) ?_);(refine As AA (V.fieldAddr IR rfl BO) ?_);go_step;with_reducible exact zq9.out):p:=h ⟨k⟩
theorem YF(k:q)(h:A6 q→p:=by intro zq9;(with_reducible refine An _ (.fieldAddr 37 _ 0) ?_);(refine As AA (V.fieldAddr Pd rfl BO) ?_);go_step;with_reducible exact zq9.out):p:=h ⟨k⟩
theorem YG(k:q)(h:A6 q→p:=by intro zq9;(with_reducible refine An _ (.load 3 _) ?_);(refine Ag ?_;apply Aj hS 3 _ rfl _ rfl (AH rfl) _;(case hc=>with_reducible assumption);refine AB ?_);go_step;with_reducible exact zq9.out):p:=h ⟨k⟩
theorem YH(k:q)(h:A6 q→p:=by intro zq9;(with_reducible refine An _ (.load 30 _) ?_);(refine Ag ?_;apply Aj hS 30 _ rfl _ rfl (AH rfl) _;(case hc=>with_reducible assumption);refine AB ?_);go_step;with_reducible exact zq9.out):p:=h ⟨k⟩
theorem YI(n:Nat)(k:q)(h:A6 q→B5 n p:=by intro zq9;(with_reducible refine B7 ?_);(refine As AA (V.fieldAddr Qs rfl BO) ?_);go_step;with_reducible exact zq9.out):p:=h ⟨k⟩
theorem YJ(n:Nat)(k:q)(h:A6 q→B5 n p:=by intro zq9;(with_reducible refine B7 ?_);(refine As AA (V.indexSl Tryz.underlying22 I0 rfl rfl BI (by omega) (Nat.mul_one _) BO) ?_);go_step;with_reducible exact zq9.out):p:=h ⟨k⟩
theorem ZV(n:Nat){T q:Nat→World→Prop}(k:∀g w,T g w→q g w)(h:GM T q→B5 n p:=by intro zq9;(with_reducible refine B7 ?_);(refine Ag ?_;apply B3 (o:=⟨some _,_,_,_,_,_⟩) hS 107 rfl (.agg #[.int .i64 0, .int .i64 0]) [.int .i64 0, .int .i64 0] (fun w=>Tryz.zeroValue107 w) rfl);intro g w9 h9;refine AB ?_;go_step;with_reducible exact zq9.out g w9 h9):p:=h ⟨k⟩
theorem ZW(n:Nat){T q:Nat→World→Prop}(k:∀g w,T g w→q g w)(h:GM T q→B5 n p:=by intro zq9;(with_reducible refine B7 ?_);(refine Ag ?_;apply B3 (o:=⟨some _,_,_,_,_,_⟩) hS 24 rfl (.agg #[.int .i64 0, .int .i64 0, .slice none 0 0]) [.int .i64 0, .int .i64 0, .slice none 0 0] (fun w=>Tryz.zeroValue24 w) rfl);intro g w9 h9;refine AB ?_;go_step;with_reducible exact zq9.out g w9 h9):p:=h ⟨k⟩
theorem ZX(n:Nat){T q:Nat→World→Prop}(k:∀g w,T g w→q g w)(h:GM T q→B5 n p:=by intro zq9;(with_reducible refine B7 ?_);(refine Ag ?_;apply H4 (o:=⟨some _,_,_,_,_,_⟩) hS 32 _ rfl _ rfl);intro g w9 h9;refine AB ?_;go_step;with_reducible exact zq9.out g w9 h9):p:=h ⟨k⟩
theorem ZY{T q:World→Prop}(k:∀w,T w→q w)(h:In T q→p:=by intro zq9;(with_reducible refine An _ (.store 107 _ _) ?_);(refine Ag ?_;apply CV hS 107 _ _ rfl _ rfl 2 (AP rfl) _ _;(case hp=>exact AJ);(case hy=>rfl);(case hn=>rfl);(case hn'=>rfl);(case hv=>rfl);(case hd=>exact rfl));intro w9 h9;with_reducible exact zq9.out w9 h9):p:=h ⟨k⟩
theorem ZZ{T q:World→Prop}(k:∀w,T w→q w)(h:In T q→p:=by intro zq9;(with_reducible refine An _ (.store 24 _ _) ?_);(refine Ag ?_;apply CV hS 24 _ _ rfl _ rfl 3 (AP rfl) _ _;(case hp=>exact AJ);(case hy=>rfl);(case hn=>rfl);(case hn'=>rfl);(case hv=>rfl);(case hd=>exact rfl));intro w9 h9;with_reducible exact zq9.out w9 h9):p:=h ⟨k⟩
theorem Za(k:q)(h:A6 q→p:=by intro zq9;(with_reducible refine An _ (.fieldAddr 140 _ 1) ?_);(refine As AA (V.fieldAddr Hb rfl BO) ?_);go_step;with_reducible exact zq9.out):p:=h ⟨k⟩
theorem Zb(k:q)(h:A6 q→p:=by intro zq9;(with_reducible refine An _ (.fieldAddr 155 _ 2) ?_);(refine As AA (V.fieldAddr Qs rfl BO) ?_);go_step;with_reducible exact zq9.out):p:=h ⟨k⟩
theorem Zc(k:q)(h:A6 q→p:=by intro zq9;(with_reducible refine An _ (.fieldAddr 37 _ 1) ?_);(refine As AA (V.fieldAddr Pe rfl BO) ?_);go_step;with_reducible exact zq9.out):p:=h ⟨k⟩
theorem Zd(k:q)(h:A6 q→p:=by intro zq9;(with_reducible refine An _ (.load 137 _) ?_);(refine Ag ?_;apply AY hS 137 _ rfl _ _ rfl (AH rfl) _;(case hp=>exact AJ);(case hc=>rfl);refine AB ?_);go_step;with_reducible exact zq9.out):p:=h ⟨k⟩
theorem Ze(k:q)(h:A6 q→p:=by intro zq9;(with_reducible refine An _ (.nilCheck _) ?_);(refine As AA (V.nilCheck rfl) ?_);go_step;with_reducible exact zq9.out):p:=h ⟨k⟩
theorem Zf(k:q)(h:A6 q→p:=by intro zq9;(with_reducible refine An _ (.slice 26 _ _ _ _) ?_);(refine As AA (V.sliceA Tryz.underlying26 EL rfl (by (first|exact Lo.none|exact Lo.some rfl BI)) (by (first|exact Up.none|exact Up.some rfl BI)) (by omega) (by omega) (by omega) rfl rfl rfl) ?_);go_step;with_reducible exact zq9.out):p:=h ⟨k⟩
theorem Zg(n:Nat)(k:q)(h:A6 q→B5 n p:=by intro zq9;(with_reducible refine B7 ?_);(refine Ak (.int _ (((i+1:Nat):Int))) (V.as (V.addI rfl rfl (by omega)) (by omega)) (by kernel_rfl) ?_);go_step;with_reducible exact zq9.out):p:=h ⟨k⟩
theorem Zh(n:Nat)(k:q)(h:A6 q→B5 n p:=by intro zq9;(with_reducible refine B7 ?_);(refine As AA (V.build (vs:=[(0,_),(1,_)]) rfl (Rm _ _)) ?_);go_step;with_reducible exact zq9.out):p:=h ⟨k⟩
theorem aU{T q:World→Prop}(k:∀w,T w→q w)(h:In T q→p:=by intro zq9;(with_reducible refine An _ (.store 3 _ _) ?_);(refine Ag ?_;apply Bl hS 3 _ _ rfl _ _ rfl (AH rfl) _ _;(case hp=>exact AJ);(case hy=>exact CG);(case hv=>rfl);(case hc=>exact Uq);(case hd=>exact rfl));intro w9 h9;with_reducible exact zq9.out w9 h9):p:=h ⟨k⟩
theorem aV(k:q)(h:A6 q→p:=by intro zq9;(with_reducible refine An _ (.fieldAddr 34 _ 0) ?_);(refine As AA (V.fieldAddr T1 rfl BO) ?_);go_step;with_reducible exact zq9.out):p:=h ⟨k⟩
theorem aW(k:q)(h:A6 q→p:=by intro zq9;(with_reducible refine An _ (.fieldAddr 34 _ 1) ?_);(refine As AA (V.fieldAddr T2 rfl BO) ?_);go_step;with_reducible exact zq9.out):p:=h ⟨k⟩
theorem aX(k:q)(h:A6 q→p:=by intro zq9;(with_reducible refine An _ (.fieldAddr 37 _ 2) ?_);(refine As AA (V.fieldAddr T3 rfl BO) ?_);go_step;with_reducible exact zq9.out):p:=h ⟨k⟩
theorem aY(k:q)(h:A6 q→p:=by intro zq9;(with_reducible refine An _ (.load 37 _) ?_);(refine Ag ?_;apply C8 hS 37 _ rfl _ _ rfl 103 (AP rfl) _;(case hp=>exact AJ);(case hi=>(repeat (first|(apply GK.head;(repeat (first|exact CH.nil|(apply CH.ints;(case hn=>exact EJ);(case h=>omega);(case hm=>rfl))|apply CH.val)))|(apply GK.skipI;(case hn=>exact EJ);(case h=>omega);(case ho=>rfl))|apply GK.skipV)));refine AB ?_);go_step;with_reducible exact zq9.out):p:=h ⟨k⟩
theorem aZ(n:Nat)(k:q)(h:A6 q→B5 n p:=by intro zq9;(with_reducible refine B7 ?_);(refine Ak (.int .i64 ((y:Nat):Int)) (V.as (V.indexIv Tryz.underlying29 Tryz.underlying3 EL rfl rfl hC Bq.cast (by omega)) HX.out) AA ?_);go_step;with_reducible exact zq9.out):p:=h ⟨k⟩
theorem ae(n:Nat)(k:q)(h:A6 q→B5 n p:=by intro zq9;(with_reducible refine B7 ?_);(refine Ak (.int _ ((u0%16))) (V.as (V.and rfl rfl) (by exact HAnd.out)) (by kernel_rfl) ?_);go_step;with_reducible exact zq9.out):p:=h ⟨k⟩
theorem ag(n:Nat)(k:q)(h:A6 q→B5 n p:=by intro zq9;(with_reducible refine B7 ?_);(refine As AA (V.build (vs:=[(0,_),(1,_)]) rfl (Ro _ _)) ?_);go_step;with_reducible exact zq9.out):p:=h ⟨k⟩
theorem ah(n:Nat)(k:q)(h:A6 q→B5 n p:=by intro zq9;(with_reducible refine B7 ?_);(refine As AA (V.convI (by rw [Tryz.underlying116];rfl) Tryz.underlying3 rfl (IntWalk.i64_in _ (by omega))) ?_);go_step;with_reducible exact zq9.out):p:=h ⟨k⟩
theorem ai(n:Nat)(k:q)(h:A6 q→B5 n p:=by intro zq9;(with_reducible refine B7 ?_);(refine As AA (V.convI (by rw [Tryz.underlying3];rfl) Tryz.underlying116 rfl (IntWalk.u64_in _ (by omega))) ?_);go_step;with_reducible exact zq9.out):p:=h ⟨k⟩
theorem bg(n:Nat){T q:Option Addr→Nat→World→Prop}(k:∀a c w,T a c w→q a c w)(h:cR T q→B5 n p:=by intro zq9;(with_reducible refine B7 ?_);(refine Ag ?_;apply AO (o:=⟨some _,_,_,_,_,_⟩) hS _ _ 35 rfl 5 1 1 IQ _ _ _ _ rfl;(case hp=>exact AJ);(case hx=>exact rfl);(case hm=>(first|exact hS.slBlk AJ (by rfl) (by decide)|exact hS.sl AJ|with_reducible assumption|exact Sl.ext (by with_reducible assumption) hS.1|exact Sl.nil _ _|exact Sl.ext (by assumption) hS.1|assumption));(case h1=>(first|exact Ad rfl|exact Ac _ _|(intro u hu;cases hu)));(case h63=>unfold maxLen;omega);(case hb=>omega));intro a9 c9 w9 h9;(first|simp only [Av] at h9|simp only [Aw] at h9|simp only [Ax] at h9|simp only [Ay] at h9|simp only [Az] at h9|skip);refine AB ?_;go_step;with_reducible exact zq9.out a9 c9 w9 h9):p:=h ⟨k⟩
theorem bh(k:q)(h:A6 q→p:=by intro zq9;(with_reducible refine An _ (.binOp .mul _ _ _ _) ?_);(refine As AA (V.mulI rfl rfl (by omega)) ?_);go_step;with_reducible exact zq9.out):p:=h ⟨k⟩
theorem bi(k:q)(h:A6 q→p:=by intro zq9;(with_reducible refine An _ (.call ⟨.builtin .len,_,_⟩) ?_);(refine As AA (V.len Tryz.underlying115 rfl) ?_);go_step;with_reducible exact zq9.out):p:=h ⟨k⟩
theorem bk(k:q)(h:A6 q→p:=by intro zq9;(with_reducible refine An _ (.call ⟨.builtin .len,_,_⟩) ?_);(refine As AA (V.len Tryz.underlying91 rfl) ?_);go_step;with_reducible exact zq9.out):p:=h ⟨k⟩
theorem bm(k:q)(h:A6 q→p:=by intro zq9;(with_reducible refine An _ (.fieldAddr 155 _ 0) ?_);(refine As AA (V.fieldAddr JS rfl BO) ?_);go_step;with_reducible exact zq9.out):p:=h ⟨k⟩
theorem bn(n:Nat)(k:q)(h:A6 q→B5 n p:=by intro zq9;(with_reducible refine B7 ?_);(refine Ak (.int _ (((k+1:Nat):Int))) (V.as (V.addI rfl rfl (by omega)) (by omega)) (by kernel_rfl) ?_);go_step;with_reducible exact zq9.out):p:=h ⟨k⟩
theorem bo(n:Nat)(k:q)(h:A6 q→B5 n p:=by intro zq9;(with_reducible refine B7 ?_);(refine As AA (V.leq rfl rfl) ?_);go_step;with_reducible exact zq9.out):p:=h ⟨k⟩
theorem cS(n:Nat){T q:Nat→World→Prop}(k:∀g w,T g w→q g w)(h:GM T q→B5 n p:=by intro zq9;(with_reducible refine B7 ?_);(refine Ag ?_;apply B3 (o:=⟨some _,_,_,_,_,_⟩) hS 94 rfl (.agg #[.int .i64 0, .int .i64 0]) [.int .i64 0, .int .i64 0] (fun w=>Tryz.zeroValue94 w) rfl);intro g w9 h9;refine AB ?_;go_step;with_reducible exact zq9.out g w9 h9):p:=h ⟨k⟩
theorem V3(n:Nat){T q:Nat→World→Prop}(k:∀g w,T g w→q g w)(h:GM T q→B5 n p:=by intro zq9;(with_reducible refine B7 ?_);(refine Ag ?_;apply GF (o:=⟨some _,_,_,_,_,_⟩) hS 37 rfl _ aQ);intro g w9 h9;refine AB ?_;go_step;with_reducible exact zq9.out g w9 h9):p:=h ⟨k⟩
theorem V4(n:Nat){T q:Nat→World→Prop}(k:∀g w,T g w→q g w)(h:GM T q→B5 n p:=by intro zq9;(with_reducible refine B7 ?_);(refine Ag ?_;apply CP (o:=⟨some _,_,_,_,_,_⟩) hS 140 _ rfl _ rfl);intro g w9 h9;refine AB ?_;go_step;with_reducible exact zq9.out g w9 h9):p:=h ⟨k⟩
theorem V5(n:Nat){T q:Nat→World→Prop}(k:∀g w,T g w→q g w)(h:GM T q→B5 n p:=by intro zq9;(with_reducible refine B7 ?_);(refine Ag ?_;apply CP (o:=⟨some _,_,_,_,_,_⟩) hS 155 _ rfl _ rfl);intro g w9 h9;refine AB ?_;go_step;with_reducible exact zq9.out g w9 h9):p:=h ⟨k⟩
theorem V6(n:Nat){T q:Nat→World→Prop}(k:∀g w,T g w→q g w)(h:GM T q→B5 n p:=by intro zq9;(with_reducible refine B7 ?_);(refine Ag ?_;apply AU (o:=⟨some _,_,_,_,_,_⟩) hS 35 2 _ rfl 5 1 1 IQ _ _;(case hvs=>(repeat (first|exact AX.nil|(apply AX.agg;(rfl);(rfl))|(apply AX.one;exact CG;(rfl);(rfl)))));(case hn=>rfl);(case hn0=>decide);(case hns=>decide));intro g w9 h9;refine AB ?_;go_step;with_reducible exact zq9.out g w9 h9):p:=h ⟨k⟩
theorem V7{T q:World→Prop}(k:∀w,T w→q w)(h:In T q→p:=by intro zq9;(with_reducible refine An _ (.store 169 _ _) ?_);(refine Bi AA (Bl hS 169 _ _ rfl _ _ rfl (AH rfl) _ _ AJ _ CG (by rfl) Uq rfl ?_));intro w9 h9;with_reducible exact zq9.out w9 h9):p:=h ⟨k⟩
theorem V8{T q:World→Prop}(k:∀w,T w→q w)(h:In T q→p:=by intro zq9;(with_reducible refine An _ (.store 3 _ _) ?_);(first|(refine Bi AA (Gu hS 3 _ _ rfl _ _ rfl (AH rfl) _ _ AJ _ (by rfl) (by omega) rfl ?_))|(refine Bi AA (Bl hS 3 _ _ rfl _ _ rfl (AH rfl) _ _ AJ _ CG (by rfl) Uq rfl ?_)));intro w9 h9;with_reducible exact zq9.out w9 h9):p:=h ⟨k⟩
theorem V9{T q:World→Prop}(k:∀w,T w→q w)(h:In T q→p:=by intro zq9;(with_reducible refine An _ (.store 3 _ _) ?_);(refine Ag ?_;apply Gu hS 3 _ _ rfl _ _ rfl (AH rfl) _ _;(case hp=>exact AJ);(case hy=>rfl);(case hi=>omega);(case hd=>exact rfl));intro w9 h9;with_reducible exact zq9.out w9 h9):p:=h ⟨k⟩
theorem WA{T q:World→Prop}(k:∀w,T w→q w)(h:In T q→p:=by intro zq9;(with_reducible refine An _ (.store 35 _ _) ?_);(refine Bi AA (Bl hS 35 _ _ rfl _ _ rfl (AH rfl) _ _ AJ _ CG (by rfl) Uq rfl ?_));intro w9 h9;with_reducible exact zq9.out w9 h9):p:=h ⟨k⟩
theorem WB{T q:World→Prop}(k:∀w,T w→q w)(h:In T q→p:=by intro zq9;(with_reducible refine An _ (.store 37 _ _) ?_);(refine Ag ?_;apply FE hS 37 _ _ rfl _ rfl 103 (AP rfl) _ _;(case hp=>exact AJ);(case hy=>rfl);(case hn=>(repeat (first|exact CH.nil|(apply CH.ints;(case hn=>exact EJ);(case h=>omega);(case hm=>rfl))|apply CH.val)));(case hn'=>(repeat (first|exact CH.nil|(apply CH.ints;(case hn=>exact EJ);(case h=>omega);(case hm=>rfl))|apply CH.val)));(case hv=>rfl);(case hd=>exact rfl));intro w9 h9;with_reducible exact zq9.out w9 h9):p:=h ⟨k⟩
theorem WC{T q:World→Prop}(k:∀w,T w→q w)(h:In T q→p:=by intro zq9;(with_reducible refine An _ (.store 94 _ _) ?_);(refine Ag ?_;apply CV hS 94 _ _ rfl _ rfl 2 (AP rfl) _ _;(case hp=>exact AJ);(case hy=>rfl);(case hn=>rfl);(case hn'=>rfl);(case hv=>rfl);(case hd=>exact rfl));intro w9 h9;with_reducible exact zq9.out w9 h9):p:=h ⟨k⟩
theorem WD(n:Nat){T q:Option Addr→Nat→World→Prop}(k:∀a c w,T a c w→q a c w)(h:cR T q→B5 n p:=by intro zq9;(with_reducible refine B7 ?_);(refine Ag ?_;apply AO (o:=⟨some _,_,_,_,_,_⟩) hS _ _ 42 rfl 26 64 512 Zs _ _ _ _ rfl;(case hp=>exact AJ);(case hx=>exact rfl);(case hm=>(first|exact hS.slBlk AJ (by rfl) (by decide)|exact hS.sl AJ|with_reducible assumption|exact Sl.ext (by with_reducible assumption) hS.1|exact Sl.nil _ _|exact Sl.ext (by assumption) hS.1|assumption));(case h1=>(first|exact Ad rfl|exact Ac _ _|(intro u hu;cases hu)));(case h63=>unfold maxLen;omega);(case hb=>omega));intro a9 c9 w9 h9;(first|simp only [Av] at h9|simp only [Aw] at h9|simp only [Ax] at h9|simp only [Ay] at h9|simp only [Az] at h9|skip);refine AB ?_;go_step;with_reducible exact zq9.out a9 c9 w9 h9):p:=h ⟨k⟩
theorem WE(k:q)(h:A6 q→p:=by intro zq9;(with_reducible refine An _ (.binOp .geq _ _ _ _) ?_);(refine As AA (V.geq rfl rfl) ?_);go_step;with_reducible exact zq9.out):p:=h ⟨k⟩
theorem WF(k:q)(h:A6 q→p:=by intro zq9;(with_reducible refine An _ (.fieldAddr 32 _ 0) ?_);(refine As AA (V.fieldAddr Pa rfl BO) ?_);go_step;with_reducible exact zq9.out):p:=h ⟨k⟩
theorem WG(k:q)(h:A6 q→p:=by intro zq9;(with_reducible refine An _ (.fieldAddr 37 _ 5) ?_);(refine As AA (V.fieldAddr Ph rfl BO) ?_);go_step;with_reducible exact zq9.out):p:=h ⟨k⟩
theorem WH(k:q)(h:A6 q→p:=by intro zq9;(with_reducible refine An _ (.load 26 _) ?_);(first|(refine Ag ?_;apply DV hS 26 _ rfl _ _ rfl 64 (AP rfl) _;(case hl=>with_reducible assumption);(case hr=>with_reducible assumption);refine AB ?_)|(refine Ag ?_;apply H7 hS 26 _ rfl _ rfl 64 (AP rfl) _;(case hp=>exact AJ);refine AB ?_));go_step;with_reducible exact zq9.out):p:=h ⟨k⟩
theorem WI(k:q)(h:A6 q→p:=by intro zq9;(with_reducible refine An _ (.load 26 _) ?_);(refine Ag ?_;apply DV hS 26 _ rfl _ _ rfl 64 (AP rfl) _;(case hl=>with_reducible assumption);(case hr=>with_reducible assumption);refine AB ?_);go_step;with_reducible exact zq9.out):p:=h ⟨k⟩
theorem WJ(k:q)(h:A6 q→p:=by intro zq9;(with_reducible refine An _ (.load 29 _) ?_);(refine Ag ?_;apply L8 hS 29 _ rfl _ _ rfl 16 (AP rfl) _;(case hp=>exact AJ);(case hi=>(repeat (first|(apply QM.head;exact EJ)|(apply QM.skipI;(case hn=>exact EJ);(case h=>omega);(case ho=>rfl))|apply QM.skipV)));refine AB ?_);go_step;with_reducible exact zq9.out):p:=h ⟨k⟩
theorem WK(k:q)(h:A6 q→p:=by intro zq9;(with_reducible refine An _ (.load 30 _) ?_);(refine Ag ?_;apply Ep hS 30 _ rfl _ _ rfl (AH rfl) _;(case hp=>exact AJ);(case hi=>(repeat (first|exact Jd.head|(apply Jd.skipI;(case hn=>exact EJ);(case h=>omega);(case ho=>rfl))|apply Jd.skipV)));refine AB ?_);go_step;with_reducible exact zq9.out):p:=h ⟨k⟩
theorem WL(k:q)(h:A6 q→p:=by intro zq9;(with_reducible refine An _ (.load 94 _) ?_);(refine Ag ?_;apply Gt hS 94 _ rfl _ _ rfl 2 (AP rfl) _ _ _ _ _;(case hp=>exact AJ);(case hi=>omega);(case hl'=>with_reducible assumption);refine AB ?_);go_step;with_reducible exact zq9.out):p:=h ⟨k⟩
theorem WM(n:Nat)(k:q)(h:A6 q→B5 n p:=by intro zq9;(with_reducible refine B7 ?_);(refine Ak (.int _ (((en:Nat):Int))) (V.as (V.subI rfl rfl (by omega)) (by omega)) (by kernel_rfl) ?_);go_step;with_reducible exact zq9.out):p:=h ⟨k⟩
theorem WN(n:Nat)(k:q)(h:A6 q→B5 n p:=by intro zq9;(with_reducible refine B7 ?_);(refine Ak (.int _ (((h+1:Nat):Int))) (V.as (V.addI rfl rfl (by omega)) (by omega)) (by kernel_rfl) ?_);go_step;with_reducible exact zq9.out):p:=h ⟨k⟩
theorem WO(n:Nat)(k:q)(h:A6 q→B5 n p:=by intro zq9;(with_reducible refine B7 ?_);(refine Ak (.int _ (((h:Nat):Int))) (V.as (V.shr rfl rfl BI (by omega) rfl) (by omega)) (by kernel_rfl) ?_);go_step;with_reducible exact zq9.out):p:=h ⟨k⟩
theorem WP(n:Nat)(k:q)(h:A6 q→B5 n p:=by intro zq9;(with_reducible refine B7 ?_);(refine Ak (.int _ (((q+1:Nat):Int))) (V.as (V.addI rfl rfl (by omega)) (by omega)) (by kernel_rfl) ?_);go_step;with_reducible exact zq9.out):p:=h ⟨k⟩
theorem WQ(n:Nat)(k:q)(h:A6 q→B5 n p:=by intro zq9;(with_reducible refine B7 ?_);(refine Ak (.int _ (((t:Nat):Int))) (V.as (V.mulI rfl rfl (by omega)) (by omega)) (by kernel_rfl) ?_);go_step;with_reducible exact zq9.out):p:=h ⟨k⟩
theorem WR(n:Nat)(k:q)(h:A6 q→B5 n p:=by intro zq9;(with_reducible refine B7 ?_);(refine Ak _ (V.indexIv Tryz.underlying26 Tryz.underlying3 EL rfl rfl (by (repeat (first|assumption|exact Ap.rep|apply Ap.set|((with_reducible show Ap (_::_) _);exact rfl)))) BI (by omega)) AA ?_);go_step;with_reducible exact zq9.out):p:=h ⟨k⟩
theorem WS(n:Nat)(k:q)(h:A6 q→B5 n p:=by intro zq9;(with_reducible refine B7 ?_);(refine As AA (V.build (vs:=[]) rfl (Tc)) ?_);go_step;with_reducible exact zq9.out):p:=h ⟨k⟩
theorem WT(n:Nat)(k:q)(h:A6 q→B5 n p:=by intro zq9;(with_reducible refine B7 ?_);(refine As AA (V.indexAr Tryz.underlying26 EL rfl rfl BI (by omega) (Nat.mul_one _) BO) ?_);go_step;with_reducible exact zq9.out):p:=h ⟨k⟩
theorem WU(n:Nat)(k:q)(h:A6 q→B5 n p:=by intro zq9;(with_reducible refine B7 ?_);(refine As AA (V.indexSl Tryz.underlying91 cE rfl rfl BI (by omega) rfl BO) ?_);go_step;with_reducible exact zq9.out):p:=h ⟨k⟩
theorem WV(n:Nat)(k:q)(h:A6 q→B5 n p:=by intro zq9;(with_reducible refine B7 ?_);(refine As AA (V.len Tryz.underlying160 rfl) ?_);go_step;with_reducible exact zq9.out):p:=h ⟨k⟩
theorem Yp(n:Nat){T q:Nat→World→Prop}(k:∀g w,T g w→q g w)(h:GM T q→B5 n p:=by intro zq9;(with_reducible refine B7 ?_);(refine Ag ?_;apply B3 (o:=⟨some _,_,_,_,_,_⟩) hS 133 rfl (.pointer none) [.pointer none] (fun w=>Tryz.zeroValue133 w) rfl);intro g w9 h9;refine AB ?_;go_step;with_reducible exact zq9.out g w9 h9):p:=h ⟨k⟩
theorem Yq(n:Nat){T q:Nat→World→Prop}(k:∀g w,T g w→q g w)(h:GM T q→B5 n p:=by intro zq9;(with_reducible refine B7 ?_);(refine Ag ?_;apply B3 (o:=⟨some _,_,_,_,_,_⟩) hS 197 rfl (.agg #[.int .i64 0, .int .i64 0, .int .i64 0]) [.int .i64 0, .int .i64 0, .int .i64 0] (fun w=>Tryz.zeroValue197 w) rfl);intro g w9 h9;refine AB ?_;go_step;with_reducible exact zq9.out g w9 h9):p:=h ⟨k⟩
theorem Yr(n:Nat){T q:Nat→World→Prop}(k:∀g w,T g w→q g w)(h:GM T q→B5 n p:=by intro zq9;(with_reducible refine B7 ?_);(refine Ag ?_;apply B3 (o:=⟨some _,_,_,_,_,_⟩) hS 203 rfl (.agg #[.int .i64 0, .int .i64 0, .int .i64 0, .int .i64 0, .int .i64 0, .int .i64 0, .int .i64 0, .int .i64 0, .int .i64 0]) [.int .i64 0, .int .i64 0, .int .i64 0, .int .i64 0, .int .i64 0, .int .i64 0, .int .i64 0, .int .i64 0, .int .i64 0] (fun w=>Tryz.zeroValue203 w) rfl);intro g w9 h9;refine AB ?_;go_step;with_reducible exact zq9.out g w9 h9):p:=h ⟨k⟩
theorem Ys(n:Nat){T q:Nat→World→Prop}(k:∀g w,T g w→q g w)(h:GM T q→B5 n p:=by intro zq9;(with_reducible refine B7 ?_);(refine Ag ?_;apply AU (o:=⟨some _,_,_,_,_,_⟩) hS 22 1 _ rfl 30 1 24 Wq _ _;(case hvs=>(repeat (first|exact AX.nil|(apply AX.agg;(rfl);(rfl))|(apply AX.one;exact CG;(rfl);(rfl)))));(case hn=>rfl);(case hn0=>decide);(case hns=>decide));intro g w9 h9;refine AB ?_;go_step;with_reducible exact zq9.out g w9 h9):p:=h ⟨k⟩
theorem Yt(n:Nat){T q:Nat→World→Prop}(k:∀g w,T g w→q g w)(h:GM T q→B5 n p:=by intro zq9;(with_reducible refine B7 ?_);(refine Ag ?_;apply AU (o:=⟨some _,_,_,_,_,_⟩) hS 35 1 _ rfl 5 1 1 IQ _ _;(case hvs=>(repeat (first|exact AX.nil|(apply AX.agg;(rfl);(rfl))|(apply AX.one;exact CG;(rfl);(rfl)))));(case hn=>rfl);(case hn0=>decide);(case hns=>decide));intro g w9 h9;refine AB ?_;go_step;with_reducible exact zq9.out g w9 h9):p:=h ⟨k⟩
theorem Yu{T q:World→Prop}(k:∀w,T w→q w)(h:In T q→p:=by intro zq9;(with_reducible refine An _ (.store 133 _ _) ?_);(refine Ag ?_;apply Bl hS 133 _ _ rfl _ _ rfl (AH rfl) _ _;(case hp=>exact AJ);(case hy=>exact CG);(case hv=>rfl);(case hc=>exact Uq);(case hd=>exact rfl));intro w9 h9;with_reducible exact zq9.out w9 h9):p:=h ⟨k⟩
theorem Yv{T q:World→Prop}(k:∀w,T w→q w)(h:In T q→p:=by intro zq9;(with_reducible refine An _ (.store 197 _ _) ?_);(refine Ag ?_;apply CV hS 197 _ _ rfl _ rfl 3 (AP rfl) _ _;(case hp=>exact AJ);(case hy=>rfl);(case hn=>rfl);(case hn'=>rfl);(case hv=>rfl);(case hd=>exact rfl));intro w9 h9;with_reducible exact zq9.out w9 h9):p:=h ⟨k⟩
theorem Yw{T q:World→Prop}(k:∀w,T w→q w)(h:In T q→p:=by intro zq9;(with_reducible refine An _ (.store 203 _ _) ?_);(refine Ag ?_;apply CV hS 203 _ _ rfl _ rfl 9 (AP rfl) _ _;(case hp=>exact AJ);(case hy=>rfl);(case hn=>rfl);(case hn'=>rfl);(case hv=>rfl);(case hd=>exact rfl));intro w9 h9;with_reducible exact zq9.out w9 h9):p:=h ⟨k⟩
theorem Yx{T q:World→Prop}(k:∀w,T w→q w)(h:In T q→p:=by intro zq9;(with_reducible refine An _ (.store 3 _ _) ?_);(refine Ag ?_;apply JA hS 3 _ _ rfl _ _ rfl (AH rfl) _ _ _ _ _;(case hp=>exact AJ);(case hy=>rfl);(case hi=>omega);(case hd=>exact rfl));intro w9 h9;with_reducible exact zq9.out w9 h9):p:=h ⟨k⟩
theorem Yy(n:Nat)(k:q)(h:A6 q→B5 n p:=by intro zq9;(with_reducible refine B7 ?_);(refine FF (by with_reducible assumption) Tryz.underlying30 EL rfl rfl BI (by omega) AA ?_);with_reducible exact zq9.out):p:=h ⟨k⟩
theorem Yz(k:q)(h:A6 q→p:=by intro zq9;(with_reducible refine An _ (.binOp .eql 38 _ _ _) ?_);(refine As AA (V.eql rfl rfl) ?_);go_step;with_reducible exact zq9.out):p:=h ⟨k⟩
theorem ZA(k:q)(h:A6 q→p:=by intro zq9;(with_reducible refine An _ (.binOp .shl _ _ _ _) ?_);(refine As AA (V.shlI rfl rfl BI (by omega) (by omega)) ?_);go_step;with_reducible exact zq9.out):p:=h ⟨k⟩
theorem ZB(k:q)(h:A6 q→p:=by intro zq9;(with_reducible refine An _ (.call ⟨.builtin .len,_,_⟩) ?_);(refine As AA (V.len Tryz.underlying141 rfl) ?_);go_step;with_reducible exact zq9.out):p:=h ⟨k⟩
theorem ZC(k:q)(h:A6 q→p:=by intro zq9;(with_reducible refine An _ (.call ⟨.builtin .len,_,_⟩) ?_);(refine As AA (V.len Tryz.underlying35 rfl) ?_);go_step;with_reducible exact zq9.out):p:=h ⟨k⟩
theorem ZD(k:q)(h:A6 q→p:=by intro zq9;(with_reducible refine An _ (.fieldAddr 32 _ 1) ?_);(refine As AA (V.fieldAddr Pb rfl BO) ?_);go_step;with_reducible exact zq9.out):p:=h ⟨k⟩
theorem ZE(k:q)(h:A6 q→p:=by intro zq9;(with_reducible refine An _ (.fieldAddr 37 _ 4) ?_);(refine As AA (V.fieldAddr Pg rfl BO) ?_);go_step;with_reducible exact zq9.out):p:=h ⟨k⟩
theorem ZF(k:q)(h:A6 q→p:=by intro zq9;(with_reducible refine An _ (.fieldAddr 37 _ 6) ?_);(refine As AA (V.fieldAddr Pi rfl BO) ?_);go_step;with_reducible exact zq9.out):p:=h ⟨k⟩
theorem ZG(k:q)(h:A6 q→p:=by intro zq9;(with_reducible refine An _ (.load 3 _) ?_);(refine Ag ?_;apply BX hS 3 _ rfl _ _ rfl (AH rfl) _ _;(case hp=>exact AJ);(case hi=>omega);refine AB ?_);go_step;with_reducible exact zq9.out):p:=h ⟨k⟩
theorem ZH(k:q)(h:A6 q→p:=by intro zq9;(with_reducible refine An _ (.load 30 _) ?_);(refine Ag ?_;apply AY hS 30 _ rfl _ _ rfl (AH rfl) _;(case hp=>exact AJ);(case hc=>rfl);refine AB ?_);go_step;with_reducible exact zq9.out):p:=h ⟨k⟩
theorem ZI(k:q)(h:A6 q→p:=by intro zq9;(with_reducible refine An _ (.slice 35 _ _ _ _) ?_);(refine As AA (V.slice Tryz.underlying35 UF rfl (by (first|exact Lo.none|exact Lo.some rfl BI)) (by (first|exact Up.none|exact Up.some rfl BI)) (by omega) (by omega)) ?_);go_step;with_reducible exact zq9.out):p:=h ⟨k⟩
theorem ZJ(n:Nat)(k:q)(h:A6 q→B5 n p:=by intro zq9;(with_reducible refine B7 ?_);(refine Ag ?_;apply Ko (enc:=ik) hS 165 _ _ rfl _ rfl _ rfl Tryz.underlying165 (CK Tryz.underlying3) (.int .i64 0) (fun w=>Tryz.zeroValue3 w) _;(case hp=>exact AJ);(case hf=>with_reducible assumption);refine AB ?_);go_step;with_reducible exact zq9.out):p:=h ⟨k⟩
theorem ZK(n:Nat)(k:q)(h:A6 q→B5 n p:=by intro zq9;(with_reducible refine B7 ?_);(refine Ak (.int _ (((2*z+y:Nat):Int))) (V.as (V.addI rfl rfl (by omega)) (by omega)) (by kernel_rfl) ?_);go_step;with_reducible exact zq9.out):p:=h ⟨k⟩
theorem ZL(n:Nat)(k:q)(h:A6 q→B5 n p:=by intro zq9;(with_reducible refine B7 ?_);(refine Ak (.int _ (((2*z:Nat):Int))) (V.as (V.shlI rfl rfl BI (by omega) (by omega)) (by omega)) (by kernel_rfl) ?_);go_step;with_reducible exact zq9.out):p:=h ⟨k⟩
theorem ZM(n:Nat)(k:q)(h:A6 q→B5 n p:=by intro zq9;(with_reducible refine B7 ?_);(refine Ak (.int _ (((Lf%8:Nat):Int))) (V.as (V.rem rfl rfl (by omega) (by omega)) (by omega)) (by kernel_rfl) ?_);go_step;with_reducible exact zq9.out):p:=h ⟨k⟩
theorem ZN(n:Nat)(k:q)(h:A6 q→B5 n p:=by intro zq9;(with_reducible refine B7 ?_);(refine Ak (.int _ (((a+s:Nat):Int))) (V.as (V.addI rfl rfl (by omega)) (by omega)) (by kernel_rfl) ?_);go_step;with_reducible exact zq9.out):p:=h ⟨k⟩
theorem ZO(n:Nat)(k:q)(h:A6 q→B5 n p:=by intro zq9;(with_reducible refine B7 ?_);(refine Ak (.int _ (((k:Int)%16))) (V.as (V.and rfl rfl) (by exact HAnd.out)) (by kernel_rfl) ?_);go_step;with_reducible exact zq9.out):p:=h ⟨k⟩
theorem ZP(n:Nat)(k:q)(h:A6 q→B5 n p:=by intro zq9;(with_reducible refine B7 ?_);(refine Ak (.int _ (((k:Nat):Int))) (V.as (V.and rfl rfl) (by rw [HAnd.out];exact hk1.out)) (by kernel_rfl) ?_);go_step;with_reducible exact zq9.out):p:=h ⟨k⟩
theorem ZQ(n:Nat)(k:q)(h:A6 q→B5 n p:=by intro zq9;(with_reducible refine B7 ?_);(refine Ak (.int _ (((s+1:Nat):Int))) (V.as (V.addI rfl rfl (by omega)) (by omega)) (by kernel_rfl) ?_);go_step;with_reducible exact zq9.out):p:=h ⟨k⟩
theorem ZR(n:Nat)(k:q)(h:A6 q→B5 n p:=by intro zq9;(with_reducible refine B7 ?_);(refine Ak (.int _ (((x:Nat):Int))) (V.as (V.subI rfl rfl (by omega)) (by omega)) (by kernel_rfl) ?_);go_step;with_reducible exact zq9.out):p:=h ⟨k⟩
theorem ZS(n:Nat)(k:q)(h:A6 q→B5 n p:=by intro zq9;(with_reducible refine B7 ?_);(refine Ak (.int _ (0)) (V.as (V.subI rfl rfl (by omega)) (by omega)) (by kernel_rfl) ?_);go_step;with_reducible exact zq9.out):p:=h ⟨k⟩
theorem ZT(n:Nat)(k:q)(h:A6 q→B5 n p:=by intro zq9;(with_reducible refine B7 ?_);(refine As AA (V.build (vs:=[(0,_),(1,_),(2,_),(3,_),(4,_),(5,_),(6,_),(7,_),(8,_)]) rfl (Ee _ _ _ _ _ _ _ _ _)) ?_);go_step;with_reducible exact zq9.out):p:=h ⟨k⟩
theorem ZU(n:Nat)(k:q)(h:A6 q→B5 n p:=by intro zq9;(with_reducible refine B7 ?_);(refine As AA (V.indexAr Tryz.underlying26 EL rfl rfl (show Bq 0 0 from rfl) (by omega) (show 0*1=0 from rfl) BO) ?_);go_step;with_reducible exact zq9.out):p:=h ⟨k⟩
theorem bF(n:Nat){T q:Nat→World→Prop}(k:∀g w,T g w→q g w)(h:GM T q→B5 n p:=by intro zq9;(with_reducible refine B7 ?_);(refine Ag ?_;apply AU (o:=⟨some _,_,_,_,_,_⟩) hS 30 1 _ rfl 3 1 8 Bj _ _;(case hvs=>(repeat (first|exact AX.nil|(apply AX.agg;(rfl);(rfl))|(apply AX.one;exact CG;(rfl);(rfl)))));(case hn=>rfl);(case hn0=>decide);(case hns=>decide));intro g w9 h9;refine AB ?_;go_step;with_reducible exact zq9.out g w9 h9):p:=h ⟨k⟩
theorem bG(n:Nat){T q:Nat→World→Prop}(k:∀g w,T g w→q g w)(h:GM T q→B5 n p:=by intro zq9;(with_reducible refine B7 ?_);(refine Ag ?_;apply DF (o:=⟨some _,_,_,_,_,_⟩) hS 30 1 _ rfl 3 1 8 Bj _ _;(case hvs=>(repeat (first|exact AX.nil|(apply AX.agg;(rfl);(rfl))|(apply AX.one;exact CG;(rfl);(rfl)))));(case hn=>rfl);(case hn0=>decide);(case hns=>decide));intro g w9 h9;refine AB ?_;go_step;with_reducible exact zq9.out g w9 h9):p:=h ⟨k⟩
theorem bH(n:Nat){T q:Nat→World→Prop}(k:∀g w,T g w→q g w)(h:GM T q→B5 n p:=by intro zq9;(with_reducible refine B7 ?_);(refine Ag ?_;apply Jc (o:=⟨some _,_,_,_,_,_⟩) hS 30 _ _ rfl _ _ _ _ Tv _ _ _ _ _ _ rfl rfl;(case hi=>exact BI);(case hj=>exact BI);(case hnm=>omega);(case hb=>omega);(case h63=>unfold maxLen;omega));intro g w9 h9;refine AB ?_;go_step;with_reducible exact zq9.out g w9 h9):p:=h ⟨k⟩
theorem bI(n:Nat){T q:Nat→World→Prop}(k:∀g w,T g w→q g w)(h:GM T q→B5 n p:=by intro zq9;(with_reducible refine B7 ?_);(refine Ag ?_;apply Jc (o:=⟨some _,_,_,_,_,_⟩) hS 42 _ _ rfl _ _ _ _ b7 _ _ _ _ _ _ rfl rfl;(case hi=>exact BI);(case hj=>exact BI);(case hnm=>omega);(case hb=>omega);(case h63=>unfold maxLen;omega));intro g w9 h9;refine AB ?_;go_step;with_reducible exact zq9.out g w9 h9):p:=h ⟨k⟩
theorem bJ{T q:World→Prop}(k:∀w,T w→q w)(h:In T q→p:=by intro zq9;(with_reducible refine An _ (.mapUpdate 165 _ _ _) ?_);(refine Ag ?_;apply Dt (enc:=ik) hS 165 _ _ _ rfl _ rfl _ rfl Tryz.underlying165 (CK Tryz.underlying3) _;(case hp=>exact AJ);(case hv=>(first|exact DI.int rfl|exact DI.bool rfl|exact DI.slice rfl|exact DI.pointer rfl|exact DI.string rfl|exact DI.map rfl|exact DI.func rfl|exact DI.agg rfl));(case hd=>exact rfl));intro w9 h9;with_reducible exact zq9.out w9 h9):p:=h ⟨k⟩
theorem bK{T q:World→Prop}(k:∀w,T w→q w)(h:In T q→p:=by intro zq9;(with_reducible refine An _ (.mapUpdate 167 _ _ _) ?_);(refine Ag ?_;apply Dt (enc:=ik) hS 167 _ _ _ rfl _ rfl _ rfl Tryz.underlying167 (CK Tryz.underlying3) _;(case hp=>exact AJ);(case hv=>(first|exact DI.int rfl|exact DI.bool rfl|exact DI.slice rfl|exact DI.pointer rfl|exact DI.string rfl|exact DI.map rfl|exact DI.func rfl|exact DI.agg rfl));(case hd=>exact rfl));intro w9 h9;with_reducible exact zq9.out w9 h9):p:=h ⟨k⟩
theorem bL{T q:World→Prop}(k:∀w,T w→q w)(h:In T q→p:=by intro zq9;(with_reducible refine An _ (.store 168 _ _) ?_);(refine Ag ?_;apply Bl hS 168 _ _ rfl _ _ rfl (AH rfl) _ _;(case hp=>exact AJ);(case hy=>exact CG);(case hv=>rfl);(case hc=>exact Uq);(case hd=>exact rfl));intro w9 h9;with_reducible exact zq9.out w9 h9):p:=h ⟨k⟩
theorem bM{T q:World→Prop}(k:∀w,T w→q w)(h:In T q→p:=by intro zq9;(with_reducible refine An _ (.store 22 _ _) ?_);(refine Ag ?_;apply Bl hS 22 _ _ rfl _ _ rfl (AH rfl) _ _;(case hp=>exact AJ);(case hy=>exact CG);(case hv=>rfl);(case hc=>exact Uq);(case hd=>exact rfl));intro w9 h9;with_reducible exact zq9.out w9 h9):p:=h ⟨k⟩
theorem bN{T q:World→Prop}(k:∀w,T w→q w)(h:In T q→p:=by intro zq9;(with_reducible refine An _ (.store 35 _ _) ?_);(refine Ag ?_;apply Ks hS 35 _ _ rfl _ _ rfl (AH rfl) _ _;(case hp=>exact AJ);(case hy=>exact CG);(case hz=>rfl);(case hi=>(repeat (first|exact Gy.head|(apply Gy.skipI;(case hn=>exact EJ);(case h=>omega);(case ho=>rfl))|apply Gy.skipV)));(case hd=>exact rfl));intro w9 h9;with_reducible exact zq9.out w9 h9):p:=h ⟨k⟩
theorem bO(n:Nat){T q:Nat→World→Prop}(k:∀g w,T g w→q g w)(h:GM T q→B5 n p:=by intro zq9;(with_reducible refine B7 ?_);(refine Ag ?_;apply DF (o:=⟨some _,_,_,_,_,_⟩) hS 141 1 _ rfl 155 3 24 Tu _ _;(case hvs=>(repeat (first|exact AX.nil|(apply AX.agg;(rfl);(rfl))|(apply AX.one;exact CG;(rfl);(rfl)))));(case hn=>rfl);(case hn0=>decide);(case hns=>decide));intro g w9 h9;simp only [List.cons_append,List.nil_append] at h9;refine AB ?_;go_step;with_reducible exact zq9.out g w9 h9):p:=h ⟨k⟩
theorem bP(n:Nat){T q:Option Addr→Nat→World→Prop}(k:∀a c w,T a c w→q a c w)(h:cR T q→B5 n p:=by intro zq9;(with_reducible refine B7 ?_);(refine Ag ?_;apply AO (o:=⟨some _,_,_,_,_,_⟩) hS _ _ 30 rfl 3 1 8 Bj _ _ _ _ rfl;(case hp=>exact AJ);(case hx=>exact rfl);(case hm=>(first|exact hS.slBlk AJ (by rfl) (by decide)|exact hS.sl AJ|with_reducible assumption|exact Sl.ext (by with_reducible assumption) hS.1|exact Sl.nil _ _|exact Sl.ext (by assumption) hS.1|assumption));(case h1=>(first|exact Ad rfl|exact Ac _ _|(intro u hu;cases hu)));(case h63=>unfold maxLen;omega);(case hb=>omega));intro a9 c9 w9 h9;(first|simp only [Av] at h9|simp only [Aw] at h9|simp only [Ax] at h9|simp only [Ay] at h9|simp only [Az] at h9|skip);refine AB ?_;go_step;with_reducible exact zq9.out a9 c9 w9 h9):p:=h ⟨k⟩
theorem bQ(k:q)(h:A6 q→p:=by intro zq9;(with_reducible refine An _ (.load 140 _) ?_);(refine Ag ?_;apply Di hS 140 _ rfl _ rfl 2 (AP rfl) _;(case hp=>exact AJ);(case hn=>rfl);refine AB ?_);go_step;with_reducible exact zq9.out):p:=h ⟨k⟩
theorem bR(k:q)(h:A6 q→p:=by intro zq9;(with_reducible refine An _ (.load 155 _) ?_);(first|(refine Ag ?_;apply Gt hS 155 _ rfl _ _ rfl 3 (AP rfl) _ _ _ _ _;(case hp=>exact AJ);(case hi=>omega);(case hl'=>with_reducible assumption);refine AB ?_)|(refine Ag ?_;apply Di hS 155 _ rfl _ rfl 3 (AP rfl) _;(case hp=>exact AJ);(case hn=>rfl);refine AB ?_));go_step;with_reducible exact zq9.out):p:=h ⟨k⟩
theorem bS(k:q)(h:A6 q→p:=by intro zq9;(with_reducible refine An _ (.load 168 _) ?_);(refine Ag ?_;apply AY hS 168 _ rfl _ _ rfl (AH rfl) _;(case hp=>exact AJ);(case hc=>rfl);refine AB ?_);go_step;with_reducible exact zq9.out):p:=h ⟨k⟩
theorem bT(k:q)(h:A6 q→p:=by intro zq9;(with_reducible refine An _ (.load 172 _) ?_);(refine Ag ?_;apply Aj hS 172 _ rfl _ rfl (AH rfl) _;(case hc=>with_reducible assumption);refine AB ?_);go_step;with_reducible exact zq9.out):p:=h ⟨k⟩
theorem bU(k:q)(h:A6 q→p:=by intro zq9;(with_reducible refine An _ (.load 199 _) ?_);(refine Ag ?_;apply AY hS 199 _ rfl _ _ rfl (AH rfl) _;(case hp=>exact AJ);(case hc=>rfl);refine AB ?_);go_step;with_reducible exact zq9.out):p:=h ⟨k⟩
theorem bV(k:q)(h:A6 q→p:=by intro zq9;(with_reducible refine An _ (.load 200 _) ?_);(refine Ag ?_;apply AY hS 200 _ rfl _ _ rfl (AH rfl) _;(case hp=>exact AJ);(case hc=>rfl);refine AB ?_);go_step;with_reducible exact zq9.out):p:=h ⟨k⟩
theorem bW(k:q)(h:A6 q→p:=by intro zq9;(with_reducible refine An _ (.load 26 _) ?_);(refine Ag ?_;apply L8 hS 26 _ rfl _ _ rfl 64 (AP rfl) _;(case hp=>exact AJ);(case hi=>(repeat (first|(apply QM.head;exact EJ)|(apply QM.skipI;(case hn=>exact EJ);(case h=>omega);(case ho=>rfl))|apply QM.skipV)));refine AB ?_);go_step;with_reducible exact zq9.out):p:=h ⟨k⟩
theorem bX(k:q)(h:A6 q→p:=by intro zq9;(with_reducible refine An _ (.load 3 _) ?_);(first|(refine Ag ?_;apply Gs hS 3 _ rfl _ _ rfl (AH rfl) _ _ _ _ _;(case hp=>exact AJ);(case hi=>omega);refine AB ?_)|(refine Ag ?_;apply AY hS 3 _ rfl _ _ rfl (AH rfl) _;(case hp=>exact AJ);(case hc=>rfl);refine AB ?_));go_step;with_reducible exact zq9.out):p:=h ⟨k⟩
theorem bY(k:q)(h:A6 q→p:=by intro zq9;(with_reducible refine An _ (.load 3 _) ?_);(refine Ag ?_;apply Gs hS 3 _ rfl _ _ rfl (AH rfl) _ _ _ _ _;(case hp=>exact AJ);(case hi=>omega);refine AB ?_);go_step;with_reducible exact zq9.out):p:=h ⟨k⟩
theorem bZ(n:Nat)(k:q)(h:A6 q→B5 n p:=by intro zq9;(with_reducible refine B7 ?_);(refine Ag ?_;apply Kn (enc:=ik) hS 165 _ _ rfl _ rfl _ rfl Tryz.underlying165 (CK Tryz.underlying3) (.int .i64 0) (fun w=>Tryz.zeroValue3 w) _;(case hp=>exact AJ);(case hf=>with_reducible assumption);refine AB ?_);go_step;with_reducible exact zq9.out):p:=h ⟨k⟩
theorem bc(n:Nat)(k:q)(h:A6 q→B5 n p:=by intro zq9;(with_reducible refine B7 ?_);(refine Ak (.func (.func 101) #[] #[.pointer (some ⟨g5,0,none⟩), .pointer (some ⟨g6,0,none⟩)]) (V.makeFunc rfl) AA ?_);go_step;with_reducible exact zq9.out):p:=h ⟨k⟩
theorem be(n:Nat)(k:q)(h:A6 q→B5 n p:=by intro zq9;(with_reducible refine B7 ?_);(refine Ak (.func (.func 108) #[] #[.pointer (some ⟨g6,0,none⟩), .pointer (some ⟨g8,0,none⟩)]) (V.makeFunc rfl) AA ?_);go_step;with_reducible exact zq9.out):p:=h ⟨k⟩
theorem bf(n:Nat)(k:q)(h:A6 q→B5 n p:=by intro zq9;(with_reducible refine B7 ?_);(refine Ak (.iface 140 (.agg #[.pointer (some ⟨gc,0,none⟩), .pointer (some ⟨gr,0,none⟩)])) (V.mkIf rfl (fun w=>by kernel_rfl)) AA ?_);go_step;with_reducible exact zq9.out):p:=h ⟨k⟩
end
end Go.Proofs.YtohacgmhmbijmaaGreatDoor
namespace Go.Proofs.YtohacgmhmbijmaaGreatDoor
attribute [local irreducible] Region.wanted
set_option linter.unusedVariables false
set_option maxRecDepth 100000
set_option maxHeartbeats 8000000
theorem I0:(Tryz.prog.info? 30).map (·.size)=some 1:=by kernel_rfl
theorem PY:AR Tryz.prog 24 0 0 3:=AR.mk' _ _ 1 Tryz.underlying24 rfl rfl rfl AA (by decide)
theorem PZ:AR Tryz.prog 24 1 1 3:=AR.mk' _ _ 1 Tryz.underlying24 rfl rfl rfl AA (by decide)
theorem IR:AR Tryz.prog 24 2 2 22:=AR.mk' _ _ 1 Tryz.underlying24 rfl rfl rfl AA (by decide)
theorem EL:(Tryz.prog.info? 3).map (·.size)=some 1:=by kernel_rfl
theorem Pa:AR Tryz.prog 32 0 0 29:=AR.mk' _ _ 16 Tryz.underlying32 rfl rfl rfl AA (by decide)
theorem Pb:AR Tryz.prog 32 1 16 30:=AR.mk' _ _ 1 Tryz.underlying32 rfl rfl rfl AA (by decide)
theorem T1:AR Tryz.prog 34 0 0 32:=AR.mk' _ _ 17 Tryz.underlying34 rfl rfl rfl AA (by decide)
theorem T2:AR Tryz.prog 34 1 17 32:=AR.mk' _ _ 17 Tryz.underlying34 rfl rfl rfl AA (by decide)
theorem UF:(Tryz.prog.info? 5).map (·.size)=some 1:=by kernel_rfl
theorem Pd:AR Tryz.prog 37 0 0 3:=AR.mk' _ _ 1 Tryz.underlying37 rfl rfl rfl AA (by decide)
theorem Pe:AR Tryz.prog 37 1 1 3:=AR.mk' _ _ 1 Tryz.underlying37 rfl rfl rfl AA (by decide)
theorem T3:AR Tryz.prog 37 2 2 3:=AR.mk' _ _ 1 Tryz.underlying37 rfl rfl rfl AA (by decide)
theorem Pf:AR Tryz.prog 37 3 3 26:=AR.mk' _ _ 64 Tryz.underlying37 rfl rfl rfl AA (by decide)
theorem Pg:AR Tryz.prog 37 4 67 34:=AR.mk' _ _ 34 Tryz.underlying37 rfl rfl rfl AA (by decide)
theorem Ph:AR Tryz.prog 37 5 101 3:=AR.mk' _ _ 1 Tryz.underlying37 rfl rfl rfl AA (by decide)
theorem Pi:AR Tryz.prog 37 6 102 35:=AR.mk' _ _ 1 Tryz.underlying37 rfl rfl rfl AA (by decide)
theorem Hc:(Tryz.prog.info? 26).map (·.size)=some 64:=by kernel_rfl
theorem cD:(Tryz.prog.info? 35).map (·.size)=some 1:=by kernel_rfl
theorem cE:(Tryz.prog.info? 94).map (·.size)=some 2:=by kernel_rfl
theorem MX:AR Tryz.prog 94 0 0 3:=AR.mk' _ _ 1 Tryz.underlying94 rfl rfl rfl AA (by decide)
theorem MY:AR Tryz.prog 94 1 1 3:=AR.mk' _ _ 1 Tryz.underlying94 rfl rfl rfl AA (by decide)
theorem Qq:AR Tryz.prog 107 0 0 3:=AR.mk' _ _ 1 Tryz.underlying107 rfl rfl rfl AA (by decide)
theorem Qr:AR Tryz.prog 107 1 1 3:=AR.mk' _ _ 1 Tryz.underlying107 rfl rfl rfl AA (by decide)
theorem cC:(Tryz.prog.info? 32).map (·.size)=some 17:=by kernel_rfl
theorem JR:AR Tryz.prog 140 0 0 133:=AR.mk' _ _ 1 Tryz.underlying140 rfl rfl rfl AA (by decide)
theorem Hb:AR Tryz.prog 140 1 1 137:=AR.mk' _ _ 1 Tryz.underlying140 rfl rfl rfl AA (by decide)
theorem MZ:(Tryz.prog.info? 155).map (·.size)=some 3:=by kernel_rfl
theorem JS:AR Tryz.prog 155 0 0 3:=AR.mk' _ _ 1 Tryz.underlying155 rfl rfl rfl AA (by decide)
theorem MS:AR Tryz.prog 155 1 1 3:=AR.mk' _ _ 1 Tryz.underlying155 rfl rfl rfl AA (by decide)
theorem Qs:AR Tryz.prog 155 2 2 3:=AR.mk' _ _ 1 Tryz.underlying155 rfl rfl rfl AA (by decide)
theorem MT:AR Tryz.prog 159 0 0 3:=AR.mk' _ _ 1 Tryz.underlying159 rfl rfl rfl AA (by decide)
theorem MU:AR Tryz.prog 159 1 1 30:=AR.mk' _ _ 1 Tryz.underlying159 rfl rfl rfl AA (by decide)
theorem Pn:(Tryz.prog.info? 159).map (·.size)=some 2:=by kernel_rfl
theorem Wz:AR Tryz.prog 181 0 0 172:=AR.mk' _ _ 1 Tryz.underlying181 rfl rfl rfl AA (by decide)
theorem W0:AR Tryz.prog 181 1 1 172:=AR.mk' _ _ 1 Tryz.underlying181 rfl rfl rfl AA (by decide)
theorem Qt:AR Tryz.prog 184 0 0 35:=AR.mk' _ _ 1 Tryz.underlying184 rfl rfl rfl AA (by decide)
theorem JT:AR Tryz.prog 184 1 1 3:=AR.mk' _ _ 1 Tryz.underlying184 rfl rfl rfl AA (by decide)
theorem Qu:AR Tryz.prog 197 0 0 3:=AR.mk' _ _ 1 Tryz.underlying197 rfl rfl rfl AA (by decide)
theorem Qv:AR Tryz.prog 197 1 1 3:=AR.mk' _ _ 1 Tryz.underlying197 rfl rfl rfl AA (by decide)
theorem Qw:AR Tryz.prog 197 2 2 3:=AR.mk' _ _ 1 Tryz.underlying197 rfl rfl rfl AA (by decide)
theorem MV:AR Tryz.prog 202 0 0 199:=AR.mk' _ _ 1 Tryz.underlying202 rfl rfl rfl AA (by decide)
theorem MW:AR Tryz.prog 202 1 1 200:=AR.mk' _ _ 1 Tryz.underlying202 rfl rfl rfl AA (by decide)
theorem Zz:(Tryz.prog.info? 197).map (·.size)=some 3:=by kernel_rfl
end Go.Proofs.YtohacgmhmbijmaaGreatDoor
