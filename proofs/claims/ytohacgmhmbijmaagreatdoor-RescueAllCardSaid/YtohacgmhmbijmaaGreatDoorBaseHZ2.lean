/- What the laws RescueAll RescueHurt need, part 2. -/
import Derived.Test.YtohacgmhmbijmaaGreatDoorBaseHZ1
namespace Go.Proofs.YtohacgmhmbijmaaGreatDoor
open Go.RowKit
set_option linter.unusedVariables false
set_option maxRecDepth 100000
set_option maxHeartbeats 8000000
def De(P:Program)(op:Op)(ty:TypeId)(a:Act)(v:Value):Prop:=
 ∀(d:Option Tmp)(pos:String)(af:Array Edge)(g:Option (Nat×Bool))(w:World),(execOp a.eval ⟨d,op,ty,pos,af,g⟩).run P w= .ok (.value v) w
section
variable{P:Program}{ops:Array Oper}{Q:Exit→Act→World→Prop}{rest:List Oper}{a:Act}{w:World}{d:Option Tmp}{op:Op}{ty:TypeId}{pos:String}{af:Array Edge}{g:Option (Nat×Bool)}
theorem Is(v:Value)(K:Act→World→Prop)(h:K (a.put d v) w):(Oper.mk d (.move (.const v)) ty pos af g).wp P a w K Q:=h
theorem Ag(v:Value)(hv:De P op ty a v)(hw:Region.wanted ⟨d,op,ty,pos,af,g⟩ (yielded ops a.tmps)=true)(h:(Oper.mk d (.move (.const v)) ty pos af g).wp P a w (wpList P ops Q rest) Q):wpList P ops Q (⟨d,op,ty,pos,af,g⟩::rest) a w:=by
 refine Bj hw ?_
 unfold Oper.wp
 rw [hv d pos af g w]
 exact h
theorem dM(b:Bool)(hv:De P op ty a (.bool b))(hw:Region.wanted ⟨d,op,ty,pos,af,g⟩ (yielded ops a.tmps)=true)(ht:b=true→(Oper.mk d (.move (.const (.bool true))) ty pos af g).wp P a w (wpList P ops Q rest) Q)
 (hf:b=false→(Oper.mk d (.move (.const (.bool false))) ty pos af g).wp P a w (wpList P ops Q rest) Q):wpList P ops Q (⟨d,op,ty,pos,af,g⟩::rest) a w:=by
 cases b
 ·exact Ag _ hv hw (hf rfl)
 exact Ag _ hv hw (ht rfl)
theorem CG(p:Prop)[Decidable p](hv:De P op ty a (.bool (decide p)))(hw:Region.wanted ⟨d,op,ty,pos,af,g⟩ (yielded ops a.tmps)=true)(ht:p→(Oper.mk d (.move (.const (.bool true))) ty pos af g).wp P a w (wpList P ops Q rest) Q)
 (hf:¬p→(Oper.mk d (.move (.const (.bool false))) ty pos af g).wp P a w (wpList P ops Q rest) Q):wpList P ops Q (⟨d,op,ty,pos,af,g⟩::rest) a w:=
 dM _ hv hw (fun h=>ht (of_decide_eq_true h)) (fun h=>hf (of_decide_eq_false h))
theorem AB{d:Tmp}{v:Value}(h:(Oper.mk (some d) (.move (.const v)) 0 "" #[] none).wp P a w (wpList P ops Q rest) Q):wpList P ops Q rest (a.put (some d) v) w:=h
theorem AI{md:Region.Mode}{D:List Nat}{S:World→Prop}{fuel:Nat}{listed:Array Bool}{d:Tmp}{v:Value}(h:(Oper.mk (some d) (.move (.const v)) 0 "" #[] none).wp P a w (Ab P md ops Q D S fuel listed) Q):Ab P md ops Q D S fuel listed (a.put (some d) v) w:=h
theorem A6{c x y:Operand}(hc:a.eval c= .bool true)(hw:Region.wanted ⟨d, .pick c x y,ty,pos,af,g⟩ (yielded ops a.tmps)=true)(h:(Oper.mk d (.move x) ty pos af g).wp P a w (wpList P ops Q rest) Q):wpList P ops Q (⟨d, .pick c x y,ty,pos,af,g⟩::rest) a w:=by
 refine Bj hw ?_
 unfold Oper.wp execOp at*
 simp only [hc,asBool,Sem.run_bind,Sem.run_pure,Result.andThen_ok,if_true] at*
 exact h
theorem A4{c x y:Operand}(hc:a.eval c= .bool false)(hw:Region.wanted ⟨d, .pick c x y,ty,pos,af,g⟩ (yielded ops a.tmps)=true)(h:(Oper.mk d (.move y) ty pos af g).wp P a w (wpList P ops Q rest) Q):wpList P ops Q (⟨d, .pick c x y,ty,pos,af,g⟩::rest) a w:=by
 refine Bj hw ?_
 unfold Oper.wp execOp at*
 simp only [hc,asBool,Sem.run_bind,Sem.run_pure,Result.andThen_ok,Bool.false_eq_true,if_false] at*
 exact h
end
def Bk(z:Int)(j:Nat):Prop:=z=(j:Int)
theorem Bk.cast{j:Nat}:Bk (j:Int) j:=rfl
theorem Bk.add{x y:Int}{i j:Nat}(h:Bk x i)(k:Bk y j):Bk (x+y) (i+j):=by unfold Bk at*;omega
theorem Bk.mul{x y:Int}{i j:Nat}(h:Bk x i)(k:Bk y j):Bk (x*y) (i*j):=by unfold Bk at*;rw [h,k];push_cast;rfl
theorem Bk.div{x y:Int}{i j:Nat}(h:Bk x i)(k:Bk y j):Bk (x/y) (i/j):=by unfold Bk at*;rw [h,k];push_cast;rfl
theorem Bk.mod{x y:Int}{i j:Nat}(h:Bk x i)(k:Bk y j):Bk (x%y) (i%j):=by unfold Bk at*;rw [h,k];push_cast;rfl
theorem Bk.min{x y:Int}{i j:Nat}(h:Bk x i)(k:Bk y j):Bk (Min.min x y) (Min.min i j):=by unfold Bk at*;omega
theorem Bk.max{x y:Int}{i j:Nat}(h:Bk x i)(k:Bk y j):Bk (Max.max x y) (Max.max i j):=by unfold Bk at*;omega
class CK(z:Int)(j:outParam Nat):Prop where
 out:Bk z j
instance CK.cast{j:Nat}:CK (j:Int) j:=⟨rfl⟩
instance CK.l0:CK 0 0:=⟨rfl⟩
instance CK.l1:CK 1 1:=⟨rfl⟩
instance CK.l2:CK 2 2:=⟨rfl⟩
instance CK.l3:CK 3 3:=⟨rfl⟩
instance CK.l4:CK 4 4:=⟨rfl⟩
instance CK.l5:CK 5 5:=⟨rfl⟩
instance CK.l6:CK 6 6:=⟨rfl⟩
instance CK.l7:CK 7 7:=⟨rfl⟩
instance CK.l8:CK 8 8:=⟨rfl⟩
instance CK.l256:CK 256 256:=⟨rfl⟩
instance CK.add{x y:Int}{i j:Nat}[h:CK x i][k:CK y j]:CK (x+y) (i+j):=⟨h.out.add k.out⟩
instance CK.mul{x y:Int}{i j:Nat}[h:CK x i][k:CK y j]:CK (x*y) (i*j):=⟨h.out.mul k.out⟩
instance CK.div{x y:Int}{i j:Nat}[h:CK x i][k:CK y j]:CK (x/y) (i/j):=⟨h.out.div k.out⟩
instance CK.mod{x y:Int}{i j:Nat}[h:CK x i][k:CK y j]:CK (x%y) (i%j):=⟨h.out.mod k.out⟩
theorem Bk.auto{z:Int}{j:Nat}[h:CK z j]:Bk z j:=h.out
theorem Bk.sub{x y:Int}{i j:Nat}(h:Bk x i)(k:Bk y j)(l:j≤i):Bk (x-y) (i-j):=by unfold Bk at*;omega
theorem Bk.toNat{x:Int}(h:0≤x):Bk x x.toNat:=by unfold Bk;omega
section
variable{P:Program}{a:Act}{x y z:Operand}{t u ty:TypeId}{m n:Int}{k:IntKind}
theorem V.as{op:Op}{m':Int}(h:De P op ty a (.int k m))(e:m=m'):De P op ty a (.int k m'):=e▸ h
theorem V.add(hx:a.eval x= .int k m)(hy:a.eval y= .int k n):De P (.binOp .add t x y u) ty a (.int k (k.wrap (m+n))):=fun d pos af g w=>by
 simp only [execOp,hx,hy,binOp_add,Op.intArith,eqGuard];rfl
theorem V.sub(hx:a.eval x= .int k m)(hy:a.eval y= .int k n):De P (.binOp .sub t x y u) ty a (.int k (k.wrap (m-n))):=fun d pos af g w=>by
 simp only [execOp,hx,hy,binOp_sub,Op.intArith,eqGuard];rfl
theorem V.mul(hx:a.eval x= .int k m)(hy:a.eval y= .int k n):De P (.binOp .mul t x y u) ty a (.int k (k.wrap (m*n))):=fun d pos af g w=>by
 simp only [execOp,hx,hy,binOp_mul,Op.intArith,eqGuard];rfl
theorem V.addI(hx:a.eval x= .int .i64 m)(hy:a.eval y= .int .i64 n)(h: -9223372036854775808≤m+n∧m+n≤9223372036854775807):De P (.binOp .add t x y u) ty a (.int .i64 (m+n)):=by
 have:=V.add (P:=P) (t:=t) (u:=u) (ty:=ty) hx hy;rwa [IntWalk.i64_in _ h] at this
theorem V.subR(hk:k≠ .i64)(hx:a.eval x= .int k m)(hy:a.eval y= .int k n):De P (.binOp .sub t x y u) ty a (.int k (k.wrap (m-n))):=V.sub hx hy
theorem V.subI(hx:a.eval x= .int .i64 m)(hy:a.eval y= .int .i64 n)(h: -9223372036854775808≤m-n∧m-n≤9223372036854775807):De P (.binOp .sub t x y u) ty a (.int .i64 (m-n)):=by
 have:=V.sub (P:=P) (t:=t) (u:=u) (ty:=ty) hx hy;rwa [IntWalk.i64_in _ h] at this
theorem V.mulI(hx:a.eval x= .int .i64 m)(hy:a.eval y= .int .i64 n)(h: -9223372036854775808≤m*n∧m*n≤9223372036854775807):De P (.binOp .mul t x y u) ty a (.int .i64 (m*n)):=by
 have:=V.mul (P:=P) (t:=t) (u:=u) (ty:=ty) hx hy;rwa [IntWalk.i64_in _ h] at this
theorem V.neg(hx:a.eval x= .int .i64 n)(h: -9223372036854775807≤n∧n≤9223372036854775807):De P (.unOp .neg t x) ty a (.int .i64 (-n)):=fun d pos af g w=>by
 have e:Op.unary .neg (.int .i64 n)=pure (.int .i64 (IntKind.i64.wrap (0-n))):=rfl
 simp only [execOp,hx,e,Int.zero_sub,IntWalk.i64_in (-n) (by omega)];rfl
theorem V.quo(hx:a.eval x= .int .i64 m)(hy:a.eval y= .int .i64 n)(h:0≤m∧m≤9223372036854775807)(h2:0<n):De P (.binOp .quo t x y u) ty a (.int .i64 (m/n)):=fun d pos af g w=>by
 have e1:m.tdiv n=m/n:=Int.tdiv_eq_ediv_of_nonneg h.1
 have e2:0≤m/n:=Int.ediv_nonneg h.1 (by omega)
 have e3:m/n≤m:=Int.ediv_le_self n h.1
 have hn:n≠0:=by omega
 simp only [execOp,hx,hy,binOp_quo,Op.intDiv,eqGuard,if_neg hn,e1,IntWalk.i64_in (m/n) (by omega)];rfl
theorem V.rem(hx:a.eval x= .int k m)(hy:a.eval y= .int k n)(h:0≤m)(h2:0<n):De P (.binOp .rem t x y u) ty a (.int k (m%n)):=fun d pos af g w=>by
 have hn:n≠0:=by omega
 simp only [execOp,hx,hy,binOp_rem,Op.intDiv,eqGuard,if_neg hn,Int.tmod_eq_emod_of_nonneg h];rfl
theorem V.shl{yk:IntKind}{j:Nat}(hx:a.eval x= .int k m)(hy:a.eval y= .int yk n)(hj:Bk n j)(h:j<64)(hk:k.bits=64):De P (.binOp .shl t x y u) ty a (.int k (k.wrap (m*2^j))):=fun d pos af g w=>by
 unfold Bk at hj
 have h0:¬n<0:=by omega
 have hm:Min.min n.toNat k.bits=j:=by omega
 simp only [execOp,hx,hy,binOp_shl,Op.shift,eqGuard,if_neg h0,hm];rfl
theorem V.shlI{yk:IntKind}{j:Nat}(hx:a.eval x= .int .i64 m)(hy:a.eval y= .int yk n)(hj:Bk n j)(h:j<64)(h1: -9223372036854775808≤m*2^j∧m*2^j≤9223372036854775807):De P (.binOp .shl t x y u) ty a (.int .i64 (m*2^j)):=by
 have:=V.shl (P:=P) (t:=t) (u:=u) (ty:=ty) hx hy hj h rfl;rwa [IntWalk.i64_in _ h1] at this
theorem V.shl1{yk:IntKind}{j:Nat}(hx:a.eval x= .int .i64 1)(hy:a.eval y= .int yk n)(hj:Bk n j)(h:j<63):De P (.binOp .shl t x y u) ty a (.int .i64 (2^j)):=by
 have e:(2:Int)^j≤4611686018427387904:=by
  have:=Nat.pow_le_pow_right (n:=2) (by omega) (show j≤62 by omega)
  have h2:(2:Int)^j=((2^j:Nat):Int):=by push_cast;rfl
  omega
 have e0:(0:Int)≤2^j:=Int.pow_nonneg (by omega)
 have:=V.shl (P:=P) (t:=t) (u:=u) (ty:=ty) hx hy hj (by omega) rfl
 rwa [Int.one_mul,IntWalk.i64_in _ (by omega)] at this
theorem V.shr{yk:IntKind}{j:Nat}(hx:a.eval x= .int k m)(hy:a.eval y= .int yk n)(hj:Bk n j)(h:j<64)(hk:k.bits=64):De P (.binOp .shr t x y u) ty a (.int k (m/2^j)):=fun d pos af g w=>by
 unfold Bk at hj
 have e:m.fdiv (2^j)=m/2^j:=Int.fdiv_eq_ediv_of_nonneg _ (Int.pow_nonneg (by omega))
 have h0:¬n<0:=by omega
 have hm:Min.min n.toNat k.bits=j:=by omega
 simp only [execOp,hx,hy,binOp_shr,Op.shift,eqGuard,if_neg h0,hm,e];rfl
theorem V.and(hx:a.eval x= .int k m)(hy:a.eval y= .int k n):De P (.binOp .and t x y u) ty a (.int k (bits .and k m n)):=fun d pos af g w=>by
 simp only [execOp,hx,hy,binOp_and,intBits_and,eqGuard];rfl
theorem V.or(hx:a.eval x= .int k m)(hy:a.eval y= .int k n):De P (.binOp .or t x y u) ty a (.int k (bits .or k m n)):=fun d pos af g w=>by
 simp only [execOp,hx,hy,binOp_or,intBits_or,eqGuard];rfl
theorem V.eql(hx:a.eval x= .int k m)(hy:a.eval y= .int k n):De P (.binOp .eql t x y u) ty a (.bool (decide (m=n))):=fun d pos af g w=>by
 simp only [execOp,hx,hy,binOp_eql,eqGuard_at_int];rfl
theorem V.neq(hx:a.eval x= .int k m)(hy:a.eval y= .int k n):De P (.binOp .neq t x y u) ty a (.bool (decide (m≠n))):=fun d pos af g w=>by
 simp only [execOp,hx,hy,binOp_neq,eqGuard_at_int,ne_eq,decide_not];rfl
theorem V.lss(hx:a.eval x= .int k m)(hy:a.eval y= .int k n):De P (.binOp .lss t x y u) ty a (.bool (decide (m<n))):=fun d pos af g w=>by
 simp only [execOp,hx,hy,binOp_lss,eqGuard];rfl
theorem V.leq(hx:a.eval x= .int k m)(hy:a.eval y= .int k n):De P (.binOp .leq t x y u) ty a (.bool (decide (m≤n))):=fun d pos af g w=>by
 simp only [execOp,hx,hy,binOp_leq,eqGuard];rfl
theorem V.gtr(hx:a.eval x= .int k m)(hy:a.eval y= .int k n):De P (.binOp .gtr t x y u) ty a (.bool (decide (n<m))):=fun d pos af g w=>by
 simp only [execOp,hx,hy,binOp_gtr,eqGuard];rfl
theorem V.geq(hx:a.eval x= .int k m)(hy:a.eval y= .int k n):De P (.binOp .geq t x y u) ty a (.bool (decide (n≤m))):=fun d pos af g w=>by
 simp only [execOp,hx,hy,binOp_geq,eqGuard];rfl
theorem V.not{b:Bool}(hx:a.eval x= .bool b):De P (.unOp .not t x) ty a (.bool (!b)):=fun d pos af g w=>by
 simp only [execOp,hx,Op.unary];rfl
theorem V.notD{p:Prop}[Decidable p](hx:a.eval x= .bool (decide p)):De P (.unOp .not t x) ty a (.bool (decide (¬p))):=by
 rw [decide_not];exact V.not hx
theorem V.convI{k':IntKind}(hs:(P.underlying t).isSome=true)(hd:P.underlying u=some (.int k'))(hx:a.eval x= .int k m)(h:k'.wrap m=m):De P (.convert t u x) ty a (.int k' m):=fun d pos af g w=>by
 have e:P.intKind u=k':=by simp [Program.intKind,hd]
 have e2:=run_convert_int (P:=P) w t u k m hs (by rw [e];exact hd)
 rw [e,h] at e2
 simp only [execOp,hx,Sem.run_bind,e2,Result.andThen_ok,Sem.run_pure]
theorem V.conv{k':IntKind}(hs:(P.underlying t).isSome=true)(hd:P.underlying u=some (.int k'))(hx:a.eval x= .int k m):De P (.convert t u x) ty a (.int k' (k'.wrap m)):=fun d pos af g w=>by
 have e:P.intKind u=k':=by simp [Program.intKind,hd]
 have e2:=run_convert_int (P:=P) w t u k m hs (by rw [e];exact hd)
 rw [e] at e2
 simp only [execOp,hx,Sem.run_bind,e2,Result.andThen_ok,Sem.run_pure]
theorem V.extract{vs:List Value}{i:Nat}{v:Value}(hx:a.eval x= .tuple vs.toArray)(hv:vs[i]? =some v):De P (.extract x i) ty a v:=fun d pos af g w=>by
 have e:(vs.toArray)[i]? =some v:=by simpa using hv
 simp only [execOp,hx,Instr.extract,e];rfl
theorem V.nilCheck{p:Addr}(hx:a.eval x= .pointer (some p)):De P (.nilCheck x) ty a (.pointer (some p)):=fun d pos af g w=>by
 simp only [execOp,hx];rfl
theorem V.len{ad:Option Addr}{n c:Nat}{e:TypeId}(ht:P.underlying t=some (.slice e))(hx:a.eval x= .slice ad n c):De P (.call {callee:= .builtin .len,args:=#[x],argTypes:=#[t]}) ty a (.int .i64 n):=fun d pos af g w=>by
 have e:P.elem t=e:=by simp [Program.elem,ht]
 have e2:=run_len_slice (P:=P) w t ty ad n c (by rw [e];exact ht)
 simp only [execOp,resolve,invoke,builtin,Sem.run_bind,Sem.run_pure,Result.andThen_ok,List.map_toArray,List.map_cons,List.map_nil,hx,e2]
 rfl
theorem V.max{ts:Array TypeId}(hx:a.eval x= .int k m)(hy:a.eval y= .int k n):De P (.call {callee:= .builtin .max,args:=#[x,y],argTypes:=ts}) ty a (.int k (Max.max m n)):=fun d pos af g w=>by
 simp only [execOp,resolve,invoke,builtin,Sem.run_bind,Sem.run_pure,Result.andThen_ok,List.map_toArray,List.map_cons,List.map_nil,hx,hy,MN]
theorem V.min{ts:Array TypeId}(hx:a.eval x= .int k m)(hy:a.eval y= .int k n):De P (.call {callee:= .builtin .min,args:=#[x,y],argTypes:=ts}) ty a (.int k (Min.min m n)):=fun d pos af g w=>by
 simp only [execOp,resolve,invoke,builtin,Sem.run_bind,Sem.run_pure,Result.andThen_ok,List.map_toArray,List.map_cons,List.map_nil,hx,hy,MO]
theorem V.indexSl{b off n c j s js q:Nat}{e:TypeId}{i:Int}(ht:P.underlying t=some (.slice e))(hs:(P.info? e).map (·.size)=some s)(hx:a.eval x= .slice (some ⟨b,off,none⟩) n c)(hy:a.eval y= .int k i)(hj:Bk i j)(hn:j<n)(hjs:j*s=js)(hq:off+js=q):
 De P (.indexAddr t x y) ty a (.pointer (some ⟨b,q,none⟩)):=fun d pos af g w=>by
 unfold Bk at hj
 subst hjs
 have e0:P.elem t=e:=by simp [Program.elem,ht]
 have e2:=run_indexAt_slice (P:=P) w t ⟨b,off,none⟩ n c k i (by rw [e0];exact ht)
 rw [if_pos (by omega),e0,Bp w hs,Result.andThen_ok,Addr.add_mid,show i.toNat=j by omega,hq] at e2
 simp only [execOp,hx,hy,Sem.run_bind,e2,Result.andThen_ok,Sem.run_pure]
theorem V.indexAr{b off n j s js q:Nat}{e:TypeId}{i:Int}(ht:P.underlying t=some (.array n e))(hs:(P.info? e).map (·.size)=some s)(hx:a.eval x= .pointer (some ⟨b,off,none⟩))(hy:a.eval y= .int k i)(hj:Bk i j)(hn:j<n)(hjs:j*s=js)(hq:off+js=q):
 De P (.indexAddr t x y) ty a (.pointer (some ⟨b,q,none⟩)):=fun d pos af g w=>by
 unfold Bk at hj
 subst hjs
 have e0:P.elem t=e:=by simp [Program.elem,ht]
 have e1:P.arrayLen t=n:=by simp [Program.arrayLen,ht]
 have e2:=run_indexAt_array (P:=P) w t ⟨b,off,none⟩ k i (by rw [e0,e1];exact ht)
 rw [e1,if_pos (by omega),e0,Bp w hs,Result.andThen_ok,Addr.add_mid,show i.toNat=j by omega,hq] at e2
 simp only [execOp,hx,hy,Sem.run_bind,e2,Result.andThen_ok,Sem.run_pure]
theorem V.indexIv{l:List Int}{n j:Nat}{e:TypeId}{i:Int}(ht:P.underlying t=some (.array n e))(he:P.underlying e=some (.int .i64))(hs:(P.info? e).map (·.size)=some 1)(hx:a.eval x= .agg (iv l))(hy:a.eval y= .int k i)(hl:Al l n)(hj:Bk i j)(hn:j<n):
 De P (.index t x y) ty a (.int .i64 (AJ l j)):=fun d pos af g w=>by
 unfold Bk at hj
 have e0:P.elem t=e:=by simp [Program.elem,ht]
 have e1:P.arrayLen t=n:=by simp [Program.arrayLen,ht]
 have e3:(isAgg e).run P w= .ok false w:=by simp [isAgg,run_underlying he]
 have e2:=MM (P:=P) w t (iv l) k i (by rw [e0,e1];exact ht)
 rw [e1,if_pos (by omega),e0,Bp w hs,Result.andThen_ok,show i.toNat=j by omega,Nat.mul_one,FN,e3,Result.andThen_ok,GI l j (by rw [hl.out];exact hn)] at e2
 simp only [execOp,hx,hy,Sem.run_bind,e2,Result.andThen_ok,Sem.run_pure,Bool.false_eq_true,if_false]
end
section
variable{P:Program}{ops:Array Oper}{Q:Exit→Act→World→Prop}{rest:List Oper}{a:Act}{W w:World}{rs:List At}{d:Option Tmp}{x y:Operand}{t ty:TypeId}{pos:String}{af:Array Edge}{g:Option (Nat×Bool)}{k:IntKind}
theorem Ll{ad:Option Addr}{n c j s:Nat}{cs:List Value}{e:TypeId}{i:Int}(hv:Sl W s (.slice ad n c) n cs)(ht:P.underlying t=some (.slice e))(hs:(P.info? e).map (·.size)=some s)(hx:a.eval x= .slice ad n c)(hy:a.eval y= .int k i)(hj:Bk i j)(hn:j<n)
 (hw:Region.wanted ⟨d, .indexAddr t x y,ty,pos,af,g⟩ (yielded ops a.tmps)=true)
 (h:∀b o,W.rangeAt b o ((cs.drop (j*s)).take s)→(Oper.mk d (.move (.const (.pointer (some ⟨b,o,none⟩)))) ty pos af g).wp P a w (wpList P ops Q rest) Q):wpList P ops Q (⟨d, .indexAddr t x y,ty,pos,af,g⟩::rest) a w:=by
 obtain ⟨hl,a',c',e1,_,_,hor⟩:=hv
 cases e1
 rcases hor with h0|⟨b,off,rfl,hc⟩
 ·omega
 refine Ag _ (V.indexSl (q:=off+j*s) ht hs hx hy hj hn rfl rfl) hw (h b _ fun m v hv=>?_)
 rw [List.getElem?_take] at hv
 split at hv
 ·rename_i hm
  rw [List.getElem?_drop] at hv
  have hjs:j*s+s≤n*s:=by have:=Nat.mul_le_mul_right s hn;rw [Nat.succ_mul] at this;exact this
  rw [Nat.add_assoc,hc (j*s+m) (by omega),hv]
 cases hv
theorem Ds{ad:Option Addr}{n c j:Nat}{l:List Int}{e:TypeId}{i:Int}(hv:Sl W 1 (.slice ad n c) n (l.map (Value.int .i64)))(ht:P.underlying t=some (.slice e))(hs:(P.info? e).map (·.size)=some 1)(hx:a.eval x= .slice ad n c)(hy:a.eval y= .int k i)(hj:Bk i j)(hn:j<n)
 (hw:Region.wanted ⟨d, .indexAddr t x y,ty,pos,af,g⟩ (yielded ops a.tmps)=true)
 (h:∀b o,W.cell? ⟨b,o,none⟩=some (.int .i64 (AJ l j))→(Oper.mk d (.move (.const (.pointer (some ⟨b,o,none⟩)))) ty pos af g).wp P a w (wpList P ops Q rest) Q):wpList P ops Q (⟨d, .indexAddr t x y,ty,pos,af,g⟩::rest) a w:=
 Ll hv ht hs hx hy hj hn hw fun b o hr=>h b o (by
  have hl:l.length=n:=by have:=hv.1;simpa using this
  have:=hr 0 (.int .i64 (AJ l j)) (by simp [AJ,List.getD,List.getElem?_drop,hl,hn])
  simpa using this)
theorem Lj{ad:Option Addr}{n c j s q:Nat}{cs:List Value}{e et:TypeId}{i:Int}{rs':List At}(hS:St W w rs)(hx:a.eval x= .slice ad n c)(hp:AT (own et s ad n c cs) rs rs')(ht:P.underlying t=some (.slice e))(hs:(P.info? e).map (·.size)=some s)(hy:a.eval y= .int k i)(hj:Bk i j)(hn:j<n)(hq:j*s=q)
 (hw:Region.wanted ⟨d, .indexAddr t x y,ty,pos,af,g⟩ (yielded ops a.tmps)=true)
 (h:∀b,ad=some ⟨b,0,none⟩→(Oper.mk d (.move (.const (.pointer (some ⟨b,q,none⟩)))) ty pos af g).wp P a w (wpList P ops Q rest) Q):wpList P ops Q (⟨d, .indexAddr t x y,ty,pos,af,g⟩::rest) a w:=by
 obtain ⟨b,rfl⟩:=Ba hS hp (by omega)
 exact Ag _ (V.indexSl (q:=q) ht hs hx hy hj hn hq (Nat.zero_add _)) hw (h b rfl)
end
structure AS(P:Program)(s:TypeId)(f:Nat)(fo:Nat)(ft:TypeId):Prop where
 ex:∃fs fl,P.underlying s=some (.struct fs)∧fs[f]? =some fl∧fl.offset=fo∧fl.type=ft
 sz:∃n,(P.info? ft).map (·.size)=some n∧n≠0
section
variable{P:Program}{a:Act}{x:Operand}{t ft ty:TypeId}{f fo:Nat}
theorem AS.mk'(fs:Array Field)(fl:Field)(n:Nat)(h1:P.underlying t=some (.struct fs))(h2:fs[f]? =some fl)(h3:fl.offset=fo)(h4:fl.type=ft)(h5:(P.info? ft).map (·.size)=some n)(h6:n≠0):AS P t f fo ft:=
 ⟨⟨fs,fl,h1,h2,h3,h4⟩,⟨n,h5,h6⟩⟩
theorem V.fieldAddr{b off q:Nat}(hf:AS P t f fo ft)(hx:a.eval x= .pointer (some ⟨b,off,none⟩))(hq:off+fo=q):De P (.fieldAddr t x f) ty a (.pointer (some ⟨b,q,none⟩)):=fun d pos af g w=>by
 obtain ⟨⟨fs,fl,h1,h2,rfl,rfl⟩,n,h3,h4⟩:=hf
 simp only [execOp,hx,Instr.fieldAt,Instr.sureAddr,Sem.run_bind,run_underlying h1,Result.andThen_ok,h2,fieldPlace,Bp w h3,Sem.run_pure]
 rw [if_neg h4]
 simp only [Sem.run_pure,Result.andThen_ok,Addr.add_mid,hq]
end
end Go.Proofs.YtohacgmhmbijmaaGreatDoor
/- Short El for what the walks say often. -/
namespace Go.Proofs.YtohacgmhmbijmaaGreatDoor
open Go.RowKit
set_option linter.unusedVariables false
set_option maxRecDepth 100000
set_option maxHeartbeats 8000000
theorem AL{r:At}{rs rs':List At}(h:AT r rs rs':=by (repeat (first|with_reducible exact AT.head|apply AT.tail))):AT r rs rs':=h
theorem AV{xs rs:List At}(h:OX xs rs:=by (repeat (first|exact OX.nil|with_reducible exact OX.refl|(apply OX.cons;(case p=>(repeat (first|with_reducible exact AT.head|apply AT.tail))))|apply OX.skip))):OX xs rs:=h
theorem A9{z:Int}{j:Nat}(h:Bk z j:=by (repeat (first|exact Bk.auto|with_reducible apply Bk.add|with_reducible apply Bk.sub|with_reducible apply Bk.mul|with_reducible apply Bk.div|with_reducible apply Bk.mod|with_reducible apply Bk.min|with_reducible apply Bk.max|(with_reducible show (_:Nat)≤_;omega)|exact Bk.toNat (by omega)))):Bk z j:=h
theorem CI{x v:Value}(h:Dd x v:=by (first|exact Dd.int rfl|exact Dd.bool rfl|exact Dd.slice rfl|exact Dd.pointer rfl|exact Dd.string rfl|exact Dd.map rfl|exact Dd.func rfl)):Dd x v:=h
theorem Aj{o:Oper}{i:Nat}{l:List Oper}(h:Hh o i l:=by (repeat (first|with_reducible exact Hh.head|apply Hh.tail))):Hh o i l:=h
theorem gM{p:Prop}(h:p:=by exact fun _ _ _ _ h=>h):p:=h
theorem Be{p:Prop}(h:p:=by first|exact fun _ _ _ _ h=>h|exact fun _ _ _ _ h=>nomatch h.1):p:=h
theorem AQ{p:Prop}(h:False:=by omega):p:=h.elim
theorem Jy{p q:Prop}(h:p)(hn:¬p:=by decide):q:=absurd h hn
theorem AA{α:Type _}{a b:α}(h:a=b:=by kernel_rfl):a=b:=h
theorem A7{a b:Nat}(h:a=b:=by first|with_reducible exact Nat.zero_add _|with_reducible exact Nat.add_zero _|exact rfl):a=b:=h
theorem Xy{v:Value}{k:Nat}{cs cs':List Value}(h:ET v k cs cs':=by (repeat (first|with_reducible exact ET.head|apply ET.tail))):ET v k cs cs':=h
theorem EK{l:List Int}{n:Nat}(h:Al l n:=by first|(with_reducible assumption)|exact Al.rep|exact Al.set (by with_reducible assumption)|exact Al.set Al.rep|exact Al.set (Al.set Al.rep)):Al l n:=h
structure Au(p:Prop):Prop where
 out:p
structure dz(c e p q:Prop):Prop where
 t:c→p
 f:e→q
structure Hl(T q:Nat→World→Prop):Prop where
 out:∀g w,T g w→q g w
structure JW(T q:World→Prop):Prop where
 out:∀w,T w→q w
structure fJ(T q:Option Addr→Nat→World→Prop):Prop where
 out:∀a c w,T a c w→q a c w
structure fu(p:Prop):Prop where
structure fx(n:Nat)(p:Prop):Prop where
structure fw(n:Nat)(p:Prop):Prop where
def Br(_:Nat)(p:Prop):Prop:=p
section
variable{P:Program}{ops:Array Oper}{Q:Exit→Act→World→Prop}{rest:List Oper}{a:Act}{w:World}{d:Option Tmp}{op:Op}{ty:TypeId}{pos:String}{af:Array Edge}{g:Option (Nat×Bool)}{x:Operand}
theorem Ak(d:Option Tmp)(op:Op)(h:wpList P ops Q (⟨d,op,ty,pos,af,g⟩::rest) a w):wpList P ops Q (⟨d,op,ty,pos,af,g⟩::rest) a w:=h
theorem Iz(h:wpList P ops Q (⟨d, .move x,ty,pos,af,g⟩::rest) a w):wpList P ops Q (⟨d, .move x,ty,pos,af,g⟩::rest) a w:=h
theorem gP(h:(Oper.mk d op ty pos af none).wp P a w (wpList P ops Q rest) Q):wpList P ops Q (⟨d,op,ty,pos,af,none⟩::rest) a w:=Bj rfl h
theorem QW(h:wpList P ops Q (⟨d, .assign x,ty,pos,af,g⟩::rest) a w):wpList P ops Q (⟨d, .assign x,ty,pos,af,g⟩::rest) a w:=h
theorem Ae{o:Oper}(h:o.wp P a w (wpList P ops Q rest) Q)(hw:Region.wanted o (yielded ops a.tmps)=true:=by kernel_rfl):wpList P ops Q (o::rest) a w:=Bj hw h
theorem gL(n:Nat)(h:wpList P ops Q (⟨some n,op,ty,pos,af,g⟩::rest) a w):wpList P ops Q (⟨some n,op,ty,pos,af,g⟩::rest) a w:=h
theorem Bt{n:Nat}(h:wpList P ops Q (⟨some n,op,ty,pos,af,g⟩::rest) a w):Br n (wpList P ops Q (⟨some n,op,ty,pos,af,g⟩::rest) a w):=h
theorem gJ{o:Oper}:fu (wpList P ops Q (o::rest) a w):=⟨⟩
theorem gI{n:Nat}:fx n (wpList P ops Q (⟨some n,op,ty,pos,af,g⟩::rest) a w):=⟨⟩
theorem gH{n:Nat}{xs:Array Operand}{ts:Array TypeId}:fw n (wpList P ops Q (⟨d, .call ⟨.value (.func n),xs,ts⟩,ty,pos,af,g⟩::rest) a w):=⟨⟩
theorem An{v:Value}(hw:Region.wanted ⟨d,op,ty,pos,af,g⟩ (yielded ops a.tmps)=true)(hv:De P op ty a v)(h:(Oper.mk d (.move (.const v)) ty pos af g).wp P a w (wpList P ops Q rest) Q):wpList P ops Q (⟨d,op,ty,pos,af,g⟩::rest) a w:=Ag v hv hw h
theorem Ac{v:Value}{d:Tmp}(h:(Oper.mk (some d) (.move (.const v)) 0 "" #[] none).wp P a w (wpList P ops Q rest) Q):∃v',Ending.returned v= .returned v'∧wpList P ops Q rest (a.put (some d) v') w:=⟨v,rfl,h⟩
theorem FT{W:World}{rs:List At}{v:Value}{d:Tmp}(hS:St W w rs)(h:∀w,St W w rs→(Oper.mk (some d) (.move (.const v)) 0 "" #[] none).wp P a w (wpList P ops Q rest) Q):∀e w',(e=Ending.returned v∧Ai w w')→∃v',e= .returned v'∧wpList P ops Q rest (a.put (some d) v') w':=fun _ w' h2=>⟨v,h2.1,h w' (hS.ext h2.2)⟩
theorem As{f:FuncId}{xs:List Operand}{ts:Array TypeId}{R:Ending→World→Prop}(hw:Region.wanted ⟨d, .call ⟨.value (.func f),xs.toArray,ts⟩,ty,pos,af,g⟩ (yielded ops a.tmps)=true)(hcall:∀(args:Array Value)(w:World),(callFunc f args).run P w= .ok (.enter f args) w)(hc:Calls P f (xs.map a.eval).toArray w R)
 (h:∀e w',R e w'→∃v,e= .returned v∧wpList P ops Q rest (a.put d v) w'):wpList P ops Q (⟨d, .call ⟨.value (.func f),xs.toArray,ts⟩,ty,pos,af,g⟩::rest) a w:=AM hcall hw ⟨R,hc,h⟩
end
theorem AF{p:Prop}(k:p)(_:fu p:=by (fail_if_success with_reducible exact gJ);exact ⟨⟩):p:=k
theorem AR(n:Nat){p:Prop}(k:p)(_:fx n p:=by with_reducible exact gI):p:=k
theorem Aq(n:Nat){p:Prop}(k:p)(_:fw n p:=by with_reducible exact gH):p:=k
section
variable{p q:Prop}
theorem X0(k:q)(h:Au q→p:=by intro zq9;(first|(with_reducible refine Iz ?_)|(with_reducible refine QW ?_));((first|go_big_want|go_step));go_step;go_step;with_reducible exact zq9.out):p:=h ⟨k⟩
theorem X1(k:q)(h:Au q→p:=by intro zq9;(with_reducible refine Iz ?_);((first|go_big_want|go_step));go_step;go_step;with_reducible exact zq9.out):p:=h ⟨k⟩
theorem X2(k:q)(h:Au q→p:=by intro zq9;(with_reducible refine Ak _ (.binOp .lss _ _ _ _) ?_);(refine An AA (V.lss rfl rfl) ?_);go_step;with_reducible exact zq9.out):p:=h ⟨k⟩
theorem X3(n:Nat)(k:q)(h:Au q→Br n p:=by intro zq9;(with_reducible refine Bt ?_);(refine An AA (V.extract rfl rfl) ?_);go_step;with_reducible exact zq9.out):p:=h ⟨k⟩
theorem X4(n:Nat)(k:q)(h:Au q→Br n p:=by intro zq9;(with_reducible refine Bt ?_);(refine An AA (V.lss rfl rfl) ?_);go_step;with_reducible exact zq9.out):p:=h ⟨k⟩
theorem X5(k:q)(h:Au q→p:=by intro zq9;(with_reducible refine Ak _ (.binOp .neq 38 _ _ _) ?_);(refine An AA (V.neq rfl rfl) ?_);go_step;with_reducible exact zq9.out):p:=h ⟨k⟩
theorem X6(k:q)(h:Au q→p:=by intro zq9;(with_reducible refine Ak _ (.extract _ _) ?_);(refine An AA (V.extract rfl rfl) ?_);go_step;with_reducible exact zq9.out):p:=h ⟨k⟩
theorem X7(k:q)(h:Au q→p:=by intro zq9;(with_reducible refine Ak _ (.binOp .add _ _ _ _) ?_);(refine An AA (V.addI rfl rfl (by omega)) ?_);go_step;with_reducible exact zq9.out):p:=h ⟨k⟩
theorem X8(k:q)(h:Au q→p:=by intro zq9;(with_reducible refine QW ?_);((first|go_big_want|go_step));go_step;go_step;with_reducible exact zq9.out):p:=h ⟨k⟩
theorem X9(k:q)(h:Au q→p:=by intro zq9;(with_reducible refine Ak _ (.load 3 _) ?_);(refine Ae ?_;apply AX hS 3 _ rfl _ _ rfl (AH rfl) _;(case hp=>exact AL);(case hc=>rfl);refine AB ?_);go_step;with_reducible exact zq9.out):p:=h ⟨k⟩
theorem En(n:Nat){c e r:Prop}(k:c→q)(k2:e→r)(h:dz c e q r→Br n p:=by intro zq9;(with_reducible refine Bt ?_);refine CG _ (V.lss rfl rfl) AA zq9.t zq9.f):p:=h ⟨k,k2⟩
theorem E8(n:Nat)(k:q)(h:Au q→Br n p:=by intro zq9;(with_reducible refine Bt ?_);(refine An AA (V.neq rfl rfl) ?_);go_step;with_reducible exact zq9.out):p:=h ⟨k⟩
theorem FW(n:Nat){c e r:Prop}(k:c→q)(k2:e→r)(h:dz c e q r→Br n p:=by intro zq9;(with_reducible refine Bt ?_);refine CG _ (V.neq rfl rfl) AA zq9.t zq9.f):p:=h ⟨k,k2⟩
theorem FX(n:Nat)(k:q)(h:Au q→Br n p:=by intro zq9;(with_reducible refine Bt ?_);(refine An AA (V.fieldAddr KC rfl A7) ?_);go_step;with_reducible exact zq9.out):p:=h ⟨k⟩
theorem Fu{T q:World→Prop}(k:∀w,T w→q w)(h:JW T q→p:=by intro zq9;(with_reducible refine Ak _ (.store 26 _ _) ?_);(refine Ae ?_;apply NG hS 26 _ _ rfl _ rfl 64 (AO rfl) _ _;(case hp=>exact AL);(case hy=>rfl);(case hm=>(repeat (first|assumption|exact Al.rep|apply Al.set|((with_reducible show Al (_::_) _);exact rfl))));(case hd=>exact rfl));intro w9 h9;with_reducible exact zq9.out w9 h9):p:=h ⟨k⟩
theorem F0(k:q)(h:Au q→p:=by intro zq9;(with_reducible refine Ak _ (.pick _ _ _) ?_);(refine A6 rfl AA ?_);go_step;with_reducible exact zq9.out):p:=h ⟨k⟩
theorem ID(k:q)(h:Au q→p:=by intro zq9;(with_reducible refine Ak _ (.binOp .gtr _ _ _ _) ?_);(refine An AA (V.gtr rfl rfl) ?_);go_step;with_reducible exact zq9.out):p:=h ⟨k⟩
theorem IE(k:q)(h:Au q→p:=by intro zq9;(with_reducible refine Ak _ (.pick _ _ _) ?_);(refine A4 rfl AA ?_);go_step;with_reducible exact zq9.out):p:=h ⟨k⟩
theorem II(n:Nat){c e r:Prop}(k:c→q)(k2:e→r)(h:dz c e q r→Br n p:=by intro zq9;(with_reducible refine Bt ?_);refine CG _ (V.eql rfl rfl) AA zq9.t zq9.f):p:=h ⟨k,k2⟩
theorem Iw{T q:World→Prop}(k:∀w,T w→q w)(h:JW T q→p:=by intro zq9;(with_reducible refine Ak _ (.store 155 _ _) ?_);(refine Ae ?_;apply Ca hS 155 _ _ rfl _ rfl 3 (AO rfl) _ _;(case hp=>exact AL);(case hy=>rfl);(case hn=>rfl);(case hn'=>rfl);(case hv=>rfl);(case hd=>exact rfl));intro w9 h9;with_reducible exact zq9.out w9 h9):p:=h ⟨k⟩
theorem Ix(n:Nat)(k:q)(h:Au q→Br n p:=by intro zq9;(with_reducible refine Bt ?_);(refine An AA (V.fieldAddr NY rfl A7) ?_);go_step;with_reducible exact zq9.out):p:=h ⟨k⟩
theorem I5(n:Nat){T q:Nat→World→Prop}(k:∀g w,T g w→q g w)(h:Hl T q→Br n p:=by intro zq9;(with_reducible refine Bt ?_);(refine Ae ?_;apply B4 (o:=⟨some _,_,_,_,_,_⟩) hS 155 rfl (.agg #[.int .i64 0, .int .i64 0, .int .i64 0]) [.int .i64 0, .int .i64 0, .int .i64 0] (fun w=>Tryz.zeroValue155 w) rfl);intro g w9 h9;refine AB ?_;go_step;with_reducible exact zq9.out g w9 h9):p:=h ⟨k⟩
theorem I6(k:q)(h:Au q→p:=by intro zq9;(with_reducible refine Ak _ (.load 26 _) ?_);(refine Ae ?_;apply Iu hS 26 _ rfl _ rfl 64 (AO rfl) _;(case hp=>exact AL);refine AB ?_);go_step;with_reducible exact zq9.out):p:=h ⟨k⟩
theorem I7(k:q)(h:Au q→p:=by intro zq9;(with_reducible refine Ak _ (.pick _ _ _) ?_);(first|(refine A6 rfl AA ?_)|(refine A4 rfl AA ?_));go_step;with_reducible exact zq9.out):p:=h ⟨k⟩
theorem J4(n:Nat){c e r:Prop}(k:c→q)(k2:e→r)(h:dz c e q r→Br n p:=by intro zq9;(with_reducible refine Bt ?_);refine CG _ (V.gtr rfl rfl) AA zq9.t zq9.f):p:=h ⟨k,k2⟩
theorem J5(k:q)(h:Au q→p:=by intro zq9;(with_reducible refine Ak _ (.binOp .neq 3 _ _ _) ?_);(refine An AA (V.neq rfl rfl) ?_);go_step;with_reducible exact zq9.out):p:=h ⟨k⟩
theorem J6(n:Nat)(k:q)(h:Au q→Br n p:=by intro zq9;(with_reducible refine Bt ?_);(refine An AA (V.eql rfl rfl) ?_);go_step;with_reducible exact zq9.out):p:=h ⟨k⟩
theorem KY(n:Nat){T q:Nat→World→Prop}(k:∀g w,T g w→q g w)(h:Hl T q→Br n p:=by intro zq9;(with_reducible refine Bt ?_);(refine Ae ?_;apply NB (o:=⟨some _,_,_,_,_,_⟩) hS 26 rfl (List.replicate 64 0) 64 List.length_replicate fI);intro g w9 h9;refine AB ?_;go_step;with_reducible exact zq9.out g w9 h9):p:=h ⟨k⟩
theorem KZ(n:Nat){c e r:Prop}(k:c→q)(k2:e→r)(h:dz c e q r→Br n p:=by intro zq9;(with_reducible refine Bt ?_);refine dM _ (V.not rfl) AA zq9.t zq9.f):p:=h ⟨k,k2⟩
theorem Ka(n:Nat)(k:q)(h:Au q→Br n p:=by intro zq9;(with_reducible refine Bt ?_);(refine An AA (V.gtr rfl rfl) ?_);go_step;with_reducible exact zq9.out):p:=h ⟨k⟩
theorem Ls(n:Nat)(k:q)(h:Au q→Br n p:=by intro zq9;(with_reducible refine Bt ?_);(refine An AA (V.addI rfl rfl (by omega)) ?_);go_step;with_reducible exact zq9.out):p:=h ⟨k⟩
theorem L3(n:Nat){T q:Nat→World→Prop}(k:∀g w,T g w→q g w)(h:Hl T q→Br n p:=by intro zq9;(with_reducible refine Bt ?_);(refine Ae ?_;apply aC (o:=⟨some _,_,_,_,_,_⟩) hS 26 _ rfl _ 64 rfl;(case hn=>assumption));intro g w9 h9;refine AB ?_;go_step;with_reducible exact zq9.out g w9 h9):p:=h ⟨k⟩
theorem L4(k:q)(h:Au q→p:=by intro zq9;(with_reducible refine Ak _ (.load 32 _) ?_);(refine Ae ?_;apply DM hS 32 _ rfl _ _ rfl 17 (AO rfl) _;(case hp=>exact AL);(case hi=>(repeat (first|(apply G8.head;(repeat (first|exact Bx.nil|(apply Bx.ints;(case hn=>exact EK);(case h=>omega);(case hm=>rfl))|apply Bx.val)))|(apply G8.skipI;(case hn=>exact EK);(case h=>omega);(case ho=>rfl))|apply G8.skipV)));refine AB ?_);go_step;with_reducible exact zq9.out):p:=h ⟨k⟩
theorem OY(n:Nat){T q:Nat→World→Prop}(k:∀g w,T g w→q g w)(h:Hl T q→Br n p:=by intro zq9;(with_reducible refine Bt ?_);(refine Ae ?_;apply CT (o:=⟨some _,_,_,_,_,_⟩) hS 24 _ rfl _ rfl);intro g w9 h9;refine AB ?_;go_step;with_reducible exact zq9.out g w9 h9):p:=h ⟨k⟩
theorem OZ(n:Nat){T q:Nat→World→Prop}(k:∀g w,T g w→q g w)(h:Hl T q→Br n p:=by intro zq9;(with_reducible refine Bt ?_);(refine Ae ?_;apply Ir (o:=⟨some _,_,_,_,_,_⟩) hS 34 _ rfl _ rfl);intro g w9 h9;refine AB ?_;go_step;with_reducible exact zq9.out g w9 h9):p:=h ⟨k⟩
theorem Oa(n:Nat){T q:Nat→World→Prop}(k:∀g w,T g w→q g w)(h:Hl T q→Br n p:=by intro zq9;(with_reducible refine Bt ?_);(refine Ae ?_;apply Ir (o:=⟨some _,_,_,_,_,_⟩) hS 37 _ rfl _ rfl);intro g w9 h9;refine AB ?_;go_step;with_reducible exact zq9.out g w9 h9):p:=h ⟨k⟩
theorem Ob(k:q)(h:Au q→p:=by intro zq9;(with_reducible refine Ak _ (.load 37 _) ?_);(refine Ae ?_;apply DM hS 37 _ rfl _ _ rfl 103 (AO rfl) _;(case hp=>exact AL);(case hi=>(repeat (first|(apply G8.head;(repeat (first|exact Bx.nil|(apply Bx.ints;(case hn=>exact EK);(case h=>omega);(case hm=>rfl))|apply Bx.val)))|(apply G8.skipI;(case hn=>exact EK);(case h=>omega);(case ho=>rfl))|apply G8.skipV)));refine AB ?_);go_step;with_reducible exact zq9.out):p:=h ⟨k⟩
theorem QM(k:q)(h:Au q→p:=by intro zq9;(with_reducible refine Ak _ (.load 34 _) ?_);(refine Ae ?_;apply DM hS 34 _ rfl _ _ rfl 34 (AO rfl) _;(case hp=>exact AL);(case hi=>(repeat (first|(apply G8.head;(repeat (first|exact Bx.nil|(apply Bx.ints;(case hn=>exact EK);(case h=>omega);(case hm=>rfl))|apply Bx.val)))|(apply G8.skipI;(case hn=>exact EK);(case h=>omega);(case ho=>rfl))|apply G8.skipV)));refine AB ?_);go_step;with_reducible exact zq9.out):p:=h ⟨k⟩
theorem QS(n:Nat)(k:q)(h:Au q→Br n p:=by intro zq9;(with_reducible refine Bt ?_);(refine An AA (V.len Tryz.underlying30 rfl) ?_);go_step;with_reducible exact zq9.out):p:=h ⟨k⟩
theorem Rp(n:Nat){T q:Nat→World→Prop}(k:∀g w,T g w→q g w)(h:Hl T q→Br n p:=by intro zq9;(with_reducible refine Bt ?_);(refine Ae ?_;apply Gz (o:=⟨some _,_,_,_,_,_⟩) hS 32 rfl _ fk);intro g w9 h9;refine AB ?_;go_step;with_reducible exact zq9.out g w9 h9):p:=h ⟨k⟩
theorem Rq(n:Nat){T q:Nat→World→Prop}(k:∀g w,T g w→q g w)(h:Hl T q→Br n p:=by intro zq9;(with_reducible refine Bt ?_);(refine Ae ?_;apply AU (o:=⟨some _,_,_,_,_,_⟩) hS 141 1 _ rfl 155 3 24 Vn _ _;(case hvs=>(repeat (first|exact AW.nil|(apply AW.agg;(rfl);(rfl))|(apply AW.one;exact CI;(rfl);(rfl)))));(case hn=>rfl);(case hn0=>decide);(case hns=>decide));intro g w9 h9;simp only [List.cons_append,List.nil_append] at h9;refine AB ?_;go_step;with_reducible exact zq9.out g w9 h9):p:=h ⟨k⟩
theorem Rr(k:q)(h:Au q→p:=by intro zq9;(with_reducible refine Ak _ (.fieldAddr 155 _ 1) ?_);(refine An AA (V.fieldAddr NY rfl A7) ?_);go_step;with_reducible exact zq9.out):p:=h ⟨k⟩
theorem Rs(k:q)(h:Au q→p:=by intro zq9;(with_reducible refine Ak _ (.load 155 _) ?_);(refine Ae ?_;apply D7 hS 155 _ rfl _ rfl 3 (AO rfl) _;(case hp=>exact AL);(case hn=>rfl);refine AB ?_);go_step;with_reducible exact zq9.out):p:=h ⟨k⟩
theorem Rt(k:q)(h:Au q→p:=by intro zq9;(with_reducible refine Ak _ (.unOp .not _ _) ?_);(refine An AA (V.not rfl) ?_);go_step;with_reducible exact zq9.out):p:=h ⟨k⟩
theorem Tc(n:Nat){T q:Nat→World→Prop}(k:∀g w,T g w→q g w)(h:Hl T q→Br n p:=by intro zq9;(with_reducible refine Bt ?_);(refine Ae ?_;apply B4 (o:=⟨some _,_,_,_,_,_⟩) hS 24 rfl (.agg #[.int .i64 0, .int .i64 0, .slice none 0 0]) [.int .i64 0, .int .i64 0, .slice none 0 0] (fun w=>Tryz.zeroValue24 w) rfl);intro g w9 h9;refine AB ?_;go_step;with_reducible exact zq9.out g w9 h9):p:=h ⟨k⟩
theorem Td{T q:World→Prop}(k:∀w,T w→q w)(h:JW T q→p:=by intro zq9;(with_reducible refine Ak _ (.store 24 _ _) ?_);(refine Ae ?_;apply Ca hS 24 _ _ rfl _ rfl 3 (AO rfl) _ _;(case hp=>exact AL);(case hy=>rfl);(case hn=>rfl);(case hn'=>rfl);(case hv=>rfl);(case hd=>exact rfl));intro w9 h9;with_reducible exact zq9.out w9 h9):p:=h ⟨k⟩
theorem Te{T q:World→Prop}(k:∀w,T w→q w)(h:JW T q→p:=by intro zq9;(with_reducible refine Ak _ (.store 32 _ _) ?_);(refine Ae ?_;apply Fs hS 32 _ _ rfl _ rfl 17 (AO rfl) _ _;(case hp=>exact AL);(case hy=>rfl);(case hn=>(repeat (first|exact Bx.nil|(apply Bx.ints;(case hn=>exact EK);(case h=>omega);(case hm=>rfl))|apply Bx.val)));(case hn'=>(repeat (first|exact Bx.nil|(apply Bx.ints;(case hn=>exact EK);(case h=>omega);(case hm=>rfl))|apply Bx.val)));(case hv=>rfl);(case hd=>exact rfl));intro w9 h9;with_reducible exact zq9.out w9 h9):p:=h ⟨k⟩
theorem Tf{T q:World→Prop}(k:∀w,T w→q w)(h:JW T q→p:=by intro zq9;(with_reducible refine Ak _ (.store 37 _ _) ?_);(refine Ae ?_;apply Fs hS 37 _ _ rfl _ rfl 103 (AO rfl) _ _;(case hp=>exact AL);(case hy=>rfl);(case hn=>(repeat (first|exact Bx.nil|(apply Bx.ints;(case hn=>exact EK);(case h=>omega);(case hm=>rfl))|apply Bx.val)));(case hn'=>(repeat (first|exact Bx.nil|(apply Bx.ints;(case hn=>exact EK);(case h=>omega);(case hm=>rfl))|apply Bx.val)));(case hv=>rfl);(case hd=>exact rfl));intro w9 h9;with_reducible exact zq9.out w9 h9):p:=h ⟨k⟩
theorem Tg(k:q)(h:Au q→p:=by intro zq9;(with_reducible refine Ak _ (.load 24 _) ?_);(refine Ae ?_;apply D7 hS 24 _ rfl _ rfl 3 (AO rfl) _;(case hp=>exact AL);(case hn=>rfl);refine AB ?_);go_step;with_reducible exact zq9.out):p:=h ⟨k⟩
theorem U3(n:Nat){T q:Nat→World→Prop}(k:∀g w,T g w→q g w)(h:Hl T q→Br n p:=by intro zq9;(with_reducible refine Bt ?_);(refine Ae ?_;apply Gz (o:=⟨some _,_,_,_,_,_⟩) hS 37 rfl _ dS);intro g w9 h9;refine AB ?_;go_step;with_reducible exact zq9.out g w9 h9):p:=h ⟨k⟩
theorem VO(n:Nat){T q:Option Addr→Nat→World→Prop}(k:∀a c w,T a c w→q a c w)(h:fJ T q→Br n p:=by intro zq9;(with_reducible refine Bt ?_);(refine Ae ?_;apply A5 (o:=⟨some _,_,_,_,_,_⟩) hS _ _ 141 rfl 155 3 24 Vn _ _ _ _ rfl;(case hp=>exact AL);(case hx=>exact rfl);(case hm=>(first|exact hS.slBlk AL (by rfl) (by decide)|exact hS.sl AL|with_reducible assumption|exact Sl.ext (by with_reducible assumption) hS.1|exact Sl.nil _ _|exact Sl.ext (by assumption) hS.1|assumption));(case h1=>(first|exact CP rfl|exact Bu _ _|(intro u hu;cases hu)));(case h63=>unfold maxLen;omega);(case hb=>omega));intro a9 c9 w9 h9;(first|simp only [DU] at h9|simp only [DV] at h9|simp only [DW] at h9|simp only [DX] at h9|simp only [DY] at h9|skip);refine AB ?_;go_step;with_reducible exact zq9.out a9 c9 w9 h9):p:=h ⟨k⟩
theorem VP(k:q)(h:Au q→p:=by intro zq9;(with_reducible refine Ak _ (.load 3 _) ?_);(refine Ae ?_;apply Aa hS 3 _ rfl _ rfl (AH rfl) _;(case hc=>with_reducible assumption);refine AB ?_);go_step;with_reducible exact zq9.out):p:=h ⟨k⟩
theorem VQ(n:Nat)(k:q)(h:Au q→Br n p:=by intro zq9;(with_reducible refine Bt ?_);(refine An AA (V.indexSl Tryz.underlying35 WF rfl rfl A9 (by omega) (Nat.mul_one _) A7) ?_);go_step;with_reducible exact zq9.out):p:=h ⟨k⟩
theorem Xk(k:q)(h:Au q→p:=by intro zq9;(with_reducible refine Ak _ (.binOp .eql 3 _ _ _) ?_);(refine An AA (V.eql rfl rfl) ?_);go_step;with_reducible exact zq9.out):p:=h ⟨k⟩
theorem Xl(k:q)(h:Au q→p:=by intro zq9;(with_reducible refine Ak _ (.call ⟨.builtin .len,_,_⟩) ?_);(refine An AA (V.len Tryz.underlying30 rfl) ?_);go_step;with_reducible exact zq9.out):p:=h ⟨k⟩
theorem Xm(k:q)(h:Au q→p:=by intro zq9;(with_reducible refine Ak _ (.call ⟨.builtin .len,_,_⟩) ?_);(refine An AA (V.len Tryz.underlying42 rfl) ?_);go_step;with_reducible exact zq9.out):p:=h ⟨k⟩
theorem Xn(k:q)(h:Au q→p:=by intro zq9;(with_reducible refine Ak _ (.load 107 _) ?_);(refine Ae ?_;apply D7 hS 107 _ rfl _ rfl 2 (AO rfl) _;(case hp=>exact AL);(case hn=>rfl);refine AB ?_);go_step;with_reducible exact zq9.out):p:=h ⟨k⟩
theorem Xo(k:q)(h:Au q→p:=by intro zq9;(with_reducible refine Ak _ (.load 22 _) ?_);(refine Ae ?_;apply AX hS 22 _ rfl _ _ rfl (AH rfl) _;(case hp=>exact AL);(case hc=>rfl);refine AB ?_);go_step;with_reducible exact zq9.out):p:=h ⟨k⟩
theorem Xp(k:q)(h:Au q→p:=by intro zq9;(with_reducible refine Ak _ (.load 3 _) ?_);(refine Ae ?_;apply FR hS 3 _ rfl _ _ rfl (AH rfl) _;(case hp=>exact AL);(case hi=>(repeat (first|exact KQ.head|(apply KQ.skipI;(case hn=>exact EK);(case h=>omega);(case ho=>rfl))|apply KQ.skipV)));refine AB ?_);go_step;with_reducible exact zq9.out):p:=h ⟨k⟩
theorem Xq(k:q)(h:Au q→p:=by intro zq9;(with_reducible refine Ak _ (.load 5 _) ?_);(refine Ae ?_;apply Aa hS 5 _ rfl _ rfl (AH rfl) _;(case hc=>with_reducible assumption);refine AB ?_);go_step;with_reducible exact zq9.out):p:=h ⟨k⟩
theorem Xr(n:Nat)(k:q)(h:Au q→Br n p:=by intro zq9;(with_reducible refine Bt ?_);(refine An AA (V.indexSl Tryz.underlying115 eg rfl rfl A9 (by omega) rfl A7) ?_);go_step;with_reducible exact zq9.out):p:=h ⟨k⟩
theorem Xs(n:Nat)(k:q)(h:Au q→Br n p:=by intro zq9;(with_reducible refine Bt ?_);(refine An AA (V.indexSl Tryz.underlying30 Ea rfl rfl A9 (by omega) (Nat.mul_one _) A7) ?_);go_step;with_reducible exact zq9.out):p:=h ⟨k⟩
theorem Yi(k:q)(h:Au q→p:=by intro zq9;(with_reducible refine Ak _ (.binOp .sub _ _ _ _) ?_);(refine An AA (V.subI rfl rfl (by omega)) ?_);go_step;with_reducible exact zq9.out):p:=h ⟨k⟩
theorem Yj(k:q)(h:Au q→p:=by intro zq9;(with_reducible refine Ak _ (.load 30 _) ?_);(refine Ae ?_;apply Aa hS 30 _ rfl _ rfl (AH rfl) _;(case hc=>with_reducible assumption);refine AB ?_);go_step;with_reducible exact zq9.out):p:=h ⟨k⟩
theorem Yk(n:Nat)(k:q)(h:Au q→Br n p:=by intro zq9;(with_reducible refine Bt ?_);(refine An AA (V.len Tryz.underlying22 rfl) ?_);go_step;with_reducible exact zq9.out):p:=h ⟨k⟩
theorem Yl(n:Nat)(k:q)(h:Au q→Br n p:=by intro zq9;(with_reducible refine Bt ?_);(refine An AA (V.len Tryz.underlying35 rfl) ?_);go_step;with_reducible exact zq9.out):p:=h ⟨k⟩
theorem Ym(n:Nat)(k:q)(h:Au q→Br n p:=by intro zq9;(with_reducible refine Bt ?_);(refine An AA (V.not rfl) ?_);go_step;with_reducible exact zq9.out):p:=h ⟨k⟩
theorem aF(n:Nat){T q:Nat→World→Prop}(k:∀g w,T g w→q g w)(h:Hl T q→Br n p:=by intro zq9;(with_reducible refine Bt ?_);(refine Ae ?_;apply Ir (o:=⟨some _,_,_,_,_,_⟩) hS 32 _ rfl _ rfl);intro g w9 h9;refine AB ?_;go_step;with_reducible exact zq9.out g w9 h9):p:=h ⟨k⟩
theorem aG(k:q)(h:Au q→p:=by intro zq9;(with_reducible refine Ak _ (.binOp .leq _ _ _ _) ?_);(refine An AA (V.leq rfl rfl) ?_);go_step;with_reducible exact zq9.out):p:=h ⟨k⟩
theorem aH(k:q)(h:Au q→p:=by intro zq9;(with_reducible refine Ak _ (.call ⟨.builtin .len,_,_⟩) ?_);(refine An AA (V.len Tryz.underlying22 rfl) ?_);go_step;with_reducible exact zq9.out):p:=h ⟨k⟩
theorem aI(k:q)(h:Au q→p:=by intro zq9;(with_reducible refine Ak _ (.fieldAddr 37 _ 0) ?_);(refine An AA (V.fieldAddr Qr rfl A7) ?_);go_step;with_reducible exact zq9.out):p:=h ⟨k⟩
theorem aJ(n:Nat)(k:q)(h:Au q→Br n p:=by intro zq9;(with_reducible refine Bt ?_);(refine An AA (V.fieldAddr SP rfl A7) ?_);go_step;with_reducible exact zq9.out):p:=h ⟨k⟩
theorem aK(n:Nat)(k:q)(h:Au q→Br n p:=by intro zq9;(with_reducible refine Bt ?_);(refine An AA (V.fieldAddr GH rfl A7) ?_);go_step;with_reducible exact zq9.out):p:=h ⟨k⟩
theorem aL(n:Nat)(k:q)(h:Au q→Br n p:=by intro zq9;(with_reducible refine Bt ?_);(refine An AA (V.indexSl Tryz.underlying22 Fy rfl rfl A9 (by omega) (Nat.mul_one _) A7) ?_);go_step;with_reducible exact zq9.out):p:=h ⟨k⟩
theorem bx(n:Nat){T q:Nat→World→Prop}(k:∀g w,T g w→q g w)(h:Hl T q→Br n p:=by intro zq9;(with_reducible refine Bt ?_);(refine Ae ?_;apply B4 (o:=⟨some _,_,_,_,_,_⟩) hS 107 rfl (.agg #[.int .i64 0, .int .i64 0]) [.int .i64 0, .int .i64 0] (fun w=>Tryz.zeroValue107 w) rfl);intro g w9 h9;refine AB ?_;go_step;with_reducible exact zq9.out g w9 h9):p:=h ⟨k⟩
theorem bz{T q:World→Prop}(k:∀w,T w→q w)(h:JW T q→p:=by intro zq9;(with_reducible refine Ak _ (.store 107 _ _) ?_);(refine Ae ?_;apply Ca hS 107 _ _ rfl _ rfl 2 (AO rfl) _ _;(case hp=>exact AL);(case hy=>rfl);(case hn=>rfl);(case hn'=>rfl);(case hv=>rfl);(case hd=>exact rfl));intro w9 h9;with_reducible exact zq9.out w9 h9):p:=h ⟨k⟩
theorem b6(n:Nat)(k:q)(h:Au q→Br n p:=by intro zq9;(with_reducible refine Bt ?_);(refine Lk (by with_reducible assumption) Tryz.underlying42 Jh rfl rfl A9 (by omega) AA ?_);with_reducible exact zq9.out):p:=h ⟨k⟩
theorem b7(n:Nat){T q:Option Addr→Nat→World→Prop}(k:∀a c w,T a c w→q a c w)(h:fJ T q→Br n p:=by intro zq9;(with_reducible refine Bt ?_);(refine Ae ?_;apply A5 (o:=⟨some _,_,_,_,_,_⟩) hS _ _ 35 rfl 5 1 1 Ho _ _ _ _ rfl;(case hp=>exact AL);(case hx=>exact rfl);(case hm=>(first|exact hS.slBlk AL (by rfl) (by decide)|exact hS.sl AL|with_reducible assumption|exact Sl.ext (by with_reducible assumption) hS.1|exact Sl.nil _ _|exact Sl.ext (by assumption) hS.1|assumption));(case h1=>(first|exact CP rfl|exact Bu _ _|(intro u hu;cases hu)));(case h63=>unfold maxLen;omega);(case hb=>omega));intro a9 c9 w9 h9;(first|simp only [DU] at h9|simp only [DV] at h9|simp only [DW] at h9|simp only [DX] at h9|simp only [DY] at h9|skip);refine AB ?_;go_step;with_reducible exact zq9.out a9 c9 w9 h9):p:=h ⟨k⟩
theorem b9(k:q)(h:Au q→p:=by intro zq9;(with_reducible refine Ak _ (.fieldAddr 140 _ 1) ?_);(refine An AA (V.fieldAddr IQ rfl A7) ?_);go_step;with_reducible exact zq9.out):p:=h ⟨k⟩
theorem cA(k:q)(h:Au q→p:=by intro zq9;(with_reducible refine Ak _ (.fieldAddr 155 _ 2) ?_);(refine An AA (V.fieldAddr SP rfl A7) ?_);go_step;with_reducible exact zq9.out):p:=h ⟨k⟩
theorem cB(k:q)(h:Au q→p:=by intro zq9;(with_reducible refine Ak _ (.fieldAddr 24 _ 0) ?_);(refine An AA (V.fieldAddr Ff rfl A7) ?_);go_step;with_reducible exact zq9.out):p:=h ⟨k⟩
theorem cC(k:q)(h:Au q→p:=by intro zq9;(with_reducible refine Ak _ (.fieldAddr 24 _ 1) ?_);(refine An AA (V.fieldAddr JE rfl A7) ?_);go_step;with_reducible exact zq9.out):p:=h ⟨k⟩
theorem cD(k:q)(h:Au q→p:=by intro zq9;(with_reducible refine Ak _ (.fieldAddr 37 _ 1) ?_);(refine An AA (V.fieldAddr Qs rfl A7) ?_);go_step;with_reducible exact zq9.out):p:=h ⟨k⟩
theorem cE(k:q)(h:Au q→p:=by intro zq9;(with_reducible refine Ak _ (.load 137 _) ?_);(refine Ae ?_;apply AX hS 137 _ rfl _ _ rfl (AH rfl) _;(case hp=>exact AL);(case hc=>rfl);refine AB ?_);go_step;with_reducible exact zq9.out):p:=h ⟨k⟩
theorem cF(k:q)(h:Au q→p:=by intro zq9;(with_reducible refine Ak _ (.nilCheck _) ?_);(refine An AA (V.nilCheck rfl) ?_);go_step;with_reducible exact zq9.out):p:=h ⟨k⟩
theorem cG(k:q)(h:Au q→p:=by intro zq9;(with_reducible refine Ak _ (.slice 26 _ _ _ _) ?_);(refine An AA (V.sliceA Tryz.underlying26 Ea rfl (by (first|exact Lo.none|exact Lo.some rfl A9)) (by (first|exact Up.none|exact Up.some rfl A9)) (by omega) (by omega) (by omega) rfl rfl rfl) ?_);go_step;with_reducible exact zq9.out):p:=h ⟨k⟩
theorem cH(n:Nat)(k:q)(h:Au q→Br n p:=by intro zq9;(with_reducible refine Bt ?_);(refine Ag (.int _ (((i+1:Nat):Int))) (V.as (V.addI rfl rfl (by omega)) (by omega)) (by kernel_rfl) ?_);go_step;with_reducible exact zq9.out):p:=h ⟨k⟩
theorem cI(n:Nat)(k:q)(h:Au q→Br n p:=by intro zq9;(with_reducible refine Bt ?_);(refine An AA (V.build (vs:=[(0,_),(1,_)]) rfl (Ti _ _)) ?_);go_step;with_reducible exact zq9.out):p:=h ⟨k⟩
theorem cJ(n:Nat)(k:q)(h:Au q→Br n p:=by intro zq9;(with_reducible refine Bt ?_);(refine An AA (V.fieldAddr Qu rfl A7) ?_);go_step;with_reducible exact zq9.out):p:=h ⟨k⟩
theorem dW(n:Nat){T q:Nat→World→Prop}(k:∀g w,T g w→q g w)(h:Hl T q→Br n p:=by intro zq9;(with_reducible refine Bt ?_);(refine Ae ?_;apply B4 (o:=⟨some _,_,_,_,_,_⟩) hS 94 rfl (.agg #[.int .i64 0, .int .i64 0]) [.int .i64 0, .int .i64 0] (fun w=>Tryz.zeroValue94 w) rfl);intro g w9 h9;refine AB ?_;go_step;with_reducible exact zq9.out g w9 h9):p:=h ⟨k⟩
theorem dX{T q:World→Prop}(k:∀w,T w→q w)(h:JW T q→p:=by intro zq9;(with_reducible refine Ak _ (.store 3 _ _) ?_);(refine Ae ?_;apply Bv hS 3 _ _ rfl _ _ rfl (AH rfl) _ _;(case hp=>exact AL);(case hy=>exact CI);(case hv=>rfl);(case hc=>exact Xy);(case hd=>exact rfl));intro w9 h9;with_reducible exact zq9.out w9 h9):p:=h ⟨k⟩
theorem dY{T q:World→Prop}(k:∀w,T w→q w)(h:JW T q→p:=by intro zq9;(with_reducible refine Ak _ (.store 94 _ _) ?_);(refine Ae ?_;apply Ca hS 94 _ _ rfl _ rfl 2 (AO rfl) _ _;(case hp=>exact AL);(case hy=>rfl);(case hn=>rfl);(case hn'=>rfl);(case hv=>rfl);(case hd=>exact rfl));intro w9 h9;with_reducible exact zq9.out w9 h9):p:=h ⟨k⟩
theorem dZ(n:Nat){T q:Option Addr→Nat→World→Prop}(k:∀a c w,T a c w→q a c w)(h:fJ T q→Br n p:=by intro zq9;(with_reducible refine Bt ?_);(refine Ae ?_;apply A5 (o:=⟨some _,_,_,_,_,_⟩) hS _ _ 42 rfl 26 64 512 cX _ _ _ _ rfl;(case hp=>exact AL);(case hx=>exact rfl);(case hm=>(first|exact hS.slBlk AL (by rfl) (by decide)|exact hS.sl AL|with_reducible assumption|exact Sl.ext (by with_reducible assumption) hS.1|exact Sl.nil _ _|exact Sl.ext (by assumption) hS.1|assumption));(case h1=>(first|exact CP rfl|exact Bu _ _|(intro u hu;cases hu)));(case h63=>unfold maxLen;omega);(case hb=>omega));intro a9 c9 w9 h9;(first|simp only [DU] at h9|simp only [DV] at h9|simp only [DW] at h9|simp only [DX] at h9|simp only [DY] at h9|skip);refine AB ?_;go_step;with_reducible exact zq9.out a9 c9 w9 h9):p:=h ⟨k⟩
theorem da(k:q)(h:Au q→p:=by intro zq9;(with_reducible refine Ak _ (.binOp .eql 38 _ _ _) ?_);(refine An AA (V.eql rfl rfl) ?_);go_step;with_reducible exact zq9.out):p:=h ⟨k⟩
theorem db(k:q)(h:Au q→p:=by intro zq9;(with_reducible refine Ak _ (.call ⟨.builtin .len,_,_⟩) ?_);(refine An AA (V.len Tryz.underlying91 rfl) ?_);go_step;with_reducible exact zq9.out):p:=h ⟨k⟩
theorem dc(k:q)(h:Au q→p:=by intro zq9;(with_reducible refine Ak _ (.fieldAddr 34 _ 0) ?_);(refine An AA (V.fieldAddr Qp rfl A7) ?_);go_step;with_reducible exact zq9.out):p:=h ⟨k⟩
theorem de(k:q)(h:Au q→p:=by intro zq9;(with_reducible refine Ak _ (.fieldAddr 34 _ 1) ?_);(refine An AA (V.fieldAddr Qq rfl A7) ?_);go_step;with_reducible exact zq9.out):p:=h ⟨k⟩
theorem df(k:q)(h:Au q→p:=by intro zq9;(with_reducible refine Ak _ (.fieldAddr 37 _ 2) ?_);(refine An AA (V.fieldAddr Vu rfl A7) ?_);go_step;with_reducible exact zq9.out):p:=h ⟨k⟩
theorem dg(k:q)(h:Au q→p:=by intro zq9;(with_reducible refine Ak _ (.load 94 _) ?_);(refine Ae ?_;apply H9 hS 94 _ rfl _ _ rfl 2 (AO rfl) _ _ _ _ _;(case hp=>exact AL);(case hi=>omega);(case hl'=>with_reducible assumption);refine AB ?_);go_step;with_reducible exact zq9.out):p:=h ⟨k⟩
theorem dh(n:Nat)(k:q)(h:Au q→Br n p:=by intro zq9;(with_reducible refine Bt ?_);(refine Ag (.int .i64 ((y:Nat):Int)) (V.as (V.indexIv Tryz.underlying29 Tryz.underlying3 Ea rfl rfl hC Bk.cast (by omega)) HX.out) AA ?_);go_step;with_reducible exact zq9.out):p:=h ⟨k⟩
theorem TX(n:Nat)(k:q)(h:Au q→Br n p:=by intro zq9;(with_reducible refine Bt ?_);(refine Ag (.int _ ((u0%16))) (V.as (V.and rfl rfl) (by exact HAnd.out)) (by kernel_rfl) ?_);go_step;with_reducible exact zq9.out):p:=h ⟨k⟩
theorem TY(n:Nat)(k:q)(h:Au q→Br n p:=by intro zq9;(with_reducible refine Bt ?_);(refine An AA (V.build (vs:=[(0,_),(1,_)]) rfl (Tk _ _)) ?_);go_step;with_reducible exact zq9.out):p:=h ⟨k⟩
theorem TZ(n:Nat)(k:q)(h:Au q→Br n p:=by intro zq9;(with_reducible refine Bt ?_);(refine An AA (V.convI (by rw [Tryz.underlying116];rfl) Tryz.underlying3 rfl (IntWalk.i64_in _ (by omega))) ?_);go_step;with_reducible exact zq9.out):p:=h ⟨k⟩
theorem Ta(n:Nat)(k:q)(h:Au q→Br n p:=by intro zq9;(with_reducible refine Bt ?_);(refine An AA (V.convI (by rw [Tryz.underlying3];rfl) Tryz.underlying116 rfl (IntWalk.u64_in _ (by omega))) ?_);go_step;with_reducible exact zq9.out):p:=h ⟨k⟩
theorem Tb(n:Nat)(k:q)(h:Au q→Br n p:=by intro zq9;(with_reducible refine Bt ?_);(refine An AA (V.indexSl Tryz.underlying91 eh rfl rfl A9 (by omega) rfl A7) ?_);go_step;with_reducible exact zq9.out):p:=h ⟨k⟩
theorem VE{T q:World→Prop}(k:∀w,T w→q w)(h:JW T q→p:=by intro zq9;(with_reducible refine Ak _ (.store 35 _ _) ?_);(refine Ae ?_;apply IC hS 35 _ _ rfl _ _ rfl (AH rfl) _ _;(case hp=>exact AL);(case hy=>exact CI);(case hz=>rfl);(case hi=>(repeat (first|exact Hj.head|(apply Hj.skipI;(case hn=>exact EK);(case h=>omega);(case ho=>rfl))|apply Hj.skipV)));(case hd=>exact rfl));intro w9 h9;with_reducible exact zq9.out w9 h9):p:=h ⟨k⟩
theorem VF(n:Nat)(k:q)(h:Au q→Br n p:=by intro zq9;(with_reducible refine Bt ?_);(refine Ds (by with_reducible assumption) Tryz.underlying30 Ea rfl rfl A9 (by omega) AA ?_);with_reducible exact zq9.out):p:=h ⟨k⟩
theorem VG(k:q)(h:Au q→p:=by intro zq9;(with_reducible refine Ak _ (.binOp .mul _ _ _ _) ?_);(refine An AA (V.mulI rfl rfl (by omega)) ?_);go_step;with_reducible exact zq9.out):p:=h ⟨k⟩
theorem VH(k:q)(h:Au q→p:=by intro zq9;(with_reducible refine Ak _ (.call ⟨.builtin .len,_,_⟩) ?_);(refine An AA (V.len Tryz.underlying115 rfl) ?_);go_step;with_reducible exact zq9.out):p:=h ⟨k⟩
theorem VI(k:q)(h:Au q→p:=by intro zq9;(with_reducible refine Ak _ (.fieldAddr 155 _ 0) ?_);(refine An AA (V.fieldAddr KC rfl A7) ?_);go_step;with_reducible exact zq9.out):p:=h ⟨k⟩
theorem VJ(k:q)(h:Au q→p:=by intro zq9;(with_reducible refine Ak _ (.fieldAddr 24 _ 2) ?_);(refine An AA (V.fieldAddr GH rfl A7) ?_);go_step;with_reducible exact zq9.out):p:=h ⟨k⟩
theorem VK(k:q)(h:Au q→p:=by intro zq9;(with_reducible refine Ak _ (.load 30 _) ?_);(refine Ae ?_;apply FR hS 30 _ rfl _ _ rfl (AH rfl) _;(case hp=>exact AL);(case hi=>(repeat (first|exact KQ.head|(apply KQ.skipI;(case hn=>exact EK);(case h=>omega);(case ho=>rfl))|apply KQ.skipV)));refine AB ?_);go_step;with_reducible exact zq9.out):p:=h ⟨k⟩
theorem VL(k:q)(h:Au q→p:=by intro zq9;(with_reducible refine Ak _ (.load 35 _) ?_);(refine Ae ?_;apply FR hS 35 _ rfl _ _ rfl (AH rfl) _;(case hp=>exact AL);(case hi=>(repeat (first|exact KQ.head|(apply KQ.skipI;(case hn=>exact EK);(case h=>omega);(case ho=>rfl))|apply KQ.skipV)));refine AB ?_);go_step;with_reducible exact zq9.out):p:=h ⟨k⟩
theorem VM(n:Nat)(k:q)(h:Au q→Br n p:=by intro zq9;(with_reducible refine Bt ?_);(refine Ag (.int _ (((k+1:Nat):Int))) (V.as (V.addI rfl rfl (by omega)) (by omega)) (by kernel_rfl) ?_);go_step;with_reducible exact zq9.out):p:=h ⟨k⟩
theorem VN(n:Nat)(k:q)(h:Au q→Br n p:=by intro zq9;(with_reducible refine Bt ?_);(refine An AA (V.leq rfl rfl) ?_);go_step;with_reducible exact zq9.out):p:=h ⟨k⟩
theorem YH(n:Nat){T q:Nat→World→Prop}(k:∀g w,T g w→q g w)(h:Hl T q→Br n p:=by intro zq9;(with_reducible refine Bt ?_);(refine Ae ?_;apply CT (o:=⟨some _,_,_,_,_,_⟩) hS 140 _ rfl _ rfl);intro g w9 h9;refine AB ?_;go_step;with_reducible exact zq9.out g w9 h9):p:=h ⟨k⟩
theorem YI(n:Nat){T q:Nat→World→Prop}(k:∀g w,T g w→q g w)(h:Hl T q→Br n p:=by intro zq9;(with_reducible refine Bt ?_);(refine Ae ?_;apply CT (o:=⟨some _,_,_,_,_,_⟩) hS 155 _ rfl _ rfl);intro g w9 h9;refine AB ?_;go_step;with_reducible exact zq9.out g w9 h9):p:=h ⟨k⟩
theorem YJ(n:Nat){T q:Nat→World→Prop}(k:∀g w,T g w→q g w)(h:Hl T q→Br n p:=by intro zq9;(with_reducible refine Bt ?_);(refine Ae ?_;apply AU (o:=⟨some _,_,_,_,_,_⟩) hS 30 1 _ rfl 3 1 8 NP _ _;(case hvs=>(repeat (first|exact AW.nil|(apply AW.agg;(rfl);(rfl))|(apply AW.one;exact CI;(rfl);(rfl)))));(case hn=>rfl);(case hn0=>decide);(case hns=>decide));intro g w9 h9;refine AB ?_;go_step;with_reducible exact zq9.out g w9 h9):p:=h ⟨k⟩
theorem YK(n:Nat){T q:Nat→World→Prop}(k:∀g w,T g w→q g w)(h:Hl T q→Br n p:=by intro zq9;(with_reducible refine Bt ?_);(refine Ae ?_;apply AU (o:=⟨some _,_,_,_,_,_⟩) hS 35 2 _ rfl 5 1 1 Ho _ _;(case hvs=>(repeat (first|exact AW.nil|(apply AW.agg;(rfl);(rfl))|(apply AW.one;exact CI;(rfl);(rfl)))));(case hn=>rfl);(case hn0=>decide);(case hns=>decide));intro g w9 h9;refine AB ?_;go_step;with_reducible exact zq9.out g w9 h9):p:=h ⟨k⟩
theorem YL(n:Nat){T q:Nat→World→Prop}(k:∀g w,T g w→q g w)(h:Hl T q→Br n p:=by intro zq9;(with_reducible refine Bt ?_);(refine Ae ?_;apply KP (o:=⟨some _,_,_,_,_,_⟩) hS 42 _ _ rfl _ _ _ _ ec _ _ _ _ _ _ rfl rfl;(case hi=>exact A9);(case hj=>exact A9);(case hnm=>omega);(case hb=>omega);(case h63=>unfold maxLen;omega));intro g w9 h9;refine AB ?_;go_step;with_reducible exact zq9.out g w9 h9):p:=h ⟨k⟩
theorem YM{T q:World→Prop}(k:∀w,T w→q w)(h:JW T q→p:=by intro zq9;(with_reducible refine Ak _ (.store 169 _ _) ?_);(refine Bj AA (Bv hS 169 _ _ rfl _ _ rfl (AH rfl) _ _ AL _ CI (by rfl) Xy rfl ?_));intro w9 h9;with_reducible exact zq9.out w9 h9):p:=h ⟨k⟩
theorem YN{T q:World→Prop}(k:∀w,T w→q w)(h:JW T q→p:=by intro zq9;(with_reducible refine Ak _ (.store 3 _ _) ?_);(first|(refine Bj AA (IA hS 3 _ _ rfl _ _ rfl (AH rfl) _ _ AL _ (by rfl) (by omega) rfl ?_))|(refine Bj AA (Bv hS 3 _ _ rfl _ _ rfl (AH rfl) _ _ AL _ CI (by rfl) Xy rfl ?_)));intro w9 h9;with_reducible exact zq9.out w9 h9):p:=h ⟨k⟩
theorem YO{T q:World→Prop}(k:∀w,T w→q w)(h:JW T q→p:=by intro zq9;(with_reducible refine Ak _ (.store 3 _ _) ?_);(refine Ae ?_;apply IA hS 3 _ _ rfl _ _ rfl (AH rfl) _ _;(case hp=>exact AL);(case hy=>rfl);(case hi=>omega);(case hd=>exact rfl));intro w9 h9;with_reducible exact zq9.out w9 h9):p:=h ⟨k⟩
theorem YP{T q:World→Prop}(k:∀w,T w→q w)(h:JW T q→p:=by intro zq9;(with_reducible refine Ak _ (.store 35 _ _) ?_);(refine Bj AA (Bv hS 35 _ _ rfl _ _ rfl (AH rfl) _ _ AL _ CI (by rfl) Xy rfl ?_));intro w9 h9;with_reducible exact zq9.out w9 h9):p:=h ⟨k⟩
theorem YQ(n:Nat){T q:Option Addr→Nat→World→Prop}(k:∀a c w,T a c w→q a c w)(h:fJ T q→Br n p:=by intro zq9;(with_reducible refine Bt ?_);(refine Ae ?_;apply A5 (o:=⟨some _,_,_,_,_,_⟩) hS _ _ 30 rfl 3 1 8 NP _ _ _ _ rfl;(case hp=>exact AL);(case hx=>exact rfl);(case hm=>(first|exact hS.slBlk AL (by rfl) (by decide)|exact hS.sl AL|with_reducible assumption|exact Sl.ext (by with_reducible assumption) hS.1|exact Sl.nil _ _|exact Sl.ext (by assumption) hS.1|assumption));(case h1=>(first|exact CP rfl|exact Bu _ _|(intro u hu;cases hu)));(case h63=>unfold maxLen;omega);(case hb=>omega));intro a9 c9 w9 h9;(first|simp only [DU] at h9|simp only [DV] at h9|simp only [DW] at h9|simp only [DX] at h9|simp only [DY] at h9|skip);refine AB ?_;go_step;with_reducible exact zq9.out a9 c9 w9 h9):p:=h ⟨k⟩
theorem YR(k:q)(h:Au q→p:=by intro zq9;(with_reducible refine Ak _ (.binOp .geq _ _ _ _) ?_);(refine An AA (V.geq rfl rfl) ?_);go_step;with_reducible exact zq9.out):p:=h ⟨k⟩
theorem YS(k:q)(h:Au q→p:=by intro zq9;(with_reducible refine Ak _ (.call ⟨.builtin .len,_,_⟩) ?_);(refine An AA (V.len Tryz.underlying88 rfl) ?_);go_step;with_reducible exact zq9.out):p:=h ⟨k⟩
theorem YT(k:q)(h:Au q→p:=by intro zq9;(with_reducible refine Ak _ (.fieldAddr 32 _ 0) ?_);(refine An AA (V.fieldAddr Qo rfl A7) ?_);go_step;with_reducible exact zq9.out):p:=h ⟨k⟩
theorem YU(k:q)(h:Au q→p:=by intro zq9;(with_reducible refine Ak _ (.fieldAddr 37 _ 5) ?_);(refine An AA (V.fieldAddr Kt rfl A7) ?_);go_step;with_reducible exact zq9.out):p:=h ⟨k⟩
theorem YV(k:q)(h:Au q→p:=by intro zq9;(with_reducible refine Ak _ (.load 26 _) ?_);(first|(refine Ae ?_;apply EQ hS 26 _ rfl _ _ rfl 64 (AO rfl) _;(case hl=>with_reducible assumption);(case hr=>with_reducible assumption);refine AB ?_)|(refine Ae ?_;apply Iu hS 26 _ rfl _ rfl 64 (AO rfl) _;(case hp=>exact AL);refine AB ?_));go_step;with_reducible exact zq9.out):p:=h ⟨k⟩
theorem YW(k:q)(h:Au q→p:=by intro zq9;(with_reducible refine Ak _ (.load 29 _) ?_);(refine Ae ?_;apply NE hS 29 _ rfl _ _ rfl 16 (AO rfl) _;(case hp=>exact AL);(case hi=>(repeat (first|(apply Rj.head;exact EK)|(apply Rj.skipI;(case hn=>exact EK);(case h=>omega);(case ho=>rfl))|apply Rj.skipV)));refine AB ?_);go_step;with_reducible exact zq9.out):p:=h ⟨k⟩
theorem YX(n:Nat)(k:q)(h:Au q→Br n p:=by intro zq9;(with_reducible refine Bt ?_);(refine Ag (.int _ (((en:Nat):Int))) (V.as (V.subI rfl rfl (by omega)) (by omega)) (by kernel_rfl) ?_);go_step;with_reducible exact zq9.out):p:=h ⟨k⟩
theorem YY(n:Nat)(k:q)(h:Au q→Br n p:=by intro zq9;(with_reducible refine Bt ?_);(refine Ag (.int _ (((h+1:Nat):Int))) (V.as (V.addI rfl rfl (by omega)) (by omega)) (by kernel_rfl) ?_);go_step;with_reducible exact zq9.out):p:=h ⟨k⟩
theorem YZ(n:Nat)(k:q)(h:Au q→Br n p:=by intro zq9;(with_reducible refine Bt ?_);(refine Ag (.int _ (((h:Nat):Int))) (V.as (V.shr rfl rfl A9 (by omega) rfl) (by omega)) (by kernel_rfl) ?_);go_step;with_reducible exact zq9.out):p:=h ⟨k⟩
theorem Ya(n:Nat)(k:q)(h:Au q→Br n p:=by intro zq9;(with_reducible refine Bt ?_);(refine Ag (.int _ (((q+1:Nat):Int))) (V.as (V.addI rfl rfl (by omega)) (by omega)) (by kernel_rfl) ?_);go_step;with_reducible exact zq9.out):p:=h ⟨k⟩
theorem Yb(n:Nat)(k:q)(h:Au q→Br n p:=by intro zq9;(with_reducible refine Bt ?_);(refine Ag (.int _ (((t:Nat):Int))) (V.as (V.mulI rfl rfl (by omega)) (by omega)) (by kernel_rfl) ?_);go_step;with_reducible exact zq9.out):p:=h ⟨k⟩
theorem Yc(n:Nat)(k:q)(h:Au q→Br n p:=by intro zq9;(with_reducible refine Bt ?_);(refine Ag _ (V.indexIv Tryz.underlying26 Tryz.underlying3 Ea rfl rfl (by (repeat (first|assumption|exact Al.rep|apply Al.set|((with_reducible show Al (_::_) _);exact rfl)))) A9 (by omega)) AA ?_);go_step;with_reducible exact zq9.out):p:=h ⟨k⟩
theorem Yd(n:Nat)(k:q)(h:Au q→Br n p:=by intro zq9;(with_reducible refine Bt ?_);(refine An AA (V.build (vs:=[]) rfl (VV)) ?_);go_step;with_reducible exact zq9.out):p:=h ⟨k⟩
theorem Ye(n:Nat)(k:q)(h:Au q→Br n p:=by intro zq9;(with_reducible refine Bt ?_);(refine An AA (V.build (vs:=[]) rfl (eW)) ?_);go_step;with_reducible exact zq9.out):p:=h ⟨k⟩
theorem Yf(n:Nat)(k:q)(h:Au q→Br n p:=by intro zq9;(with_reducible refine Bt ?_);(refine An AA (V.fieldAddr Vt rfl A7) ?_);go_step;with_reducible exact zq9.out):p:=h ⟨k⟩
theorem Yg(n:Nat)(k:q)(h:Au q→Br n p:=by intro zq9;(with_reducible refine Bt ?_);(refine An AA (V.indexAr Tryz.underlying26 Ea rfl rfl A9 (by omega) (Nat.mul_one _) A7) ?_);go_step;with_reducible exact zq9.out):p:=h ⟨k⟩
theorem Yh(n:Nat)(k:q)(h:Au q→Br n p:=by intro zq9;(with_reducible refine Bt ?_);(refine An AA (V.len Tryz.underlying160 rfl) ?_);go_step;with_reducible exact zq9.out):p:=h ⟨k⟩
theorem bH(n:Nat){T q:Nat→World→Prop}(k:∀g w,T g w→q g w)(h:Hl T q→Br n p:=by intro zq9;(with_reducible refine Bt ?_);(refine Ae ?_;apply B4 (o:=⟨some _,_,_,_,_,_⟩) hS 133 rfl (.pointer none) [.pointer none] (fun w=>Tryz.zeroValue133 w) rfl);intro g w9 h9;refine AB ?_;go_step;with_reducible exact zq9.out g w9 h9):p:=h ⟨k⟩
theorem bI(n:Nat){T q:Nat→World→Prop}(k:∀g w,T g w→q g w)(h:Hl T q→Br n p:=by intro zq9;(with_reducible refine Bt ?_);(refine Ae ?_;apply B4 (o:=⟨some _,_,_,_,_,_⟩) hS 197 rfl (.agg #[.int .i64 0, .int .i64 0, .int .i64 0]) [.int .i64 0, .int .i64 0, .int .i64 0] (fun w=>Tryz.zeroValue197 w) rfl);intro g w9 h9;refine AB ?_;go_step;with_reducible exact zq9.out g w9 h9):p:=h ⟨k⟩
theorem bJ(n:Nat){T q:Nat→World→Prop}(k:∀g w,T g w→q g w)(h:Hl T q→Br n p:=by intro zq9;(with_reducible refine Bt ?_);(refine Ae ?_;apply B4 (o:=⟨some _,_,_,_,_,_⟩) hS 203 rfl (.agg #[.int .i64 0, .int .i64 0, .int .i64 0, .int .i64 0, .int .i64 0, .int .i64 0, .int .i64 0, .int .i64 0, .int .i64 0]) [.int .i64 0, .int .i64 0, .int .i64 0, .int .i64 0, .int .i64 0, .int .i64 0, .int .i64 0, .int .i64 0, .int .i64 0] (fun w=>Tryz.zeroValue203 w) rfl);intro g w9 h9;refine AB ?_;go_step;with_reducible exact zq9.out g w9 h9):p:=h ⟨k⟩
theorem bK(n:Nat){T q:Nat→World→Prop}(k:∀g w,T g w→q g w)(h:Hl T q→Br n p:=by intro zq9;(with_reducible refine Bt ?_);(refine Ae ?_;apply AU (o:=⟨some _,_,_,_,_,_⟩) hS 35 1 _ rfl 5 1 1 Ho _ _;(case hvs=>(repeat (first|exact AW.nil|(apply AW.agg;(rfl);(rfl))|(apply AW.one;exact CI;(rfl);(rfl)))));(case hn=>rfl);(case hn0=>decide);(case hns=>decide));intro g w9 h9;refine AB ?_;go_step;with_reducible exact zq9.out g w9 h9):p:=h ⟨k⟩
theorem bL{T q:World→Prop}(k:∀w,T w→q w)(h:JW T q→p:=by intro zq9;(with_reducible refine Ak _ (.store 133 _ _) ?_);(refine Ae ?_;apply Bv hS 133 _ _ rfl _ _ rfl (AH rfl) _ _;(case hp=>exact AL);(case hy=>exact CI);(case hv=>rfl);(case hc=>exact Xy);(case hd=>exact rfl));intro w9 h9;with_reducible exact zq9.out w9 h9):p:=h ⟨k⟩
theorem bM{T q:World→Prop}(k:∀w,T w→q w)(h:JW T q→p:=by intro zq9;(with_reducible refine Ak _ (.store 197 _ _) ?_);(refine Ae ?_;apply Ca hS 197 _ _ rfl _ rfl 3 (AO rfl) _ _;(case hp=>exact AL);(case hy=>rfl);(case hn=>rfl);(case hn'=>rfl);(case hv=>rfl);(case hd=>exact rfl));intro w9 h9;with_reducible exact zq9.out w9 h9):p:=h ⟨k⟩
theorem bN{T q:World→Prop}(k:∀w,T w→q w)(h:JW T q→p:=by intro zq9;(with_reducible refine Ak _ (.store 203 _ _) ?_);(refine Ae ?_;apply Ca hS 203 _ _ rfl _ rfl 9 (AO rfl) _ _;(case hp=>exact AL);(case hy=>rfl);(case hn=>rfl);(case hn'=>rfl);(case hv=>rfl);(case hd=>exact rfl));intro w9 h9;with_reducible exact zq9.out w9 h9):p:=h ⟨k⟩
theorem bO{T q:World→Prop}(k:∀w,T w→q w)(h:JW T q→p:=by intro zq9;(with_reducible refine Ak _ (.store 3 _ _) ?_);(refine Ae ?_;apply Js hS 3 _ _ rfl _ _ rfl (AH rfl) _ _ _ _ _;(case hp=>exact AL);(case hy=>rfl);(case hi=>omega);(case hd=>exact rfl));intro w9 h9;with_reducible exact zq9.out w9 h9):p:=h ⟨k⟩
theorem bP(k:q)(h:Au q→p:=by intro zq9;(with_reducible refine Ak _ (.binOp .shl _ _ _ _) ?_);(refine An AA (V.shlI rfl rfl A9 (by omega) (by omega)) ?_);go_step;with_reducible exact zq9.out):p:=h ⟨k⟩
theorem bQ(k:q)(h:Au q→p:=by intro zq9;(with_reducible refine Ak _ (.call ⟨.builtin .len,_,_⟩) ?_);(refine An AA (V.len Tryz.underlying141 rfl) ?_);go_step;with_reducible exact zq9.out):p:=h ⟨k⟩
theorem bR(k:q)(h:Au q→p:=by intro zq9;(with_reducible refine Ak _ (.call ⟨.builtin .len,_,_⟩) ?_);(refine An AA (V.len Tryz.underlying35 rfl) ?_);go_step;with_reducible exact zq9.out):p:=h ⟨k⟩
theorem bS(k:q)(h:Au q→p:=by intro zq9;(with_reducible refine Ak _ (.fieldAddr 32 _ 1) ?_);(refine An AA (V.fieldAddr Vt rfl A7) ?_);go_step;with_reducible exact zq9.out):p:=h ⟨k⟩
theorem bT(k:q)(h:Au q→p:=by intro zq9;(with_reducible refine Ak _ (.fieldAddr 37 _ 4) ?_);(refine An AA (V.fieldAddr Vv rfl A7) ?_);go_step;with_reducible exact zq9.out):p:=h ⟨k⟩
theorem bU(k:q)(h:Au q→p:=by intro zq9;(with_reducible refine Ak _ (.fieldAddr 37 _ 6) ?_);(refine An AA (V.fieldAddr Qu rfl A7) ?_);go_step;with_reducible exact zq9.out):p:=h ⟨k⟩
theorem bV(k:q)(h:Au q→p:=by intro zq9;(with_reducible refine Ak _ (.fieldAddr 94 _ 0) ?_);(refine An AA (V.fieldAddr Nf rfl A7) ?_);go_step;with_reducible exact zq9.out):p:=h ⟨k⟩
theorem bW(k:q)(h:Au q→p:=by intro zq9;(with_reducible refine Ak _ (.fieldAddr 94 _ 1) ?_);(refine An AA (V.fieldAddr Ng rfl A7) ?_);go_step;with_reducible exact zq9.out):p:=h ⟨k⟩
theorem bX(k:q)(h:Au q→p:=by intro zq9;(with_reducible refine Ak _ (.load 22 _) ?_);(refine Ae ?_;apply Aa hS 22 _ rfl _ rfl (AH rfl) _;(case hc=>with_reducible assumption);refine AB ?_);go_step;with_reducible exact zq9.out):p:=h ⟨k⟩
theorem bY(k:q)(h:Au q→p:=by intro zq9;(with_reducible refine Ak _ (.load 26 _) ?_);(refine Ae ?_;apply EQ hS 26 _ rfl _ _ rfl 64 (AO rfl) _;(case hl=>with_reducible assumption);(case hr=>with_reducible assumption);refine AB ?_);go_step;with_reducible exact zq9.out):p:=h ⟨k⟩
theorem bZ(k:q)(h:Au q→p:=by intro zq9;(with_reducible refine Ak _ (.load 3 _) ?_);(refine Ae ?_;apply BW hS 3 _ rfl _ _ rfl (AH rfl) _ _;(case hp=>exact AL);(case hi=>omega);refine AB ?_);go_step;with_reducible exact zq9.out):p:=h ⟨k⟩
theorem be(k:q)(h:Au q→p:=by intro zq9;(with_reducible refine Ak _ (.load 30 _) ?_);(refine Ae ?_;apply AX hS 30 _ rfl _ _ rfl (AH rfl) _;(case hp=>exact AL);(case hc=>rfl);refine AB ?_);go_step;with_reducible exact zq9.out):p:=h ⟨k⟩
theorem bf(k:q)(h:Au q→p:=by intro zq9;(with_reducible refine Ak _ (.slice 35 _ _ _ _) ?_);(refine An AA (V.slice Tryz.underlying35 WF rfl (by (first|exact Lo.none|exact Lo.some rfl A9)) (by (first|exact Up.none|exact Up.some rfl A9)) (by omega) (by omega)) ?_);go_step;with_reducible exact zq9.out):p:=h ⟨k⟩
theorem bg(n:Nat)(k:q)(h:Au q→Br n p:=by intro zq9;(with_reducible refine Bt ?_);(refine Ae ?_;apply Lh (enc:=ik) hS 165 _ _ rfl _ rfl _ rfl Tryz.underlying165 (CN Tryz.underlying3) (.int .i64 0) (fun w=>Tryz.zeroValue3 w) _;(case hp=>exact AL);(case hf=>with_reducible assumption);refine AB ?_);go_step;with_reducible exact zq9.out):p:=h ⟨k⟩
theorem bh(n:Nat)(k:q)(h:Au q→Br n p:=by intro zq9;(with_reducible refine Bt ?_);(refine Ag (.int _ (((2*z+y:Nat):Int))) (V.as (V.addI rfl rfl (by omega)) (by omega)) (by kernel_rfl) ?_);go_step;with_reducible exact zq9.out):p:=h ⟨k⟩
theorem bi(n:Nat)(k:q)(h:Au q→Br n p:=by intro zq9;(with_reducible refine Bt ?_);(refine Ag (.int _ (((2*z:Nat):Int))) (V.as (V.shlI rfl rfl A9 (by omega) (by omega)) (by omega)) (by kernel_rfl) ?_);go_step;with_reducible exact zq9.out):p:=h ⟨k⟩
theorem bk(n:Nat)(k:q)(h:Au q→Br n p:=by intro zq9;(with_reducible refine Bt ?_);(refine Ag (.int _ (((Lf%8:Nat):Int))) (V.as (V.rem rfl rfl (by omega) (by omega)) (by omega)) (by kernel_rfl) ?_);go_step;with_reducible exact zq9.out):p:=h ⟨k⟩
theorem bn(n:Nat)(k:q)(h:Au q→Br n p:=by intro zq9;(with_reducible refine Bt ?_);(refine Ag (.int _ (((a+s:Nat):Int))) (V.as (V.addI rfl rfl (by omega)) (by omega)) (by kernel_rfl) ?_);go_step;with_reducible exact zq9.out):p:=h ⟨k⟩
theorem bo(n:Nat)(k:q)(h:Au q→Br n p:=by intro zq9;(with_reducible refine Bt ?_);(refine Ag (.int _ (((k:Int)%16))) (V.as (V.and rfl rfl) (by exact HAnd.out)) (by kernel_rfl) ?_);go_step;with_reducible exact zq9.out):p:=h ⟨k⟩
theorem bp(n:Nat)(k:q)(h:Au q→Br n p:=by intro zq9;(with_reducible refine Bt ?_);(refine Ag (.int _ (((k:Nat):Int))) (V.as (V.and rfl rfl) (by rw [HAnd.out];exact hk1.out)) (by kernel_rfl) ?_);go_step;with_reducible exact zq9.out):p:=h ⟨k⟩
theorem bq(n:Nat)(k:q)(h:Au q→Br n p:=by intro zq9;(with_reducible refine Bt ?_);(refine Ag (.int _ (((s+1:Nat):Int))) (V.as (V.addI rfl rfl (by omega)) (by omega)) (by kernel_rfl) ?_);go_step;with_reducible exact zq9.out):p:=h ⟨k⟩
theorem br(n:Nat)(k:q)(h:Au q→Br n p:=by intro zq9;(with_reducible refine Bt ?_);(refine Ag (.int _ (((x:Nat):Int))) (V.as (V.subI rfl rfl (by omega)) (by omega)) (by kernel_rfl) ?_);go_step;with_reducible exact zq9.out):p:=h ⟨k⟩
theorem bt(n:Nat)(k:q)(h:Au q→Br n p:=by intro zq9;(with_reducible refine Bt ?_);(refine Ag (.int _ (0)) (V.as (V.subI rfl rfl (by omega)) (by omega)) (by kernel_rfl) ?_);go_step;with_reducible exact zq9.out):p:=h ⟨k⟩
theorem bu(n:Nat)(k:q)(h:Au q→Br n p:=by intro zq9;(with_reducible refine Bt ?_);(refine An AA (V.build (vs:=[(0,_),(1,_),(2,_),(3,_),(4,_),(5,_),(6,_),(7,_),(8,_)]) rfl (FG _ _ _ _ _ _ _ _ _)) ?_);go_step;with_reducible exact zq9.out):p:=h ⟨k⟩
theorem bw(n:Nat)(k:q)(h:Au q→Br n p:=by intro zq9;(with_reducible refine Bt ?_);(refine An AA (V.indexAr Tryz.underlying26 Ea rfl rfl (show Bk 0 0 from rfl) (by omega) (show 0*1=0 from rfl) A7) ?_);go_step;with_reducible exact zq9.out):p:=h ⟨k⟩
theorem d5(n:Nat){T q:Nat→World→Prop}(k:∀g w,T g w→q g w)(h:Hl T q→Br n p:=by intro zq9;(with_reducible refine Bt ?_);(refine Ae ?_;apply AU (o:=⟨some _,_,_,_,_,_⟩) hS 22 1 _ rfl 30 1 24 cW _ _;(case hvs=>(repeat (first|exact AW.nil|(apply AW.agg;(rfl);(rfl))|(apply AW.one;exact CI;(rfl);(rfl)))));(case hn=>rfl);(case hn0=>decide);(case hns=>decide));intro g w9 h9;refine AB ?_;go_step;with_reducible exact zq9.out g w9 h9):p:=h ⟨k⟩
theorem d6(n:Nat){T q:Nat→World→Prop}(k:∀g w,T g w→q g w)(h:Hl T q→Br n p:=by intro zq9;(with_reducible refine Bt ?_);(refine Ae ?_;apply Da (o:=⟨some _,_,_,_,_,_⟩) hS 30 1 _ rfl 3 1 8 NP _ _;(case hvs=>(repeat (first|exact AW.nil|(apply AW.agg;(rfl);(rfl))|(apply AW.one;exact CI;(rfl);(rfl)))));(case hn=>rfl);(case hn0=>decide);(case hns=>decide));intro g w9 h9;refine AB ?_;go_step;with_reducible exact zq9.out g w9 h9):p:=h ⟨k⟩
theorem d7(n:Nat){T q:Nat→World→Prop}(k:∀g w,T g w→q g w)(h:Hl T q→Br n p:=by intro zq9;(with_reducible refine Bt ?_);(refine Ae ?_;apply KP (o:=⟨some _,_,_,_,_,_⟩) hS 30 _ _ rfl _ _ _ _ Vo _ _ _ _ _ _ rfl rfl;(case hi=>exact A9);(case hj=>exact A9);(case hnm=>omega);(case hb=>omega);(case h63=>unfold maxLen;omega));intro g w9 h9;refine AB ?_;go_step;with_reducible exact zq9.out g w9 h9):p:=h ⟨k⟩
theorem d8{T q:World→Prop}(k:∀w,T w→q w)(h:JW T q→p:=by intro zq9;(with_reducible refine Ak _ (.mapUpdate 165 _ _ _) ?_);(refine Ae ?_;apply EM (enc:=ik) hS 165 _ _ _ rfl _ rfl _ rfl Tryz.underlying165 (CN Tryz.underlying3) _;(case hp=>exact AL);(case hv=>(first|exact Dd.int rfl|exact Dd.bool rfl|exact Dd.slice rfl|exact Dd.pointer rfl|exact Dd.string rfl|exact Dd.map rfl|exact Dd.func rfl|exact Dd.agg rfl));(case hd=>exact rfl));intro w9 h9;with_reducible exact zq9.out w9 h9):p:=h ⟨k⟩
theorem d9{T q:World→Prop}(k:∀w,T w→q w)(h:JW T q→p:=by intro zq9;(with_reducible refine Ak _ (.mapUpdate 167 _ _ _) ?_);(refine Ae ?_;apply EM (enc:=ik) hS 167 _ _ _ rfl _ rfl _ rfl Tryz.underlying167 (CN Tryz.underlying3) _;(case hp=>exact AL);(case hv=>(first|exact Dd.int rfl|exact Dd.bool rfl|exact Dd.slice rfl|exact Dd.pointer rfl|exact Dd.string rfl|exact Dd.map rfl|exact Dd.func rfl|exact Dd.agg rfl));(case hd=>exact rfl));intro w9 h9;with_reducible exact zq9.out w9 h9):p:=h ⟨k⟩
theorem eA{T q:World→Prop}(k:∀w,T w→q w)(h:JW T q→p:=by intro zq9;(with_reducible refine Ak _ (.store 168 _ _) ?_);(refine Ae ?_;apply Bv hS 168 _ _ rfl _ _ rfl (AH rfl) _ _;(case hp=>exact AL);(case hy=>exact CI);(case hv=>rfl);(case hc=>exact Xy);(case hd=>exact rfl));intro w9 h9;with_reducible exact zq9.out w9 h9):p:=h ⟨k⟩
theorem eB{T q:World→Prop}(k:∀w,T w→q w)(h:JW T q→p:=by intro zq9;(with_reducible refine Ak _ (.store 22 _ _) ?_);(refine Ae ?_;apply Bv hS 22 _ _ rfl _ _ rfl (AH rfl) _ _;(case hp=>exact AL);(case hy=>exact CI);(case hv=>rfl);(case hc=>exact Xy);(case hd=>exact rfl));intro w9 h9;with_reducible exact zq9.out w9 h9):p:=h ⟨k⟩
theorem eC{T q:World→Prop}(k:∀w,T w→q w)(h:JW T q→p:=by intro zq9;(with_reducible refine Ak _ (.store 30 _ _) ?_);(refine Ae ?_;apply IC hS 30 _ _ rfl _ _ rfl (AH rfl) _ _;(case hp=>exact AL);(case hy=>exact CI);(case hz=>rfl);(case hi=>(repeat (first|exact Hj.head|(apply Hj.skipI;(case hn=>exact EK);(case h=>omega);(case ho=>rfl))|apply Hj.skipV)));(case hd=>exact rfl));intro w9 h9;with_reducible exact zq9.out w9 h9):p:=h ⟨k⟩
theorem eD(n:Nat){T q:Nat→World→Prop}(k:∀g w,T g w→q g w)(h:Hl T q→Br n p:=by intro zq9;(with_reducible refine Bt ?_);(refine Ae ?_;apply Da (o:=⟨some _,_,_,_,_,_⟩) hS 141 1 _ rfl 155 3 24 Vn _ _;(case hvs=>(repeat (first|exact AW.nil|(apply AW.agg;(rfl);(rfl))|(apply AW.one;exact CI;(rfl);(rfl)))));(case hn=>rfl);(case hn0=>decide);(case hns=>decide));intro g w9 h9;simp only [List.cons_append,List.nil_append] at h9;refine AB ?_;go_step;with_reducible exact zq9.out g w9 h9):p:=h ⟨k⟩
theorem eE(k:q)(h:Au q→p:=by intro zq9;(with_reducible refine Ak _ (.load 140 _) ?_);(refine Ae ?_;apply D7 hS 140 _ rfl _ rfl 2 (AO rfl) _;(case hp=>exact AL);(case hn=>rfl);refine AB ?_);go_step;with_reducible exact zq9.out):p:=h ⟨k⟩
theorem eF(k:q)(h:Au q→p:=by intro zq9;(with_reducible refine Ak _ (.load 155 _) ?_);(first|(refine Ae ?_;apply H9 hS 155 _ rfl _ _ rfl 3 (AO rfl) _ _ _ _ _;(case hp=>exact AL);(case hi=>omega);(case hl'=>with_reducible assumption);refine AB ?_)|(refine Ae ?_;apply D7 hS 155 _ rfl _ rfl 3 (AO rfl) _;(case hp=>exact AL);(case hn=>rfl);refine AB ?_));go_step;with_reducible exact zq9.out):p:=h ⟨k⟩
theorem eG(k:q)(h:Au q→p:=by intro zq9;(with_reducible refine Ak _ (.load 168 _) ?_);(refine Ae ?_;apply AX hS 168 _ rfl _ _ rfl (AH rfl) _;(case hp=>exact AL);(case hc=>rfl);refine AB ?_);go_step;with_reducible exact zq9.out):p:=h ⟨k⟩
theorem eH(k:q)(h:Au q→p:=by intro zq9;(with_reducible refine Ak _ (.load 172 _) ?_);(refine Ae ?_;apply Aa hS 172 _ rfl _ rfl (AH rfl) _;(case hc=>with_reducible assumption);refine AB ?_);go_step;with_reducible exact zq9.out):p:=h ⟨k⟩
theorem eI(k:q)(h:Au q→p:=by intro zq9;(with_reducible refine Ak _ (.load 199 _) ?_);(refine Ae ?_;apply AX hS 199 _ rfl _ _ rfl (AH rfl) _;(case hp=>exact AL);(case hc=>rfl);refine AB ?_);go_step;with_reducible exact zq9.out):p:=h ⟨k⟩
theorem eJ(k:q)(h:Au q→p:=by intro zq9;(with_reducible refine Ak _ (.load 200 _) ?_);(refine Ae ?_;apply AX hS 200 _ rfl _ _ rfl (AH rfl) _;(case hp=>exact AL);(case hc=>rfl);refine AB ?_);go_step;with_reducible exact zq9.out):p:=h ⟨k⟩
theorem eK(k:q)(h:Au q→p:=by intro zq9;(with_reducible refine Ak _ (.load 26 _) ?_);(refine Ae ?_;apply NE hS 26 _ rfl _ _ rfl 64 (AO rfl) _;(case hp=>exact AL);(case hi=>(repeat (first|(apply Rj.head;exact EK)|(apply Rj.skipI;(case hn=>exact EK);(case h=>omega);(case ho=>rfl))|apply Rj.skipV)));refine AB ?_);go_step;with_reducible exact zq9.out):p:=h ⟨k⟩
theorem eL(k:q)(h:Au q→p:=by intro zq9;(with_reducible refine Ak _ (.load 3 _) ?_);(first|(refine Ae ?_;apply H8 hS 3 _ rfl _ _ rfl (AH rfl) _ _ _ _ _;(case hp=>exact AL);(case hi=>omega);refine AB ?_)|(refine Ae ?_;apply AX hS 3 _ rfl _ _ rfl (AH rfl) _;(case hp=>exact AL);(case hc=>rfl);refine AB ?_));go_step;with_reducible exact zq9.out):p:=h ⟨k⟩
theorem eM(k:q)(h:Au q→p:=by intro zq9;(with_reducible refine Ak _ (.load 3 _) ?_);(refine Ae ?_;apply H8 hS 3 _ rfl _ _ rfl (AH rfl) _ _ _ _ _;(case hp=>exact AL);(case hi=>omega);refine AB ?_);go_step;with_reducible exact zq9.out):p:=h ⟨k⟩
theorem eN(k:q)(h:Au q→p:=by intro zq9;(with_reducible refine Ak _ (.load 35 _) ?_);(refine Ae ?_;apply Ah hS 35 _ rfl _ _ rfl (AH rfl) _ _ _ _ _;(case hp=>exact AL);(case hv=>with_reducible assumption);refine AB ?_);go_step;with_reducible exact zq9.out):p:=h ⟨k⟩
theorem eO(n:Nat)(k:q)(h:Au q→Br n p:=by intro zq9;(with_reducible refine Bt ?_);(refine Ae ?_;apply Lg (enc:=ik) hS 165 _ _ rfl _ rfl _ rfl Tryz.underlying165 (CN Tryz.underlying3) (.int .i64 0) (fun w=>Tryz.zeroValue3 w) _;(case hp=>exact AL);(case hf=>with_reducible assumption);refine AB ?_);go_step;with_reducible exact zq9.out):p:=h ⟨k⟩
theorem eP(n:Nat)(k:q)(h:Au q→Br n p:=by intro zq9;(with_reducible refine Bt ?_);(refine Ag (.func (.func 101) #[] #[.pointer (some ⟨g5,0,none⟩), .pointer (some ⟨g6,0,none⟩)]) (V.makeFunc rfl) AA ?_);go_step;with_reducible exact zq9.out):p:=h ⟨k⟩
theorem eQ(n:Nat)(k:q)(h:Au q→Br n p:=by intro zq9;(with_reducible refine Bt ?_);(refine Ag (.func (.func 108) #[] #[.pointer (some ⟨g6,0,none⟩), .pointer (some ⟨g8,0,none⟩)]) (V.makeFunc rfl) AA ?_);go_step;with_reducible exact zq9.out):p:=h ⟨k⟩
theorem eR(n:Nat)(k:q)(h:Au q→Br n p:=by intro zq9;(with_reducible refine Bt ?_);(refine Ag (.iface 140 (.agg #[.pointer (some ⟨gc,0,none⟩), .pointer (some ⟨gr,0,none⟩)])) (V.mkIf rfl (fun w=>by kernel_rfl)) AA ?_);go_step;with_reducible exact zq9.out):p:=h ⟨k⟩
end
end Go.Proofs.YtohacgmhmbijmaaGreatDoor
namespace Go.Proofs.YtohacgmhmbijmaaGreatDoor
attribute [local irreducible] Region.wanted
set_option linter.unusedVariables false
set_option maxRecDepth 100000
set_option maxHeartbeats 8000000
theorem Fy:(Tryz.prog.info? 30).map (·.size)=some 1:=by kernel_rfl
theorem Ff:AS Tryz.prog 24 0 0 3:=AS.mk' _ _ 1 Tryz.underlying24 rfl rfl rfl AA (by decide)
theorem JE:AS Tryz.prog 24 1 1 3:=AS.mk' _ _ 1 Tryz.underlying24 rfl rfl rfl AA (by decide)
theorem GH:AS Tryz.prog 24 2 2 22:=AS.mk' _ _ 1 Tryz.underlying24 rfl rfl rfl AA (by decide)
theorem Ea:(Tryz.prog.info? 3).map (·.size)=some 1:=by kernel_rfl
theorem Qo:AS Tryz.prog 32 0 0 29:=AS.mk' _ _ 16 Tryz.underlying32 rfl rfl rfl AA (by decide)
theorem Vt:AS Tryz.prog 32 1 16 30:=AS.mk' _ _ 1 Tryz.underlying32 rfl rfl rfl AA (by decide)
theorem Qp:AS Tryz.prog 34 0 0 32:=AS.mk' _ _ 17 Tryz.underlying34 rfl rfl rfl AA (by decide)
theorem Qq:AS Tryz.prog 34 1 17 32:=AS.mk' _ _ 17 Tryz.underlying34 rfl rfl rfl AA (by decide)
theorem WF:(Tryz.prog.info? 5).map (·.size)=some 1:=by kernel_rfl
theorem Qr:AS Tryz.prog 37 0 0 3:=AS.mk' _ _ 1 Tryz.underlying37 rfl rfl rfl AA (by decide)
theorem Qs:AS Tryz.prog 37 1 1 3:=AS.mk' _ _ 1 Tryz.underlying37 rfl rfl rfl AA (by decide)
theorem Vu:AS Tryz.prog 37 2 2 3:=AS.mk' _ _ 1 Tryz.underlying37 rfl rfl rfl AA (by decide)
theorem Qt:AS Tryz.prog 37 3 3 26:=AS.mk' _ _ 64 Tryz.underlying37 rfl rfl rfl AA (by decide)
theorem Vv:AS Tryz.prog 37 4 67 34:=AS.mk' _ _ 34 Tryz.underlying37 rfl rfl rfl AA (by decide)
theorem Kt:AS Tryz.prog 37 5 101 3:=AS.mk' _ _ 1 Tryz.underlying37 rfl rfl rfl AA (by decide)
theorem Qu:AS Tryz.prog 37 6 102 35:=AS.mk' _ _ 1 Tryz.underlying37 rfl rfl rfl AA (by decide)
theorem Jh:(Tryz.prog.info? 26).map (·.size)=some 64:=by kernel_rfl
theorem SY:(Tryz.prog.info? 35).map (·.size)=some 1:=by kernel_rfl
theorem eh:(Tryz.prog.info? 94).map (·.size)=some 2:=by kernel_rfl
theorem Nf:AS Tryz.prog 94 0 0 3:=AS.mk' _ _ 1 Tryz.underlying94 rfl rfl rfl AA (by decide)
theorem Ng:AS Tryz.prog 94 1 1 3:=AS.mk' _ _ 1 Tryz.underlying94 rfl rfl rfl AA (by decide)
theorem SN:AS Tryz.prog 107 0 0 3:=AS.mk' _ _ 1 Tryz.underlying107 rfl rfl rfl AA (by decide)
theorem SO:AS Tryz.prog 107 1 1 3:=AS.mk' _ _ 1 Tryz.underlying107 rfl rfl rfl AA (by decide)
theorem eg:(Tryz.prog.info? 32).map (·.size)=some 17:=by kernel_rfl
theorem KB:AS Tryz.prog 140 0 0 133:=AS.mk' _ _ 1 Tryz.underlying140 rfl rfl rfl AA (by decide)
theorem IQ:AS Tryz.prog 140 1 1 137:=AS.mk' _ _ 1 Tryz.underlying140 rfl rfl rfl AA (by decide)
theorem Ni:(Tryz.prog.info? 155).map (·.size)=some 3:=by kernel_rfl
theorem KC:AS Tryz.prog 155 0 0 3:=AS.mk' _ _ 1 Tryz.underlying155 rfl rfl rfl AA (by decide)
theorem NY:AS Tryz.prog 155 1 1 3:=AS.mk' _ _ 1 Tryz.underlying155 rfl rfl rfl AA (by decide)
theorem SP:AS Tryz.prog 155 2 2 3:=AS.mk' _ _ 1 Tryz.underlying155 rfl rfl rfl AA (by decide)
theorem NZ:AS Tryz.prog 159 0 0 3:=AS.mk' _ _ 1 Tryz.underlying159 rfl rfl rfl AA (by decide)
theorem Na:AS Tryz.prog 159 1 1 30:=AS.mk' _ _ 1 Tryz.underlying159 rfl rfl rfl AA (by decide)
theorem Qy:(Tryz.prog.info? 159).map (·.size)=some 2:=by kernel_rfl
theorem ZJ:AS Tryz.prog 181 0 0 172:=AS.mk' _ _ 1 Tryz.underlying181 rfl rfl rfl AA (by decide)
theorem ZK:AS Tryz.prog 181 1 1 172:=AS.mk' _ _ 1 Tryz.underlying181 rfl rfl rfl AA (by decide)
theorem SQ:AS Tryz.prog 184 0 0 35:=AS.mk' _ _ 1 Tryz.underlying184 rfl rfl rfl AA (by decide)
theorem KD:AS Tryz.prog 184 1 1 3:=AS.mk' _ _ 1 Tryz.underlying184 rfl rfl rfl AA (by decide)
theorem SR:AS Tryz.prog 197 0 0 3:=AS.mk' _ _ 1 Tryz.underlying197 rfl rfl rfl AA (by decide)
theorem SS:AS Tryz.prog 197 1 1 3:=AS.mk' _ _ 1 Tryz.underlying197 rfl rfl rfl AA (by decide)
theorem ST:AS Tryz.prog 197 2 2 3:=AS.mk' _ _ 1 Tryz.underlying197 rfl rfl rfl AA (by decide)
theorem Nb:AS Tryz.prog 202 0 0 199:=AS.mk' _ _ 1 Tryz.underlying202 rfl rfl rfl AA (by decide)
theorem Nd:AS Tryz.prog 202 1 1 200:=AS.mk' _ _ 1 Tryz.underlying202 rfl rfl rfl AA (by decide)
theorem ct:(Tryz.prog.info? 197).map (·.size)=some 3:=by kernel_rfl
end Go.Proofs.YtohacgmhmbijmaaGreatDoor
