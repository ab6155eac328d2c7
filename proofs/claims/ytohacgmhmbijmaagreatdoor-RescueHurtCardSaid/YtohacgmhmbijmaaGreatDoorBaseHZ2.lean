/- What the laws RescueHurt need, part 2. -/
import Derived.Test.YtohacgmhmbijmaaGreatDoorBaseHZ1
namespace Go.Proofs.YtohacgmhmbijmaaGreatDoor
open Go.RowKit
set_option linter.unusedVariables false
set_option maxRecDepth 100000
set_option maxHeartbeats 8000000
def DW(P:Program)(op:Op)(ty:TypeId)(a:Act)(v:Value):Prop:=
 ∀(d:Option Tmp)(pos:String)(af:Array Edge)(g:Option (Nat×Bool))(w:World),(execOp a.eval ⟨d,op,ty,pos,af,g⟩).run P w= .ok (.value v) w
section
variable{P:Program}{ops:Array Oper}{Q:Exit→Act→World→Prop}{rest:List Oper}{a:Act}{w:World}{d:Option Tmp}{op:Op}{ty:TypeId}{pos:String}{af:Array Edge}{g:Option (Nat×Bool)}
theorem Ih(v:Value)(K:Act→World→Prop)(h:K (a.put d v) w):(Oper.mk d (.move (.const v)) ty pos af g).wp P a w K Q:=h
theorem Ag(v:Value)(hv:DW P op ty a v)(hw:Region.wanted ⟨d,op,ty,pos,af,g⟩ (yielded ops a.tmps)=true)(h:(Oper.mk d (.move (.const v)) ty pos af g).wp P a w (wpList P ops Q rest) Q):wpList P ops Q (⟨d,op,ty,pos,af,g⟩::rest) a w:=by
 refine Bj hw ?_
 unfold Oper.wp
 rw [hv d pos af g w]
 exact h
theorem cR(b:Bool)(hv:DW P op ty a (.bool b))(hw:Region.wanted ⟨d,op,ty,pos,af,g⟩ (yielded ops a.tmps)=true)(ht:b=true→(Oper.mk d (.move (.const (.bool true))) ty pos af g).wp P a w (wpList P ops Q rest) Q)
 (hf:b=false→(Oper.mk d (.move (.const (.bool false))) ty pos af g).wp P a w (wpList P ops Q rest) Q):wpList P ops Q (⟨d,op,ty,pos,af,g⟩::rest) a w:=by
 cases b
 ·exact Ag _ hv hw (hf rfl)
 exact Ag _ hv hw (ht rfl)
theorem CG(p:Prop)[Decidable p](hv:DW P op ty a (.bool (decide p)))(hw:Region.wanted ⟨d,op,ty,pos,af,g⟩ (yielded ops a.tmps)=true)(ht:p→(Oper.mk d (.move (.const (.bool true))) ty pos af g).wp P a w (wpList P ops Q rest) Q)
 (hf:¬p→(Oper.mk d (.move (.const (.bool false))) ty pos af g).wp P a w (wpList P ops Q rest) Q):wpList P ops Q (⟨d,op,ty,pos,af,g⟩::rest) a w:=
 cR _ hv hw (fun h=>ht (of_decide_eq_true h)) (fun h=>hf (of_decide_eq_false h))
theorem AB{d:Tmp}{v:Value}(h:(Oper.mk (some d) (.move (.const v)) 0 "" #[] none).wp P a w (wpList P ops Q rest) Q):wpList P ops Q rest (a.put (some d) v) w:=h
theorem AI{md:Region.Mode}{D:List Nat}{S:World→Prop}{fuel:Nat}{listed:Array Bool}{d:Tmp}{v:Value}(h:(Oper.mk (some d) (.move (.const v)) 0 "" #[] none).wp P a w (Ab P md ops Q D S fuel listed) Q):Ab P md ops Q D S fuel listed (a.put (some d) v) w:=h
theorem A6{c x y:Operand}(hc:a.eval c= .bool true)(hw:Region.wanted ⟨d, .pick c x y,ty,pos,af,g⟩ (yielded ops a.tmps)=true)(h:(Oper.mk d (.move x) ty pos af g).wp P a w (wpList P ops Q rest) Q):wpList P ops Q (⟨d, .pick c x y,ty,pos,af,g⟩::rest) a w:=by
 refine Bj hw ?_
 unfold Oper.wp execOp at*
 simp only [hc,asBool,Sem.run_bind,Sem.run_pure,Result.andThen_ok,if_true] at*
 exact h
theorem A3{c x y:Operand}(hc:a.eval c= .bool false)(hw:Region.wanted ⟨d, .pick c x y,ty,pos,af,g⟩ (yielded ops a.tmps)=true)(h:(Oper.mk d (.move y) ty pos af g).wp P a w (wpList P ops Q rest) Q):wpList P ops Q (⟨d, .pick c x y,ty,pos,af,g⟩::rest) a w:=by
 refine Bj hw ?_
 unfold Oper.wp execOp at*
 simp only [hc,asBool,Sem.run_bind,Sem.run_pure,Result.andThen_ok,Bool.false_eq_true,if_false] at*
 exact h
end
def Bk(z:Int)(j:Nat):Prop:=z=(j:Int)
theorem Bk.cast{j:Nat}:Bk (j:Int) j:=rfl
theorem Bk.add{x y:Int}{i j:Nat}(h:Bk x i)(k:Bk y j):Bk (x+y) (i+j):=by unfold Bk at*;omega
theorem Bk.mul{x y:Int}{i j:Nat}(h:Bk x i)(k:Bk y j):Bk (x*y) (i*j):=by unfold Bk at*;rw [h,k];push_cast;rfl
theorem Bk.div{x y:Int}{i j:Nat}(h:Bk x i)(k:Bk y j):Bk (x/y) (i/j):=by unfold Bk at*;rw [h,k];push_cast;rfl
theorem Bk.mod{x y:Int}{i j:Nat}(h:Bk x i)(k:Bk y j):Bk (x%y) (i%j):=by unfold Bk at*;rw [h,k];push_cast;rfl
theorem Bk.min{x y:Int}{i j:Nat}(h:Bk x i)(k:Bk y j):Bk (Min.min x y) (Min.min i j):=by unfold Bk at*;omega
theorem Bk.max{x y:Int}{i j:Nat}(h:Bk x i)(k:Bk y j):Bk (Max.max x y) (Max.max i j):=by unfold Bk at*;omega
class CK(z:Int)(j:outParam Nat):Prop where
 out:Bk z j
instance CK.cast{j:Nat}:CK (j:Int) j:=⟨rfl⟩
instance CK.l0:CK 0 0:=⟨rfl⟩
instance CK.l1:CK 1 1:=⟨rfl⟩
instance CK.l2:CK 2 2:=⟨rfl⟩
instance CK.l3:CK 3 3:=⟨rfl⟩
instance CK.l4:CK 4 4:=⟨rfl⟩
instance CK.l5:CK 5 5:=⟨rfl⟩
instance CK.l6:CK 6 6:=⟨rfl⟩
instance CK.l7:CK 7 7:=⟨rfl⟩
instance CK.l8:CK 8 8:=⟨rfl⟩
instance CK.l256:CK 256 256:=⟨rfl⟩
instance CK.add{x y:Int}{i j:Nat}[h:CK x i][k:CK y j]:CK (x+y) (i+j):=⟨h.out.add k.out⟩
instance CK.mul{x y:Int}{i j:Nat}[h:CK x i][k:CK y j]:CK (x*y) (i*j):=⟨h.out.mul k.out⟩
instance CK.div{x y:Int}{i j:Nat}[h:CK x i][k:CK y j]:CK (x/y) (i/j):=⟨h.out.div k.out⟩
instance CK.mod{x y:Int}{i j:Nat}[h:CK x i][k:CK y j]:CK (x%y) (i%j):=⟨h.out.mod k.out⟩
theorem Bk.auto{z:Int}{j:Nat}[h:CK z j]:Bk z j:=h.out
theorem Bk.sub{x y:Int}{i j:Nat}(h:Bk x i)(k:Bk y j)(l:j≤i):Bk (x-y) (i-j):=by unfold Bk at*;omega
theorem Bk.toNat{x:Int}(h:0≤x):Bk x x.toNat:=by unfold Bk;omega
section
variable{P:Program}{a:Act}{x y z:Operand}{t u ty:TypeId}{m n:Int}{k:IntKind}
theorem V.as{op:Op}{m':Int}(h:DW P op ty a (.int k m))(e:m=m'):DW P op ty a (.int k m'):=e▸ h
theorem V.add(hx:a.eval x= .int k m)(hy:a.eval y= .int k n):DW P (.binOp .add t x y u) ty a (.int k (k.wrap (m+n))):=fun d pos af g w=>by
 simp only [execOp,hx,hy,binOp_add,Op.intArith,eqGuard];rfl
theorem V.sub(hx:a.eval x= .int k m)(hy:a.eval y= .int k n):DW P (.binOp .sub t x y u) ty a (.int k (k.wrap (m-n))):=fun d pos af g w=>by
 simp only [execOp,hx,hy,binOp_sub,Op.intArith,eqGuard];rfl
theorem V.mul(hx:a.eval x= .int k m)(hy:a.eval y= .int k n):DW P (.binOp .mul t x y u) ty a (.int k (k.wrap (m*n))):=fun d pos af g w=>by
 simp only [execOp,hx,hy,binOp_mul,Op.intArith,eqGuard];rfl
theorem V.addI(hx:a.eval x= .int .i64 m)(hy:a.eval y= .int .i64 n)(h: -9223372036854775808≤m+n∧m+n≤9223372036854775807):DW P (.binOp .add t x y u) ty a (.int .i64 (m+n)):=by
 have:=V.add (P:=P) (t:=t) (u:=u) (ty:=ty) hx hy;rwa [IntWalk.i64_in _ h] at this
theorem V.subR(hk:k≠ .i64)(hx:a.eval x= .int k m)(hy:a.eval y= .int k n):DW P (.binOp .sub t x y u) ty a (.int k (k.wrap (m-n))):=V.sub hx hy
theorem V.subI(hx:a.eval x= .int .i64 m)(hy:a.eval y= .int .i64 n)(h: -9223372036854775808≤m-n∧m-n≤9223372036854775807):DW P (.binOp .sub t x y u) ty a (.int .i64 (m-n)):=by
 have:=V.sub (P:=P) (t:=t) (u:=u) (ty:=ty) hx hy;rwa [IntWalk.i64_in _ h] at this
theorem V.mulI(hx:a.eval x= .int .i64 m)(hy:a.eval y= .int .i64 n)(h: -9223372036854775808≤m*n∧m*n≤9223372036854775807):DW P (.binOp .mul t x y u) ty a (.int .i64 (m*n)):=by
 have:=V.mul (P:=P) (t:=t) (u:=u) (ty:=ty) hx hy;rwa [IntWalk.i64_in _ h] at this
theorem V.neg(hx:a.eval x= .int .i64 n)(h: -9223372036854775807≤n∧n≤9223372036854775807):DW P (.unOp .neg t x) ty a (.int .i64 (-n)):=fun d pos af g w=>by
 have e:Op.unary .neg (.int .i64 n)=pure (.int .i64 (IntKind.i64.wrap (0-n))):=rfl
 simp only [execOp,hx,e,Int.zero_sub,IntWalk.i64_in (-n) (by omega)];rfl
theorem V.quo(hx:a.eval x= .int .i64 m)(hy:a.eval y= .int .i64 n)(h:0≤m∧m≤9223372036854775807)(h2:0<n):DW P (.binOp .quo t x y u) ty a (.int .i64 (m/n)):=fun d pos af g w=>by
 have e1:m.tdiv n=m/n:=Int.tdiv_eq_ediv_of_nonneg h.1
 have e2:0≤m/n:=Int.ediv_nonneg h.1 (by omega)
 have e3:m/n≤m:=Int.ediv_le_self n h.1
 have hn:n≠0:=by omega
 simp only [execOp,hx,hy,binOp_quo,Op.intDiv,eqGuard,if_neg hn,e1,IntWalk.i64_in (m/n) (by omega)];rfl
theorem V.rem(hx:a.eval x= .int k m)(hy:a.eval y= .int k n)(h:0≤m)(h2:0<n):DW P (.binOp .rem t x y u) ty a (.int k (m%n)):=fun d pos af g w=>by
 have hn:n≠0:=by omega
 simp only [execOp,hx,hy,binOp_rem,Op.intDiv,eqGuard,if_neg hn,Int.tmod_eq_emod_of_nonneg h];rfl
theorem V.shl{yk:IntKind}{j:Nat}(hx:a.eval x= .int k m)(hy:a.eval y= .int yk n)(hj:Bk n j)(h:j<64)(hk:k.bits=64):DW P (.binOp .shl t x y u) ty a (.int k (k.wrap (m*2^j))):=fun d pos af g w=>by
 unfold Bk at hj
 have h0:¬n<0:=by omega
 have hm:Min.min n.toNat k.bits=j:=by omega
 simp only [execOp,hx,hy,binOp_shl,Op.shift,eqGuard,if_neg h0,hm];rfl
theorem V.shlI{yk:IntKind}{j:Nat}(hx:a.eval x= .int .i64 m)(hy:a.eval y= .int yk n)(hj:Bk n j)(h:j<64)(h1: -9223372036854775808≤m*2^j∧m*2^j≤9223372036854775807):DW P (.binOp .shl t x y u) ty a (.int .i64 (m*2^j)):=by
 have:=V.shl (P:=P) (t:=t) (u:=u) (ty:=ty) hx hy hj h rfl;rwa [IntWalk.i64_in _ h1] at this
theorem V.shl1{yk:IntKind}{j:Nat}(hx:a.eval x= .int .i64 1)(hy:a.eval y= .int yk n)(hj:Bk n j)(h:j<63):DW P (.binOp .shl t x y u) ty a (.int .i64 (2^j)):=by
 have e:(2:Int)^j≤4611686018427387904:=by
  have:=Nat.pow_le_pow_right (n:=2) (by omega) (show j≤62 by omega)
  have h2:(2:Int)^j=((2^j:Nat):Int):=by push_cast;rfl
  omega
 have e0:(0:Int)≤2^j:=Int.pow_nonneg (by omega)
 have:=V.shl (P:=P) (t:=t) (u:=u) (ty:=ty) hx hy hj (by omega) rfl
 rwa [Int.one_mul,IntWalk.i64_in _ (by omega)] at this
theorem V.shr{yk:IntKind}{j:Nat}(hx:a.eval x= .int k m)(hy:a.eval y= .int yk n)(hj:Bk n j)(h:j<64)(hk:k.bits=64):DW P (.binOp .shr t x y u) ty a (.int k (m/2^j)):=fun d pos af g w=>by
 unfold Bk at hj
 have e:m.fdiv (2^j)=m/2^j:=Int.fdiv_eq_ediv_of_nonneg _ (Int.pow_nonneg (by omega))
 have h0:¬n<0:=by omega
 have hm:Min.min n.toNat k.bits=j:=by omega
 simp only [execOp,hx,hy,binOp_shr,Op.shift,eqGuard,if_neg h0,hm,e];rfl
theorem V.and(hx:a.eval x= .int k m)(hy:a.eval y= .int k n):DW P (.binOp .and t x y u) ty a (.int k (bits .and k m n)):=fun d pos af g w=>by
 simp only [execOp,hx,hy,binOp_and,intBits_and,eqGuard];rfl
theorem V.or(hx:a.eval x= .int k m)(hy:a.eval y= .int k n):DW P (.binOp .or t x y u) ty a (.int k (bits .or k m n)):=fun d pos af g w=>by
 simp only [execOp,hx,hy,binOp_or,intBits_or,eqGuard];rfl
theorem V.eql(hx:a.eval x= .int k m)(hy:a.eval y= .int k n):DW P (.binOp .eql t x y u) ty a (.bool (decide (m=n))):=fun d pos af g w=>by
 simp only [execOp,hx,hy,binOp_eql,eqGuard_at_int];rfl
theorem V.neq(hx:a.eval x= .int k m)(hy:a.eval y= .int k n):DW P (.binOp .neq t x y u) ty a (.bool (decide (m≠n))):=fun d pos af g w=>by
 simp only [execOp,hx,hy,binOp_neq,eqGuard_at_int,ne_eq,decide_not];rfl
theorem V.lss(hx:a.eval x= .int k m)(hy:a.eval y= .int k n):DW P (.binOp .lss t x y u) ty a (.bool (decide (m<n))):=fun d pos af g w=>by
 simp only [execOp,hx,hy,binOp_lss,eqGuard];rfl
theorem V.leq(hx:a.eval x= .int k m)(hy:a.eval y= .int k n):DW P (.binOp .leq t x y u) ty a (.bool (decide (m≤n))):=fun d pos af g w=>by
 simp only [execOp,hx,hy,binOp_leq,eqGuard];rfl
theorem V.gtr(hx:a.eval x= .int k m)(hy:a.eval y= .int k n):DW P (.binOp .gtr t x y u) ty a (.bool (decide (n<m))):=fun d pos af g w=>by
 simp only [execOp,hx,hy,binOp_gtr,eqGuard];rfl
theorem V.geq(hx:a.eval x= .int k m)(hy:a.eval y= .int k n):DW P (.binOp .geq t x y u) ty a (.bool (decide (n≤m))):=fun d pos af g w=>by
 simp only [execOp,hx,hy,binOp_geq,eqGuard];rfl
theorem V.not{b:Bool}(hx:a.eval x= .bool b):DW P (.unOp .not t x) ty a (.bool (!b)):=fun d pos af g w=>by
 simp only [execOp,hx,Op.unary];rfl
theorem V.notD{p:Prop}[Decidable p](hx:a.eval x= .bool (decide p)):DW P (.unOp .not t x) ty a (.bool (decide (¬p))):=by
 rw [decide_not];exact V.not hx
theorem V.convI{k':IntKind}(hs:(P.underlying t).isSome=true)(hd:P.underlying u=some (.int k'))(hx:a.eval x= .int k m)(h:k'.wrap m=m):DW P (.convert t u x) ty a (.int k' m):=fun d pos af g w=>by
 have e:P.intKind u=k':=by simp [Program.intKind,hd]
 have e2:=run_convert_int (P:=P) w t u k m hs (by rw [e];exact hd)
 rw [e,h] at e2
 simp only [execOp,hx,Sem.run_bind,e2,Result.andThen_ok,Sem.run_pure]
theorem V.conv{k':IntKind}(hs:(P.underlying t).isSome=true)(hd:P.underlying u=some (.int k'))(hx:a.eval x= .int k m):DW P (.convert t u x) ty a (.int k' (k'.wrap m)):=fun d pos af g w=>by
 have e:P.intKind u=k':=by simp [Program.intKind,hd]
 have e2:=run_convert_int (P:=P) w t u k m hs (by rw [e];exact hd)
 rw [e] at e2
 simp only [execOp,hx,Sem.run_bind,e2,Result.andThen_ok,Sem.run_pure]
theorem V.extract{vs:List Value}{i:Nat}{v:Value}(hx:a.eval x= .tuple vs.toArray)(hv:vs[i]? =some v):DW P (.extract x i) ty a v:=fun d pos af g w=>by
 have e:(vs.toArray)[i]? =some v:=by simpa using hv
 simp only [execOp,hx,Instr.extract,e];rfl
theorem V.nilCheck{p:Addr}(hx:a.eval x= .pointer (some p)):DW P (.nilCheck x) ty a (.pointer (some p)):=fun d pos af g w=>by
 simp only [execOp,hx];rfl
theorem V.len{ad:Option Addr}{n c:Nat}{e:TypeId}(ht:P.underlying t=some (.slice e))(hx:a.eval x= .slice ad n c):DW P (.call {callee:= .builtin .len,args:=#[x],argTypes:=#[t]}) ty a (.int .i64 n):=fun d pos af g w=>by
 have e:P.elem t=e:=by simp [Program.elem,ht]
 have e2:=run_len_slice (P:=P) w t ty ad n c (by rw [e];exact ht)
 simp only [execOp,resolve,invoke,builtin,Sem.run_bind,Sem.run_pure,Result.andThen_ok,List.map_toArray,List.map_cons,List.map_nil,hx,e2]
 rfl
theorem V.max{ts:Array TypeId}(hx:a.eval x= .int k m)(hy:a.eval y= .int k n):DW P (.call {callee:= .builtin .max,args:=#[x,y],argTypes:=ts}) ty a (.int k (Max.max m n)):=fun d pos af g w=>by
 simp only [execOp,resolve,invoke,builtin,Sem.run_bind,Sem.run_pure,Result.andThen_ok,List.map_toArray,List.map_cons,List.map_nil,hx,hy,L6]
theorem V.min{ts:Array TypeId}(hx:a.eval x= .int k m)(hy:a.eval y= .int k n):DW P (.call {callee:= .builtin .min,args:=#[x,y],argTypes:=ts}) ty a (.int k (Min.min m n)):=fun d pos af g w=>by
 simp only [execOp,resolve,invoke,builtin,Sem.run_bind,Sem.run_pure,Result.andThen_ok,List.map_toArray,List.map_cons,List.map_nil,hx,hy,L7]
theorem V.indexSl{b off n c j s js q:Nat}{e:TypeId}{i:Int}(ht:P.underlying t=some (.slice e))(hs:(P.info? e).map (·.size)=some s)(hx:a.eval x= .slice (some ⟨b,off,none⟩) n c)(hy:a.eval y= .int k i)(hj:Bk i j)(hn:j<n)(hjs:j*s=js)(hq:off+js=q):
 DW P (.indexAddr t x y) ty a (.pointer (some ⟨b,q,none⟩)):=fun d pos af g w=>by
 unfold Bk at hj
 subst hjs
 have e0:P.elem t=e:=by simp [Program.elem,ht]
 have e2:=run_indexAt_slice (P:=P) w t ⟨b,off,none⟩ n c k i (by rw [e0];exact ht)
 rw [if_pos (by omega),e0,Bo w hs,Result.andThen_ok,Addr.add_mid,show i.toNat=j by omega,hq] at e2
 simp only [execOp,hx,hy,Sem.run_bind,e2,Result.andThen_ok,Sem.run_pure]
theorem V.indexAr{b off n j s js q:Nat}{e:TypeId}{i:Int}(ht:P.underlying t=some (.array n e))(hs:(P.info? e).map (·.size)=some s)(hx:a.eval x= .pointer (some ⟨b,off,none⟩))(hy:a.eval y= .int k i)(hj:Bk i j)(hn:j<n)(hjs:j*s=js)(hq:off+js=q):
 DW P (.indexAddr t x y) ty a (.pointer (some ⟨b,q,none⟩)):=fun d pos af g w=>by
 unfold Bk at hj
 subst hjs
 have e0:P.elem t=e:=by simp [Program.elem,ht]
 have e1:P.arrayLen t=n:=by simp [Program.arrayLen,ht]
 have e2:=run_indexAt_array (P:=P) w t ⟨b,off,none⟩ k i (by rw [e0,e1];exact ht)
 rw [e1,if_pos (by omega),e0,Bo w hs,Result.andThen_ok,Addr.add_mid,show i.toNat=j by omega,hq] at e2
 simp only [execOp,hx,hy,Sem.run_bind,e2,Result.andThen_ok,Sem.run_pure]
theorem V.indexIv{l:List Int}{n j:Nat}{e:TypeId}{i:Int}(ht:P.underlying t=some (.array n e))(he:P.underlying e=some (.int .i64))(hs:(P.info? e).map (·.size)=some 1)(hx:a.eval x= .agg (iv l))(hy:a.eval y= .int k i)(hl:Al l n)(hj:Bk i j)(hn:j<n):
 DW P (.index t x y) ty a (.int .i64 (AJ l j)):=fun d pos af g w=>by
 unfold Bk at hj
 have e0:P.elem t=e:=by simp [Program.elem,ht]
 have e1:P.arrayLen t=n:=by simp [Program.arrayLen,ht]
 have e3:(isAgg e).run P w= .ok false w:=by simp [isAgg,run_underlying he]
 have e2:=L5 (P:=P) w t (iv l) k i (by rw [e0,e1];exact ht)
 rw [e1,if_pos (by omega),e0,Bo w hs,Result.andThen_ok,show i.toNat=j by omega,Nat.mul_one,FC,e3,Result.andThen_ok,Fz l j (by rw [hl.out];exact hn)] at e2
 simp only [execOp,hx,hy,Sem.run_bind,e2,Result.andThen_ok,Sem.run_pure,Bool.false_eq_true,if_false]
end
section
variable{P:Program}{ops:Array Oper}{Q:Exit→Act→World→Prop}{rest:List Oper}{a:Act}{W w:World}{rs:List Ar}{d:Option Tmp}{x y:Operand}{t ty:TypeId}{pos:String}{af:Array Edge}{g:Option (Nat×Bool)}{k:IntKind}
theorem LY{ad:Option Addr}{n c j s:Nat}{cs:List Value}{e:TypeId}{i:Int}(hv:Sl W s (.slice ad n c) n cs)(ht:P.underlying t=some (.slice e))(hs:(P.info? e).map (·.size)=some s)(hx:a.eval x= .slice ad n c)(hy:a.eval y= .int k i)(hj:Bk i j)(hn:j<n)
 (hw:Region.wanted ⟨d, .indexAddr t x y,ty,pos,af,g⟩ (yielded ops a.tmps)=true)
 (h:∀b o,W.rangeAt b o ((cs.drop (j*s)).take s)→(Oper.mk d (.move (.const (.pointer (some ⟨b,o,none⟩)))) ty pos af g).wp P a w (wpList P ops Q rest) Q):wpList P ops Q (⟨d, .indexAddr t x y,ty,pos,af,g⟩::rest) a w:=by
 obtain ⟨hl,a',c',e1,_,_,hor⟩:=hv
 cases e1
 rcases hor with h0|⟨b,off,rfl,hc⟩
 ·omega
 refine Ag _ (V.indexSl (q:=off+j*s) ht hs hx hy hj hn rfl rfl) hw (h b _ fun m v hv=>?_)
 rw [List.getElem?_take] at hv
 split at hv
 ·rename_i hm
  rw [List.getElem?_drop] at hv
  have hjs:j*s+s≤n*s:=by have:=Nat.mul_le_mul_right s hn;rw [Nat.succ_mul] at this;exact this
  rw [Nat.add_assoc,hc (j*s+m) (by omega),hv]
 cases hv
theorem Di{ad:Option Addr}{n c j:Nat}{l:List Int}{e:TypeId}{i:Int}(hv:Sl W 1 (.slice ad n c) n (l.map (Value.int .i64)))(ht:P.underlying t=some (.slice e))(hs:(P.info? e).map (·.size)=some 1)(hx:a.eval x= .slice ad n c)(hy:a.eval y= .int k i)(hj:Bk i j)(hn:j<n)
 (hw:Region.wanted ⟨d, .indexAddr t x y,ty,pos,af,g⟩ (yielded ops a.tmps)=true)
 (h:∀b o,W.cell? ⟨b,o,none⟩=some (.int .i64 (AJ l j))→(Oper.mk d (.move (.const (.pointer (some ⟨b,o,none⟩)))) ty pos af g).wp P a w (wpList P ops Q rest) Q):wpList P ops Q (⟨d, .indexAddr t x y,ty,pos,af,g⟩::rest) a w:=
 LY hv ht hs hx hy hj hn hw fun b o hr=>h b o (by
  have hl:l.length=n:=by have:=hv.1;simpa using this
  have:=hr 0 (.int .i64 (AJ l j)) (by simp [AJ,List.getD,List.getElem?_drop,hl,hn])
  simpa using this)
theorem LW{ad:Option Addr}{n c j s q:Nat}{cs:List Value}{e et:TypeId}{i:Int}{rs':List Ar}(hS:St W w rs)(hx:a.eval x= .slice ad n c)(hp:AT (own et s ad n c cs) rs rs')(ht:P.underlying t=some (.slice e))(hs:(P.info? e).map (·.size)=some s)(hy:a.eval y= .int k i)(hj:Bk i j)(hn:j<n)(hq:j*s=q)
 (hw:Region.wanted ⟨d, .indexAddr t x y,ty,pos,af,g⟩ (yielded ops a.tmps)=true)
 (h:∀b,ad=some ⟨b,0,none⟩→(Oper.mk d (.move (.const (.pointer (some ⟨b,q,none⟩)))) ty pos af g).wp P a w (wpList P ops Q rest) Q):wpList P ops Q (⟨d, .indexAddr t x y,ty,pos,af,g⟩::rest) a w:=by
 obtain ⟨b,rfl⟩:=Ba hS hp (by omega)
 exact Ag _ (V.indexSl (q:=q) ht hs hx hy hj hn hq (Nat.zero_add _)) hw (h b rfl)
end
structure AS(P:Program)(s:TypeId)(f:Nat)(fo:Nat)(ft:TypeId):Prop where
 ex:∃fs fl,P.underlying s=some (.struct fs)∧fs[f]? =some fl∧fl.offset=fo∧fl.type=ft
 sz:∃n,(P.info? ft).map (·.size)=some n∧n≠0
section
variable{P:Program}{a:Act}{x:Operand}{t ft ty:TypeId}{f fo:Nat}
theorem AS.mk'(fs:Array Field)(fl:Field)(n:Nat)(h1:P.underlying t=some (.struct fs))(h2:fs[f]? =some fl)(h3:fl.offset=fo)(h4:fl.type=ft)(h5:(P.info? ft).map (·.size)=some n)(h6:n≠0):AS P t f fo ft:=
 ⟨⟨fs,fl,h1,h2,h3,h4⟩,⟨n,h5,h6⟩⟩
theorem V.fieldAddr{b off q:Nat}(hf:AS P t f fo ft)(hx:a.eval x= .pointer (some ⟨b,off,none⟩))(hq:off+fo=q):DW P (.fieldAddr t x f) ty a (.pointer (some ⟨b,q,none⟩)):=fun d pos af g w=>by
 obtain ⟨⟨fs,fl,h1,h2,rfl,rfl⟩,n,h3,h4⟩:=hf
 simp only [execOp,hx,Instr.fieldAt,Instr.sureAddr,Sem.run_bind,run_underlying h1,Result.andThen_ok,h2,fieldPlace,Bo w h3,Sem.run_pure]
 rw [if_neg h4]
 simp only [Sem.run_pure,Result.andThen_ok,Addr.add_mid,hq]
end
end Go.Proofs.YtohacgmhmbijmaaGreatDoor
/- Short Ef for what the walks say often. -/
namespace Go.Proofs.YtohacgmhmbijmaaGreatDoor
open Go.RowKit
set_option linter.unusedVariables false
set_option maxRecDepth 100000
set_option maxHeartbeats 8000000
theorem AL{r:Ar}{rs rs':List Ar}(h:AT r rs rs':=by (repeat (first|with_reducible exact AT.head|apply AT.tail))):AT r rs rs':=h
theorem AV{xs rs:List Ar}(h:OH xs rs:=by (repeat (first|exact OH.nil|with_reducible exact OH.refl|(apply OH.cons;(case p=>(repeat (first|with_reducible exact AT.head|apply AT.tail))))|apply OH.skip))):OH xs rs:=h
theorem A9{z:Int}{j:Nat}(h:Bk z j:=by (repeat (first|exact Bk.auto|with_reducible apply Bk.add|with_reducible apply Bk.sub|with_reducible apply Bk.mul|with_reducible apply Bk.div|with_reducible apply Bk.mod|with_reducible apply Bk.min|with_reducible apply Bk.max|(with_reducible show (_:Nat)≤_;omega)|exact Bk.toNat (by omega)))):Bk z j:=h
theorem CI{x v:Value}(h:DV x v:=by (first|exact DV.int rfl|exact DV.bool rfl|exact DV.slice rfl|exact DV.pointer rfl|exact DV.string rfl|exact DV.map rfl|exact DV.func rfl)):DV x v:=h
theorem Aj{o:Oper}{i:Nat}{l:List Oper}(h:G0 o i l:=by (repeat (first|with_reducible exact G0.head|apply G0.tail))):G0 o i l:=h
theorem ff{p:Prop}(h:p:=by exact fun _ _ _ _ h=>h):p:=h
theorem Be{p:Prop}(h:p:=by first|exact fun _ _ _ _ h=>h|exact fun _ _ _ _ h=>nomatch h.1):p:=h
theorem AR{p:Prop}(h:False:=by omega):p:=h.elim
theorem Jn{p q:Prop}(h:p)(hn:¬p:=by decide):q:=absurd h hn
theorem AA{α:Type _}{a b:α}(h:a=b:=by kernel_rfl):a=b:=h
theorem A7{a b:Nat}(h:a=b:=by first|with_reducible exact Nat.zero_add _|with_reducible exact Nat.add_zero _|exact rfl):a=b:=h
theorem XP{v:Value}{k:Nat}{cs cs':List Value}(h:EN v k cs cs':=by (repeat (first|with_reducible exact EN.head|apply EN.tail))):EN v k cs cs':=h
theorem EC{l:List Int}{n:Nat}(h:Al l n:=by first|(with_reducible assumption)|exact Al.rep|exact Al.set (by with_reducible assumption)|exact Al.set Al.rep|exact Al.set (Al.set Al.rep)):Al l n:=h
structure Au(p:Prop):Prop where
 out:p
structure dS(c e p q:Prop):Prop where
 t:c→p
 f:e→q
structure G7(T q:Nat→World→Prop):Prop where
 out:∀g w,T g w→q g w
structure JK(T q:World→Prop):Prop where
 out:∀w,T w→q w
structure eY(T q:Option Addr→Nat→World→Prop):Prop where
 out:∀a c w,T a c w→q a c w
structure fK(p:Prop):Prop where
structure fM(n:Nat)(p:Prop):Prop where
structure fL(n:Nat)(p:Prop):Prop where
def Bq(_:Nat)(p:Prop):Prop:=p
section
variable{P:Program}{ops:Array Oper}{Q:Exit→Act→World→Prop}{rest:List Oper}{a:Act}{w:World}{d:Option Tmp}{op:Op}{ty:TypeId}{pos:String}{af:Array Edge}{g:Option (Nat×Bool)}{x:Operand}
theorem Ak(d:Option Tmp)(op:Op)(h:wpList P ops Q (⟨d,op,ty,pos,af,g⟩::rest) a w):wpList P ops Q (⟨d,op,ty,pos,af,g⟩::rest) a w:=h
theorem Io(h:wpList P ops Q (⟨d, .move x,ty,pos,af,g⟩::rest) a w):wpList P ops Q (⟨d, .move x,ty,pos,af,g⟩::rest) a w:=h
theorem fi(h:(Oper.mk d op ty pos af none).wp P a w (wpList P ops Q rest) Q):wpList P ops Q (⟨d,op,ty,pos,af,none⟩::rest) a w:=Bj rfl h
theorem QC(h:wpList P ops Q (⟨d, .assign x,ty,pos,af,g⟩::rest) a w):wpList P ops Q (⟨d, .assign x,ty,pos,af,g⟩::rest) a w:=h
theorem Ad{o:Oper}(h:o.wp P a w (wpList P ops Q rest) Q)(hw:Region.wanted o (yielded ops a.tmps)=true:=by kernel_rfl):wpList P ops Q (o::rest) a w:=Bj hw h
theorem fd(n:Nat)(h:wpList P ops Q (⟨some n,op,ty,pos,af,g⟩::rest) a w):wpList P ops Q (⟨some n,op,ty,pos,af,g⟩::rest) a w:=h
theorem Br{n:Nat}(h:wpList P ops Q (⟨some n,op,ty,pos,af,g⟩::rest) a w):Bq n (wpList P ops Q (⟨some n,op,ty,pos,af,g⟩::rest) a w):=h
theorem fc{o:Oper}:fK (wpList P ops Q (o::rest) a w):=⟨⟩
theorem fb{n:Nat}:fM n (wpList P ops Q (⟨some n,op,ty,pos,af,g⟩::rest) a w):=⟨⟩
theorem fa{n:Nat}{xs:Array Operand}{ts:Array TypeId}:fL n (wpList P ops Q (⟨d, .call ⟨.value (.func n),xs,ts⟩,ty,pos,af,g⟩::rest) a w):=⟨⟩
theorem An{v:Value}(hw:Region.wanted ⟨d,op,ty,pos,af,g⟩ (yielded ops a.tmps)=true)(hv:DW P op ty a v)(h:(Oper.mk d (.move (.const v)) ty pos af g).wp P a w (wpList P ops Q rest) Q):wpList P ops Q (⟨d,op,ty,pos,af,g⟩::rest) a w:=Ag v hv hw h
theorem Ac{v:Value}{d:Tmp}(h:(Oper.mk (some d) (.move (.const v)) 0 "" #[] none).wp P a w (wpList P ops Q rest) Q):∃v',Ending.returned v= .returned v'∧wpList P ops Q rest (a.put (some d) v') w:=⟨v,rfl,h⟩
theorem Fp{W:World}{rs:List Ar}{v:Value}{d:Tmp}(hS:St W w rs)(h:∀w,St W w rs→(Oper.mk (some d) (.move (.const v)) 0 "" #[] none).wp P a w (wpList P ops Q rest) Q):∀e w',(e=Ending.returned v∧Ai w w')→∃v',e= .returned v'∧wpList P ops Q rest (a.put (some d) v') w':=fun _ w' h2=>⟨v,h2.1,h w' (hS.ext h2.2)⟩
theorem At{f:FuncId}{xs:List Operand}{ts:Array TypeId}{R:Ending→World→Prop}(hw:Region.wanted ⟨d, .call ⟨.value (.func f),xs.toArray,ts⟩,ty,pos,af,g⟩ (yielded ops a.tmps)=true)(hcall:∀(args:Array Value)(w:World),(callFunc f args).run P w= .ok (.enter f args) w)(hc:Calls P f (xs.map a.eval).toArray w R)
 (h:∀e w',R e w'→∃v,e= .returned v∧wpList P ops Q rest (a.put d v) w'):wpList P ops Q (⟨d, .call ⟨.value (.func f),xs.toArray,ts⟩,ty,pos,af,g⟩::rest) a w:=AM hcall hw ⟨R,hc,h⟩
end
theorem AG{p:Prop}(k:p)(_:fK p:=by (fail_if_success with_reducible exact fc);exact ⟨⟩):p:=k
theorem AQ(n:Nat){p:Prop}(k:p)(_:fM n p:=by with_reducible exact fb):p:=k
theorem As(n:Nat){p:Prop}(k:p)(_:fL n p:=by with_reducible exact fa):p:=k
section
variable{p q:Prop}
theorem X0(k:q)(h:Au q→p:=by intro zq9;(first|(with_reducible refine Io ?_)|(with_reducible refine QC ?_));((first|go_big_want|go_step));go_step;go_step;with_reducible exact zq9.out):p:=h ⟨k⟩
theorem X1(k:q)(h:Au q→p:=by intro zq9;(with_reducible refine Io ?_);((first|go_big_want|go_step));go_step;go_step;with_reducible exact zq9.out):p:=h ⟨k⟩
theorem X2(k:q)(h:Au q→p:=by intro zq9;(with_reducible refine Ak _ (.binOp .lss _ _ _ _) ?_);(refine An AA (V.lss rfl rfl) ?_);go_step;with_reducible exact zq9.out):p:=h ⟨k⟩
theorem X3(n:Nat)(k:q)(h:Au q→Bq n p:=by intro zq9;(with_reducible refine Br ?_);(refine An AA (V.extract rfl rfl) ?_);go_step;with_reducible exact zq9.out):p:=h ⟨k⟩
theorem X4(k:q)(h:Au q→p:=by intro zq9;(with_reducible refine Ak _ (.binOp .neq 38 _ _ _) ?_);(refine An AA (V.neq rfl rfl) ?_);go_step;with_reducible exact zq9.out):p:=h ⟨k⟩
theorem X5(n:Nat)(k:q)(h:Au q→Bq n p:=by intro zq9;(with_reducible refine Br ?_);(refine An AA (V.lss rfl rfl) ?_);go_step;with_reducible exact zq9.out):p:=h ⟨k⟩
theorem X6(k:q)(h:Au q→p:=by intro zq9;(with_reducible refine Ak _ (.extract _ _) ?_);(refine An AA (V.extract rfl rfl) ?_);go_step;with_reducible exact zq9.out):p:=h ⟨k⟩
theorem X7(k:q)(h:Au q→p:=by intro zq9;(with_reducible refine Ak _ (.binOp .add _ _ _ _) ?_);(refine An AA (V.addI rfl rfl (by omega)) ?_);go_step;with_reducible exact zq9.out):p:=h ⟨k⟩
theorem X8(k:q)(h:Au q→p:=by intro zq9;(with_reducible refine QC ?_);((first|go_big_want|go_step));go_step;go_step;with_reducible exact zq9.out):p:=h ⟨k⟩
theorem X9(k:q)(h:Au q→p:=by intro zq9;(with_reducible refine Ak _ (.load 3 _) ?_);(refine Ad ?_;apply AX hS 3 _ rfl _ _ rfl (AH rfl) _;(case hp=>exact AL);(case hc=>rfl);refine AB ?_);go_step;with_reducible exact zq9.out):p:=h ⟨k⟩
theorem Ei(n:Nat){c e r:Prop}(k:c→q)(k2:e→r)(h:dS c e q r→Bq n p:=by intro zq9;(with_reducible refine Br ?_);refine CG _ (V.lss rfl rfl) AA zq9.t zq9.f):p:=h ⟨k,k2⟩
theorem FK(n:Nat)(k:q)(h:Au q→Bq n p:=by intro zq9;(with_reducible refine Br ?_);(refine An AA (V.fieldAddr J1 rfl A7) ?_);go_step;with_reducible exact zq9.out):p:=h ⟨k⟩
theorem Fd{T q:World→Prop}(k:∀w,T w→q w)(h:JK T q→p:=by intro zq9;(with_reducible refine Ak _ (.store 26 _ _) ?_);(refine Ad ?_;apply Ms hS 26 _ _ rfl _ rfl 64 (AO rfl) _ _;(case hp=>exact AL);(case hy=>rfl);(case hm=>(repeat (first|assumption|exact Al.rep|apply Al.set|((with_reducible show Al (_::_) _);exact rfl))));(case hd=>exact rfl));intro w9 h9;with_reducible exact zq9.out w9 h9):p:=h ⟨k⟩
theorem Fe(n:Nat)(k:q)(h:Au q→Bq n p:=by intro zq9;(with_reducible refine Br ?_);(refine An AA (V.neq rfl rfl) ?_);go_step;with_reducible exact zq9.out):p:=h ⟨k⟩
theorem Fh(n:Nat){c e r:Prop}(k:c→q)(k2:e→r)(h:dS c e q r→Bq n p:=by intro zq9;(with_reducible refine Br ?_);refine CG _ (V.neq rfl rfl) AA zq9.t zq9.f):p:=h ⟨k,k2⟩
theorem Fi(k:q)(h:Au q→p:=by intro zq9;(with_reducible refine Ak _ (.pick _ _ _) ?_);(refine A6 rfl AA ?_);go_step;with_reducible exact zq9.out):p:=h ⟨k⟩
theorem H3(k:q)(h:Au q→p:=by intro zq9;(with_reducible refine Ak _ (.binOp .gtr _ _ _ _) ?_);(refine An AA (V.gtr rfl rfl) ?_);go_step;with_reducible exact zq9.out):p:=h ⟨k⟩
theorem H6(n:Nat){c e r:Prop}(k:c→q)(k2:e→r)(h:dS c e q r→Bq n p:=by intro zq9;(with_reducible refine Br ?_);refine CG _ (V.eql rfl rfl) AA zq9.t zq9.f):p:=h ⟨k,k2⟩
theorem H7(k:q)(h:Au q→p:=by intro zq9;(with_reducible refine Ak _ (.pick _ _ _) ?_);(refine A3 rfl AA ?_);go_step;with_reducible exact zq9.out):p:=h ⟨k⟩
theorem Il{T q:World→Prop}(k:∀w,T w→q w)(h:JK T q→p:=by intro zq9;(with_reducible refine Ak _ (.store 155 _ _) ?_);(refine Ad ?_;apply CZ hS 155 _ _ rfl _ rfl 3 (AO rfl) _ _;(case hp=>exact AL);(case hy=>rfl);(case hn=>rfl);(case hn'=>rfl);(case hv=>rfl);(case hd=>exact rfl));intro w9 h9;with_reducible exact zq9.out w9 h9):p:=h ⟨k⟩
theorem Im(n:Nat)(k:q)(h:Au q→Bq n p:=by intro zq9;(with_reducible refine Br ?_);(refine An AA (V.fieldAddr NH rfl A7) ?_);go_step;with_reducible exact zq9.out):p:=h ⟨k⟩
theorem It(n:Nat){T q:Nat→World→Prop}(k:∀g w,T g w→q g w)(h:G7 T q→Bq n p:=by intro zq9;(with_reducible refine Br ?_);(refine Ad ?_;apply B4 (o:=⟨some _,_,_,_,_,_⟩) hS 155 rfl (.agg #[.int .i64 0, .int .i64 0, .int .i64 0]) [.int .i64 0, .int .i64 0, .int .i64 0] (fun w=>Tryz.zeroValue155 w) rfl);intro g w9 h9;refine AB ?_;go_step;with_reducible exact zq9.out g w9 h9):p:=h ⟨k⟩
theorem Iu(k:q)(h:Au q→p:=by intro zq9;(with_reducible refine Ak _ (.pick _ _ _) ?_);(first|(refine A6 rfl AA ?_)|(refine A3 rfl AA ?_));go_step;with_reducible exact zq9.out):p:=h ⟨k⟩
theorem Jm(k:q)(h:Au q→p:=by intro zq9;(with_reducible refine Ak _ (.load 26 _) ?_);(refine Ad ?_;apply Ij hS 26 _ rfl _ rfl 64 (AO rfl) _;(case hp=>exact AL);refine AB ?_);go_step;with_reducible exact zq9.out):p:=h ⟨k⟩
theorem Jt(n:Nat){c e r:Prop}(k:c→q)(k2:e→r)(h:dS c e q r→Bq n p:=by intro zq9;(with_reducible refine Br ?_);refine CG _ (V.gtr rfl rfl) AA zq9.t zq9.f):p:=h ⟨k,k2⟩
theorem Ju(k:q)(h:Au q→p:=by intro zq9;(with_reducible refine Ak _ (.binOp .neq 3 _ _ _) ?_);(refine An AA (V.neq rfl rfl) ?_);go_step;with_reducible exact zq9.out):p:=h ⟨k⟩
theorem KK(n:Nat){T q:Nat→World→Prop}(k:∀g w,T g w→q g w)(h:G7 T q→Bq n p:=by intro zq9;(with_reducible refine Br ?_);(refine Ad ?_;apply Mn (o:=⟨some _,_,_,_,_,_⟩) hS 26 rfl (List.replicate 64 0) 64 List.length_replicate eX);intro g w9 h9;refine AB ?_;go_step;with_reducible exact zq9.out g w9 h9):p:=h ⟨k⟩
theorem KL(n:Nat){c e r:Prop}(k:c→q)(k2:e→r)(h:dS c e q r→Bq n p:=by intro zq9;(with_reducible refine Br ?_);refine cR _ (V.not rfl) AA zq9.t zq9.f):p:=h ⟨k,k2⟩
theorem KM(n:Nat)(k:q)(h:Au q→Bq n p:=by intro zq9;(with_reducible refine Br ?_);(refine An AA (V.eql rfl rfl) ?_);go_step;with_reducible exact zq9.out):p:=h ⟨k⟩
theorem KN(n:Nat)(k:q)(h:Au q→Bq n p:=by intro zq9;(with_reducible refine Br ?_);(refine An AA (V.gtr rfl rfl) ?_);go_step;with_reducible exact zq9.out):p:=h ⟨k⟩
theorem Lk(k:q)(h:Au q→p:=by intro zq9;(with_reducible refine Ak _ (.load 32 _) ?_);(refine Ad ?_;apply DG hS 32 _ rfl _ _ rfl 17 (AO rfl) _;(case hp=>exact AL);(case hi=>(repeat (first|(apply Gt.head;(repeat (first|exact Bx.nil|(apply Bx.ints;(case hn=>exact EC);(case h=>omega);(case hm=>rfl))|apply Bx.val)))|(apply Gt.skipI;(case hn=>exact EC);(case h=>omega);(case ho=>rfl))|apply Gt.skipV)));refine AB ?_);go_step;with_reducible exact zq9.out):p:=h ⟨k⟩
theorem Mw(n:Nat){T q:Nat→World→Prop}(k:∀g w,T g w→q g w)(h:G7 T q→Bq n p:=by intro zq9;(with_reducible refine Br ?_);(refine Ad ?_;apply Zi (o:=⟨some _,_,_,_,_,_⟩) hS 26 _ rfl _ 64 rfl;(case hn=>assumption));intro g w9 h9;refine AB ?_;go_step;with_reducible exact zq9.out g w9 h9):p:=h ⟨k⟩
theorem Mx(n:Nat)(k:q)(h:Au q→Bq n p:=by intro zq9;(with_reducible refine Br ?_);(refine An AA (V.addI rfl rfl (by omega)) ?_);go_step;with_reducible exact zq9.out):p:=h ⟨k⟩
theorem OI(n:Nat){T q:Nat→World→Prop}(k:∀g w,T g w→q g w)(h:G7 T q→Bq n p:=by intro zq9;(with_reducible refine Br ?_);(refine Ad ?_;apply Ig (o:=⟨some _,_,_,_,_,_⟩) hS 34 _ rfl _ rfl);intro g w9 h9;refine AB ?_;go_step;with_reducible exact zq9.out g w9 h9):p:=h ⟨k⟩
theorem OJ(n:Nat){T q:Nat→World→Prop}(k:∀g w,T g w→q g w)(h:G7 T q→Bq n p:=by intro zq9;(with_reducible refine Br ?_);(refine Ad ?_;apply Ig (o:=⟨some _,_,_,_,_,_⟩) hS 37 _ rfl _ rfl);intro g w9 h9;refine AB ?_;go_step;with_reducible exact zq9.out g w9 h9):p:=h ⟨k⟩
theorem P0(k:q)(h:Au q→p:=by intro zq9;(with_reducible refine Ak _ (.load 34 _) ?_);(refine Ad ?_;apply DG hS 34 _ rfl _ _ rfl 34 (AO rfl) _;(case hp=>exact AL);(case hi=>(repeat (first|(apply Gt.head;(repeat (first|exact Bx.nil|(apply Bx.ints;(case hn=>exact EC);(case h=>omega);(case hm=>rfl))|apply Bx.val)))|(apply Gt.skipI;(case hn=>exact EC);(case h=>omega);(case ho=>rfl))|apply Gt.skipV)));refine AB ?_);go_step;with_reducible exact zq9.out):p:=h ⟨k⟩
theorem P7(n:Nat){T q:Nat→World→Prop}(k:∀g w,T g w→q g w)(h:G7 T q→Bq n p:=by intro zq9;(with_reducible refine Br ?_);(refine Ad ?_;apply CS (o:=⟨some _,_,_,_,_,_⟩) hS 24 _ rfl _ rfl);intro g w9 h9;refine AB ?_;go_step;with_reducible exact zq9.out g w9 h9):p:=h ⟨k⟩
theorem P8(k:q)(h:Au q→p:=by intro zq9;(with_reducible refine Ak _ (.load 37 _) ?_);(refine Ad ?_;apply DG hS 37 _ rfl _ _ rfl 103 (AO rfl) _;(case hp=>exact AL);(case hi=>(repeat (first|(apply Gt.head;(repeat (first|exact Bx.nil|(apply Bx.ints;(case hn=>exact EC);(case h=>omega);(case hm=>rfl))|apply Bx.val)))|(apply Gt.skipI;(case hn=>exact EC);(case h=>omega);(case ho=>rfl))|apply Gt.skipV)));refine AB ?_);go_step;with_reducible exact zq9.out):p:=h ⟨k⟩
theorem RS(n:Nat){T q:Nat→World→Prop}(k:∀g w,T g w→q g w)(h:G7 T q→Bq n p:=by intro zq9;(with_reducible refine Br ?_);(refine Ad ?_;apply Gn (o:=⟨some _,_,_,_,_,_⟩) hS 32 rfl _ fI);intro g w9 h9;refine AB ?_;go_step;with_reducible exact zq9.out g w9 h9):p:=h ⟨k⟩
theorem RT(n:Nat){T q:Nat→World→Prop}(k:∀g w,T g w→q g w)(h:G7 T q→Bq n p:=by intro zq9;(with_reducible refine Br ?_);(refine Ad ?_;apply AU (o:=⟨some _,_,_,_,_,_⟩) hS 141 1 _ rfl 155 3 24 VH _ _;(case hvs=>(repeat (first|exact AW.nil|(apply AW.agg;(rfl);(rfl))|(apply AW.one;exact CI;(rfl);(rfl)))));(case hn=>rfl);(case hn0=>decide);(case hns=>decide));intro g w9 h9;simp only [List.cons_append,List.nil_append] at h9;refine AB ?_;go_step;with_reducible exact zq9.out g w9 h9):p:=h ⟨k⟩
theorem RU(k:q)(h:Au q→p:=by intro zq9;(with_reducible refine Ak _ (.fieldAddr 155 _ 1) ?_);(refine An AA (V.fieldAddr NH rfl A7) ?_);go_step;with_reducible exact zq9.out):p:=h ⟨k⟩
theorem RV(k:q)(h:Au q→p:=by intro zq9;(with_reducible refine Ak _ (.load 155 _) ?_);(refine Ad ?_;apply Dz hS 155 _ rfl _ rfl 3 (AO rfl) _;(case hp=>exact AL);(case hn=>rfl);refine AB ?_);go_step;with_reducible exact zq9.out):p:=h ⟨k⟩
theorem RW(k:q)(h:Au q→p:=by intro zq9;(with_reducible refine Ak _ (.unOp .not _ _) ?_);(refine An AA (V.not rfl) ?_);go_step;with_reducible exact zq9.out):p:=h ⟨k⟩
theorem S9{T q:World→Prop}(k:∀w,T w→q w)(h:JK T q→p:=by intro zq9;(with_reducible refine Ak _ (.store 32 _ _) ?_);(refine Ad ?_;apply Fb hS 32 _ _ rfl _ rfl 17 (AO rfl) _ _;(case hp=>exact AL);(case hy=>rfl);(case hn=>(repeat (first|exact Bx.nil|(apply Bx.ints;(case hn=>exact EC);(case h=>omega);(case hm=>rfl))|apply Bx.val)));(case hn'=>(repeat (first|exact Bx.nil|(apply Bx.ints;(case hn=>exact EC);(case h=>omega);(case hm=>rfl))|apply Bx.val)));(case hv=>rfl);(case hd=>exact rfl));intro w9 h9;with_reducible exact zq9.out w9 h9):p:=h ⟨k⟩
theorem TA(n:Nat)(k:q)(h:Au q→Bq n p:=by intro zq9;(with_reducible refine Br ?_);(refine An AA (V.len Tryz.underlying30 rfl) ?_);go_step;with_reducible exact zq9.out):p:=h ⟨k⟩
theorem UU(n:Nat){T q:Nat→World→Prop}(k:∀g w,T g w→q g w)(h:G7 T q→Bq n p:=by intro zq9;(with_reducible refine Br ?_);(refine Ad ?_;apply B4 (o:=⟨some _,_,_,_,_,_⟩) hS 24 rfl (.agg #[.int .i64 0, .int .i64 0, .slice none 0 0]) [.int .i64 0, .int .i64 0, .slice none 0 0] (fun w=>Tryz.zeroValue24 w) rfl);intro g w9 h9;refine AB ?_;go_step;with_reducible exact zq9.out g w9 h9):p:=h ⟨k⟩
theorem UV{T q:World→Prop}(k:∀w,T w→q w)(h:JK T q→p:=by intro zq9;(with_reducible refine Ak _ (.store 24 _ _) ?_);(refine Ad ?_;apply CZ hS 24 _ _ rfl _ rfl 3 (AO rfl) _ _;(case hp=>exact AL);(case hy=>rfl);(case hn=>rfl);(case hn'=>rfl);(case hv=>rfl);(case hd=>exact rfl));intro w9 h9;with_reducible exact zq9.out w9 h9):p:=h ⟨k⟩
theorem Ur(n:Nat){T q:Option Addr→Nat→World→Prop}(k:∀a c w,T a c w→q a c w)(h:eY T q→Bq n p:=by intro zq9;(with_reducible refine Br ?_);(refine Ad ?_;apply A4 (o:=⟨some _,_,_,_,_,_⟩) hS _ _ 141 rfl 155 3 24 VH _ _ _ _ rfl;(case hp=>exact AL);(case hx=>exact rfl);(case hm=>(first|exact hS.slBlk AL (by rfl) (by decide)|exact hS.sl AL|with_reducible assumption|exact Sl.ext (by with_reducible assumption) hS.1|exact Sl.nil _ _|exact Sl.ext (by assumption) hS.1|assumption));(case h1=>(first|exact CO rfl|exact Bu _ _|(intro u hu;cases hu)));(case h63=>unfold maxLen;omega);(case hb=>omega));intro a9 c9 w9 h9;(first|simp only [DM] at h9|simp only [DN] at h9|simp only [DO] at h9|simp only [DP] at h9|simp only [DQ] at h9|skip);refine AB ?_;go_step;with_reducible exact zq9.out a9 c9 w9 h9):p:=h ⟨k⟩
theorem Us(k:q)(h:Au q→p:=by intro zq9;(with_reducible refine Ak _ (.load 24 _) ?_);(refine Ad ?_;apply Dz hS 24 _ rfl _ rfl 3 (AO rfl) _;(case hp=>exact AL);(case hn=>rfl);refine AB ?_);go_step;with_reducible exact zq9.out):p:=h ⟨k⟩
theorem Ut(n:Nat)(k:q)(h:Au q→Bq n p:=by intro zq9;(with_reducible refine Br ?_);(refine An AA (V.indexSl Tryz.underlying35 Ve rfl rfl A9 (by omega) (Nat.mul_one _) A7) ?_);go_step;with_reducible exact zq9.out):p:=h ⟨k⟩
theorem XB(k:q)(h:Au q→p:=by intro zq9;(with_reducible refine Ak _ (.binOp .eql 3 _ _ _) ?_);(refine An AA (V.eql rfl rfl) ?_);go_step;with_reducible exact zq9.out):p:=h ⟨k⟩
theorem XC(k:q)(h:Au q→p:=by intro zq9;(with_reducible refine Ak _ (.call ⟨.builtin .len,_,_⟩) ?_);(refine An AA (V.len Tryz.underlying30 rfl) ?_);go_step;with_reducible exact zq9.out):p:=h ⟨k⟩
theorem XD(k:q)(h:Au q→p:=by intro zq9;(with_reducible refine Ak _ (.call ⟨.builtin .len,_,_⟩) ?_);(refine An AA (V.len Tryz.underlying42 rfl) ?_);go_step;with_reducible exact zq9.out):p:=h ⟨k⟩
theorem XE(k:q)(h:Au q→p:=by intro zq9;(with_reducible refine Ak _ (.load 107 _) ?_);(refine Ad ?_;apply Dz hS 107 _ rfl _ rfl 2 (AO rfl) _;(case hp=>exact AL);(case hn=>rfl);refine AB ?_);go_step;with_reducible exact zq9.out):p:=h ⟨k⟩
theorem XF(k:q)(h:Au q→p:=by intro zq9;(with_reducible refine Ak _ (.load 3 _) ?_);(refine Ad ?_;apply FG hS 3 _ rfl _ _ rfl (AH rfl) _;(case hp=>exact AL);(case hi=>(repeat (first|exact KE.head|(apply KE.skipI;(case hn=>exact EC);(case h=>omega);(case ho=>rfl))|apply KE.skipV)));refine AB ?_);go_step;with_reducible exact zq9.out):p:=h ⟨k⟩
theorem XG(k:q)(h:Au q→p:=by intro zq9;(with_reducible refine Ak _ (.load 3 _) ?_);(refine Ad ?_;apply Aa hS 3 _ rfl _ rfl (AH rfl) _;(case hc=>with_reducible assumption);refine AB ?_);go_step;with_reducible exact zq9.out):p:=h ⟨k⟩
theorem XH(k:q)(h:Au q→p:=by intro zq9;(with_reducible refine Ak _ (.load 5 _) ?_);(refine Ad ?_;apply Aa hS 5 _ rfl _ rfl (AH rfl) _;(case hc=>with_reducible assumption);refine AB ?_);go_step;with_reducible exact zq9.out):p:=h ⟨k⟩
theorem XI(n:Nat)(k:q)(h:Au q→Bq n p:=by intro zq9;(with_reducible refine Br ?_);(refine An AA (V.indexSl Tryz.underlying115 eG rfl rfl A9 (by omega) rfl A7) ?_);go_step;with_reducible exact zq9.out):p:=h ⟨k⟩
theorem XJ(n:Nat)(k:q)(h:Au q→Bq n p:=by intro zq9;(with_reducible refine Br ?_);(refine An AA (V.indexSl Tryz.underlying30 ET rfl rfl A9 (by omega) (Nat.mul_one _) A7) ?_);go_step;with_reducible exact zq9.out):p:=h ⟨k⟩
theorem YC(n:Nat){T q:Nat→World→Prop}(k:∀g w,T g w→q g w)(h:G7 T q→Bq n p:=by intro zq9;(with_reducible refine Br ?_);(refine Ad ?_;apply Gn (o:=⟨some _,_,_,_,_,_⟩) hS 37 rfl _ cY);intro g w9 h9;refine AB ?_;go_step;with_reducible exact zq9.out g w9 h9):p:=h ⟨k⟩
theorem YD{T q:World→Prop}(k:∀w,T w→q w)(h:JK T q→p:=by intro zq9;(with_reducible refine Ak _ (.store 37 _ _) ?_);(refine Ad ?_;apply Fb hS 37 _ _ rfl _ rfl 103 (AO rfl) _ _;(case hp=>exact AL);(case hy=>rfl);(case hn=>(repeat (first|exact Bx.nil|(apply Bx.ints;(case hn=>exact EC);(case h=>omega);(case hm=>rfl))|apply Bx.val)));(case hn'=>(repeat (first|exact Bx.nil|(apply Bx.ints;(case hn=>exact EC);(case h=>omega);(case hm=>rfl))|apply Bx.val)));(case hv=>rfl);(case hd=>exact rfl));intro w9 h9;with_reducible exact zq9.out w9 h9):p:=h ⟨k⟩
theorem YE(k:q)(h:Au q→p:=by intro zq9;(with_reducible refine Ak _ (.binOp .sub _ _ _ _) ?_);(refine An AA (V.subI rfl rfl (by omega)) ?_);go_step;with_reducible exact zq9.out):p:=h ⟨k⟩
theorem YF(k:q)(h:Au q→p:=by intro zq9;(with_reducible refine Ak _ (.load 22 _) ?_);(refine Ad ?_;apply AX hS 22 _ rfl _ _ rfl (AH rfl) _;(case hp=>exact AL);(case hc=>rfl);refine AB ?_);go_step;with_reducible exact zq9.out):p:=h ⟨k⟩
theorem YG(n:Nat)(k:q)(h:Au q→Bq n p:=by intro zq9;(with_reducible refine Br ?_);(refine An AA (V.len Tryz.underlying35 rfl) ?_);go_step;with_reducible exact zq9.out):p:=h ⟨k⟩
theorem Zl(n:Nat){T q:Nat→World→Prop}(k:∀g w,T g w→q g w)(h:G7 T q→Bq n p:=by intro zq9;(with_reducible refine Br ?_);(refine Ad ?_;apply Ig (o:=⟨some _,_,_,_,_,_⟩) hS 32 _ rfl _ rfl);intro g w9 h9;refine AB ?_;go_step;with_reducible exact zq9.out g w9 h9):p:=h ⟨k⟩
theorem Zm(k:q)(h:Au q→p:=by intro zq9;(with_reducible refine Ak _ (.binOp .leq _ _ _ _) ?_);(refine An AA (V.leq rfl rfl) ?_);go_step;with_reducible exact zq9.out):p:=h ⟨k⟩
theorem Zn(k:q)(h:Au q→p:=by intro zq9;(with_reducible refine Ak _ (.call ⟨.builtin .len,_,_⟩) ?_);(refine An AA (V.len Tryz.underlying22 rfl) ?_);go_step;with_reducible exact zq9.out):p:=h ⟨k⟩
theorem Zo(k:q)(h:Au q→p:=by intro zq9;(with_reducible refine Ak _ (.fieldAddr 37 _ 0) ?_);(refine An AA (V.fieldAddr Qa rfl A7) ?_);go_step;with_reducible exact zq9.out):p:=h ⟨k⟩
theorem Zp(k:q)(h:Au q→p:=by intro zq9;(with_reducible refine Ak _ (.load 30 _) ?_);(refine Ad ?_;apply Aa hS 30 _ rfl _ rfl (AH rfl) _;(case hc=>with_reducible assumption);refine AB ?_);go_step;with_reducible exact zq9.out):p:=h ⟨k⟩
theorem Zq(n:Nat)(k:q)(h:Au q→Bq n p:=by intro zq9;(with_reducible refine Br ?_);(refine An AA (V.fieldAddr Rx rfl A7) ?_);go_step;with_reducible exact zq9.out):p:=h ⟨k⟩
theorem bH(n:Nat){T q:Nat→World→Prop}(k:∀g w,T g w→q g w)(h:G7 T q→Bq n p:=by intro zq9;(with_reducible refine Br ?_);(refine Ad ?_;apply B4 (o:=⟨some _,_,_,_,_,_⟩) hS 107 rfl (.agg #[.int .i64 0, .int .i64 0]) [.int .i64 0, .int .i64 0] (fun w=>Tryz.zeroValue107 w) rfl);intro g w9 h9;refine AB ?_;go_step;with_reducible exact zq9.out g w9 h9):p:=h ⟨k⟩
theorem bI{T q:World→Prop}(k:∀w,T w→q w)(h:JK T q→p:=by intro zq9;(with_reducible refine Ak _ (.store 107 _ _) ?_);(refine Ad ?_;apply CZ hS 107 _ _ rfl _ rfl 2 (AO rfl) _ _;(case hp=>exact AL);(case hy=>rfl);(case hn=>rfl);(case hn'=>rfl);(case hv=>rfl);(case hd=>exact rfl));intro w9 h9;with_reducible exact zq9.out w9 h9):p:=h ⟨k⟩
theorem bJ(n:Nat)(k:q)(h:Au q→Bq n p:=by intro zq9;(with_reducible refine Br ?_);(refine LX (by with_reducible assumption) Tryz.underlying42 JY rfl rfl A9 (by omega) AA ?_);with_reducible exact zq9.out):p:=h ⟨k⟩
theorem bK(n:Nat){T q:Option Addr→Nat→World→Prop}(k:∀a c w,T a c w→q a c w)(h:eY T q→Bq n p:=by intro zq9;(with_reducible refine Br ?_);(refine Ad ?_;apply A4 (o:=⟨some _,_,_,_,_,_⟩) hS _ _ 35 rfl 5 1 1 Hb _ _ _ _ rfl;(case hp=>exact AL);(case hx=>exact rfl);(case hm=>(first|exact hS.slBlk AL (by rfl) (by decide)|exact hS.sl AL|with_reducible assumption|exact Sl.ext (by with_reducible assumption) hS.1|exact Sl.nil _ _|exact Sl.ext (by assumption) hS.1|assumption));(case h1=>(first|exact CO rfl|exact Bu _ _|(intro u hu;cases hu)));(case h63=>unfold maxLen;omega);(case hb=>omega));intro a9 c9 w9 h9;(first|simp only [DM] at h9|simp only [DN] at h9|simp only [DO] at h9|simp only [DP] at h9|simp only [DQ] at h9|skip);refine AB ?_;go_step;with_reducible exact zq9.out a9 c9 w9 h9):p:=h ⟨k⟩
theorem bL(k:q)(h:Au q→p:=by intro zq9;(with_reducible refine Ak _ (.fieldAddr 140 _ 1) ?_);(refine An AA (V.fieldAddr IG rfl A7) ?_);go_step;with_reducible exact zq9.out):p:=h ⟨k⟩
theorem bM(k:q)(h:Au q→p:=by intro zq9;(with_reducible refine Ak _ (.fieldAddr 155 _ 2) ?_);(refine An AA (V.fieldAddr Rx rfl A7) ?_);go_step;with_reducible exact zq9.out):p:=h ⟨k⟩
theorem bN(k:q)(h:Au q→p:=by intro zq9;(with_reducible refine Ak _ (.fieldAddr 24 _ 0) ?_);(refine An AA (V.fieldAddr Fx rfl A7) ?_);go_step;with_reducible exact zq9.out):p:=h ⟨k⟩
theorem bO(k:q)(h:Au q→p:=by intro zq9;(with_reducible refine Ak _ (.fieldAddr 24 _ 1) ?_);(refine An AA (V.fieldAddr Ke rfl A7) ?_);go_step;with_reducible exact zq9.out):p:=h ⟨k⟩
theorem bP(k:q)(h:Au q→p:=by intro zq9;(with_reducible refine Ak _ (.fieldAddr 37 _ 1) ?_);(refine An AA (V.fieldAddr Qb rfl A7) ?_);go_step;with_reducible exact zq9.out):p:=h ⟨k⟩
theorem bQ(k:q)(h:Au q→p:=by intro zq9;(with_reducible refine Ak _ (.load 137 _) ?_);(refine Ad ?_;apply AX hS 137 _ rfl _ _ rfl (AH rfl) _;(case hp=>exact AL);(case hc=>rfl);refine AB ?_);go_step;with_reducible exact zq9.out):p:=h ⟨k⟩
theorem bR(k:q)(h:Au q→p:=by intro zq9;(with_reducible refine Ak _ (.nilCheck _) ?_);(refine An AA (V.nilCheck rfl) ?_);go_step;with_reducible exact zq9.out):p:=h ⟨k⟩
theorem bS(k:q)(h:Au q→p:=by intro zq9;(with_reducible refine Ak _ (.slice 26 _ _ _ _) ?_);(refine An AA (V.sliceA Tryz.underlying26 ET rfl (by (first|exact Lo.none|exact Lo.some rfl A9)) (by (first|exact Up.none|exact Up.some rfl A9)) (by omega) (by omega) (by omega) rfl rfl rfl) ?_);go_step;with_reducible exact zq9.out):p:=h ⟨k⟩
theorem bT(n:Nat)(k:q)(h:Au q→Bq n p:=by intro zq9;(with_reducible refine Br ?_);(refine Ag (.int _ (((i+1:Nat):Int))) (V.as (V.addI rfl rfl (by omega)) (by omega)) (by kernel_rfl) ?_);go_step;with_reducible exact zq9.out):p:=h ⟨k⟩
theorem bU(n:Nat)(k:q)(h:Au q→Bq n p:=by intro zq9;(with_reducible refine Br ?_);(refine An AA (V.build (vs:=[(0,_),(1,_)]) rfl (TC _ _)) ?_);go_step;with_reducible exact zq9.out):p:=h ⟨k⟩
theorem bV(n:Nat)(k:q)(h:Au q→Bq n p:=by intro zq9;(with_reducible refine Br ?_);(refine An AA (V.fieldAddr Qd rfl A7) ?_);go_step;with_reducible exact zq9.out):p:=h ⟨k⟩
theorem bW(n:Nat)(k:q)(h:Au q→Bq n p:=by intro zq9;(with_reducible refine Br ?_);(refine An AA (V.indexSl Tryz.underlying22 Ff rfl rfl A9 (by omega) (Nat.mul_one _) A7) ?_);go_step;with_reducible exact zq9.out):p:=h ⟨k⟩
theorem bX(n:Nat)(k:q)(h:Au q→Bq n p:=by intro zq9;(with_reducible refine Br ?_);(refine An AA (V.not rfl) ?_);go_step;with_reducible exact zq9.out):p:=h ⟨k⟩
theorem ch(n:Nat){T q:Nat→World→Prop}(k:∀g w,T g w→q g w)(h:G7 T q→Bq n p:=by intro zq9;(with_reducible refine Br ?_);(refine Ad ?_;apply B4 (o:=⟨some _,_,_,_,_,_⟩) hS 94 rfl (.agg #[.int .i64 0, .int .i64 0]) [.int .i64 0, .int .i64 0] (fun w=>Tryz.zeroValue94 w) rfl);intro g w9 h9;refine AB ?_;go_step;with_reducible exact zq9.out g w9 h9):p:=h ⟨k⟩
theorem cr{T q:World→Prop}(k:∀w,T w→q w)(h:JK T q→p:=by intro zq9;(with_reducible refine Ak _ (.store 3 _ _) ?_);(refine Ad ?_;apply Bv hS 3 _ _ rfl _ _ rfl (AH rfl) _ _;(case hp=>exact AL);(case hy=>exact CI);(case hv=>rfl);(case hc=>exact XP);(case hd=>exact rfl));intro w9 h9;with_reducible exact zq9.out w9 h9):p:=h ⟨k⟩
theorem ct{T q:World→Prop}(k:∀w,T w→q w)(h:JK T q→p:=by intro zq9;(with_reducible refine Ak _ (.store 94 _ _) ?_);(refine Ad ?_;apply CZ hS 94 _ _ rfl _ rfl 2 (AO rfl) _ _;(case hp=>exact AL);(case hy=>rfl);(case hn=>rfl);(case hn'=>rfl);(case hv=>rfl);(case hd=>exact rfl));intro w9 h9;with_reducible exact zq9.out w9 h9):p:=h ⟨k⟩
theorem cu(n:Nat){T q:Option Addr→Nat→World→Prop}(k:∀a c w,T a c w→q a c w)(h:eY T q→Bq n p:=by intro zq9;(with_reducible refine Br ?_);(refine Ad ?_;apply A4 (o:=⟨some _,_,_,_,_,_⟩) hS _ _ 42 rfl 26 64 512 bt _ _ _ _ rfl;(case hp=>exact AL);(case hx=>exact rfl);(case hm=>(first|exact hS.slBlk AL (by rfl) (by decide)|exact hS.sl AL|with_reducible assumption|exact Sl.ext (by with_reducible assumption) hS.1|exact Sl.nil _ _|exact Sl.ext (by assumption) hS.1|assumption));(case h1=>(first|exact CO rfl|exact Bu _ _|(intro u hu;cases hu)));(case h63=>unfold maxLen;omega);(case hb=>omega));intro a9 c9 w9 h9;(first|simp only [DM] at h9|simp only [DN] at h9|simp only [DO] at h9|simp only [DP] at h9|simp only [DQ] at h9|skip);refine AB ?_;go_step;with_reducible exact zq9.out a9 c9 w9 h9):p:=h ⟨k⟩
theorem cw(k:q)(h:Au q→p:=by intro zq9;(with_reducible refine Ak _ (.binOp .eql 38 _ _ _) ?_);(refine An AA (V.eql rfl rfl) ?_);go_step;with_reducible exact zq9.out):p:=h ⟨k⟩
theorem cx(k:q)(h:Au q→p:=by intro zq9;(with_reducible refine Ak _ (.call ⟨.builtin .len,_,_⟩) ?_);(refine An AA (V.len Tryz.underlying91 rfl) ?_);go_step;with_reducible exact zq9.out):p:=h ⟨k⟩
theorem cy(k:q)(h:Au q→p:=by intro zq9;(with_reducible refine Ak _ (.fieldAddr 34 _ 0) ?_);(refine An AA (V.fieldAddr QY rfl A7) ?_);go_step;with_reducible exact zq9.out):p:=h ⟨k⟩
theorem cz(k:q)(h:Au q→p:=by intro zq9;(with_reducible refine Ak _ (.fieldAddr 34 _ 1) ?_);(refine An AA (V.fieldAddr QZ rfl A7) ?_);go_step;with_reducible exact zq9.out):p:=h ⟨k⟩
theorem dA(k:q)(h:Au q→p:=by intro zq9;(with_reducible refine Ak _ (.fieldAddr 37 _ 2) ?_);(refine An AA (V.fieldAddr VO rfl A7) ?_);go_step;with_reducible exact zq9.out):p:=h ⟨k⟩
theorem dB(k:q)(h:Au q→p:=by intro zq9;(with_reducible refine Ak _ (.load 94 _) ?_);(refine Ad ?_;apply Hw hS 94 _ rfl _ _ rfl 2 (AO rfl) _ _ _ _ _;(case hp=>exact AL);(case hi=>omega);(case hl'=>with_reducible assumption);refine AB ?_);go_step;with_reducible exact zq9.out):p:=h ⟨k⟩
theorem dC(n:Nat)(k:q)(h:Au q→Bq n p:=by intro zq9;(with_reducible refine Br ?_);(refine Ag (.int .i64 ((y:Nat):Int)) (V.as (V.indexIv Tryz.underlying29 Tryz.underlying3 ET rfl rfl hC Bk.cast (by omega)) HX.out) AA ?_);go_step;with_reducible exact zq9.out):p:=h ⟨k⟩
theorem dD(n:Nat)(k:q)(h:Au q→Bq n p:=by intro zq9;(with_reducible refine Br ?_);(refine Ag (.int _ ((u0%16))) (V.as (V.and rfl rfl) (by exact HAnd.out)) (by kernel_rfl) ?_);go_step;with_reducible exact zq9.out):p:=h ⟨k⟩
theorem dE(n:Nat)(k:q)(h:Au q→Bq n p:=by intro zq9;(with_reducible refine Br ?_);(refine An AA (V.build (vs:=[(0,_),(1,_)]) rfl (TE _ _)) ?_);go_step;with_reducible exact zq9.out):p:=h ⟨k⟩
theorem S0(n:Nat)(k:q)(h:Au q→Bq n p:=by intro zq9;(with_reducible refine Br ?_);(refine An AA (V.convI (by rw [Tryz.underlying116];rfl) Tryz.underlying3 rfl (IntWalk.i64_in _ (by omega))) ?_);go_step;with_reducible exact zq9.out):p:=h ⟨k⟩
theorem S7(n:Nat)(k:q)(h:Au q→Bq n p:=by intro zq9;(with_reducible refine Br ?_);(refine An AA (V.convI (by rw [Tryz.underlying3];rfl) Tryz.underlying116 rfl (IntWalk.u64_in _ (by omega))) ?_);go_step;with_reducible exact zq9.out):p:=h ⟨k⟩
theorem S8(n:Nat)(k:q)(h:Au q→Bq n p:=by intro zq9;(with_reducible refine Br ?_);(refine An AA (V.indexSl Tryz.underlying91 eH rfl rfl A9 (by omega) rfl A7) ?_);go_step;with_reducible exact zq9.out):p:=h ⟨k⟩
theorem Ug{T q:World→Prop}(k:∀w,T w→q w)(h:JK T q→p:=by intro zq9;(with_reducible refine Ak _ (.store 35 _ _) ?_);(refine Ad ?_;apply Hz hS 35 _ _ rfl _ _ rfl (AH rfl) _ _;(case hp=>exact AL);(case hy=>exact CI);(case hz=>rfl);(case hi=>(repeat (first|exact G5.head|(apply G5.skipI;(case hn=>exact EC);(case h=>omega);(case ho=>rfl))|apply G5.skipV)));(case hd=>exact rfl));intro w9 h9;with_reducible exact zq9.out w9 h9):p:=h ⟨k⟩
theorem Uh(k:q)(h:Au q→p:=by intro zq9;(with_reducible refine Ak _ (.binOp .mul _ _ _ _) ?_);(refine An AA (V.mulI rfl rfl (by omega)) ?_);go_step;with_reducible exact zq9.out):p:=h ⟨k⟩
theorem Ui(k:q)(h:Au q→p:=by intro zq9;(with_reducible refine Ak _ (.call ⟨.builtin .len,_,_⟩) ?_);(refine An AA (V.len Tryz.underlying115 rfl) ?_);go_step;with_reducible exact zq9.out):p:=h ⟨k⟩
theorem Uj(k:q)(h:Au q→p:=by intro zq9;(with_reducible refine Ak _ (.fieldAddr 155 _ 0) ?_);(refine An AA (V.fieldAddr J1 rfl A7) ?_);go_step;with_reducible exact zq9.out):p:=h ⟨k⟩
theorem Uk(k:q)(h:Au q→p:=by intro zq9;(with_reducible refine Ak _ (.fieldAddr 24 _ 2) ?_);(refine An AA (V.fieldAddr Fy rfl A7) ?_);go_step;with_reducible exact zq9.out):p:=h ⟨k⟩
theorem Ul(k:q)(h:Au q→p:=by intro zq9;(with_reducible refine Ak _ (.load 30 _) ?_);(refine Ad ?_;apply FG hS 30 _ rfl _ _ rfl (AH rfl) _;(case hp=>exact AL);(case hi=>(repeat (first|exact KE.head|(apply KE.skipI;(case hn=>exact EC);(case h=>omega);(case ho=>rfl))|apply KE.skipV)));refine AB ?_);go_step;with_reducible exact zq9.out):p:=h ⟨k⟩
theorem Um(k:q)(h:Au q→p:=by intro zq9;(with_reducible refine Ak _ (.load 35 _) ?_);(refine Ad ?_;apply FG hS 35 _ rfl _ _ rfl (AH rfl) _;(case hp=>exact AL);(case hi=>(repeat (first|exact KE.head|(apply KE.skipI;(case hn=>exact EC);(case h=>omega);(case ho=>rfl))|apply KE.skipV)));refine AB ?_);go_step;with_reducible exact zq9.out):p:=h ⟨k⟩
theorem Un(n:Nat)(k:q)(h:Au q→Bq n p:=by intro zq9;(with_reducible refine Br ?_);(refine Ag (.int _ (((k+1:Nat):Int))) (V.as (V.addI rfl rfl (by omega)) (by omega)) (by kernel_rfl) ?_);go_step;with_reducible exact zq9.out):p:=h ⟨k⟩
theorem Uo(n:Nat)(k:q)(h:Au q→Bq n p:=by intro zq9;(with_reducible refine Br ?_);(refine An AA (V.len Tryz.underlying22 rfl) ?_);go_step;with_reducible exact zq9.out):p:=h ⟨k⟩
theorem Uq(n:Nat)(k:q)(h:Au q→Bq n p:=by intro zq9;(with_reducible refine Br ?_);(refine An AA (V.leq rfl rfl) ?_);go_step;with_reducible exact zq9.out):p:=h ⟨k⟩
theorem XZ(n:Nat){T q:Nat→World→Prop}(k:∀g w,T g w→q g w)(h:G7 T q→Bq n p:=by intro zq9;(with_reducible refine Br ?_);(refine Ad ?_;apply CS (o:=⟨some _,_,_,_,_,_⟩) hS 140 _ rfl _ rfl);intro g w9 h9;refine AB ?_;go_step;with_reducible exact zq9.out g w9 h9):p:=h ⟨k⟩
theorem Xa(n:Nat){T q:Nat→World→Prop}(k:∀g w,T g w→q g w)(h:G7 T q→Bq n p:=by intro zq9;(with_reducible refine Br ?_);(refine Ad ?_;apply CS (o:=⟨some _,_,_,_,_,_⟩) hS 155 _ rfl _ rfl);intro g w9 h9;refine AB ?_;go_step;with_reducible exact zq9.out g w9 h9):p:=h ⟨k⟩
theorem Xb(n:Nat){T q:Nat→World→Prop}(k:∀g w,T g w→q g w)(h:G7 T q→Bq n p:=by intro zq9;(with_reducible refine Br ?_);(refine Ad ?_;apply AU (o:=⟨some _,_,_,_,_,_⟩) hS 30 1 _ rfl 3 1 8 M9 _ _;(case hvs=>(repeat (first|exact AW.nil|(apply AW.agg;(rfl);(rfl))|(apply AW.one;exact CI;(rfl);(rfl)))));(case hn=>rfl);(case hn0=>decide);(case hns=>decide));intro g w9 h9;refine AB ?_;go_step;with_reducible exact zq9.out g w9 h9):p:=h ⟨k⟩
theorem Xc(n:Nat){T q:Nat→World→Prop}(k:∀g w,T g w→q g w)(h:G7 T q→Bq n p:=by intro zq9;(with_reducible refine Br ?_);(refine Ad ?_;apply AU (o:=⟨some _,_,_,_,_,_⟩) hS 35 2 _ rfl 5 1 1 Hb _ _;(case hvs=>(repeat (first|exact AW.nil|(apply AW.agg;(rfl);(rfl))|(apply AW.one;exact CI;(rfl);(rfl)))));(case hn=>rfl);(case hn0=>decide);(case hns=>decide));intro g w9 h9;refine AB ?_;go_step;with_reducible exact zq9.out g w9 h9):p:=h ⟨k⟩
theorem Xd(n:Nat){T q:Nat→World→Prop}(k:∀g w,T g w→q g w)(h:G7 T q→Bq n p:=by intro zq9;(with_reducible refine Br ?_);(refine Ad ?_;apply KD (o:=⟨some _,_,_,_,_,_⟩) hS 42 _ _ rfl _ _ _ _ eB _ _ _ _ _ _ rfl rfl;(case hi=>exact A9);(case hj=>exact A9);(case hnm=>omega);(case hb=>omega);(case h63=>unfold maxLen;omega));intro g w9 h9;refine AB ?_;go_step;with_reducible exact zq9.out g w9 h9):p:=h ⟨k⟩
theorem Xe{T q:World→Prop}(k:∀w,T w→q w)(h:JK T q→p:=by intro zq9;(with_reducible refine Ak _ (.store 169 _ _) ?_);(refine Bj AA (Bv hS 169 _ _ rfl _ _ rfl (AH rfl) _ _ AL _ CI (by rfl) XP rfl ?_));intro w9 h9;with_reducible exact zq9.out w9 h9):p:=h ⟨k⟩
theorem Xf{T q:World→Prop}(k:∀w,T w→q w)(h:JK T q→p:=by intro zq9;(with_reducible refine Ak _ (.store 3 _ _) ?_);(first|(refine Bj AA (Hx hS 3 _ _ rfl _ _ rfl (AH rfl) _ _ AL _ (by rfl) (by omega) rfl ?_))|(refine Bj AA (Bv hS 3 _ _ rfl _ _ rfl (AH rfl) _ _ AL _ CI (by rfl) XP rfl ?_)));intro w9 h9;with_reducible exact zq9.out w9 h9):p:=h ⟨k⟩
theorem Xg{T q:World→Prop}(k:∀w,T w→q w)(h:JK T q→p:=by intro zq9;(with_reducible refine Ak _ (.store 3 _ _) ?_);(refine Ad ?_;apply Hx hS 3 _ _ rfl _ _ rfl (AH rfl) _ _;(case hp=>exact AL);(case hy=>rfl);(case hi=>omega);(case hd=>exact rfl));intro w9 h9;with_reducible exact zq9.out w9 h9):p:=h ⟨k⟩
theorem Xh{T q:World→Prop}(k:∀w,T w→q w)(h:JK T q→p:=by intro zq9;(with_reducible refine Ak _ (.store 35 _ _) ?_);(refine Bj AA (Bv hS 35 _ _ rfl _ _ rfl (AH rfl) _ _ AL _ CI (by rfl) XP rfl ?_));intro w9 h9;with_reducible exact zq9.out w9 h9):p:=h ⟨k⟩
theorem Xi(n:Nat)(k:q)(h:Au q→Bq n p:=by intro zq9;(with_reducible refine Br ?_);(refine Di (by with_reducible assumption) Tryz.underlying30 ET rfl rfl A9 (by omega) AA ?_);with_reducible exact zq9.out):p:=h ⟨k⟩
theorem Xj(n:Nat){T q:Option Addr→Nat→World→Prop}(k:∀a c w,T a c w→q a c w)(h:eY T q→Bq n p:=by intro zq9;(with_reducible refine Br ?_);(refine Ad ?_;apply A4 (o:=⟨some _,_,_,_,_,_⟩) hS _ _ 30 rfl 3 1 8 M9 _ _ _ _ rfl;(case hp=>exact AL);(case hx=>exact rfl);(case hm=>(first|exact hS.slBlk AL (by rfl) (by decide)|exact hS.sl AL|with_reducible assumption|exact Sl.ext (by with_reducible assumption) hS.1|exact Sl.nil _ _|exact Sl.ext (by assumption) hS.1|assumption));(case h1=>(first|exact CO rfl|exact Bu _ _|(intro u hu;cases hu)));(case h63=>unfold maxLen;omega);(case hb=>omega));intro a9 c9 w9 h9;(first|simp only [DM] at h9|simp only [DN] at h9|simp only [DO] at h9|simp only [DP] at h9|simp only [DQ] at h9|skip);refine AB ?_;go_step;with_reducible exact zq9.out a9 c9 w9 h9):p:=h ⟨k⟩
theorem Xk(k:q)(h:Au q→p:=by intro zq9;(with_reducible refine Ak _ (.binOp .geq _ _ _ _) ?_);(refine An AA (V.geq rfl rfl) ?_);go_step;with_reducible exact zq9.out):p:=h ⟨k⟩
theorem Xl(k:q)(h:Au q→p:=by intro zq9;(with_reducible refine Ak _ (.call ⟨.builtin .len,_,_⟩) ?_);(refine An AA (V.len Tryz.underlying88 rfl) ?_);go_step;with_reducible exact zq9.out):p:=h ⟨k⟩
theorem Xm(k:q)(h:Au q→p:=by intro zq9;(with_reducible refine Ak _ (.fieldAddr 32 _ 0) ?_);(refine An AA (V.fieldAddr QX rfl A7) ?_);go_step;with_reducible exact zq9.out):p:=h ⟨k⟩
theorem Xn(k:q)(h:Au q→p:=by intro zq9;(with_reducible refine Ak _ (.fieldAddr 37 _ 5) ?_);(refine An AA (V.fieldAddr Kf rfl A7) ?_);go_step;with_reducible exact zq9.out):p:=h ⟨k⟩
theorem Xo(k:q)(h:Au q→p:=by intro zq9;(with_reducible refine Ak _ (.load 26 _) ?_);(first|(refine Ad ?_;apply EK hS 26 _ rfl _ _ rfl 64 (AO rfl) _;(case hl=>with_reducible assumption);(case hr=>with_reducible assumption);refine AB ?_)|(refine Ad ?_;apply Ij hS 26 _ rfl _ rfl 64 (AO rfl) _;(case hp=>exact AL);refine AB ?_));go_step;with_reducible exact zq9.out):p:=h ⟨k⟩
theorem Xp(k:q)(h:Au q→p:=by intro zq9;(with_reducible refine Ak _ (.load 29 _) ?_);(refine Ad ?_;apply Mq hS 29 _ rfl _ _ rfl 16 (AO rfl) _;(case hp=>exact AL);(case hi=>(repeat (first|(apply RN.head;exact EC)|(apply RN.skipI;(case hn=>exact EC);(case h=>omega);(case ho=>rfl))|apply RN.skipV)));refine AB ?_);go_step;with_reducible exact zq9.out):p:=h ⟨k⟩
theorem Xq(n:Nat)(k:q)(h:Au q→Bq n p:=by intro zq9;(with_reducible refine Br ?_);(refine Ag (.int _ (((en:Nat):Int))) (V.as (V.subI rfl rfl (by omega)) (by omega)) (by kernel_rfl) ?_);go_step;with_reducible exact zq9.out):p:=h ⟨k⟩
theorem Xr(n:Nat)(k:q)(h:Au q→Bq n p:=by intro zq9;(with_reducible refine Br ?_);(refine Ag (.int _ (((h+1:Nat):Int))) (V.as (V.addI rfl rfl (by omega)) (by omega)) (by kernel_rfl) ?_);go_step;with_reducible exact zq9.out):p:=h ⟨k⟩
theorem Xs(n:Nat)(k:q)(h:Au q→Bq n p:=by intro zq9;(with_reducible refine Br ?_);(refine Ag (.int _ (((h:Nat):Int))) (V.as (V.shr rfl rfl A9 (by omega) rfl) (by omega)) (by kernel_rfl) ?_);go_step;with_reducible exact zq9.out):p:=h ⟨k⟩
theorem Xt(n:Nat)(k:q)(h:Au q→Bq n p:=by intro zq9;(with_reducible refine Br ?_);(refine Ag (.int _ (((q+1:Nat):Int))) (V.as (V.addI rfl rfl (by omega)) (by omega)) (by kernel_rfl) ?_);go_step;with_reducible exact zq9.out):p:=h ⟨k⟩
theorem Xu(n:Nat)(k:q)(h:Au q→Bq n p:=by intro zq9;(with_reducible refine Br ?_);(refine Ag (.int _ (((t:Nat):Int))) (V.as (V.mulI rfl rfl (by omega)) (by omega)) (by kernel_rfl) ?_);go_step;with_reducible exact zq9.out):p:=h ⟨k⟩
theorem Xv(n:Nat)(k:q)(h:Au q→Bq n p:=by intro zq9;(with_reducible refine Br ?_);(refine Ag _ (V.indexIv Tryz.underlying26 Tryz.underlying3 ET rfl rfl (by (repeat (first|assumption|exact Al.rep|apply Al.set|((with_reducible show Al (_::_) _);exact rfl)))) A9 (by omega)) AA ?_);go_step;with_reducible exact zq9.out):p:=h ⟨k⟩
theorem Xw(n:Nat)(k:q)(h:Au q→Bq n p:=by intro zq9;(with_reducible refine Br ?_);(refine An AA (V.build (vs:=[]) rfl (Uy)) ?_);go_step;with_reducible exact zq9.out):p:=h ⟨k⟩
theorem Xx(n:Nat)(k:q)(h:Au q→Bq n p:=by intro zq9;(with_reducible refine Br ?_);(refine An AA (V.build (vs:=[]) rfl (d5)) ?_);go_step;with_reducible exact zq9.out):p:=h ⟨k⟩
theorem Xy(n:Nat)(k:q)(h:Au q→Bq n p:=by intro zq9;(with_reducible refine Br ?_);(refine An AA (V.fieldAddr Fy rfl A7) ?_);go_step;with_reducible exact zq9.out):p:=h ⟨k⟩
theorem Xz(n:Nat)(k:q)(h:Au q→Bq n p:=by intro zq9;(with_reducible refine Br ?_);(refine An AA (V.fieldAddr VN rfl A7) ?_);go_step;with_reducible exact zq9.out):p:=h ⟨k⟩
theorem YA(n:Nat)(k:q)(h:Au q→Bq n p:=by intro zq9;(with_reducible refine Br ?_);(refine An AA (V.indexAr Tryz.underlying26 ET rfl rfl A9 (by omega) (Nat.mul_one _) A7) ?_);go_step;with_reducible exact zq9.out):p:=h ⟨k⟩
theorem YB(n:Nat)(k:q)(h:Au q→Bq n p:=by intro zq9;(with_reducible refine Br ?_);(refine An AA (V.len Tryz.underlying160 rfl) ?_);go_step;with_reducible exact zq9.out):p:=h ⟨k⟩
theorem aK(n:Nat){T q:Nat→World→Prop}(k:∀g w,T g w→q g w)(h:G7 T q→Bq n p:=by intro zq9;(with_reducible refine Br ?_);(refine Ad ?_;apply B4 (o:=⟨some _,_,_,_,_,_⟩) hS 133 rfl (.pointer none) [.pointer none] (fun w=>Tryz.zeroValue133 w) rfl);intro g w9 h9;refine AB ?_;go_step;with_reducible exact zq9.out g w9 h9):p:=h ⟨k⟩
theorem aL(n:Nat){T q:Nat→World→Prop}(k:∀g w,T g w→q g w)(h:G7 T q→Bq n p:=by intro zq9;(with_reducible refine Br ?_);(refine Ad ?_;apply B4 (o:=⟨some _,_,_,_,_,_⟩) hS 197 rfl (.agg #[.int .i64 0, .int .i64 0, .int .i64 0]) [.int .i64 0, .int .i64 0, .int .i64 0] (fun w=>Tryz.zeroValue197 w) rfl);intro g w9 h9;refine AB ?_;go_step;with_reducible exact zq9.out g w9 h9):p:=h ⟨k⟩
theorem aM(n:Nat){T q:Nat→World→Prop}(k:∀g w,T g w→q g w)(h:G7 T q→Bq n p:=by intro zq9;(with_reducible refine Br ?_);(refine Ad ?_;apply B4 (o:=⟨some _,_,_,_,_,_⟩) hS 203 rfl (.agg #[.int .i64 0, .int .i64 0, .int .i64 0, .int .i64 0, .int .i64 0, .int .i64 0, .int .i64 0, .int .i64 0, .int .i64 0]) [.int .i64 0, .int .i64 0, .int .i64 0, .int .i64 0, .int .i64 0, .int .i64 0, .int .i64 0, .int .i64 0, .int .i64 0] (fun w=>Tryz.zeroValue203 w) rfl);intro g w9 h9;refine AB ?_;go_step;with_reducible exact zq9.out g w9 h9):p:=h ⟨k⟩
theorem aN(n:Nat){T q:Nat→World→Prop}(k:∀g w,T g w→q g w)(h:G7 T q→Bq n p:=by intro zq9;(with_reducible refine Br ?_);(refine Ad ?_;apply AU (o:=⟨some _,_,_,_,_,_⟩) hS 35 1 _ rfl 5 1 1 Hb _ _;(case hvs=>(repeat (first|exact AW.nil|(apply AW.agg;(rfl);(rfl))|(apply AW.one;exact CI;(rfl);(rfl)))));(case hn=>rfl);(case hn0=>decide);(case hns=>decide));intro g w9 h9;refine AB ?_;go_step;with_reducible exact zq9.out g w9 h9):p:=h ⟨k⟩
theorem aO{T q:World→Prop}(k:∀w,T w→q w)(h:JK T q→p:=by intro zq9;(with_reducible refine Ak _ (.store 133 _ _) ?_);(refine Ad ?_;apply Bv hS 133 _ _ rfl _ _ rfl (AH rfl) _ _;(case hp=>exact AL);(case hy=>exact CI);(case hv=>rfl);(case hc=>exact XP);(case hd=>exact rfl));intro w9 h9;with_reducible exact zq9.out w9 h9):p:=h ⟨k⟩
theorem aP{T q:World→Prop}(k:∀w,T w→q w)(h:JK T q→p:=by intro zq9;(with_reducible refine Ak _ (.store 197 _ _) ?_);(refine Ad ?_;apply CZ hS 197 _ _ rfl _ rfl 3 (AO rfl) _ _;(case hp=>exact AL);(case hy=>rfl);(case hn=>rfl);(case hn'=>rfl);(case hv=>rfl);(case hd=>exact rfl));intro w9 h9;with_reducible exact zq9.out w9 h9):p:=h ⟨k⟩
theorem aQ{T q:World→Prop}(k:∀w,T w→q w)(h:JK T q→p:=by intro zq9;(with_reducible refine Ak _ (.store 203 _ _) ?_);(refine Ad ?_;apply CZ hS 203 _ _ rfl _ rfl 9 (AO rfl) _ _;(case hp=>exact AL);(case hy=>rfl);(case hn=>rfl);(case hn'=>rfl);(case hv=>rfl);(case hd=>exact rfl));intro w9 h9;with_reducible exact zq9.out w9 h9):p:=h ⟨k⟩
theorem aR{T q:World→Prop}(k:∀w,T w→q w)(h:JK T q→p:=by intro zq9;(with_reducible refine Ak _ (.store 3 _ _) ?_);(refine Ad ?_;apply Ji hS 3 _ _ rfl _ _ rfl (AH rfl) _ _ _ _ _;(case hp=>exact AL);(case hy=>rfl);(case hi=>omega);(case hd=>exact rfl));intro w9 h9;with_reducible exact zq9.out w9 h9):p:=h ⟨k⟩
theorem aS(k:q)(h:Au q→p:=by intro zq9;(with_reducible refine Ak _ (.binOp .shl _ _ _ _) ?_);(refine An AA (V.shlI rfl rfl A9 (by omega) (by omega)) ?_);go_step;with_reducible exact zq9.out):p:=h ⟨k⟩
theorem aT(k:q)(h:Au q→p:=by intro zq9;(with_reducible refine Ak _ (.call ⟨.builtin .len,_,_⟩) ?_);(refine An AA (V.len Tryz.underlying141 rfl) ?_);go_step;with_reducible exact zq9.out):p:=h ⟨k⟩
theorem aU(k:q)(h:Au q→p:=by intro zq9;(with_reducible refine Ak _ (.call ⟨.builtin .len,_,_⟩) ?_);(refine An AA (V.len Tryz.underlying35 rfl) ?_);go_step;with_reducible exact zq9.out):p:=h ⟨k⟩
theorem aV(k:q)(h:Au q→p:=by intro zq9;(with_reducible refine Ak _ (.fieldAddr 32 _ 1) ?_);(refine An AA (V.fieldAddr VN rfl A7) ?_);go_step;with_reducible exact zq9.out):p:=h ⟨k⟩
theorem aW(k:q)(h:Au q→p:=by intro zq9;(with_reducible refine Ak _ (.fieldAddr 37 _ 4) ?_);(refine An AA (V.fieldAddr VP rfl A7) ?_);go_step;with_reducible exact zq9.out):p:=h ⟨k⟩
theorem aX(k:q)(h:Au q→p:=by intro zq9;(with_reducible refine Ak _ (.fieldAddr 37 _ 6) ?_);(refine An AA (V.fieldAddr Qd rfl A7) ?_);go_step;with_reducible exact zq9.out):p:=h ⟨k⟩
theorem aY(k:q)(h:Au q→p:=by intro zq9;(with_reducible refine Ak _ (.fieldAddr 94 _ 0) ?_);(refine An AA (V.fieldAddr NM rfl A7) ?_);go_step;with_reducible exact zq9.out):p:=h ⟨k⟩
theorem aZ(k:q)(h:Au q→p:=by intro zq9;(with_reducible refine Ak _ (.fieldAddr 94 _ 1) ?_);(refine An AA (V.fieldAddr NN rfl A7) ?_);go_step;with_reducible exact zq9.out):p:=h ⟨k⟩
theorem ae(k:q)(h:Au q→p:=by intro zq9;(with_reducible refine Ak _ (.load 26 _) ?_);(refine Ad ?_;apply EK hS 26 _ rfl _ _ rfl 64 (AO rfl) _;(case hl=>with_reducible assumption);(case hr=>with_reducible assumption);refine AB ?_);go_step;with_reducible exact zq9.out):p:=h ⟨k⟩
theorem ag(k:q)(h:Au q→p:=by intro zq9;(with_reducible refine Ak _ (.load 3 _) ?_);(refine Ad ?_;apply BW hS 3 _ rfl _ _ rfl (AH rfl) _ _;(case hp=>exact AL);(case hi=>omega);refine AB ?_);go_step;with_reducible exact zq9.out):p:=h ⟨k⟩
theorem ah(k:q)(h:Au q→p:=by intro zq9;(with_reducible refine Ak _ (.load 30 _) ?_);(refine Ad ?_;apply AX hS 30 _ rfl _ _ rfl (AH rfl) _;(case hp=>exact AL);(case hc=>rfl);refine AB ?_);go_step;with_reducible exact zq9.out):p:=h ⟨k⟩
theorem ai(k:q)(h:Au q→p:=by intro zq9;(with_reducible refine Ak _ (.slice 35 _ _ _ _) ?_);(refine An AA (V.slice Tryz.underlying35 Ve rfl (by (first|exact Lo.none|exact Lo.some rfl A9)) (by (first|exact Up.none|exact Up.some rfl A9)) (by omega) (by omega)) ?_);go_step;with_reducible exact zq9.out):p:=h ⟨k⟩
theorem ar(n:Nat)(k:q)(h:Au q→Bq n p:=by intro zq9;(with_reducible refine Br ?_);(refine Ad ?_;apply LU (enc:=ik) hS 165 _ _ rfl _ rfl _ rfl Tryz.underlying165 (CM Tryz.underlying3) (.int .i64 0) (fun w=>Tryz.zeroValue3 w) _;(case hp=>exact AL);(case hf=>with_reducible assumption);refine AB ?_);go_step;with_reducible exact zq9.out):p:=h ⟨k⟩
theorem au(n:Nat)(k:q)(h:Au q→Bq n p:=by intro zq9;(with_reducible refine Br ?_);(refine Ag (.int _ (((2*z+y:Nat):Int))) (V.as (V.addI rfl rfl (by omega)) (by omega)) (by kernel_rfl) ?_);go_step;with_reducible exact zq9.out):p:=h ⟨k⟩
theorem aw(n:Nat)(k:q)(h:Au q→Bq n p:=by intro zq9;(with_reducible refine Br ?_);(refine Ag (.int _ (((2*z:Nat):Int))) (V.as (V.shlI rfl rfl A9 (by omega) (by omega)) (by omega)) (by kernel_rfl) ?_);go_step;with_reducible exact zq9.out):p:=h ⟨k⟩
theorem ax(n:Nat)(k:q)(h:Au q→Bq n p:=by intro zq9;(with_reducible refine Br ?_);(refine Ag (.int _ (((Lf%8:Nat):Int))) (V.as (V.rem rfl rfl (by omega) (by omega)) (by omega)) (by kernel_rfl) ?_);go_step;with_reducible exact zq9.out):p:=h ⟨k⟩
theorem ay(n:Nat)(k:q)(h:Au q→Bq n p:=by intro zq9;(with_reducible refine Br ?_);(refine Ag (.int _ (((a+s:Nat):Int))) (V.as (V.addI rfl rfl (by omega)) (by omega)) (by kernel_rfl) ?_);go_step;with_reducible exact zq9.out):p:=h ⟨k⟩
theorem az(n:Nat)(k:q)(h:Au q→Bq n p:=by intro zq9;(with_reducible refine Br ?_);(refine Ag (.int _ (((k:Int)%16))) (V.as (V.and rfl rfl) (by exact HAnd.out)) (by kernel_rfl) ?_);go_step;with_reducible exact zq9.out):p:=h ⟨k⟩
theorem bA(n:Nat)(k:q)(h:Au q→Bq n p:=by intro zq9;(with_reducible refine Br ?_);(refine Ag (.int _ (((k:Nat):Int))) (V.as (V.and rfl rfl) (by rw [HAnd.out];exact hk1.out)) (by kernel_rfl) ?_);go_step;with_reducible exact zq9.out):p:=h ⟨k⟩
theorem bB(n:Nat)(k:q)(h:Au q→Bq n p:=by intro zq9;(with_reducible refine Br ?_);(refine Ag (.int _ (((s+1:Nat):Int))) (V.as (V.addI rfl rfl (by omega)) (by omega)) (by kernel_rfl) ?_);go_step;with_reducible exact zq9.out):p:=h ⟨k⟩
theorem bC(n:Nat)(k:q)(h:Au q→Bq n p:=by intro zq9;(with_reducible refine Br ?_);(refine Ag (.int _ (((x:Nat):Int))) (V.as (V.subI rfl rfl (by omega)) (by omega)) (by kernel_rfl) ?_);go_step;with_reducible exact zq9.out):p:=h ⟨k⟩
theorem bD(n:Nat)(k:q)(h:Au q→Bq n p:=by intro zq9;(with_reducible refine Br ?_);(refine Ag (.int _ (0)) (V.as (V.subI rfl rfl (by omega)) (by omega)) (by kernel_rfl) ?_);go_step;with_reducible exact zq9.out):p:=h ⟨k⟩
theorem bF(n:Nat)(k:q)(h:Au q→Bq n p:=by intro zq9;(with_reducible refine Br ?_);(refine An AA (V.build (vs:=[(0,_),(1,_),(2,_),(3,_),(4,_),(5,_),(6,_),(7,_),(8,_)]) rfl (E9 _ _ _ _ _ _ _ _ _)) ?_);go_step;with_reducible exact zq9.out):p:=h ⟨k⟩
theorem bG(n:Nat)(k:q)(h:Au q→Bq n p:=by intro zq9;(with_reducible refine Br ?_);(refine An AA (V.indexAr Tryz.underlying26 ET rfl rfl (show Bk 0 0 from rfl) (by omega) (show 0*1=0 from rfl) A7) ?_);go_step;with_reducible exact zq9.out):p:=h ⟨k⟩
theorem dT(n:Nat){T q:Nat→World→Prop}(k:∀g w,T g w→q g w)(h:G7 T q→Bq n p:=by intro zq9;(with_reducible refine Br ?_);(refine Ad ?_;apply AU (o:=⟨some _,_,_,_,_,_⟩) hS 22 1 _ rfl 30 1 24 br _ _;(case hvs=>(repeat (first|exact AW.nil|(apply AW.agg;(rfl);(rfl))|(apply AW.one;exact CI;(rfl);(rfl)))));(case hn=>rfl);(case hn0=>decide);(case hns=>decide));intro g w9 h9;refine AB ?_;go_step;with_reducible exact zq9.out g w9 h9):p:=h ⟨k⟩
theorem dU(n:Nat){T q:Nat→World→Prop}(k:∀g w,T g w→q g w)(h:G7 T q→Bq n p:=by intro zq9;(with_reducible refine Br ?_);(refine Ad ?_;apply DT (o:=⟨some _,_,_,_,_,_⟩) hS 30 1 _ rfl 3 1 8 M9 _ _;(case hvs=>(repeat (first|exact AW.nil|(apply AW.agg;(rfl);(rfl))|(apply AW.one;exact CI;(rfl);(rfl)))));(case hn=>rfl);(case hn0=>decide);(case hns=>decide));intro g w9 h9;refine AB ?_;go_step;with_reducible exact zq9.out g w9 h9):p:=h ⟨k⟩
theorem dV(n:Nat){T q:Nat→World→Prop}(k:∀g w,T g w→q g w)(h:G7 T q→Bq n p:=by intro zq9;(with_reducible refine Br ?_);(refine Ad ?_;apply KD (o:=⟨some _,_,_,_,_,_⟩) hS 30 _ _ rfl _ _ _ _ VI _ _ _ _ _ _ rfl rfl;(case hi=>exact A9);(case hj=>exact A9);(case hnm=>omega);(case hb=>omega);(case h63=>unfold maxLen;omega));intro g w9 h9;refine AB ?_;go_step;with_reducible exact zq9.out g w9 h9):p:=h ⟨k⟩
theorem dW{T q:World→Prop}(k:∀w,T w→q w)(h:JK T q→p:=by intro zq9;(with_reducible refine Ak _ (.mapUpdate 165 _ _ _) ?_);(refine Ad ?_;apply EF (enc:=ik) hS 165 _ _ _ rfl _ rfl _ rfl Tryz.underlying165 (CM Tryz.underlying3) _;(case hp=>exact AL);(case hv=>(first|exact DV.int rfl|exact DV.bool rfl|exact DV.slice rfl|exact DV.pointer rfl|exact DV.string rfl|exact DV.map rfl|exact DV.func rfl|exact DV.agg rfl));(case hd=>exact rfl));intro w9 h9;with_reducible exact zq9.out w9 h9):p:=h ⟨k⟩
theorem dX{T q:World→Prop}(k:∀w,T w→q w)(h:JK T q→p:=by intro zq9;(with_reducible refine Ak _ (.mapUpdate 167 _ _ _) ?_);(refine Ad ?_;apply EF (enc:=ik) hS 167 _ _ _ rfl _ rfl _ rfl Tryz.underlying167 (CM Tryz.underlying3) _;(case hp=>exact AL);(case hv=>(first|exact DV.int rfl|exact DV.bool rfl|exact DV.slice rfl|exact DV.pointer rfl|exact DV.string rfl|exact DV.map rfl|exact DV.func rfl|exact DV.agg rfl));(case hd=>exact rfl));intro w9 h9;with_reducible exact zq9.out w9 h9):p:=h ⟨k⟩
theorem dY{T q:World→Prop}(k:∀w,T w→q w)(h:JK T q→p:=by intro zq9;(with_reducible refine Ak _ (.store 168 _ _) ?_);(refine Ad ?_;apply Bv hS 168 _ _ rfl _ _ rfl (AH rfl) _ _;(case hp=>exact AL);(case hy=>exact CI);(case hv=>rfl);(case hc=>exact XP);(case hd=>exact rfl));intro w9 h9;with_reducible exact zq9.out w9 h9):p:=h ⟨k⟩
theorem dZ{T q:World→Prop}(k:∀w,T w→q w)(h:JK T q→p:=by intro zq9;(with_reducible refine Ak _ (.store 22 _ _) ?_);(refine Ad ?_;apply Bv hS 22 _ _ rfl _ _ rfl (AH rfl) _ _;(case hp=>exact AL);(case hy=>exact CI);(case hv=>rfl);(case hc=>exact XP);(case hd=>exact rfl));intro w9 h9;with_reducible exact zq9.out w9 h9):p:=h ⟨k⟩
theorem da{T q:World→Prop}(k:∀w,T w→q w)(h:JK T q→p:=by intro zq9;(with_reducible refine Ak _ (.store 30 _ _) ?_);(refine Ad ?_;apply Hz hS 30 _ _ rfl _ _ rfl (AH rfl) _ _;(case hp=>exact AL);(case hy=>exact CI);(case hz=>rfl);(case hi=>(repeat (first|exact G5.head|(apply G5.skipI;(case hn=>exact EC);(case h=>omega);(case ho=>rfl))|apply G5.skipV)));(case hd=>exact rfl));intro w9 h9;with_reducible exact zq9.out w9 h9):p:=h ⟨k⟩
theorem db(n:Nat){T q:Nat→World→Prop}(k:∀g w,T g w→q g w)(h:G7 T q→Bq n p:=by intro zq9;(with_reducible refine Br ?_);(refine Ad ?_;apply DT (o:=⟨some _,_,_,_,_,_⟩) hS 141 1 _ rfl 155 3 24 VH _ _;(case hvs=>(repeat (first|exact AW.nil|(apply AW.agg;(rfl);(rfl))|(apply AW.one;exact CI;(rfl);(rfl)))));(case hn=>rfl);(case hn0=>decide);(case hns=>decide));intro g w9 h9;simp only [List.cons_append,List.nil_append] at h9;refine AB ?_;go_step;with_reducible exact zq9.out g w9 h9):p:=h ⟨k⟩
theorem dc(k:q)(h:Au q→p:=by intro zq9;(with_reducible refine Ak _ (.load 140 _) ?_);(refine Ad ?_;apply Dz hS 140 _ rfl _ rfl 2 (AO rfl) _;(case hp=>exact AL);(case hn=>rfl);refine AB ?_);go_step;with_reducible exact zq9.out):p:=h ⟨k⟩
theorem de(k:q)(h:Au q→p:=by intro zq9;(with_reducible refine Ak _ (.load 155 _) ?_);(first|(refine Ad ?_;apply Hw hS 155 _ rfl _ _ rfl 3 (AO rfl) _ _ _ _ _;(case hp=>exact AL);(case hi=>omega);(case hl'=>with_reducible assumption);refine AB ?_)|(refine Ad ?_;apply Dz hS 155 _ rfl _ rfl 3 (AO rfl) _;(case hp=>exact AL);(case hn=>rfl);refine AB ?_));go_step;with_reducible exact zq9.out):p:=h ⟨k⟩
theorem df(k:q)(h:Au q→p:=by intro zq9;(with_reducible refine Ak _ (.load 168 _) ?_);(refine Ad ?_;apply AX hS 168 _ rfl _ _ rfl (AH rfl) _;(case hp=>exact AL);(case hc=>rfl);refine AB ?_);go_step;with_reducible exact zq9.out):p:=h ⟨k⟩
theorem dg(k:q)(h:Au q→p:=by intro zq9;(with_reducible refine Ak _ (.load 172 _) ?_);(refine Ad ?_;apply Aa hS 172 _ rfl _ rfl (AH rfl) _;(case hc=>with_reducible assumption);refine AB ?_);go_step;with_reducible exact zq9.out):p:=h ⟨k⟩
theorem dh(k:q)(h:Au q→p:=by intro zq9;(with_reducible refine Ak _ (.load 199 _) ?_);(refine Ad ?_;apply AX hS 199 _ rfl _ _ rfl (AH rfl) _;(case hp=>exact AL);(case hc=>rfl);refine AB ?_);go_step;with_reducible exact zq9.out):p:=h ⟨k⟩
theorem di(k:q)(h:Au q→p:=by intro zq9;(with_reducible refine Ak _ (.load 200 _) ?_);(refine Ad ?_;apply AX hS 200 _ rfl _ _ rfl (AH rfl) _;(case hp=>exact AL);(case hc=>rfl);refine AB ?_);go_step;with_reducible exact zq9.out):p:=h ⟨k⟩
theorem dj(k:q)(h:Au q→p:=by intro zq9;(with_reducible refine Ak _ (.load 26 _) ?_);(refine Ad ?_;apply Mq hS 26 _ rfl _ _ rfl 64 (AO rfl) _;(case hp=>exact AL);(case hi=>(repeat (first|(apply RN.head;exact EC)|(apply RN.skipI;(case hn=>exact EC);(case h=>omega);(case ho=>rfl))|apply RN.skipV)));refine AB ?_);go_step;with_reducible exact zq9.out):p:=h ⟨k⟩
theorem dk(k:q)(h:Au q→p:=by intro zq9;(with_reducible refine Ak _ (.load 3 _) ?_);(first|(refine Ad ?_;apply Hv hS 3 _ rfl _ _ rfl (AH rfl) _ _ _ _ _;(case hp=>exact AL);(case hi=>omega);refine AB ?_)|(refine Ad ?_;apply AX hS 3 _ rfl _ _ rfl (AH rfl) _;(case hp=>exact AL);(case hc=>rfl);refine AB ?_));go_step;with_reducible exact zq9.out):p:=h ⟨k⟩
theorem dm(k:q)(h:Au q→p:=by intro zq9;(with_reducible refine Ak _ (.load 3 _) ?_);(refine Ad ?_;apply Hv hS 3 _ rfl _ _ rfl (AH rfl) _ _ _ _ _;(case hp=>exact AL);(case hi=>omega);refine AB ?_);go_step;with_reducible exact zq9.out):p:=h ⟨k⟩
theorem dq(k:q)(h:Au q→p:=by intro zq9;(with_reducible refine Ak _ (.load 35 _) ?_);(refine Ad ?_;apply Ah hS 35 _ rfl _ _ rfl (AH rfl) _ _ _ _ _;(case hp=>exact AL);(case hv=>with_reducible assumption);refine AB ?_);go_step;with_reducible exact zq9.out):p:=h ⟨k⟩
theorem dr(n:Nat)(k:q)(h:Au q→Bq n p:=by intro zq9;(with_reducible refine Br ?_);(refine Ad ?_;apply LT (enc:=ik) hS 165 _ _ rfl _ rfl _ rfl Tryz.underlying165 (CM Tryz.underlying3) (.int .i64 0) (fun w=>Tryz.zeroValue3 w) _;(case hp=>exact AL);(case hf=>with_reducible assumption);refine AB ?_);go_step;with_reducible exact zq9.out):p:=h ⟨k⟩
theorem dt(n:Nat)(k:q)(h:Au q→Bq n p:=by intro zq9;(with_reducible refine Br ?_);(refine Ag (.func (.func 101) #[] #[.pointer (some ⟨g5,0,none⟩), .pointer (some ⟨g6,0,none⟩)]) (V.makeFunc rfl) AA ?_);go_step;with_reducible exact zq9.out):p:=h ⟨k⟩
theorem du(n:Nat)(k:q)(h:Au q→Bq n p:=by intro zq9;(with_reducible refine Br ?_);(refine Ag (.func (.func 108) #[] #[.pointer (some ⟨g6,0,none⟩), .pointer (some ⟨g8,0,none⟩)]) (V.makeFunc rfl) AA ?_);go_step;with_reducible exact zq9.out):p:=h ⟨k⟩
theorem dv(n:Nat)(k:q)(h:Au q→Bq n p:=by intro zq9;(with_reducible refine Br ?_);(refine Ag (.iface 140 (.agg #[.pointer (some ⟨gc,0,none⟩), .pointer (some ⟨gr,0,none⟩)])) (V.mkIf rfl (fun w=>by kernel_rfl)) AA ?_);go_step;with_reducible exact zq9.out):p:=h ⟨k⟩
end
end Go.Proofs.YtohacgmhmbijmaaGreatDoor
namespace Go.Proofs.YtohacgmhmbijmaaGreatDoor
attribute [local irreducible] Region.wanted
set_option linter.unusedVariables false
set_option maxRecDepth 100000
set_option maxHeartbeats 8000000
theorem Ff:(Tryz.prog.info? 30).map (·.size)=some 1:=by kernel_rfl
theorem Fx:AS Tryz.prog 24 0 0 3:=AS.mk' _ _ 1 Tryz.underlying24 rfl rfl rfl AA (by decide)
theorem Ke:AS Tryz.prog 24 1 1 3:=AS.mk' _ _ 1 Tryz.underlying24 rfl rfl rfl AA (by decide)
theorem Fy:AS Tryz.prog 24 2 2 22:=AS.mk' _ _ 1 Tryz.underlying24 rfl rfl rfl AA (by decide)
theorem ET:(Tryz.prog.info? 3).map (·.size)=some 1:=by kernel_rfl
theorem QX:AS Tryz.prog 32 0 0 29:=AS.mk' _ _ 16 Tryz.underlying32 rfl rfl rfl AA (by decide)
theorem VN:AS Tryz.prog 32 1 16 30:=AS.mk' _ _ 1 Tryz.underlying32 rfl rfl rfl AA (by decide)
theorem QY:AS Tryz.prog 34 0 0 32:=AS.mk' _ _ 17 Tryz.underlying34 rfl rfl rfl AA (by decide)
theorem QZ:AS Tryz.prog 34 1 17 32:=AS.mk' _ _ 17 Tryz.underlying34 rfl rfl rfl AA (by decide)
theorem Ve:(Tryz.prog.info? 5).map (·.size)=some 1:=by kernel_rfl
theorem Qa:AS Tryz.prog 37 0 0 3:=AS.mk' _ _ 1 Tryz.underlying37 rfl rfl rfl AA (by decide)
theorem Qb:AS Tryz.prog 37 1 1 3:=AS.mk' _ _ 1 Tryz.underlying37 rfl rfl rfl AA (by decide)
theorem VO:AS Tryz.prog 37 2 2 3:=AS.mk' _ _ 1 Tryz.underlying37 rfl rfl rfl AA (by decide)
theorem Qc:AS Tryz.prog 37 3 3 26:=AS.mk' _ _ 64 Tryz.underlying37 rfl rfl rfl AA (by decide)
theorem VP:AS Tryz.prog 37 4 67 34:=AS.mk' _ _ 34 Tryz.underlying37 rfl rfl rfl AA (by decide)
theorem Kf:AS Tryz.prog 37 5 101 3:=AS.mk' _ _ 1 Tryz.underlying37 rfl rfl rfl AA (by decide)
theorem Qd:AS Tryz.prog 37 6 102 35:=AS.mk' _ _ 1 Tryz.underlying37 rfl rfl rfl AA (by decide)
theorem JY:(Tryz.prog.info? 26).map (·.size)=some 64:=by kernel_rfl
theorem SB:(Tryz.prog.info? 35).map (·.size)=some 1:=by kernel_rfl
theorem eH:(Tryz.prog.info? 94).map (·.size)=some 2:=by kernel_rfl
theorem NM:AS Tryz.prog 94 0 0 3:=AS.mk' _ _ 1 Tryz.underlying94 rfl rfl rfl AA (by decide)
theorem NN:AS Tryz.prog 94 1 1 3:=AS.mk' _ _ 1 Tryz.underlying94 rfl rfl rfl AA (by decide)
theorem Ru:AS Tryz.prog 107 0 0 3:=AS.mk' _ _ 1 Tryz.underlying107 rfl rfl rfl AA (by decide)
theorem Rv:AS Tryz.prog 107 1 1 3:=AS.mk' _ _ 1 Tryz.underlying107 rfl rfl rfl AA (by decide)
theorem eG:(Tryz.prog.info? 32).map (·.size)=some 17:=by kernel_rfl
theorem J0:AS Tryz.prog 140 0 0 133:=AS.mk' _ _ 1 Tryz.underlying140 rfl rfl rfl AA (by decide)
theorem IG:AS Tryz.prog 140 1 1 137:=AS.mk' _ _ 1 Tryz.underlying140 rfl rfl rfl AA (by decide)
theorem NQ:(Tryz.prog.info? 155).map (·.size)=some 3:=by kernel_rfl
theorem J1:AS Tryz.prog 155 0 0 3:=AS.mk' _ _ 1 Tryz.underlying155 rfl rfl rfl AA (by decide)
theorem NH:AS Tryz.prog 155 1 1 3:=AS.mk' _ _ 1 Tryz.underlying155 rfl rfl rfl AA (by decide)
theorem Rx:AS Tryz.prog 155 2 2 3:=AS.mk' _ _ 1 Tryz.underlying155 rfl rfl rfl AA (by decide)
theorem NI:AS Tryz.prog 159 0 0 3:=AS.mk' _ _ 1 Tryz.underlying159 rfl rfl rfl AA (by decide)
theorem NJ:AS Tryz.prog 159 1 1 30:=AS.mk' _ _ 1 Tryz.underlying159 rfl rfl rfl AA (by decide)
theorem Qh:(Tryz.prog.info? 159).map (·.size)=some 2:=by kernel_rfl
theorem Ye:AS Tryz.prog 181 0 0 172:=AS.mk' _ _ 1 Tryz.underlying181 rfl rfl rfl AA (by decide)
theorem Yf:AS Tryz.prog 181 1 1 172:=AS.mk' _ _ 1 Tryz.underlying181 rfl rfl rfl AA (by decide)
theorem Ry:AS Tryz.prog 184 0 0 35:=AS.mk' _ _ 1 Tryz.underlying184 rfl rfl rfl AA (by decide)
theorem J2:AS Tryz.prog 184 1 1 3:=AS.mk' _ _ 1 Tryz.underlying184 rfl rfl rfl AA (by decide)
theorem Rz:AS Tryz.prog 197 0 0 3:=AS.mk' _ _ 1 Tryz.underlying197 rfl rfl rfl AA (by decide)
theorem R0:AS Tryz.prog 197 1 1 3:=AS.mk' _ _ 1 Tryz.underlying197 rfl rfl rfl AA (by decide)
theorem R3:AS Tryz.prog 197 2 2 3:=AS.mk' _ _ 1 Tryz.underlying197 rfl rfl rfl AA (by decide)
theorem NK:AS Tryz.prog 202 0 0 199:=AS.mk' _ _ 1 Tryz.underlying202 rfl rfl rfl AA (by decide)
theorem NL:AS Tryz.prog 202 1 1 200:=AS.mk' _ _ 1 Tryz.underlying202 rfl rfl rfl AA (by decide)
theorem b7:(Tryz.prog.info? 197).map (·.size)=some 3:=by kernel_rfl
end Go.Proofs.YtohacgmhmbijmaaGreatDoor
