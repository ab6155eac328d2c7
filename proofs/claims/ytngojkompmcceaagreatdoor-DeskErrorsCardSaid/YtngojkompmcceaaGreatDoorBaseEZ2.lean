/- What the laws DeskErrors need, part 2. -/
import Derived.Test.YtngojkompmcceaaGreatDoorBaseEZ1
import Derived.Test.YtngojkompmcceaaGreatDoorProg
namespace Go.Proofs.YtngojkompmcceaaGreatDoor
open Go.RowKit
set_option linter.unusedVariables false
set_option maxRecDepth 100000
set_option maxHeartbeats 8000000
def Bk(P:Program)(op:Op)(ty:TypeId)(a:Act)(v:Value):Prop:=
 ∀(d:Option Tmp)(pos:String)(af:Array Edge)(g:Option (Nat×Bool))(w:World),(execOp a.eval ⟨d,op,ty,pos,af,g⟩).run P w= .ok (.value v) w
section
variable{P:Program}{ops:Array Oper}{Q:Exit→Act→World→Prop}{rest:List Oper}{a:Act}{w:World}{d:Option Tmp}{op:Op}{ty:TypeId}{pos:String}{af:Array Edge}{g:Option (Nat×Bool)}
theorem EZ(v:Value)(K:Act→World→Prop)(h:K (a.put d v) w):(Oper.mk d (.move (.const v)) ty pos af g).wp P a w K Q:=h
theorem AR(v:Value)(hv:Bk P op ty a v)(hw:Region.wanted ⟨d,op,ty,pos,af,g⟩ (yielded ops a.tmps)=true)(h:(Oper.mk d (.move (.const v)) ty pos af g).wp P a w (wpList P ops Q rest) Q):wpList P ops Q (⟨d,op,ty,pos,af,g⟩::rest) a w:=by
 refine Ot hw ?_
 unfold Oper.wp
 rw [hv d pos af g w]
 exact h
theorem MT(b:Bool)(hv:Bk P op ty a (.bool b))(hw:Region.wanted ⟨d,op,ty,pos,af,g⟩ (yielded ops a.tmps)=true)(ht:b=true→(Oper.mk d (.move (.const (.bool true))) ty pos af g).wp P a w (wpList P ops Q rest) Q)
 (hf:b=false→(Oper.mk d (.move (.const (.bool false))) ty pos af g).wp P a w (wpList P ops Q rest) Q):wpList P ops Q (⟨d,op,ty,pos,af,g⟩::rest) a w:=by
 cases b
 ·exact AR _ hv hw (hf rfl)
 exact AR _ hv hw (ht rfl)
theorem Bz(p:Prop)[Decidable p](hv:Bk P op ty a (.bool (decide p)))(hw:Region.wanted ⟨d,op,ty,pos,af,g⟩ (yielded ops a.tmps)=true)(ht:p→(Oper.mk d (.move (.const (.bool true))) ty pos af g).wp P a w (wpList P ops Q rest) Q)
 (hf:¬p→(Oper.mk d (.move (.const (.bool false))) ty pos af g).wp P a w (wpList P ops Q rest) Q):wpList P ops Q (⟨d,op,ty,pos,af,g⟩::rest) a w:=
 MT _ hv hw (fun h=>ht (of_decide_eq_true h)) (fun h=>hf (of_decide_eq_false h))
theorem AB{d:Tmp}{v:Value}(h:(Oper.mk (some d) (.move (.const v)) 0 "" #[] none).wp P a w (wpList P ops Q rest) Q):wpList P ops Q rest (a.put (some d) v) w:=h
theorem AJ{md:Region.Mode}{D:List Nat}{S:World→Prop}{fuel:Nat}{listed:Array Bool}{d:Tmp}{v:Value}(h:(Oper.mk (some d) (.move (.const v)) 0 "" #[] none).wp P a w (AH P md ops Q D S fuel listed) Q):AH P md ops Q D S fuel listed (a.put (some d) v) w:=h
theorem Ag{c x y:Operand}(hc:a.eval c= .bool true)(hw:Region.wanted ⟨d, .pick c x y,ty,pos,af,g⟩ (yielded ops a.tmps)=true)(h:(Oper.mk d (.move x) ty pos af g).wp P a w (wpList P ops Q rest) Q):wpList P ops Q (⟨d, .pick c x y,ty,pos,af,g⟩::rest) a w:=by
 refine Ot hw ?_
 unfold Oper.wp execOp at*
 simp only [hc,asBool,Sem.run_bind,Sem.run_pure,Result.andThen_ok,if_true] at*
 exact h
theorem AZ{c x y:Operand}(hc:a.eval c= .bool false)(hw:Region.wanted ⟨d, .pick c x y,ty,pos,af,g⟩ (yielded ops a.tmps)=true)(h:(Oper.mk d (.move y) ty pos af g).wp P a w (wpList P ops Q rest) Q):wpList P ops Q (⟨d, .pick c x y,ty,pos,af,g⟩::rest) a w:=by
 refine Ot hw ?_
 unfold Oper.wp execOp at*
 simp only [hc,asBool,Sem.run_bind,Sem.run_pure,Result.andThen_ok,Bool.false_eq_true,if_false] at*
 exact h
end
def Ar(z:Int)(j:Nat):Prop:=z=(j:Int)
theorem Ar.cast{j:Nat}:Ar (j:Int) j:=rfl
theorem Ar.add{x y:Int}{i j:Nat}(h:Ar x i)(k:Ar y j):Ar (x+y) (i+j):=by unfold Ar at*;omega
theorem Ar.mul{x y:Int}{i j:Nat}(h:Ar x i)(k:Ar y j):Ar (x*y) (i*j):=by unfold Ar at*;rw [h,k];push_cast;rfl
theorem Ar.div{x y:Int}{i j:Nat}(h:Ar x i)(k:Ar y j):Ar (x/y) (i/j):=by unfold Ar at*;rw [h,k];push_cast;rfl
theorem Ar.mod{x y:Int}{i j:Nat}(h:Ar x i)(k:Ar y j):Ar (x%y) (i%j):=by unfold Ar at*;rw [h,k];push_cast;rfl
theorem Ar.min{x y:Int}{i j:Nat}(h:Ar x i)(k:Ar y j):Ar (Min.min x y) (Min.min i j):=by unfold Ar at*;omega
theorem Ar.max{x y:Int}{i j:Nat}(h:Ar x i)(k:Ar y j):Ar (Max.max x y) (Max.max i j):=by unfold Ar at*;omega
class Bj(z:Int)(j:outParam Nat):Prop where
 out:Ar z j
instance Bj.cast{j:Nat}:Bj (j:Int) j:=⟨rfl⟩
instance Bj.l0:Bj 0 0:=⟨rfl⟩
instance Bj.l1:Bj 1 1:=⟨rfl⟩
instance Bj.l2:Bj 2 2:=⟨rfl⟩
instance Bj.l3:Bj 3 3:=⟨rfl⟩
instance Bj.l4:Bj 4 4:=⟨rfl⟩
instance Bj.l5:Bj 5 5:=⟨rfl⟩
instance Bj.l6:Bj 6 6:=⟨rfl⟩
instance Bj.l7:Bj 7 7:=⟨rfl⟩
instance Bj.l8:Bj 8 8:=⟨rfl⟩
instance Bj.add{x y:Int}{i j:Nat}[h:Bj x i][k:Bj y j]:Bj (x+y) (i+j):=⟨h.out.add k.out⟩
instance Bj.mul{x y:Int}{i j:Nat}[h:Bj x i][k:Bj y j]:Bj (x*y) (i*j):=⟨h.out.mul k.out⟩
theorem Ar.auto{z:Int}{j:Nat}[h:Bj z j]:Ar z j:=h.out
theorem Ar.sub{x y:Int}{i j:Nat}(h:Ar x i)(k:Ar y j)(l:j≤i):Ar (x-y) (i-j):=by unfold Ar at*;omega
theorem Ar.toNat{x:Int}(h:0≤x):Ar x x.toNat:=by unfold Ar;omega
section
variable{P:Program}{a:Act}{x y z:Operand}{t u ty:TypeId}{m n:Int}{k:IntKind}
theorem V.as{op:Op}{m':Int}(h:Bk P op ty a (.int k m))(e:m=m'):Bk P op ty a (.int k m'):=e▸ h
theorem V.add(hx:a.eval x= .int k m)(hy:a.eval y= .int k n):Bk P (.binOp .add t x y u) ty a (.int k (k.wrap (m+n))):=fun d pos af g w=>by
 simp only [execOp,hx,hy,binOp_add,Op.intArith,eqGuard];rfl
theorem V.sub(hx:a.eval x= .int k m)(hy:a.eval y= .int k n):Bk P (.binOp .sub t x y u) ty a (.int k (k.wrap (m-n))):=fun d pos af g w=>by
 simp only [execOp,hx,hy,binOp_sub,Op.intArith,eqGuard];rfl
theorem V.mul(hx:a.eval x= .int k m)(hy:a.eval y= .int k n):Bk P (.binOp .mul t x y u) ty a (.int k (k.wrap (m*n))):=fun d pos af g w=>by
 simp only [execOp,hx,hy,binOp_mul,Op.intArith,eqGuard];rfl
theorem V.addI(hx:a.eval x= .int .i64 m)(hy:a.eval y= .int .i64 n)(h: -9223372036854775808≤m+n∧m+n≤9223372036854775807):Bk P (.binOp .add t x y u) ty a (.int .i64 (m+n)):=by
 have:=V.add (P:=P) (t:=t) (u:=u) (ty:=ty) hx hy;rwa [IntWalk.i64_in _ h] at this
theorem V.subR(hk:k≠ .i64)(hx:a.eval x= .int k m)(hy:a.eval y= .int k n):Bk P (.binOp .sub t x y u) ty a (.int k (k.wrap (m-n))):=V.sub hx hy
theorem V.subI(hx:a.eval x= .int .i64 m)(hy:a.eval y= .int .i64 n)(h: -9223372036854775808≤m-n∧m-n≤9223372036854775807):Bk P (.binOp .sub t x y u) ty a (.int .i64 (m-n)):=by
 have:=V.sub (P:=P) (t:=t) (u:=u) (ty:=ty) hx hy;rwa [IntWalk.i64_in _ h] at this
theorem V.mulI(hx:a.eval x= .int .i64 m)(hy:a.eval y= .int .i64 n)(h: -9223372036854775808≤m*n∧m*n≤9223372036854775807):Bk P (.binOp .mul t x y u) ty a (.int .i64 (m*n)):=by
 have:=V.mul (P:=P) (t:=t) (u:=u) (ty:=ty) hx hy;rwa [IntWalk.i64_in _ h] at this
theorem V.neg(hx:a.eval x= .int .i64 n)(h: -9223372036854775807≤n∧n≤9223372036854775807):Bk P (.unOp .neg t x) ty a (.int .i64 (-n)):=fun d pos af g w=>by
 have e:Op.unary .neg (.int .i64 n)=pure (.int .i64 (IntKind.i64.wrap (0-n))):=rfl
 simp only [execOp,hx,e,Int.zero_sub,IntWalk.i64_in (-n) (by omega)];rfl
theorem V.quo(hx:a.eval x= .int .i64 m)(hy:a.eval y= .int .i64 n)(h:0≤m∧m≤9223372036854775807)(h2:0<n):Bk P (.binOp .quo t x y u) ty a (.int .i64 (m/n)):=fun d pos af g w=>by
 have e1:m.tdiv n=m/n:=Int.tdiv_eq_ediv_of_nonneg h.1
 have e2:0≤m/n:=Int.ediv_nonneg h.1 (by omega)
 have e3:m/n≤m:=Int.ediv_le_self n h.1
 have hn:n≠0:=by omega
 simp only [execOp,hx,hy,binOp_quo,Op.intDiv,eqGuard,if_neg hn,e1,IntWalk.i64_in (m/n) (by omega)];rfl
theorem V.rem(hx:a.eval x= .int k m)(hy:a.eval y= .int k n)(h:0≤m)(h2:0<n):Bk P (.binOp .rem t x y u) ty a (.int k (m%n)):=fun d pos af g w=>by
 have hn:n≠0:=by omega
 simp only [execOp,hx,hy,binOp_rem,Op.intDiv,eqGuard,if_neg hn,Int.tmod_eq_emod_of_nonneg h];rfl
theorem V.shl{yk:IntKind}{j:Nat}(hx:a.eval x= .int k m)(hy:a.eval y= .int yk n)(hj:Ar n j)(h:j<64)(hk:k.bits=64):Bk P (.binOp .shl t x y u) ty a (.int k (k.wrap (m*2^j))):=fun d pos af g w=>by
 unfold Ar at hj
 have h0:¬n<0:=by omega
 have hm:Min.min n.toNat k.bits=j:=by omega
 simp only [execOp,hx,hy,binOp_shl,Op.shift,eqGuard,if_neg h0,hm];rfl
theorem V.shlI{yk:IntKind}{j:Nat}(hx:a.eval x= .int .i64 m)(hy:a.eval y= .int yk n)(hj:Ar n j)(h:j<64)(h1: -9223372036854775808≤m*2^j∧m*2^j≤9223372036854775807):Bk P (.binOp .shl t x y u) ty a (.int .i64 (m*2^j)):=by
 have:=V.shl (P:=P) (t:=t) (u:=u) (ty:=ty) hx hy hj h rfl;rwa [IntWalk.i64_in _ h1] at this
theorem V.shl1{yk:IntKind}{j:Nat}(hx:a.eval x= .int .i64 1)(hy:a.eval y= .int yk n)(hj:Ar n j)(h:j<63):Bk P (.binOp .shl t x y u) ty a (.int .i64 (2^j)):=by
 have e:(2:Int)^j≤4611686018427387904:=by
  have:=Nat.pow_le_pow_right (n:=2) (by omega) (show j≤62 by omega)
  have h2:(2:Int)^j=((2^j:Nat):Int):=by push_cast;rfl
  omega
 have e0:(0:Int)≤2^j:=Int.pow_nonneg (by omega)
 have:=V.shl (P:=P) (t:=t) (u:=u) (ty:=ty) hx hy hj (by omega) rfl
 rwa [Int.one_mul,IntWalk.i64_in _ (by omega)] at this
theorem V.shr{yk:IntKind}{j:Nat}(hx:a.eval x= .int k m)(hy:a.eval y= .int yk n)(hj:Ar n j)(h:j<64)(hk:k.bits=64):Bk P (.binOp .shr t x y u) ty a (.int k (m/2^j)):=fun d pos af g w=>by
 unfold Ar at hj
 have e:m.fdiv (2^j)=m/2^j:=Int.fdiv_eq_ediv_of_nonneg _ (Int.pow_nonneg (by omega))
 have h0:¬n<0:=by omega
 have hm:Min.min n.toNat k.bits=j:=by omega
 simp only [execOp,hx,hy,binOp_shr,Op.shift,eqGuard,if_neg h0,hm,e];rfl
theorem V.or(hx:a.eval x= .int k m)(hy:a.eval y= .int k n):Bk P (.binOp .or t x y u) ty a (.int k (bits .or k m n)):=fun d pos af g w=>by
 simp only [execOp,hx,hy,binOp_or,intBits_or,eqGuard];rfl
theorem V.eql(hx:a.eval x= .int k m)(hy:a.eval y= .int k n):Bk P (.binOp .eql t x y u) ty a (.bool (decide (m=n))):=fun d pos af g w=>by
 simp only [execOp,hx,hy,binOp_eql,eqGuard_at_int];rfl
theorem V.neq(hx:a.eval x= .int k m)(hy:a.eval y= .int k n):Bk P (.binOp .neq t x y u) ty a (.bool (decide (m≠n))):=fun d pos af g w=>by
 simp only [execOp,hx,hy,binOp_neq,eqGuard_at_int,ne_eq,decide_not];rfl
theorem V.lss(hx:a.eval x= .int k m)(hy:a.eval y= .int k n):Bk P (.binOp .lss t x y u) ty a (.bool (decide (m<n))):=fun d pos af g w=>by
 simp only [execOp,hx,hy,binOp_lss,eqGuard];rfl
theorem V.leq(hx:a.eval x= .int k m)(hy:a.eval y= .int k n):Bk P (.binOp .leq t x y u) ty a (.bool (decide (m≤n))):=fun d pos af g w=>by
 simp only [execOp,hx,hy,binOp_leq,eqGuard];rfl
theorem V.gtr(hx:a.eval x= .int k m)(hy:a.eval y= .int k n):Bk P (.binOp .gtr t x y u) ty a (.bool (decide (n<m))):=fun d pos af g w=>by
 simp only [execOp,hx,hy,binOp_gtr,eqGuard];rfl
theorem V.geq(hx:a.eval x= .int k m)(hy:a.eval y= .int k n):Bk P (.binOp .geq t x y u) ty a (.bool (decide (n≤m))):=fun d pos af g w=>by
 simp only [execOp,hx,hy,binOp_geq,eqGuard];rfl
theorem V.not{b:Bool}(hx:a.eval x= .bool b):Bk P (.unOp .not t x) ty a (.bool (!b)):=fun d pos af g w=>by
 simp only [execOp,hx,Op.unary];rfl
theorem V.notD{p:Prop}[Decidable p](hx:a.eval x= .bool (decide p)):Bk P (.unOp .not t x) ty a (.bool (decide (¬p))):=by
 rw [decide_not];exact V.not hx
theorem V.convI{k':IntKind}(hs:(P.underlying t).isSome=true)(hd:P.underlying u=some (.int k'))(hx:a.eval x= .int k m)(h:k'.wrap m=m):Bk P (.convert t u x) ty a (.int k' m):=fun d pos af g w=>by
 have e:P.intKind u=k':=by simp [Program.intKind,hd]
 have e2:=run_convert_int (P:=P) w t u k m hs (by rw [e];exact hd)
 rw [e,h] at e2
 simp only [execOp,hx,Sem.run_bind,e2,Result.andThen_ok,Sem.run_pure]
theorem V.extract{vs:List Value}{i:Nat}{v:Value}(hx:a.eval x= .tuple vs.toArray)(hv:vs[i]? =some v):Bk P (.extract x i) ty a v:=fun d pos af g w=>by
 have e:(vs.toArray)[i]? =some v:=by simpa using hv
 simp only [execOp,hx,Instr.extract,e];rfl
theorem V.nilCheck{p:Addr}(hx:a.eval x= .pointer (some p)):Bk P (.nilCheck x) ty a (.pointer (some p)):=fun d pos af g w=>by
 simp only [execOp,hx];rfl
theorem V.len{ad:Option Addr}{n c:Nat}{e:TypeId}(ht:P.underlying t=some (.slice e))(hx:a.eval x= .slice ad n c):Bk P (.call {callee:= .builtin .len,args:=#[x],argTypes:=#[t]}) ty a (.int .i64 n):=fun d pos af g w=>by
 have e:P.elem t=e:=by simp [Program.elem,ht]
 have e2:=run_len_slice (P:=P) w t ty ad n c (by rw [e];exact ht)
 simp only [execOp,resolve,invoke,builtin,Sem.run_bind,Sem.run_pure,Result.andThen_ok,List.map_toArray,List.map_cons,List.map_nil,hx,e2]
 rfl
theorem V.indexSl{b off n c j s js q:Nat}{e:TypeId}{i:Int}(ht:P.underlying t=some (.slice e))(hs:(P.info? e).map (·.size)=some s)(hx:a.eval x= .slice (some ⟨b,off,none⟩) n c)(hy:a.eval y= .int k i)(hj:Ar i j)(hn:j<n)(hjs:j*s=js)(hq:off+js=q):
 Bk P (.indexAddr t x y) ty a (.pointer (some ⟨b,q,none⟩)):=fun d pos af g w=>by
 unfold Ar at hj
 subst hjs
 have e0:P.elem t=e:=by simp [Program.elem,ht]
 have e2:=run_indexAt_slice (P:=P) w t ⟨b,off,none⟩ n c k i (by rw [e0];exact ht)
 rw [if_pos (by omega),e0,BM w hs,Result.andThen_ok,Addr.add_mid,show i.toNat=j by omega,hq] at e2
 simp only [execOp,hx,hy,Sem.run_bind,e2,Result.andThen_ok,Sem.run_pure]
theorem V.indexAr{b off n j s js q:Nat}{e:TypeId}{i:Int}(ht:P.underlying t=some (.array n e))(hs:(P.info? e).map (·.size)=some s)(hx:a.eval x= .pointer (some ⟨b,off,none⟩))(hy:a.eval y= .int k i)(hj:Ar i j)(hn:j<n)(hjs:j*s=js)(hq:off+js=q):
 Bk P (.indexAddr t x y) ty a (.pointer (some ⟨b,q,none⟩)):=fun d pos af g w=>by
 unfold Ar at hj
 subst hjs
 have e0:P.elem t=e:=by simp [Program.elem,ht]
 have e1:P.arrayLen t=n:=by simp [Program.arrayLen,ht]
 have e2:=run_indexAt_array (P:=P) w t ⟨b,off,none⟩ k i (by rw [e0,e1];exact ht)
 rw [e1,if_pos (by omega),e0,BM w hs,Result.andThen_ok,Addr.add_mid,show i.toNat=j by omega,hq] at e2
 simp only [execOp,hx,hy,Sem.run_bind,e2,Result.andThen_ok,Sem.run_pure]
theorem V.indexIv{l:List Int}{n j:Nat}{e:TypeId}{i:Int}(ht:P.underlying t=some (.array n e))(he:P.underlying e=some (.int .i64))(hs:(P.info? e).map (·.size)=some 1)(hx:a.eval x= .agg (iv l))(hy:a.eval y= .int k i)(hl:A2 l n)(hj:Ar i j)(hn:j<n):
 Bk P (.index t x y) ty a (.int .i64 (AG l j)):=fun d pos af g w=>by
 unfold Ar at hj
 have e0:P.elem t=e:=by simp [Program.elem,ht]
 have e1:P.arrayLen t=n:=by simp [Program.arrayLen,ht]
 have e3:(isAgg e).run P w= .ok false w:=by simp [isAgg,run_underlying he]
 have e2:=GH (P:=P) w t (iv l) k i (by rw [e0,e1];exact ht)
 rw [e1,if_pos (by omega),e0,BM w hs,Result.andThen_ok,show i.toNat=j by omega,Nat.mul_one,ME,e3,Result.andThen_ok,G7 l j (by rw [hl.out];exact hn)] at e2
 simp only [execOp,hx,hy,Sem.run_bind,e2,Result.andThen_ok,Sem.run_pure,Bool.false_eq_true,if_false]
end
section
variable{P:Program}{ops:Array Oper}{Q:Exit→Act→World→Prop}{rest:List Oper}{a:Act}{W w:World}{rs:List Af}{d:Option Tmp}{x y:Operand}{t ty:TypeId}{pos:String}{af:Array Edge}{g:Option (Nat×Bool)}{k:IntKind}
theorem JX{ad:Option Addr}{n c j s:Nat}{cs:List Value}{e:TypeId}{i:Int}(hv:Sl W s (.slice ad n c) n cs)(ht:P.underlying t=some (.slice e))(hs:(P.info? e).map (·.size)=some s)(hx:a.eval x= .slice ad n c)(hy:a.eval y= .int k i)(hj:Ar i j)(hn:j<n)
 (hw:Region.wanted ⟨d, .indexAddr t x y,ty,pos,af,g⟩ (yielded ops a.tmps)=true)
 (h:∀b o,W.rangeAt b o ((cs.drop (j*s)).take s)→(Oper.mk d (.move (.const (.pointer (some ⟨b,o,none⟩)))) ty pos af g).wp P a w (wpList P ops Q rest) Q):wpList P ops Q (⟨d, .indexAddr t x y,ty,pos,af,g⟩::rest) a w:=by
 obtain ⟨hl,a',c',e1,_,_,hor⟩:=hv
 cases e1
 rcases hor with h0|⟨b,off,rfl,hc⟩
 ·omega
 refine AR _ (V.indexSl (q:=off+j*s) ht hs hx hy hj hn rfl rfl) hw (h b _ fun m v hv=>?_)
 rw [List.getElem?_take] at hv
 split at hv
 ·rename_i hm
  rw [List.getElem?_drop] at hv
  have hjs:j*s+s≤n*s:=by have:=Nat.mul_le_mul_right s hn;rw [Nat.succ_mul] at this;exact this
  rw [Nat.add_assoc,hc (j*s+m) (by omega),hv]
 cases hv
theorem DB{ad:Option Addr}{n c j:Nat}{l:List Int}{e:TypeId}{i:Int}(hv:Sl W 1 (.slice ad n c) n (l.map (Value.int .i64)))(ht:P.underlying t=some (.slice e))(hs:(P.info? e).map (·.size)=some 1)(hx:a.eval x= .slice ad n c)(hy:a.eval y= .int k i)(hj:Ar i j)(hn:j<n)
 (hw:Region.wanted ⟨d, .indexAddr t x y,ty,pos,af,g⟩ (yielded ops a.tmps)=true)
 (h:∀b o,W.cell? ⟨b,o,none⟩=some (.int .i64 (AG l j))→(Oper.mk d (.move (.const (.pointer (some ⟨b,o,none⟩)))) ty pos af g).wp P a w (wpList P ops Q rest) Q):wpList P ops Q (⟨d, .indexAddr t x y,ty,pos,af,g⟩::rest) a w:=
 JX hv ht hs hx hy hj hn hw fun b o hr=>h b o (by
  have hl:l.length=n:=by have:=hv.1;simpa using this
  have:=hr 0 (.int .i64 (AG l j)) (by simp [AG,List.getD,List.getElem?_drop,hl,hn])
  simpa using this)
end
structure Aa(P:Program)(s:TypeId)(f:Nat)(fo:Nat)(ft:TypeId):Prop where
 ex:∃fs fl,P.underlying s=some (.struct fs)∧fs[f]? =some fl∧fl.offset=fo∧fl.type=ft
 sz:∃n,(P.info? ft).map (·.size)=some n∧n≠0
section
variable{P:Program}{a:Act}{x:Operand}{t ft ty:TypeId}{f fo:Nat}
theorem Aa.mk'(fs:Array Field)(fl:Field)(n:Nat)(h1:P.underlying t=some (.struct fs))(h2:fs[f]? =some fl)(h3:fl.offset=fo)(h4:fl.type=ft)(h5:(P.info? ft).map (·.size)=some n)(h6:n≠0):Aa P t f fo ft:=
 ⟨⟨fs,fl,h1,h2,h3,h4⟩,⟨n,h5,h6⟩⟩
theorem V.fieldAddr{b off q:Nat}(hf:Aa P t f fo ft)(hx:a.eval x= .pointer (some ⟨b,off,none⟩))(hq:off+fo=q):Bk P (.fieldAddr t x f) ty a (.pointer (some ⟨b,q,none⟩)):=fun d pos af g w=>by
 obtain ⟨⟨fs,fl,h1,h2,rfl,rfl⟩,n,h3,h4⟩:=hf
 simp only [execOp,hx,Instr.fieldAt,Instr.sureAddr,Sem.run_bind,run_underlying h1,Result.andThen_ok,h2,fieldPlace,BM w h3,Sem.run_pure]
 rw [if_neg h4]
 simp only [Sem.run_pure,Result.andThen_ok,Addr.add_mid,hq]
end
end Go.Proofs.YtngojkompmcceaaGreatDoor
/- Short words for what the walks say often. -/
namespace Go.Proofs.YtngojkompmcceaaGreatDoor
open Go.RowKit
set_option linter.unusedVariables false
set_option maxRecDepth 100000
set_option maxHeartbeats 8000000
theorem AS{r:Af}{rs rs':List Af}(h:AK r rs rs':=by (repeat (first|with_reducible exact AK.head|apply AK.tail))):AK r rs rs':=h
theorem Ae{xs rs:List Af}(h:JZ xs rs:=by (repeat (first|exact JZ.nil|with_reducible exact JZ.refl|(apply JZ.cons;(case p=>(repeat (first|with_reducible exact AK.head|apply AK.tail))))|apply JZ.skip))):JZ xs rs:=h
theorem BW{z:Int}{j:Nat}(h:Ar z j:=by (repeat (first|exact Ar.auto|with_reducible apply Ar.add|with_reducible apply Ar.sub|with_reducible apply Ar.mul|with_reducible apply Ar.div|with_reducible apply Ar.mod|with_reducible apply Ar.min|with_reducible apply Ar.max|(with_reducible show (_:Nat)≤_;omega)|exact Ar.toNat (by omega)))):Ar z j:=h
theorem Dz{x v:Value}(h:Cv x v:=by (first|exact Cv.int rfl|exact Cv.bool rfl|exact Cv.slice rfl|exact Cv.pointer rfl|exact Cv.string rfl|exact Cv.map rfl|exact Cv.func rfl)):Cv x v:=h
theorem Cy{o:Oper}{i:Nat}{l:List Oper}(h:Dr o i l:=by (repeat (first|with_reducible exact Dr.head|apply Dr.tail))):Dr o i l:=h
theorem Qj{p:Prop}(h:p:=by exact fun _ _ _ _ h=>h):p:=h
theorem Ei{p:Prop}(h:p:=by first|exact fun _ _ _ _ h=>h|exact fun _ _ _ _ h=>nomatch h.1):p:=h
theorem Ak{p:Prop}(h:False:=by omega):p:=h.elim
theorem Na{p q:Prop}(h:p)(hn:¬p:=by decide):q:=absurd h hn
theorem AA{α:Type _}{a b:α}(h:a=b:=by kernel_rfl):a=b:=h
theorem Br{a b:Nat}(h:a=b:=by first|with_reducible exact Nat.zero_add _|with_reducible exact Nat.add_zero _|exact rfl):a=b:=h
theorem Qk{v:Value}{k:Nat}{cs cs':List Value}(h:CK v k cs cs':=by (repeat (first|with_reducible exact CK.head|apply CK.tail))):CK v k cs cs':=h
theorem F1{l:List Int}{n:Nat}(h:A2 l n:=by first|(with_reducible assumption)|exact A2.rep|exact A2.set (by with_reducible assumption)|exact A2.set A2.rep|exact A2.set (A2.set A2.rep)):A2 l n:=h
structure A7(p:Prop):Prop where
 out:p
structure QO(c e p q:Prop):Prop where
 t:c→p
 f:e→q
structure Mg(T q:Nat→World→Prop):Prop where
 out:∀g w,T g w→q g w
structure LL(T q:World→Prop):Prop where
 out:∀w,T w→q w
structure QP(T q:Option Addr→Nat→World→Prop):Prop where
 out:∀a c w,T a c w→q a c w
structure QL(p:Prop):Prop where
structure QN(n:Nat)(p:Prop):Prop where
structure QM(n:Nat)(p:Prop):Prop where
def B9(_:Nat)(p:Prop):Prop:=p
section
variable{P:Program}{ops:Array Oper}{Q:Exit→Act→World→Prop}{rest:List Oper}{a:Act}{w:World}{d:Option Tmp}{op:Op}{ty:TypeId}{pos:String}{af:Array Edge}{g:Option (Nat×Bool)}{x:Operand}
theorem Al(d:Option Tmp)(op:Op)(h:wpList P ops Q (⟨d,op,ty,pos,af,g⟩::rest) a w):wpList P ops Q (⟨d,op,ty,pos,af,g⟩::rest) a w:=h
theorem F2(h:wpList P ops Q (⟨d, .move x,ty,pos,af,g⟩::rest) a w):wpList P ops Q (⟨d, .move x,ty,pos,af,g⟩::rest) a w:=h
theorem Qo(h:(Oper.mk d op ty pos af none).wp P a w (wpList P ops Q rest) Q):wpList P ops Q (⟨d,op,ty,pos,af,none⟩::rest) a w:=Ot rfl h
theorem LA(h:wpList P ops Q (⟨d, .assign x,ty,pos,af,g⟩::rest) a w):wpList P ops Q (⟨d, .assign x,ty,pos,af,g⟩::rest) a w:=h
theorem Aq{o:Oper}(h:o.wp P a w (wpList P ops Q rest) Q)(hw:Region.wanted o (yielded ops a.tmps)=true:=by kernel_rfl):wpList P ops Q (o::rest) a w:=Ot hw h
theorem Qi(n:Nat)(h:wpList P ops Q (⟨some n,op,ty,pos,af,g⟩::rest) a w):wpList P ops Q (⟨some n,op,ty,pos,af,g⟩::rest) a w:=h
theorem CE{n:Nat}(h:wpList P ops Q (⟨some n,op,ty,pos,af,g⟩::rest) a w):B9 n (wpList P ops Q (⟨some n,op,ty,pos,af,g⟩::rest) a w):=h
theorem Qh{o:Oper}:QL (wpList P ops Q (o::rest) a w):=⟨⟩
theorem Qg{n:Nat}:QN n (wpList P ops Q (⟨some n,op,ty,pos,af,g⟩::rest) a w):=⟨⟩
theorem Qf{n:Nat}{xs:Array Operand}{ts:Array TypeId}:QM n (wpList P ops Q (⟨d, .call ⟨.value (.func n),xs,ts⟩,ty,pos,af,g⟩::rest) a w):=⟨⟩
theorem AY{v:Value}(hw:Region.wanted ⟨d,op,ty,pos,af,g⟩ (yielded ops a.tmps)=true)(hv:Bk P op ty a v)(h:(Oper.mk d (.move (.const v)) ty pos af g).wp P a w (wpList P ops Q rest) Q):wpList P ops Q (⟨d,op,ty,pos,af,g⟩::rest) a w:=AR v hv hw h
theorem A9{v:Value}{d:Tmp}(h:(Oper.mk (some d) (.move (.const v)) 0 "" #[] none).wp P a w (wpList P ops Q rest) Q):∃v',Ending.returned v= .returned v'∧wpList P ops Q rest (a.put (some d) v') w:=⟨v,rfl,h⟩
theorem Dj{W:World}{rs:List Af}{v:Value}{d:Tmp}(hS:St W w rs)(h:∀w,St W w rs→(Oper.mk (some d) (.move (.const v)) 0 "" #[] none).wp P a w (wpList P ops Q rest) Q):∀e w',(e=Ending.returned v∧AP w w')→∃v',e= .returned v'∧wpList P ops Q rest (a.put (some d) v') w':=fun _ w' h2=>⟨v,h2.1,h w' (hS.ext h2.2)⟩
theorem Aw{f:FuncId}{xs:List Operand}{ts:Array TypeId}{R:Ending→World→Prop}(hw:Region.wanted ⟨d, .call ⟨.value (.func f),xs.toArray,ts⟩,ty,pos,af,g⟩ (yielded ops a.tmps)=true)(hcall:∀(args:Array Value)(w:World),(callFunc f args).run P w= .ok (.enter f args) w)(hc:Calls P f (xs.map a.eval).toArray w R)
 (h:∀e w',R e w'→∃v,e= .returned v∧wpList P ops Q rest (a.put d v) w'):wpList P ops Q (⟨d, .call ⟨.value (.func f),xs.toArray,ts⟩,ty,pos,af,g⟩::rest) a w:=Ay hcall hw ⟨R,hc,h⟩
end
theorem AF{p:Prop}(k:p)(_:QL p:=by (fail_if_success with_reducible exact Qh);exact ⟨⟩):p:=k
theorem AM(n:Nat){p:Prop}(k:p)(_:QN n p:=by with_reducible exact Qg):p:=k
theorem Av(n:Nat){p:Prop}(k:p)(_:QM n p:=by with_reducible exact Qf):p:=k
section
variable{p q:Prop}
theorem X0(k:q)(h:A7 q→p:=by intro zq9;(first|(with_reducible refine F2 ?_)|(with_reducible refine LA ?_));((first|go_big_want|go_step));go_step;go_step;with_reducible exact zq9.out):p:=h ⟨k⟩
theorem X1(k:q)(h:A7 q→p:=by intro zq9;(with_reducible refine F2 ?_);((first|go_big_want|go_step));go_step;go_step;with_reducible exact zq9.out):p:=h ⟨k⟩
theorem X2(n:Nat)(k:q)(h:A7 q→B9 n p:=by intro zq9;(with_reducible refine CE ?_);(refine AY AA (V.lss rfl rfl) ?_);go_step;with_reducible exact zq9.out):p:=h ⟨k⟩
theorem X3(k:q)(h:A7 q→p:=by intro zq9;(with_reducible refine Al _ (.binOp .lss _ _ _ _) ?_);(refine AY AA (V.lss rfl rfl) ?_);go_step;with_reducible exact zq9.out):p:=h ⟨k⟩
theorem X4(n:Nat){c e r:Prop}(k:c→q)(k2:e→r)(h:QO c e q r→B9 n p:=by intro zq9;(with_reducible refine CE ?_);refine Bz _ (V.lss rfl rfl) AA zq9.t zq9.f):p:=h ⟨k,k2⟩
theorem X5(k:q)(h:A7 q→p:=by intro zq9;(with_reducible refine Al _ (.binOp .add _ _ _ _) ?_);(refine AY AA (V.addI rfl rfl (by omega)) ?_);go_step;with_reducible exact zq9.out):p:=h ⟨k⟩
theorem X6(k:q)(h:A7 q→p:=by intro zq9;(with_reducible refine Al _ (.pick _ _ _) ?_);(refine Ag rfl AA ?_);go_step;with_reducible exact zq9.out):p:=h ⟨k⟩
theorem X7(k:q)(h:A7 q→p:=by intro zq9;(with_reducible refine LA ?_);((first|go_big_want|go_step));go_step;go_step;with_reducible exact zq9.out):p:=h ⟨k⟩
theorem X8(k:q)(h:A7 q→p:=by intro zq9;(with_reducible refine Al _ (.extract _ _) ?_);(refine AY AA (V.extract rfl rfl) ?_);go_step;with_reducible exact zq9.out):p:=h ⟨k⟩
theorem X9(k:q)(h:A7 q→p:=by intro zq9;(with_reducible refine Al _ (.binOp .gtr _ _ _ _) ?_);(refine AY AA (V.gtr rfl rfl) ?_);go_step;with_reducible exact zq9.out):p:=h ⟨k⟩
theorem Jc(k:q)(h:A7 q→p:=by intro zq9;(with_reducible refine Al _ (.pick _ _ _) ?_);(refine AZ rfl AA ?_);go_step;with_reducible exact zq9.out):p:=h ⟨k⟩
theorem Jd(n:Nat)(k:q)(h:A7 q→B9 n p:=by intro zq9;(with_reducible refine CE ?_);(refine AY AA (V.extract rfl rfl) ?_);go_step;with_reducible exact zq9.out):p:=h ⟨k⟩
theorem J1(k:q)(h:A7 q→p:=by intro zq9;(with_reducible refine Al _ (.binOp .neq 23 _ _ _) ?_);(refine AY AA (V.neq rfl rfl) ?_);go_step;with_reducible exact zq9.out):p:=h ⟨k⟩
theorem J2(n:Nat)(k:q)(h:A7 q→B9 n p:=by intro zq9;(with_reducible refine CE ?_);(refine AY AA (V.gtr rfl rfl) ?_);go_step;with_reducible exact zq9.out):p:=h ⟨k⟩
theorem J3(n:Nat)(k:q)(h:A7 q→B9 n p:=by intro zq9;(with_reducible refine CE ?_);(refine AY AA (V.indexSl Tryz.underlying22 OS rfl rfl BW (by omega) (Nat.mul_one _) Br) ?_);go_step;with_reducible exact zq9.out):p:=h ⟨k⟩
theorem J4(n:Nat)(k:q)(h:A7 q→B9 n p:=by intro zq9;(with_reducible refine CE ?_);(refine AY AA (V.len Tryz.underlying46 rfl) ?_);go_step;with_reducible exact zq9.out):p:=h ⟨k⟩
theorem K7(n:Nat){T q:Nat→World→Prop}(k:∀g w,T g w→q g w)(h:Mg T q→B9 n p:=by intro zq9;(with_reducible refine CE ?_);(refine Aq ?_;apply Kw (o:=⟨some _,_,_,_,_,_⟩) hS 33 rfl (List.replicate 64 0) 64 List.length_replicate QJ);intro g w9 h9;refine AB ?_;go_step;with_reducible exact zq9.out g w9 h9):p:=h ⟨k⟩
theorem K8(n:Nat)(k:q)(h:A7 q→B9 n p:=by intro zq9;(with_reducible refine CE ?_);(refine AY AA (V.build (vs:=[(0, .int .i64 _),(1, .func _ _ _)]) rfl (OJ _ _ _ _)) ?_);go_step;with_reducible exact zq9.out):p:=h ⟨k⟩
theorem K9(n:Nat)(k:q)(h:A7 q→B9 n p:=by intro zq9;(with_reducible refine CE ?_);(refine AY AA (V.eql rfl rfl) ?_);go_step;with_reducible exact zq9.out):p:=h ⟨k⟩
theorem LM(n:Nat){T q:Nat→World→Prop}(k:∀g w,T g w→q g w)(h:Mg T q→B9 n p:=by intro zq9;(with_reducible refine CE ?_);(refine Aq ?_;apply Jy (o:=⟨some _,_,_,_,_,_⟩) hS 85 _ rfl _ rfl);intro g w9 h9;refine AB ?_;go_step;with_reducible exact zq9.out g w9 h9):p:=h ⟨k⟩
theorem LN{T q:World→Prop}(k:∀w,T w→q w)(h:LL T q→p:=by intro zq9;(with_reducible refine Al _ (.store 33 _ _) ?_);(refine Aq ?_;apply Gp hS 33 _ _ rfl _ rfl 64 (Ad rfl) _ _;(case hp=>exact AS);(case hy=>rfl);(case hm=>(repeat (first|assumption|exact A2.rep|apply A2.set|((with_reducible show A2 (_::_) _);exact rfl))));(case hd=>exact rfl));intro w9 h9;with_reducible exact zq9.out w9 h9):p:=h ⟨k⟩
theorem Mh(k:q)(h:A7 q→p:=by intro zq9;(with_reducible refine Al _ (.load 3 _) ?_);(refine Aq ?_;apply Fx hS 3 _ rfl _ rfl (Ac rfl) _;(case hc=>with_reducible assumption);refine AB ?_);go_step;with_reducible exact zq9.out):p:=h ⟨k⟩
theorem Mi(k:q)(h:A7 q→p:=by intro zq9;(with_reducible refine Al _ (.load 33 _) ?_);(refine Aq ?_;apply MS hS 33 _ rfl _ rfl 64 (Ad rfl) _;(case hp=>exact AS);refine AB ?_);go_step;with_reducible exact zq9.out):p:=h ⟨k⟩
theorem Mj(k:q)(h:A7 q→p:=by intro zq9;(with_reducible refine Al _ (.load 85 _) ?_);(refine Aq ?_;apply Kz hS 85 _ rfl _ _ rfl 17 (Ad rfl) _;(case hp=>exact AS);(case hi=>(repeat (first|(apply LF.head;(repeat (first|exact Es.nil|(apply Es.ints;(case hn=>exact F1);(case h=>omega);(case hm=>rfl))|apply Es.val)))|(apply LF.skipI;(case hn=>exact F1);(case h=>omega);(case ho=>rfl))|apply LF.skipV)));refine AB ?_);go_step;with_reducible exact zq9.out):p:=h ⟨k⟩
theorem Mx(n:Nat){T q:Nat→World→Prop}(k:∀g w,T g w→q g w)(h:Mg T q→B9 n p:=by intro zq9;(with_reducible refine CE ?_);(refine Aq ?_;apply Nr (o:=⟨some _,_,_,_,_,_⟩) hS 33 _ rfl _ 64 rfl;(case hn=>assumption));intro g w9 h9;refine AB ?_;go_step;with_reducible exact zq9.out g w9 h9):p:=h ⟨k⟩
theorem My(n:Nat){T q:Nat→World→Prop}(k:∀g w,T g w→q g w)(h:Mg T q→B9 n p:=by intro zq9;(with_reducible refine CE ?_);(refine Aq ?_;apply Aj (o:=⟨some _,_,_,_,_,_⟩) hS 22 1 _ rfl 9 1 16 IA _ _;(case hvs=>(repeat (first|exact AX.nil|(apply AX.agg;(rfl);(rfl))|(apply AX.one;exact Dz;(rfl);(rfl)))));(case hn=>rfl);(case hn0=>decide);(case hns=>decide));intro g w9 h9;refine AB ?_;go_step;with_reducible exact zq9.out g w9 h9):p:=h ⟨k⟩
theorem Mz(k:q)(h:A7 q→p:=by intro zq9;(with_reducible refine Al _ (.binOp .eql 3 _ _ _) ?_);(refine AY AA (V.eql rfl rfl) ?_);go_step;with_reducible exact zq9.out):p:=h ⟨k⟩
theorem M0(k:q)(h:A7 q→p:=by intro zq9;(with_reducible refine Al _ (.call ⟨.builtin .len,_,_⟩) ?_);(refine AY AA (V.len Tryz.underlying22 rfl) ?_);go_step;with_reducible exact zq9.out):p:=h ⟨k⟩
theorem Nu(k:q)(h:A7 q→p:=by intro zq9;(with_reducible refine Al _ (.load 9 _) ?_);(refine Aq ?_;apply Fx hS 9 _ rfl _ rfl (Ac rfl) _;(case hc=>with_reducible assumption);refine AB ?_);go_step;with_reducible exact zq9.out):p:=h ⟨k⟩
theorem OE(n:Nat)(k:q)(h:A7 q→B9 n p:=by intro zq9;(with_reducible refine CE ?_);(refine AY AA (V.lenS Tryz.underlying9 rfl) ?_);go_step;with_reducible exact zq9.out):p:=h ⟨k⟩
theorem OF(n:Nat)(k:q)(h:A7 q→B9 n p:=by intro zq9;(with_reducible refine CE ?_);(refine AY AA (V.leq rfl rfl) ?_);go_step;with_reducible exact zq9.out):p:=h ⟨k⟩
theorem OG(n:Nat)(k:q)(h:A7 q→B9 n p:=by intro zq9;(with_reducible refine CE ?_);(refine AY AA (V.neq rfl rfl) ?_);go_step;with_reducible exact zq9.out):p:=h ⟨k⟩
theorem Og(n:Nat){c e r:Prop}(k:c→q)(k2:e→r)(h:QO c e q r→B9 n p:=by intro zq9;(with_reducible refine CE ?_);refine MT _ (V.not rfl) AA zq9.t zq9.f):p:=h ⟨k,k2⟩
theorem Oh(n:Nat)(k:q)(h:A7 q→B9 n p:=by intro zq9;(with_reducible refine CE ?_);(refine DB (by with_reducible assumption) Tryz.underlying46 BX rfl rfl BW (by omega) AA ?_);with_reducible exact zq9.out):p:=h ⟨k⟩
theorem Oi(k:q)(h:A7 q→p:=by intro zq9;(with_reducible refine Al _ (.binOp .sub _ _ _ _) ?_);(refine AY AA (V.subI rfl rfl (by omega)) ?_);go_step;with_reducible exact zq9.out):p:=h ⟨k⟩
theorem Oj(k:q)(h:A7 q→p:=by intro zq9;(with_reducible refine Al _ (.nilCheck _) ?_);(refine AY AA (V.nilCheck rfl) ?_);go_step;with_reducible exact zq9.out):p:=h ⟨k⟩
theorem Ok(k:q)(h:A7 q→p:=by intro zq9;(with_reducible refine Al _ (.slice 33 _ _ _ _) ?_);(refine AY AA (V.sliceA Tryz.underlying33 BX rfl (by (first|exact Lo.none|exact Lo.some rfl BW)) (by (first|exact Up.none|exact Up.some rfl BW)) (by omega) (by omega) (by omega) rfl rfl rfl) ?_);go_step;with_reducible exact zq9.out):p:=h ⟨k⟩
theorem Ol(n:Nat)(k:q)(h:A7 q→B9 n p:=by intro zq9;(with_reducible refine CE ?_);(refine AR (.int .i64 ((y:Nat):Int)) (V.as (V.indexIv Tryz.underlying83 Tryz.underlying3 BX rfl rfl hC Ar.cast (by omega)) HX.out) AA ?_);go_step;with_reducible exact zq9.out):p:=h ⟨k⟩
theorem Om(n:Nat)(k:q)(h:A7 q→B9 n p:=by intro zq9;(with_reducible refine CE ?_);(refine AY AA (V.convI (by rw [Tryz.underlying106];rfl) Tryz.underlying3 rfl (IntWalk.i64_in _ (by omega))) ?_);go_step;with_reducible exact zq9.out):p:=h ⟨k⟩
theorem On(n:Nat)(k:q)(h:A7 q→B9 n p:=by intro zq9;(with_reducible refine CE ?_);(refine AY AA (V.convI (by rw [Tryz.underlying3];rfl) Tryz.underlying106 rfl (IntWalk.u64_in _ (by omega))) ?_);go_step;with_reducible exact zq9.out):p:=h ⟨k⟩
theorem Ow(n:Nat){T q:Nat→World→Prop}(k:∀g w,T g w→q g w)(h:Mg T q→B9 n p:=by intro zq9;(with_reducible refine CE ?_);(refine Aq ?_;apply Kx (o:=⟨some _,_,_,_,_,_⟩) hS 85 rfl _ QK);intro g w9 h9;refine AB ?_;go_step;with_reducible exact zq9.out g w9 h9):p:=h ⟨k⟩
theorem Ox(k:q)(h:A7 q→p:=by intro zq9;(with_reducible refine Al _ (.pick _ _ _) ?_);(first|(refine Ag rfl AA ?_)|(refine AZ rfl AA ?_));go_step;with_reducible exact zq9.out):p:=h ⟨k⟩
theorem Oy(n:Nat)(k:q)(h:A7 q→B9 n p:=by intro zq9;(with_reducible refine CE ?_);(refine AR (.int _ (((k+1:Nat):Int))) (V.as (V.addI rfl rfl (by omega)) (by omega)) (by kernel_rfl) ?_);go_step;with_reducible exact zq9.out):p:=h ⟨k⟩
theorem PS(n:Nat){T q:Nat→World→Prop}(k:∀g w,T g w→q g w)(h:Mg T q→B9 n p:=by intro zq9;(with_reducible refine CE ?_);(refine Aq ?_;apply Aj (o:=⟨some _,_,_,_,_,_⟩) hS 46 1 _ rfl 3 1 8 Ld _ _;(case hvs=>(repeat (first|exact AX.nil|(apply AX.agg;(rfl);(rfl))|(apply AX.one;exact Dz;(rfl);(rfl)))));(case hn=>rfl);(case hn0=>decide);(case hns=>decide));intro g w9 h9;refine AB ?_;go_step;with_reducible exact zq9.out g w9 h9):p:=h ⟨k⟩
theorem PT{T q:World→Prop}(k:∀w,T w→q w)(h:LL T q→p:=by intro zq9;(with_reducible refine Al _ (.store 85 _ _) ?_);(refine Aq ?_;apply JV hS 85 _ _ rfl _ rfl 17 (Ad rfl) _ _;(case hp=>exact AS);(case hy=>rfl);(case hn=>(repeat (first|exact Es.nil|(apply Es.ints;(case hn=>exact F1);(case h=>omega);(case hm=>rfl))|apply Es.val)));(case hn'=>(repeat (first|exact Es.nil|(apply Es.ints;(case hn=>exact F1);(case h=>omega);(case hm=>rfl))|apply Es.val)));(case hv=>rfl);(case hd=>exact rfl));intro w9 h9;with_reducible exact zq9.out w9 h9):p:=h ⟨k⟩
theorem PU(n:Nat){T q:Option Addr→Nat→World→Prop}(k:∀a c w,T a c w→q a c w)(h:QP T q→B9 n p:=by intro zq9;(with_reducible refine CE ?_);(refine Aq ?_;apply Am (o:=⟨some _,_,_,_,_,_⟩) hS _ _ 46 rfl 3 1 8 Ld _ _ _ _ rfl;(case hp=>exact AS);(case hx=>exact rfl);(case hm=>(first|exact hS.slBlk AS (by rfl) (by decide)|exact hS.sl AS|with_reducible assumption|exact Sl.ext (by with_reducible assumption) hS.1|exact Sl.nil _ _|exact Sl.ext (by assumption) hS.1|assumption));(case h1=>(first|exact B6 rfl|exact Fd _ _|(intro u hu;cases hu)));(case h63=>unfold maxLen;omega);(case hb=>omega));intro a9 c9 w9 h9;(first|simp only [DC] at h9|simp only [DD] at h9|simp only [DE] at h9|simp only [DF] at h9|simp only [DG] at h9|skip);refine AB ?_;go_step;with_reducible exact zq9.out a9 c9 w9 h9):p:=h ⟨k⟩
theorem PV(k:q)(h:A7 q→p:=by intro zq9;(with_reducible refine Al _ (.binOp .neq 3 _ _ _) ?_);(refine AY AA (V.neq rfl rfl) ?_);go_step;with_reducible exact zq9.out):p:=h ⟨k⟩
theorem PW(k:q)(h:A7 q→p:=by intro zq9;(with_reducible refine Al _ (.call ⟨.builtin .len,_,_⟩) ?_);(refine AY AA (V.len Tryz.underlying46 rfl) ?_);go_step;with_reducible exact zq9.out):p:=h ⟨k⟩
theorem PX(k:q)(h:A7 q→p:=by intro zq9;(with_reducible refine Al _ (.fieldAddr 35 _ 0) ?_);(refine AY AA (V.fieldAddr FR rfl Br) ?_);go_step;with_reducible exact zq9.out):p:=h ⟨k⟩
theorem PY(k:q)(h:A7 q→p:=by intro zq9;(with_reducible refine Al _ (.fieldAddr 85 _ 0) ?_);(refine AY AA (V.fieldAddr I0 rfl Br) ?_);go_step;with_reducible exact zq9.out):p:=h ⟨k⟩
theorem PZ(k:q)(h:A7 q→p:=by intro zq9;(with_reducible refine Al _ (.load 3 _) ?_);(refine Aq ?_;apply Bp hS 3 _ rfl _ _ rfl (Ac rfl) _;(case hp=>exact AS);(case hc=>rfl);refine AB ?_);go_step;with_reducible exact zq9.out):p:=h ⟨k⟩
theorem Pa(k:q)(h:A7 q→p:=by intro zq9;(with_reducible refine Al _ (.load 46 _) ?_);(refine Aq ?_;apply K1 hS 46 _ rfl _ _ rfl (Ac rfl) _;(case hp=>exact AS);(case hi=>(repeat (first|exact LG.head|(apply LG.skipI;(case hn=>exact F1);(case h=>omega);(case ho=>rfl))|apply LG.skipV)));refine AB ?_);go_step;with_reducible exact zq9.out):p:=h ⟨k⟩
theorem Pb(k:q)(h:A7 q→p:=by intro zq9;(with_reducible refine Al _ (.load 83 _) ?_);(refine Aq ?_;apply Eq hS 83 _ rfl _ _ rfl 16 (Ad rfl) _;(case hp=>exact AS);(case hi=>(repeat (first|(apply Hv.head;exact F1)|(apply Hv.skipI;(case hn=>exact F1);(case h=>omega);(case ho=>rfl))|apply Hv.skipV)));refine AB ?_);go_step;with_reducible exact zq9.out):p:=h ⟨k⟩
theorem Pc(n:Nat)(k:q)(h:A7 q→B9 n p:=by intro zq9;(with_reducible refine CE ?_);(refine AR (.int _ (((en:Nat):Int))) (V.as (V.subI rfl rfl (by omega)) (by omega)) (by kernel_rfl) ?_);go_step;with_reducible exact zq9.out):p:=h ⟨k⟩
theorem Pd(n:Nat)(k:q)(h:A7 q→B9 n p:=by intro zq9;(with_reducible refine CE ?_);(refine AR (.int _ (((h+1:Nat):Int))) (V.as (V.addI rfl rfl (by omega)) (by omega)) (by kernel_rfl) ?_);go_step;with_reducible exact zq9.out):p:=h ⟨k⟩
theorem Pe(n:Nat)(k:q)(h:A7 q→B9 n p:=by intro zq9;(with_reducible refine CE ?_);(refine AR (.int _ (((h:Nat):Int))) (V.as (V.shr rfl rfl BW (by omega) rfl) (by omega)) (by kernel_rfl) ?_);go_step;with_reducible exact zq9.out):p:=h ⟨k⟩
theorem Pf(n:Nat)(k:q)(h:A7 q→B9 n p:=by intro zq9;(with_reducible refine CE ?_);(refine AR (.int _ (((q+1:Nat):Int))) (V.as (V.addI rfl rfl (by omega)) (by omega)) (by kernel_rfl) ?_);go_step;with_reducible exact zq9.out):p:=h ⟨k⟩
theorem Pg(n:Nat)(k:q)(h:A7 q→B9 n p:=by intro zq9;(with_reducible refine CE ?_);(refine AR (.int _ (((t:Nat):Int))) (V.as (V.mulI rfl rfl (by omega)) (by omega)) (by kernel_rfl) ?_);go_step;with_reducible exact zq9.out):p:=h ⟨k⟩
theorem Ph(n:Nat)(k:q)(h:A7 q→B9 n p:=by intro zq9;(with_reducible refine CE ?_);(refine AY AA (V.addI rfl rfl (by omega)) ?_);go_step;with_reducible exact zq9.out):p:=h ⟨k⟩
theorem Pi(n:Nat)(k:q)(h:A7 q→B9 n p:=by intro zq9;(with_reducible refine CE ?_);(refine AY AA (V.indexSl Tryz.underlying46 BX rfl rfl (show Ar 0 0 from rfl) (by omega) (show 0*1=0 from rfl) Br) ?_);go_step;with_reducible exact zq9.out):p:=h ⟨k⟩
theorem Pj(n:Nat)(k:q)(h:A7 q→B9 n p:=by intro zq9;(with_reducible refine CE ?_);(refine AY AA (V.indexSl Tryz.underlying46 BX rfl rfl BW (by omega) (Nat.mul_one _) Br) ?_);go_step;with_reducible exact zq9.out):p:=h ⟨k⟩
theorem Pm(n:Nat)(k:q)(h:A7 q→B9 n p:=by intro zq9;(with_reducible refine CE ?_);(refine AY AA (V.len Tryz.underlying110 rfl) ?_);go_step;with_reducible exact zq9.out):p:=h ⟨k⟩
theorem Pr(n:Nat){T q:Nat→World→Prop}(k:∀g w,T g w→q g w)(h:Mg T q→B9 n p:=by intro zq9;(with_reducible refine CE ?_);(refine Aq ?_;apply CU (o:=⟨some _,_,_,_,_,_⟩) hS 140 rfl (.agg #[.int .i64 0, .int .i64 0, .int .i64 0, .int .i64 0, .int .i64 0, .int .i64 0, .int .i64 0, .int .i64 0, .int .i64 0]) [.int .i64 0, .int .i64 0, .int .i64 0, .int .i64 0, .int .i64 0, .int .i64 0, .int .i64 0, .int .i64 0, .int .i64 0] (fun w=>Tryz.zeroValue140 w) rfl);intro g w9 h9;refine AB ?_;go_step;with_reducible exact zq9.out g w9 h9):p:=h ⟨k⟩
theorem Ps{T q:World→Prop}(k:∀w,T w→q w)(h:LL T q→p:=by intro zq9;(with_reducible refine Al _ (.mapUpdate 115 _ _ _) ?_);(refine Aq ?_;apply Eb (enc:=ik) hS 115 _ _ _ rfl _ rfl _ rfl Tryz.underlying115 (BB Tryz.underlying3) _;(case hp=>exact AS);(case hv=>(first|exact Cv.int rfl|exact Cv.bool rfl|exact Cv.slice rfl|exact Cv.pointer rfl|exact Cv.string rfl|exact Cv.map rfl|exact Cv.func rfl|exact Cv.agg rfl));(case hd=>exact rfl));intro w9 h9;with_reducible exact zq9.out w9 h9):p:=h ⟨k⟩
theorem Pt{T q:World→Prop}(k:∀w,T w→q w)(h:LL T q→p:=by intro zq9;(with_reducible refine Al _ (.store 140 _ _) ?_);(refine Aq ?_;apply CH hS 140 _ _ rfl _ rfl 9 (Ad rfl) _ _;(case hp=>exact AS);(case hy=>rfl);(case hn=>rfl);(case hn'=>rfl);(case hv=>rfl);(case hd=>exact rfl));intro w9 h9;with_reducible exact zq9.out w9 h9):p:=h ⟨k⟩
theorem Pu(n:Nat){T q:Nat→World→Prop}(k:∀g w,T g w→q g w)(h:Mg T q→B9 n p:=by intro zq9;(with_reducible refine CE ?_);(refine Aq ?_;apply Aj (o:=⟨some _,_,_,_,_,_⟩) hS 68 1 _ rfl 72 3 24 OL _ _;(case hvs=>(repeat (first|exact AX.nil|(apply AX.agg;(rfl);(rfl))|(apply AX.one;exact Dz;(rfl);(rfl)))));(case hn=>rfl);(case hn0=>decide);(case hns=>decide));intro g w9 h9;simp only [List.cons_append,List.nil_append] at h9;refine AB ?_;go_step;with_reducible exact zq9.out g w9 h9):p:=h ⟨k⟩
theorem Pv(n:Nat){T q:Option Addr→Nat→World→Prop}(k:∀a c w,T a c w→q a c w)(h:QP T q→B9 n p:=by intro zq9;(with_reducible refine CE ?_);(refine Aq ?_;apply Am (o:=⟨some _,_,_,_,_,_⟩) hS _ _ 68 rfl 72 3 24 OL _ _ _ _ rfl;(case hp=>exact AS);(case hx=>exact rfl);(case hm=>(first|exact hS.slBlk AS (by rfl) (by decide)|exact hS.sl AS|with_reducible assumption|exact Sl.ext (by with_reducible assumption) hS.1|exact Sl.nil _ _|exact Sl.ext (by assumption) hS.1|assumption));(case h1=>(first|exact B6 rfl|exact Fd _ _|(intro u hu;cases hu)));(case h63=>unfold maxLen;omega);(case hb=>omega));intro a9 c9 w9 h9;(first|simp only [DC] at h9|simp only [DD] at h9|simp only [DE] at h9|simp only [DF] at h9|simp only [DG] at h9|skip);refine AB ?_;go_step;with_reducible exact zq9.out a9 c9 w9 h9):p:=h ⟨k⟩
theorem Pw(k:q)(h:A7 q→p:=by intro zq9;(with_reducible refine Al _ (.binOp .eql 23 _ _ _) ?_);(refine AY AA (V.eql rfl rfl) ?_);go_step;with_reducible exact zq9.out):p:=h ⟨k⟩
theorem Px(k:q)(h:A7 q→p:=by intro zq9;(with_reducible refine Al _ (.binOp .geq _ _ _ _) ?_);(refine AY AA (V.geq rfl rfl) ?_);go_step;with_reducible exact zq9.out):p:=h ⟨k⟩
theorem Py(k:q)(h:A7 q→p:=by intro zq9;(with_reducible refine Al _ (.fieldAddr 85 _ 1) ?_);(refine AY AA (V.fieldAddr I1 rfl Br) ?_);go_step;with_reducible exact zq9.out):p:=h ⟨k⟩
theorem Pz(k:q)(h:A7 q→p:=by intro zq9;(with_reducible refine Al _ (.load 3 _) ?_);(refine Aq ?_;apply C8 hS 3 _ rfl _ _ rfl (Ac rfl) _ _ _ _ _;(case hp=>exact AS);(case hi=>omega);refine AB ?_);go_step;with_reducible exact zq9.out):p:=h ⟨k⟩
theorem P0(k:q)(h:A7 q→p:=by intro zq9;(with_reducible refine Al _ (.load 33 _) ?_);(refine Aq ?_;apply Eq hS 33 _ rfl _ _ rfl 64 (Ad rfl) _;(case hp=>exact AS);(case hi=>(repeat (first|(apply Hv.head;exact F1)|(apply Hv.skipI;(case hn=>exact F1);(case h=>omega);(case ho=>rfl))|apply Hv.skipV)));refine AB ?_);go_step;with_reducible exact zq9.out):p:=h ⟨k⟩
theorem P1(k:q)(h:A7 q→p:=by intro zq9;(with_reducible refine Al _ (.unOp .not _ _) ?_);(refine AY AA (V.not rfl) ?_);go_step;with_reducible exact zq9.out):p:=h ⟨k⟩
theorem P2(n:Nat)(k:q)(h:A7 q→B9 n p:=by intro zq9;(with_reducible refine CE ?_);(refine Aq ?_;apply D9 (enc:=ik) hS 115 _ _ rfl _ rfl _ rfl Tryz.underlying115 (BB Tryz.underlying3) (.int .i64 0) (fun w=>Tryz.zeroValue3 w) _;(case hp=>exact AS);(case hf=>with_reducible assumption);refine AB ?_);go_step;with_reducible exact zq9.out):p:=h ⟨k⟩
theorem P3(n:Nat)(k:q)(h:A7 q→B9 n p:=by intro zq9;(with_reducible refine CE ?_);(refine Aq ?_;apply C9 (enc:=ik) hS 115 _ _ rfl _ rfl _ rfl Tryz.underlying115 (BB Tryz.underlying3) (.int .i64 0) (fun w=>Tryz.zeroValue3 w) _;(case hp=>exact AS);(case hf=>with_reducible assumption);refine AB ?_);go_step;with_reducible exact zq9.out):p:=h ⟨k⟩
theorem P4(n:Nat)(k:q)(h:A7 q→B9 n p:=by intro zq9;(with_reducible refine CE ?_);(refine AR (.int _ (((2*z+y:Nat):Int))) (V.as (V.addI rfl rfl (by omega)) (by omega)) (by kernel_rfl) ?_);go_step;with_reducible exact zq9.out):p:=h ⟨k⟩
theorem P5(n:Nat)(k:q)(h:A7 q→B9 n p:=by intro zq9;(with_reducible refine CE ?_);(refine AR (.int _ (((2*z:Nat):Int))) (V.as (V.shlI rfl rfl BW (by omega) (by omega)) (by omega)) (by kernel_rfl) ?_);go_step;with_reducible exact zq9.out):p:=h ⟨k⟩
theorem P6(n:Nat)(k:q)(h:A7 q→B9 n p:=by intro zq9;(with_reducible refine CE ?_);(refine AR (.int _ (((a+s:Nat):Int))) (V.as (V.addI rfl rfl (by omega)) (by omega)) (by kernel_rfl) ?_);go_step;with_reducible exact zq9.out):p:=h ⟨k⟩
theorem P7(n:Nat)(k:q)(h:A7 q→B9 n p:=by intro zq9;(with_reducible refine CE ?_);(refine AR (.int _ (((s+1:Nat):Int))) (V.as (V.addI rfl rfl (by omega)) (by omega)) (by kernel_rfl) ?_);go_step;with_reducible exact zq9.out):p:=h ⟨k⟩
theorem P8(n:Nat)(k:q)(h:A7 q→B9 n p:=by intro zq9;(with_reducible refine CE ?_);(refine AR (.int _ (((x:Nat):Int))) (V.as (V.subI rfl rfl (by omega)) (by omega)) (by kernel_rfl) ?_);go_step;with_reducible exact zq9.out):p:=h ⟨k⟩
theorem P9(n:Nat)(k:q)(h:A7 q→B9 n p:=by intro zq9;(with_reducible refine CE ?_);(refine AR (.int _ (0)) (V.as (V.subI rfl rfl (by omega)) (by omega)) (by kernel_rfl) ?_);go_step;with_reducible exact zq9.out):p:=h ⟨k⟩
theorem QA(n:Nat)(k:q)(h:A7 q→B9 n p:=by intro zq9;(with_reducible refine CE ?_);(refine AY AA (V.build (vs:=[(0,_),(1,_),(2,_),(3,_),(4,_),(5,_),(6,_),(7,_),(8,_)]) rfl (Cn _ _ _ _ _ _ _ _ _)) ?_);go_step;with_reducible exact zq9.out):p:=h ⟨k⟩
theorem QB(n:Nat)(k:q)(h:A7 q→B9 n p:=by intro zq9;(with_reducible refine CE ?_);(refine AY AA (V.indexAr Tryz.underlying33 BX rfl rfl BW (by omega) (Nat.mul_one _) Br) ?_);go_step;with_reducible exact zq9.out):p:=h ⟨k⟩
theorem QQ(n:Nat){T q:Nat→World→Prop}(k:∀g w,T g w→q g w)(h:Mg T q→B9 n p:=by intro zq9;(with_reducible refine CE ?_);(refine Aq ?_;apply CV (o:=⟨some _,_,_,_,_,_⟩) hS 46 1 _ rfl 3 1 8 Ld _ _;(case hvs=>(repeat (first|exact AX.nil|(apply AX.agg;(rfl);(rfl))|(apply AX.one;exact Dz;(rfl);(rfl)))));(case hn=>rfl);(case hn0=>decide);(case hns=>decide));intro g w9 h9;refine AB ?_;go_step;with_reducible exact zq9.out g w9 h9):p:=h ⟨k⟩
theorem QR{T q:World→Prop}(k:∀w,T w→q w)(h:LL T q→p:=by intro zq9;(with_reducible refine Al _ (.mapUpdate 158 _ _ _) ?_);(refine Aq ?_;apply Eb (enc:=ik) hS 158 _ _ _ rfl _ rfl _ rfl Tryz.underlying158 (BB Tryz.underlying3) _;(case hp=>exact AS);(case hv=>(first|exact Cv.int rfl|exact Cv.bool rfl|exact Cv.slice rfl|exact Cv.pointer rfl|exact Cv.string rfl|exact Cv.map rfl|exact Cv.func rfl|exact Cv.agg rfl));(case hd=>exact rfl));intro w9 h9;with_reducible exact zq9.out w9 h9):p:=h ⟨k⟩
theorem QS{T q:World→Prop}(k:∀w,T w→q w)(h:LL T q→p:=by intro zq9;(with_reducible refine Al _ (.store 3 _ _) ?_);(refine Aq ?_;apply Fy hS 3 _ _ rfl _ _ rfl (Ac rfl) _ _;(case hp=>exact AS);(case hy=>rfl);(case hi=>omega);(case hd=>exact rfl));intro w9 h9;with_reducible exact zq9.out w9 h9):p:=h ⟨k⟩
theorem QT{T q:World→Prop}(k:∀w,T w→q w)(h:LL T q→p:=by intro zq9;(with_reducible refine Al _ (.store 3 _ _) ?_);(refine Aq ?_;apply EA hS 3 _ _ rfl _ _ rfl (Ac rfl) _ _;(case hp=>exact AS);(case hy=>rfl);(case hi=>(repeat (first|(apply DM.head;(case hn=>exact F1);(case h=>omega))|(apply DM.skipI;(case hn=>exact F1);(case h=>omega);(case ho=>rfl))|apply DM.skipV)));(case hd=>exact rfl));intro w9 h9;with_reducible exact zq9.out w9 h9):p:=h ⟨k⟩
theorem QU{T q:World→Prop}(k:∀w,T w→q w)(h:LL T q→p:=by intro zq9;(with_reducible refine Al _ (.store 72 _ _) ?_);(refine Aq ?_;apply CH hS 72 _ _ rfl _ rfl 3 (Ad rfl) _ _;(case hp=>exact AS);(case hy=>rfl);(case hn=>rfl);(case hn'=>rfl);(case hv=>rfl);(case hd=>exact rfl));intro w9 h9;with_reducible exact zq9.out w9 h9):p:=h ⟨k⟩
theorem QV(k:q)(h:A7 q→p:=by intro zq9;(with_reducible refine Al _ (.load 46 _) ?_);(refine Aq ?_;apply Fx hS 46 _ rfl _ rfl (Ac rfl) _;(case hc=>with_reducible assumption);refine AB ?_);go_step;with_reducible exact zq9.out):p:=h ⟨k⟩
theorem QW(k:q)(h:A7 q→p:=by intro zq9;(with_reducible refine Al _ (.load 56 _) ?_);(refine Aq ?_;apply Bp hS 56 _ rfl _ _ rfl (Ac rfl) _;(case hp=>exact AS);(case hc=>rfl);refine AB ?_);go_step;with_reducible exact zq9.out):p:=h ⟨k⟩
theorem QX(k:q)(h:A7 q→p:=by intro zq9;(with_reducible refine Al _ (.load 9 _) ?_);(refine Aq ?_;apply Di hS 9 _ rfl _ _ rfl (Ac rfl) _ _ _ _ _;(case hp=>exact AS);(case hv=>with_reducible assumption);refine AB ?_);go_step;with_reducible exact zq9.out):p:=h ⟨k⟩
theorem QY(n:Nat)(k:q)(h:A7 q→B9 n p:=by intro zq9;(with_reducible refine CE ?_);(refine AR _ (V.indexIv Tryz.underlying33 Tryz.underlying3 BX rfl rfl (by (repeat (first|assumption|exact A2.rep|apply A2.set|((with_reducible show A2 (_::_) _);exact rfl)))) BW (by omega)) AA ?_);go_step;with_reducible exact zq9.out):p:=h ⟨k⟩
end
end Go.Proofs.YtngojkompmcceaaGreatDoor
namespace Go.Proofs.YtngojkompmcceaaGreatDoor
attribute [local irreducible] Region.wanted
set_option linter.unusedVariables false
set_option maxRecDepth 100000
set_option maxHeartbeats 8000000
theorem OS:(Tryz.prog.info? 9).map (·.size)=some 1:=by kernel_rfl
theorem BX:(Tryz.prog.info? 3).map (·.size)=some 1:=by kernel_rfl
theorem FR:Aa Tryz.prog 35 0 0 33:=Aa.mk' _ _ 64 Tryz.underlying35 rfl rfl rfl AA (by decide)
theorem G6:Aa Tryz.prog 35 1 64 33:=Aa.mk' _ _ 64 Tryz.underlying35 rfl rfl rfl AA (by decide)
theorem Lf:Aa Tryz.prog 42 0 0 3:=Aa.mk' _ _ 1 Tryz.underlying42 rfl rfl rfl AA (by decide)
theorem ON:Aa Tryz.prog 42 1 1 40:=Aa.mk' _ _ 1 Tryz.underlying42 rfl rfl rfl AA (by decide)
theorem PE:(Tryz.prog.info? 72).map (·.size)=some 3:=by kernel_rfl
theorem OO:Aa Tryz.prog 72 0 0 3:=Aa.mk' _ _ 1 Tryz.underlying72 rfl rfl rfl AA (by decide)
theorem I0:Aa Tryz.prog 85 0 0 83:=Aa.mk' _ _ 16 Tryz.underlying85 rfl rfl rfl AA (by decide)
theorem I1:Aa Tryz.prog 85 1 16 46:=Aa.mk' _ _ 1 Tryz.underlying85 rfl rfl rfl AA (by decide)
theorem G4:Aa Tryz.prog 109 0 0 3:=Aa.mk' _ _ 1 Tryz.underlying109 rfl rfl rfl AA (by decide)
theorem G5:Aa Tryz.prog 109 1 1 46:=Aa.mk' _ _ 1 Tryz.underlying109 rfl rfl rfl AA (by decide)
theorem I4:(Tryz.prog.info? 109).map (·.size)=some 2:=by kernel_rfl
theorem OR:(Tryz.prog.info? 120).map (·.size)=some 3:=by kernel_rfl
theorem NJ:Aa Tryz.prog 120 0 0 3:=Aa.mk' _ _ 1 Tryz.underlying120 rfl rfl rfl AA (by decide)
theorem NK:Aa Tryz.prog 120 1 1 3:=Aa.mk' _ _ 1 Tryz.underlying120 rfl rfl rfl AA (by decide)
theorem Nw:(Tryz.prog.info? 46).map (·.size)=some 1:=by kernel_rfl
end Go.Proofs.YtngojkompmcceaaGreatDoor
namespace Go.Proofs.YtngojkompmcceaaGreatDoor
open Go.RowKit
set_option linter.unusedVariables false
set_option maxRecDepth 100000
set_option maxHeartbeats 8000000
section
variable{P:Program}{Q:Exit→Act→World→Prop}{md:Region.Mode}{D:List Nat}{S:World→Prop}{l:List Oper}{fuel:Nat}{listed:Array Bool}{a:Act}{w:World}
 {d:Option Tmp} {op:Op} {ty:TypeId} {pos:String} {af:Array Edge} {g:Option (Nat×Bool)}
theorem Bs(i:Nat)(v:Value)(hi:Dr ⟨d,op,ty,pos,af,g⟩ i l)(hs:Region.noSelect l.toArray=true)(hf:Region.free md l.toArray listed i=true)(hr:(Region.ready md l.toArray listed).contains i=true)
 (hQ:∀v c a w,Q (.panic c) (a.put d v) w→Q (.panic c) a w) (hv:Bk P op ty a v) (hw:Region.wanted ⟨d,op,ty,pos,af,g⟩ (yielded l.toArray a.tmps)=true)
 (h:(Oper.mk d (.move (.const v)) ty pos af g).wp P a w (AH P md l.toArray Q D S fuel (listed.setIfInBounds i true)) Q):AH P md l.toArray Q D S (fuel+1) listed a w:=
 Ge i hi hs hf hr hQ (fun w=>AR v hv hw (EZ v _ (show wpList P l.toArray _ [] _ _ from wpList_nil ⟨rfl,rfl⟩))) (by cases d<;>rfl) h
theorem N5(i:Nat)(x:Operand)(hi:Dr ⟨d, .move x,ty,pos,af,g⟩ i l)(hs:Region.noSelect l.toArray=true)(hf:Region.free md l.toArray listed i=true)(hr:(Region.ready md l.toArray listed).contains i=true)
 (hQ:∀v c a w,Q (.panic c) (a.put d v) w→Q (.panic c) a w) (hw:Region.wanted ⟨d, .move x,ty,pos,af,g⟩ (yielded l.toArray a.tmps)=true)
 (h:(Oper.mk d (.move x) ty pos af g).wp P a w (AH P md l.toArray Q D S fuel (listed.setIfInBounds i true)) Q):AH P md l.toArray Q D S (fuel+1) listed a w:=
 Ge i hi hs hf hr hQ (a1:=a.put d (a.eval x)) (fun w=>AR _ (fun _ _ _ _ _=>rfl) hw (EZ _ _ (show wpList P l.toArray _ [] _ _ from wpList_nil ⟨rfl,rfl⟩))) (by cases d<;>rfl) h
theorem N3(i:Nat)(x:Operand)(hi:Dr ⟨d, .assign x,ty,pos,af,g⟩ i l)(hs:Region.noSelect l.toArray=true)(hf:Region.free md l.toArray listed i=true)(hr:(Region.ready md l.toArray listed).contains i=true)
 (hQ:∀v c a w,Q (.panic c) (a.put d v) w→Q (.panic c) a w) (hw:Region.wanted ⟨d, .assign x,ty,pos,af,g⟩ (yielded l.toArray a.tmps)=true)
 (h:(Oper.mk d (.move x) ty pos af g).wp P a w (AH P md l.toArray Q D S fuel (listed.setIfInBounds i true)) Q):AH P md l.toArray Q D S (fuel+1) listed a w:=
 Ge i hi hs hf hr hQ (a1:=a.put d (a.eval x)) (fun w=>AR _ (fun _ _ _ _ _=>rfl) hw (EZ _ _ (show wpList P l.toArray _ [] _ _ from wpList_nil ⟨rfl,rfl⟩))) (by cases d<;>rfl) h
theorem Id(i:Nat)(b:Bool){c x y:Operand}(hi:Dr ⟨d, .pick c x y,ty,pos,af,g⟩ i l)(hs:Region.noSelect l.toArray=true)(hf:Region.free md l.toArray listed i=true)(hr:(Region.ready md l.toArray listed).contains i=true)
 (hQ:∀v c a w,Q (.panic c) (a.put d v) w→Q (.panic c) a w) (hc:a.eval c= .bool b) (hw:Region.wanted ⟨d, .pick c x y,ty,pos,af,g⟩ (yielded l.toArray a.tmps)=true)
 (h:(Oper.mk d (.move (bif b then x else y)) ty pos af g).wp P a w (AH P md l.toArray Q D S fuel (listed.setIfInBounds i true)) Q):AH P md l.toArray Q D S (fuel+1) listed a w:=
 Ge i hi hs hf hr hQ (a1:=a.put d (a.eval (bif b then x else y))) (fun w=>AR _ (fun _ _ _ _ w=>by simp only [execOp,hc,asBool,Sem.run_bind,Sem.run_pure,Result.andThen_ok];cases b<;>rfl) hw (EZ _ _ (show wpList P l.toArray _ [] _ _ from wpList_nil ⟨rfl,rfl⟩))) (by cases d<;>rfl) h
theorem Kq(i:Nat){c x y:Operand}(hi:Dr ⟨d, .pick c x y,ty,pos,af,g⟩ i l)(hs:Region.noSelect l.toArray=true)(hf:Region.free md l.toArray listed i=true)(hr:(Region.ready md l.toArray listed).contains i=true)
 (hQ:∀v c a w,Q (.panic c) (a.put d v) w→Q (.panic c) a w) (hc:a.eval c= .bool true) (hw:Region.wanted ⟨d, .pick c x y,ty,pos,af,g⟩ (yielded l.toArray a.tmps)=true)
 (h:(Oper.mk d (.move x) ty pos af g).wp P a w (AH P md l.toArray Q D S fuel (listed.setIfInBounds i true)) Q):AH P md l.toArray Q D S (fuel+1) listed a w:=Id i true hi hs hf hr hQ hc hw h
theorem Gf(i:Nat){c x y:Operand}(hi:Dr ⟨d, .pick c x y,ty,pos,af,g⟩ i l)(hs:Region.noSelect l.toArray=true)(hf:Region.free md l.toArray listed i=true)(hr:(Region.ready md l.toArray listed).contains i=true)
 (hQ:∀v c a w,Q (.panic c) (a.put d v) w→Q (.panic c) a w) (hc:a.eval c= .bool false) (hw:Region.wanted ⟨d, .pick c x y,ty,pos,af,g⟩ (yielded l.toArray a.tmps)=true)
 (h:(Oper.mk d (.move y) ty pos af g).wp P a w (AH P md l.toArray Q D S fuel (listed.setIfInBounds i true)) Q):AH P md l.toArray Q D S (fuel+1) listed a w:=Id i false hi hs hf hr hQ hc hw h
theorem PL(i:Nat)(b:Bool)(hi:Dr ⟨d,op,ty,pos,af,g⟩ i l)(hs:Region.noSelect l.toArray=true)(hf:Region.free md l.toArray listed i=true)(hr:(Region.ready md l.toArray listed).contains i=true)
 (hQ:∀v c a w,Q (.panic c) (a.put d v) w→Q (.panic c) a w) (hv:Bk P op ty a (.bool b)) (hw:Region.wanted ⟨d,op,ty,pos,af,g⟩ (yielded l.toArray a.tmps)=true)
 (ht:b=true→(Oper.mk d (.move (.const (.bool true))) ty pos af g).wp P a w (AH P md l.toArray Q D S fuel (listed.setIfInBounds i true)) Q)
 (hn:b=false→(Oper.mk d (.move (.const (.bool false))) ty pos af g).wp P a w (AH P md l.toArray Q D S fuel (listed.setIfInBounds i true)) Q):AH P md l.toArray Q D S (fuel+1) listed a w:=by
 cases b
 ·exact Bs i _ hi hs hf hr hQ hv hw (hn rfl)
 exact Bs i _ hi hs hf hr hQ hv hw (ht rfl)
theorem N4(i:Nat)(p:Prop)[Decidable p](hi:Dr ⟨d,op,ty,pos,af,g⟩ i l)(hs:Region.noSelect l.toArray=true)(hf:Region.free md l.toArray listed i=true)(hr:(Region.ready md l.toArray listed).contains i=true)
 (hQ:∀v c a w,Q (.panic c) (a.put d v) w→Q (.panic c) a w) (hv:Bk P op ty a (.bool (decide p))) (hw:Region.wanted ⟨d,op,ty,pos,af,g⟩ (yielded l.toArray a.tmps)=true)
 (ht:p→(Oper.mk d (.move (.const (.bool true))) ty pos af g).wp P a w (AH P md l.toArray Q D S fuel (listed.setIfInBounds i true)) Q)
 (hn:¬p→(Oper.mk d (.move (.const (.bool false))) ty pos af g).wp P a w (AH P md l.toArray Q D S fuel (listed.setIfInBounds i true)) Q):AH P md l.toArray Q D S (fuel+1) listed a w:=
 PL i _ hi hs hf hr hQ hv hw (fun h=>ht (of_decide_eq_true h)) (fun h=>hn (of_decide_eq_false h))
theorem N6(i:Nat)(hi:Dr ⟨d,op,ty,pos,af,g⟩ i l)(hs:Region.noSelect l.toArray=true)(hf:Region.free md l.toArray listed i=true)(hr:(Region.ready md l.toArray listed).contains i=true)
 (hQ:∀v c a w,Q (.panic c) (a.put d v) w→Q (.panic c) a w) (hw:Region.wanted ⟨d,op,ty,pos,af,g⟩ (yielded l.toArray a.tmps)=false)
 (h:(Oper.mk d (.move (.const undef)) ty pos af g).wp P a w (AH P md l.toArray Q D S fuel (listed.setIfInBounds i true)) Q):AH P md l.toArray Q D S (fuel+1) listed a w:=
 Ge i hi hs hf hr hQ (a1:=a.put d undef) (fun w=>wpList_skip hw (wpList_nil ⟨rfl,rfl⟩)) (by cases d<;>rfl) h
end
section
variable{P:Program}{Q:Exit→Act→World→Prop}{a:Act}{W w:World}{c:Code}
end
end Go.Proofs.YtngojkompmcceaaGreatDoor
/- Short words for regions that draw their order. -/
namespace Go.Proofs.YtngojkompmcceaaGreatDoor
open Go.RowKit
set_option linter.unusedVariables false
set_option maxRecDepth 100000
set_option maxHeartbeats 8000000
structure Mv(md:Region.Mode)(l:List Oper)(listed:Array Bool)(Q:Exit→Act→World→Prop)(a:Act)(d:Option Tmp)(op:Op)(ty:TypeId)(pos:String)(af:Array Edge)(g:Option (Nat×Bool))(i:Nat)(b:Bool):Prop where
 hi:Dr ⟨d,op,ty,pos,af,g⟩ i l
 hs:Region.noSelect l.toArray=true
 hf:Region.free md l.toArray listed i=true
 hr:(Region.ready md l.toArray listed).contains i=true
 hQ:∀v c a w,Q (.panic c) (a.put d v) w→Q (.panic c) a w
 hw:Region.wanted ⟨d,op,ty,pos,af,g⟩ (yielded l.toArray a.tmps)=b
section
variable{P:Program}{Q:Exit→Act→World→Prop}{md:Region.Mode}{D:List Nat}{S:World→Prop}{l:List Oper}{fuel:Nat}{listed:Array Bool}{a:Act}{w:World}{d:Option Tmp}{op:Op}{ty:TypeId}{pos:String}{af:Array Edge}{g:Option (Nat×Bool)}{x:Operand}{i:Nat}{b:Bool}
theorem CY(hi:Dr ⟨d,op,ty,pos,af,g⟩ i l:=by (repeat (first|with_reducible exact Dr.head|apply Dr.tail)))(hs:Region.noSelect l.toArray=true:=by kernel_rfl)(hf:Region.free md l.toArray listed i=true:=by kernel_rfl)(hr:(Region.ready md l.toArray listed).contains i=true:=by kernel_rfl)
 (hQ:∀v c a w,Q (.panic c) (a.put d v) w→Q (.panic c) a w:=by first|exact fun _ _ _ _ h=>h|exact fun _ _ _ _ h=>nomatch h.1) (hw:Region.wanted ⟨d,op,ty,pos,af,g⟩ (yielded l.toArray a.tmps)=b:=by kernel_rfl):Mv md l listed Q a d op ty pos af g i b:=⟨hi,hs,hf,hr,hQ,hw⟩
theorem DH(i:Nat){v:Value}(t:Mv md l listed Q a d op ty pos af g i true)(hv:Bk P op ty a v)(h:(Oper.mk d (.move (.const v)) ty pos af g).wp P a w (AH P md l.toArray Q D S fuel (listed.setIfInBounds i true)) Q):AH P md l.toArray Q D S (fuel+1) listed a w:=Bs i v t.1 t.2 t.3 t.4 t.5 hv t.6 h
theorem Qm(i:Nat)(t:Mv md l listed Q a d (.move x) ty pos af g i true)(h:(Oper.mk d (.move x) ty pos af g).wp P a w (AH P md l.toArray Q D S fuel (listed.setIfInBounds i true)) Q):AH P md l.toArray Q D S (fuel+1) listed a w:=N5 i x t.1 t.2 t.3 t.4 t.5 t.6 h
theorem Ql(i:Nat)(t:Mv md l listed Q a d (.assign x) ty pos af g i true)(h:(Oper.mk d (.move x) ty pos af g).wp P a w (AH P md l.toArray Q D S fuel (listed.setIfInBounds i true)) Q):AH P md l.toArray Q D S (fuel+1) listed a w:=N3 i x t.1 t.2 t.3 t.4 t.5 t.6 h
theorem Qn(i:Nat)(t:Mv md l listed Q a d op ty pos af g i false)(h:(Oper.mk d (.move (.const undef)) ty pos af g).wp P a w (AH P md l.toArray Q D S fuel (listed.setIfInBounds i true)) Q):AH P md l.toArray Q D S (fuel+1) listed a w:=N6 i t.1 t.2 t.3 t.4 t.5 t.6 h
theorem CC(i:Nat){o:Oper}(h:o.wp P a w (fun a' w'=>(i∉D→S w→S w')∧AH P md l.toArray Q D S fuel (listed.setIfInBounds i true) a' w') Q)(hi:Dr o i l:=by (repeat (first|with_reducible exact Dr.head|apply Dr.tail)))(hw:Region.wanted o (yielded l.toArray a.tmps)=true:=by kernel_rfl)
 (hr:Region.ready md l.toArray listed=[i]:=by kernel_rfl):AH P md l.toArray Q D S (fuel+1) listed a w:=NA i hi hw hr h
theorem Qd{A:Prop}{d:Tmp}{v:Value}(h:(Oper.mk (some d) (.move (.const v)) 0 "" #[] none).wp P a w (AH P md l.toArray Q D S fuel listed) Q)(h1:A:=by exact fun _ h=>h):A∧AH P md l.toArray Q D S fuel listed (a.put (some d) v) w:=⟨h1,h⟩
def LI(_:Nat)(p:Prop):Prop:=p
def Nt(_:Nat)(_:List Nat)(p:Prop):Prop:=p
theorem Nk{v:Value}(t:Mv md l listed Q a d op ty pos af g i true)(hv:Bk P op ty a v)(h:(Oper.mk d (.move (.const v)) ty pos af g).wp P a w (AH P md l.toArray Q D S fuel (listed.setIfInBounds i true)) Q):LI i (AH P md l.toArray Q D S (fuel+1) listed a w):=Bs i v t.1 t.2 t.3 t.4 t.5 hv t.6 h
theorem QH(t:Mv md l listed Q a d (.move x) ty pos af g i true)(h:(Oper.mk d (.move x) ty pos af g).wp P a w (AH P md l.toArray Q D S fuel (listed.setIfInBounds i true)) Q):LI i (AH P md l.toArray Q D S (fuel+1) listed a w):=N5 i x t.1 t.2 t.3 t.4 t.5 t.6 h
theorem QG(t:Mv md l listed Q a d (.assign x) ty pos af g i true)(h:(Oper.mk d (.move x) ty pos af g).wp P a w (AH P md l.toArray Q D S fuel (listed.setIfInBounds i true)) Q):LI i (AH P md l.toArray Q D S (fuel+1) listed a w):=N3 i x t.1 t.2 t.3 t.4 t.5 t.6 h
theorem QI(t:Mv md l listed Q a d op ty pos af g i false)(h:(Oper.mk d (.move (.const undef)) ty pos af g).wp P a w (AH P md l.toArray Q D S fuel (listed.setIfInBounds i true)) Q):LI i (AH P md l.toArray Q D S (fuel+1) listed a w):=N6 i t.1 t.2 t.3 t.4 t.5 t.6 h
end
section
variable{P:Program}{Q:Exit→Act→World→Prop}{md:Region.Mode}{D:List Nat}{S:World→Prop}{i:Nat}{E:List Nat}{l:List Oper}{oi:Oper}{a1:Act}{fuel:Nat}{listed:Array Bool}{a:Act}{w:World}
theorem D6(hi:Dr oi i l)(hs:Region.noSelect l.toArray=true)(hf:Region.free md l.toArray listed i=true)(hr:(Region.ready md l.toArray listed).contains i=true)(hQ:∀v c a w,Q (.panic c) (a.put oi.dst v) w→Q (.panic c) a w)(hE:Hp md l.toArray listed i E D=true)(hSw:S w)(hfr:∀w,S w→wpList P l.toArray (FreeOne (fun w'=>w'=w) a1) [oi] a w)(hd:a1.defers=a.defers)(h:AH P md l.toArray Q D S fuel (listed.setIfInBounds i true) a1 w):Nt i E (AH P md l.toArray Q D S (fuel+1) listed a w):=N7 i hi hs hf hr hQ E hE hSw hfr hd h
theorem QF(hi:Dr oi i l)(hs:Region.noSelect l.toArray=true)(hf:Region.free md l.toArray listed i=true)(hr:(Region.ready md l.toArray listed).contains i=true)(hQ:∀v c a w,Q (.panic c) (a.put oi.dst v) w→Q (.panic c) a w)(hfr:∀w,wpList P l.toArray (FreeOne (fun w'=>w'=w) a1) [oi] a w)(hd:a1.defers=a.defers)(h:AH P md l.toArray Q D S fuel (listed.setIfInBounds i true) a1 w):LI i (AH P md l.toArray Q D S (fuel+1) listed a w):=Ge i hi hs hf hr hQ hfr hd h
end
section
variable{p q:Prop}
theorem Ab(n:Nat)(k:q)(h:A7 q→LI n p:=by intro zq9;(first|(refine QH CY ?_;go_step)|(refine QG CY ?_;go_step));with_reducible exact zq9.out):p:=h ⟨k⟩
theorem E6(n:Nat)(k:q)(h:A7 q→LI n p:=by intro zq9;refine QI CY ?_;go_step;with_reducible exact zq9.out):p:=h ⟨k⟩
theorem Y0(n:Nat)(k:q)(h:A7 q→LI n p:=by intro zq9;refine Nk CY (V.indexSl Tryz.underlying110 I4 rfl rfl BW (by omega) rfl Br) ?_;go_step;with_reducible exact zq9.out):p:=h ⟨k⟩
theorem Y1(n:Nat)(k:q)(h:A7 q→LI n p:=by intro zq9;refine Nk CY (V.extract rfl rfl) ?_;go_step;with_reducible exact zq9.out):p:=h ⟨k⟩
theorem Y2(n:Nat)(L:List Nat)(k:q)(h:A7 q→Nt n L p:=by intro zq9;apply D6 Cy AA AA AA Ei AA (hS.sub Ae);(case hfr=>intro w hS;((refine Aq ?_;apply Il hS 109 _ rfl _ _ rfl 2 (Ad rfl) _ _ _ _ _;(case hp=>exact AS);(case inst=>infer_instance);(case he=>with_reducible assumption);(case hq=>exact rfl);(case hj=>omega);refine AB ?_;go_step));refine wpList_nil ?_;exact ⟨rfl,rfl⟩);(case hd=>rfl);with_reducible exact zq9.out):p:=h ⟨k⟩
theorem Y3{T q:Nat→World→Prop}(k:∀g w,T g w→q g w)(h:Mg T q→p:=by intro zq9;refine CU (o:=⟨some _,_,_,_,_,_⟩) hS 42 rfl (.agg #[.int .i64 0, .nilFunc]) [.int .i64 0, .nilFunc] (fun w=>Tryz.zeroValue42 w) rfl ?_;intro g9 w9 h9;refine ⟨fun _ _=>h9.sub Ae,?_⟩;refine AJ ?_;go_step;with_reducible exact zq9.out g9 w9 h9):p:=h ⟨k⟩
theorem Y4{T q:World→Prop}(k:∀w,T w→q w)(h:LL T q→p:=by intro zq9;(refine CH hS 42 _ _ rfl _ rfl 2 (Ad rfl) _ _ AS (by rfl) (by rfl) (by rfl) (by rfl) rfl ?_);intro w9 h9;refine ⟨fun h=>absurd (by decide) h,?_⟩;with_reducible exact zq9.out w9 h9):p:=h ⟨k⟩
theorem Y5{T q:World→Prop}(k:∀w,T w→q w)(h:LL T q→p:=by intro zq9;(apply K3 hS 109 _ _ rfl _ _ rfl 2 (Ad rfl) _ _ _ _ _;(case hp=>exact AS);(case inst=>infer_instance);(case he=>with_reducible assumption);(case hone=>with_reducible assumption);(case hq=>exact rfl);(case hj=>omega);(case hy=>exact rfl);(case hd=>exact rfl));intro w9 h9;refine ⟨fun h=>absurd (by decide) h,?_⟩;with_reducible exact zq9.out w9 h9):p:=h ⟨k⟩
theorem Y6(n:Nat)(L:List Nat)(k:q)(h:A7 q→Nt n L p:=by intro zq9;apply D6 Cy AA AA AA Ei AA (hS.sub Ae);(case hfr=>intro w hS;((refine Aq ?_;apply C8 hS 3 _ rfl _ _ rfl (Ac rfl) _ _ _ _ _;(case hp=>exact AS);(case hi=>omega);refine AB ?_;go_step));refine wpList_nil ?_;exact ⟨rfl,rfl⟩);(case hd=>rfl);with_reducible exact zq9.out):p:=h ⟨k⟩
theorem Y7(n:Nat)(k:q)(h:A7 q→LI n p:=by intro zq9;refine Nk CY (V.indexAr Tryz.underlying33 BX rfl rfl BW (by omega) (Nat.mul_one _) Br) ?_;go_step;with_reducible exact zq9.out):p:=h ⟨k⟩
theorem Y8(n:Nat)(L:List Nat)(k:q)(h:A7 q→Nt n L p:=by intro zq9;apply D6 Cy AA AA AA Ei AA (hS.sub Ae);(case hfr=>intro w hS;((refine Aq ?_;apply Eq hS 33 _ rfl _ _ rfl 64 (Ad rfl) _;(case hp=>exact AS);(case hi=>(repeat (first|(apply Hv.head;exact F1)|(apply Hv.skipI;(case hn=>exact F1);(case h=>omega);(case ho=>rfl))|apply Hv.skipV)));refine AB ?_;go_step));refine wpList_nil ?_;exact ⟨rfl,rfl⟩);(case hd=>rfl);with_reducible exact zq9.out):p:=h ⟨k⟩
theorem Y9(n:Nat)(L:List Nat)(k:q)(h:A7 q→Nt n L p:=by intro zq9;apply D6 Cy AA AA AA Ei AA (hS.sub Ae);(case hfr=>intro w hS;((refine Aq ?_;apply Di hS 9 _ rfl _ _ rfl (Ac rfl) _ _ _ _ _;(case hp=>exact AS);(case hv=>with_reducible assumption);refine AB ?_;go_step));refine wpList_nil ?_;exact ⟨rfl,rfl⟩);(case hd=>rfl);with_reducible exact zq9.out):p:=h ⟨k⟩
theorem QC(n:Nat)(k:q)(h:A7 q→LI n p:=by intro zq9;refine Nk CY (V.indexSl Tryz.underlying22 OS rfl rfl (show Ar 0 0 from rfl) (by omega) (show 0*1=0 from rfl) Br) ?_;go_step;with_reducible exact zq9.out):p:=h ⟨k⟩
theorem QZ{T q:World→Prop}(k:∀w,T w→q w)(h:LL T q→p:=by intro zq9;(refine Gp hS 33 _ _ rfl _ rfl 64 (Ad rfl) _ _ AS (by rfl) (by (repeat (first|assumption|exact A2.rep|apply A2.set|((with_reducible show A2 (_::_) _);exact rfl)))) rfl ?_);intro w9 h9;refine ⟨fun h=>absurd (by decide) h,?_⟩;with_reducible exact zq9.out w9 h9):p:=h ⟨k⟩
theorem Qa(n:Nat)(L:List Nat)(k:q)(h:A7 q→Nt n L p:=by intro zq9;apply D6 Cy AA AA AA Ei AA (hS.sub Ae);(case hfr=>intro w hS;((refine Aq ?_;apply Dh hS 3 _ rfl _ _ rfl (Ac rfl) _ _;(case hp=>exact AS);(case hi=>omega);refine AB ?_;go_step));refine wpList_nil ?_;exact ⟨rfl,rfl⟩);(case hd=>rfl);with_reducible exact zq9.out):p:=h ⟨k⟩
theorem Qb(n:Nat)(L:List Nat)(k:q)(h:A7 q→Nt n L p:=by intro zq9;apply D6 Cy AA AA AA Ei AA (hS.sub Ae);(case hfr=>intro w hS;((refine Aq ?_;apply Gm hS 46 _ rfl _ _ rfl (Ac rfl) _ _ _ _ _ _;(case hp=>exact AS);(case inst=>infer_instance);(case he=>with_reducible assumption);(case hq=>exact rfl);(case hj=>omega);(case hv=>exact rfl);refine AB ?_;go_step));refine wpList_nil ?_;exact ⟨rfl,rfl⟩);(case hd=>rfl);with_reducible exact zq9.out):p:=h ⟨k⟩
theorem Qc(n:Nat)(L:List Nat)(k:q)(h:A7 q→Nt n L p:=by intro zq9;apply D6 Cy AA AA AA Ei AA (hS.sub Ae);(case hfr=>intro w hS;((refine Aq ?_;apply JT hS 3 _ rfl _ _ rfl (Ac rfl) _ _ _ _ _ _;(case hp=>exact AS);(case inst=>infer_instance);(case he=>with_reducible assumption);(case hq=>exact rfl);(case hj=>omega);(case hv=>exact rfl);refine AB ?_;go_step));refine wpList_nil ?_;exact ⟨rfl,rfl⟩);(case hd=>rfl);with_reducible exact zq9.out):p:=h ⟨k⟩
end
end Go.Proofs.YtngojkompmcceaaGreatDoor
namespace Go.Proofs.YtngojkompmcceaaGreatDoor
attribute [local irreducible] Region.wanted
open Go.RowKit
set_option linter.unusedVariables false
set_option maxRecDepth 100000
set_option maxHeartbeats 8000000
theorem I8(l:List Int)(i:Nat)(z:Int)(h:i<l.length):AG (l.set i z) i=z:=by simp [AG,List.getD,h]
theorem I9(l:List Int)(i j:Nat)(z:Int)(h:i≠j):AG (l.set i z) j=AG l j:=by simp [AG,List.getD,h]
theorem EM(l:List Int)(i j:Nat)(z:Int)(h:i<l.length):AG (l.set i z) j=if i=j then z else AG l j:=by
 split
 ·rename_i e;subst e;exact I8 l i z h
 rename_i e;exact I9 l i j z e
theorem Bv(l:List Int)(i:Nat)(h:i<l.length):l[i]? =some (AG l i):=by simp [AG,List.getD,h]
theorem Hb(l:List Int)(i:Nat)(h:l.length≤i):AG l i=0:=by simp [AG,List.getD,List.getElem?_eq_none h]
theorem IN{l m:List Int}(h:l.length=m.length)(k:∀i,i<l.length→AG l i=AG m i):l=m:=by
 apply List.ext_getElem h
 intro i h1 h2
 have:=k i h1
 simpa [AG,List.getD,List.getElem?_eq_getElem h1,List.getElem?_eq_getElem h2] using this
theorem GW(n i:Nat):AG (List.replicate n 0) i=0:=by unfold AG;rw [List.getD_eq_getElem?_getD,List.getElem?_replicate];split<;>rfl
theorem NW(n:Nat)(z:Int)(i:Nat)(h:i<n):AG (List.replicate n z) i=z:=by simp [AG,List.getD,h]
def tab(n:Nat)(F:Nat→Int):List Int:=(List.range n).map F
theorem EV(n:Nat)(F:Nat→Int):(tab n F).length=n:=by simp [tab]
theorem Jm(n:Nat)(F:Nat→Int)(i:Nat)(h:i<n):AG (tab n F) i=F i:=by simp [tab,AG,List.getD,h]
theorem MJ{n:Nat}{F:Nat→Int}{l:List Int}(h:l.length=n)(k:∀i,i<n→AG l i=F i):l=tab n F:=IN (by rw [h,EV]) fun i hi=>by rw [k i (by omega),Jm n F i (by omega)]
section
variable{P:Program}{W w:World}{rs rs':List Af}{Q:Exit→Act→World→Prop}{K:Act→World→Prop}{o:Oper}{a:Act}
theorem St.ownLen{e:TypeId}{s n c:Nat}{ad:Option Addr}{xs:List Value}(hS:St W w rs)(hp:AK (Go.Proofs.YtngojkompmcceaaGreatDoor.own e s ad n c xs) rs rs'):xs.length=n*s:=(hS.own hp).1
theorem GX{e:TypeId}{s n c g off m:Nat}{xs:List Value}(hS:St W w rs)(hp:AK (own e s (some ⟨g,0,none⟩) n c xs) rs rs'):w.rangeAt g off ((xs.drop off).take m):=fun j v hv=>by
 rw [List.getElem?_take] at hv
 split at hv
 ·rw [List.getElem?_drop] at hv;exact Fe hS hp hv
 cases hv
theorem C8(hS:St W w rs)(ty:TypeId)(x:Operand)(ho:o.op= .load ty x)(g off:Nat)(hx:a.eval x= .pointer (some ⟨g,off,none⟩))(h1:Gs P ty)(e:TypeId)(s n c:Nat)(l:List Int)(hp:AK (own e s (some ⟨g,0,none⟩) n c (l.map (Value.int .i64))) rs rs')
 (hi:off<n*s) (h:K (a.put o.dst (.int .i64 (AG l off))) w):o.wp P a w K Q:=by
 have hl:=hS.ownLen hp
 rw [List.length_map] at hl
 exact Di hS ty x ho g off hx h1 e s n c _ hp _ (by rw [List.getElem?_map,Bv l off (by omega)];rfl) h
theorem K0(hS:St W w rs)(ty:TypeId)(x:Operand)(ho:o.op= .load ty x)(g off:Nat)(hx:a.eval x= .pointer (some ⟨g,off,none⟩))(m:Nat)(h1:Cx P ty m)(e:TypeId)(s n c:Nat)(l:List Int)(hp:AK (own e s (some ⟨g,0,none⟩) n c (l.map (Value.int .i64))) rs rs')
 (hi:off+m≤n*s) (h:K (a.put o.dst (.agg (iv ((l.drop off).take m)))) w):o.wp P a w K Q:=by
 have hl:=hS.ownLen hp
 rw [List.length_map] at hl
 refine CW ty x ho g off hx m h1 (((l.drop off).take m).map (Value.int .i64)) (by simp;omega) ?_ h
 have:=GX (off:=off) (m:=m) hS hp
 rwa [←List.map_drop,←List.map_take] at this
theorem Fw(hS:St W w rs)(ty:TypeId)(x:Operand)(ho:o.op= .load ty x)(g off:Nat)(hx:a.eval x= .pointer (some ⟨g,off,none⟩))(m:Nat)(h1:Cx P ty m)(e:TypeId)(s n c:Nat)(l:List Int)(hp:AK (own e s (some ⟨g,0,none⟩) n c (l.map (Value.int .i64))) rs rs')
 (hi:off+m≤n*s) (l':List Int) (hl':(l.drop off).take m=l') (h:K (a.put o.dst (.agg (iv l'))) w):o.wp P a w K Q:=
 K0 hS ty x ho g off hx m h1 e s n c l hp hi (by rw [hl'];exact h)
end
section
variable{P:Program}{ops:Array Oper}{Q:Exit→Act→World→Prop}{rest:List Oper}{a:Act}{W w:World}{rs:List Af}{d:Option Tmp}{x y:Operand}{t ty:TypeId}{pos:String}{af:Array Edge}{g:Option (Nat×Bool)}{k:IntKind}
end
inductive Lo(a:Act):Option Operand→Nat→Prop
 | none:Lo a none 0
 | some {x:Operand} {k:IntKind} {i:Int} {j:Nat} (h:a.eval x= .int k i) (hj:Ar i j):Lo a (some x) j
inductive Up(a:Act)(n:Nat):Option Operand→Nat→Prop
 | none:Up a n none n
 | some {x:Operand} {k:IntKind} {i:Int} {j:Nat} (h:a.eval x= .int k i) (hj:Ar i j):Up a n (some x) j
section
variable{P:Program}{W w:World}{a:Act}{x:Operand}{t ty:TypeId}
theorem V.build{ps:List (Nat×Operand)}{vs:List (Nat×Value)}{v:Value}(hvs:ps.map (fun x=>(x.1,a.eval x.2))=vs)(hr:∀w,(Instr.build t vs.toArray).run P w= .ok v w):Bk P (.build t ps.toArray) ty a v:=fun d pos af g w=>by
 have e:(ps.toArray).map (fun (x:Nat×Operand)=>(x.1,a.eval x.2))=vs.toArray:=by rw [←hvs];simp
 have e2:execOp a.eval ⟨d, .build t ps.toArray,ty,pos,af,g⟩=(do pure (.value (←Instr.build t ((ps.toArray).map fun (x:Nat×Operand)=>(x.1,a.eval x.2))))):=rfl
 rw [e2,e]
 simp only [Sem.run_bind,hr,Result.andThen_ok,Sem.run_pure]
def Et(ad:Option Addr)(c l s:Nat):Option Addr:=if c=l then ad else ad.map (·.add (l*s))
theorem V.slice{ad:Option Addr}{n c l h s:Nat}{e:TypeId}{lo hi:Option Operand}(ht:P.underlying t=some (.slice e))(hs:(P.info? e).map (·.size)=some s)(hx:a.eval x= .slice ad n c)(hl:Lo a lo l)(hh:Up a n hi h)(h1:l≤h)(h2:h≤c):
 Bk P (.slice t x lo hi none) ty a (.slice (Et ad c l s) (h-l) (c-l)):=fun d pos af g w=>by
 have e0:P.elem t=e:=by simp [Program.elem,ht]
 have ht':P.underlying t=some (.slice (P.elem t)):=by rw [e0];exact ht
 have fin:∀{lv hv:Option Value},lo.map a.eval=lv→hi.map a.eval=hv→(Instr.slice t (.slice ad n c) lv hv none).run P w=((sizeOf (P.elem t)).run P w).andThen (fun s w=> .ok (sliced ad l h c s) w)→
  (execOp a.eval ⟨d, .slice t x lo hi none,ty,pos,af,g⟩).run P w= .ok (.value (.slice (Et ad c l s) (h-l) (c-l))) w:=by
  intro lv hv e1 e2 hr
  rw [e0,BM w hs,Result.andThen_ok] at hr
  simp only [execOp,hx,e1,e2,Option.map_none,Sem.run_bind,run_sliceAt_slice w t _ lv hv none ht',hr,Result.andThen_ok,Sem.run_pure,sliced,Et]
 cases hl with
 | none=>cases hh with
   | none=>exact fin rfl rfl (run_slice_all w t ad n c ht')
   | @some y k2 i2 _ hy hj=>
     unfold Ar at hj
     subst hj
     have:=run_slice_h w t ad n c ht' k2 (h:Int) (by omega) (by omega)
     rw [Int.toNat_natCast] at this
     exact fin rfl (by rw [Option.map_some,hy]) this
 | @some y1 k1 i1 _ hy1 hj1=>
   unfold Ar at hj1
   subst hj1
   cases hh with
   | none=>
     have:=run_slice_l w t ad n c ht' k1 (l:Int) (by omega) (by omega)
     rw [Int.toNat_natCast] at this
     exact fin (by rw [Option.map_some,hy1]) rfl this
   | @some y k2 i2 _ hy hj=>
     unfold Ar at hj
     subst hj
     have:=run_slice_lh w t ad n c ht' k1 k2 (l:Int) (h:Int) (by omega) (by omega) (by omega)
     rw [Int.toNat_natCast,Int.toNat_natCast] at this
     exact fin (by rw [Option.map_some,hy1]) (by rw [Option.map_some,hy]) this
end
structure Hw(P:Program)(t e:TypeId)(k:IntKind)(s b:Nat):Prop where
 ht:P.underlying t=some (.slice e)
 ex:∃i z,P.info? e=some i∧i.zero=some z∧i.size=s∧i.bytes=b∧z.cells=Array.replicate s (.int k 0)
 pos:0<s
theorem Hw.mk'{P:Program}{t e:TypeId}{k:IntKind}{s b:Nat}(z:Value)(ht:P.underlying t=some (.slice e))(hi:(P.info? e).map (fun i=>(i.zero,i.size,i.bytes))=some (some z,s,b))(hz:z.cells=Array.replicate s (.int k 0))(hp:0<s):Hw P t e k s b:=by
 obtain ⟨i,h1,h2,h3,h4⟩:=info_parts hi
 exact ⟨ht,⟨i,z,h1,h2,h3,h4,hz⟩,hp⟩
section
variable{P:Program}{W w:World}{rs rs':List Af}{Q:Exit→Act→World→Prop}{K:Act→World→Prop}{o:Oper}{a:Act}
end
section
variable{P:Program}{W w:World}{a:Act}{x:Operand}{t ty:TypeId}
theorem V.sliceA{b off N l h s q m c:Nat}{e:TypeId}{lo hi:Option Operand}(ht:P.underlying t=some (.array N e))(hs:(P.info? e).map (·.size)=some s)(hx:a.eval x= .pointer (some ⟨b,off,none⟩))(hl:Lo a lo l)(hh:Up a N hi h)(h1:l≤h)(h2:h≤N)(h3:l<N)(hq:off+l*s=q)(hm:h-l=m)(hc:N-l=c):
 Bk P (.slice t x lo hi none) ty a (.slice (some ⟨b,q,none⟩) m c):=fun d pos af g w=>by
 subst hm;subst hc
 have e0:P.elem t=e:=by simp [Program.elem,ht]
 have e1:P.arrayLen t=N:=by simp [Program.arrayLen,ht]
 have ht':P.underlying t=some (.array (P.arrayLen t) (P.elem t)):=by rw [e0,e1];exact ht
 have fin:∀{lv hv:Option Value},lo.map a.eval=lv→hi.map a.eval=hv→(Instr.sliceAt t (.pointer (some ⟨b,off,none⟩)) lv hv none).run P w=((sizeOf (P.elem t)).run P w).andThen (fun s w=> .ok (slicedAt ⟨b,off,none⟩ l h N s) w)→
  (execOp a.eval ⟨d, .slice t x lo hi none,ty,pos,af,g⟩).run P w= .ok (.value (.slice (some ⟨b,q,none⟩) (h-l) (N-l))) w:=by
  intro lv hv e1 e2 hr
  rw [e0,BM w hs,Result.andThen_ok] at hr
  have e3:slicedAt (⟨b,off,none⟩:Addr) l h N s= .slice (some ⟨b,q,none⟩) (h-l) (N-l):=by
   unfold slicedAt
   rw [if_neg (by omega)]
   simp only [Addr.add_mid,hq]
  simp only [execOp,hx,e1,e2,Option.map_none,Sem.run_bind,hr,Result.andThen_ok,Sem.run_pure,e3]
 cases hl with
 | none=>cases hh with
   | none=>exact fin rfl rfl (by have:=run_sliceAt_array_all (P:=P) w t ⟨b,off,none⟩ ht';rwa [e1] at this)
   | @some y k2 i2 _ hy hj=>
     unfold Ar at hj
     subst hj
     have:=run_sliceAt_array_h (P:=P) w t ⟨b,off,none⟩ ht' k2 (h:Int) (by omega) (by omega)
     rw [Int.toNat_natCast,e1] at this
     exact fin rfl (by rw [Option.map_some,hy]) this
 | @some y1 k1 i1 _ hy1 hj1=>
   unfold Ar at hj1
   subst hj1
   cases hh with
   | none=>
     have:=run_sliceAt_array_l (P:=P) w t ⟨b,off,none⟩ ht' k1 (l:Int) (by omega) (by omega)
     rw [Int.toNat_natCast,e1] at this
     exact fin (by rw [Option.map_some,hy1]) rfl this
   | @some y k2 i2 _ hy hj=>
     unfold Ar at hj
     subst hj
     have:=run_sliceAt_array_lh (P:=P) w t ⟨b,off,none⟩ ht' k1 k2 (l:Int) (h:Int) (by omega) (by omega) (by omega)
     rw [Int.toNat_natCast,Int.toNat_natCast,e1] at this
     exact fin (by rw [Option.map_some,hy1]) (by rw [Option.map_some,hy]) this
end
section
variable{W w:World}{rs rs':List Af}
theorem St.isl{g n:Nat}{l:List Int}(hS:St W w rs)(p:AK (Go.Proofs.YtngojkompmcceaaGreatDoor.arr g n l) rs rs')(hn:n≤9223372036854775807):Md w (.slice (some ⟨g,0,none⟩) n n) l:=
 Md.of_row (hS.arr p).1 (hS.arr p).2 (by unfold maxLen;omega)
end
theorem DC(k:IntKind)(l:List Int)(a:Int):l.map (Value.int k)++[Value.int k a]=(l++[a]).map (Value.int k):=by simp
theorem DD(k:IntKind)(l:List Int)(a b:Int):l.map (Value.int k)++[Value.int k a,Value.int k b]=(l++[a,b]).map (Value.int k):=by simp
theorem DE(k:IntKind)(l:List Int)(a b c:Int):l.map (Value.int k)++[Value.int k a,Value.int k b,Value.int k c]=(l++[a,b,c]).map (Value.int k):=by simp
theorem DF(k:IntKind)(l:List Int)(a b c d:Int):l.map (Value.int k)++[Value.int k a,Value.int k b,Value.int k c,Value.int k d]=(l++[a,b,c,d]).map (Value.int k):=by simp
theorem DG(k:IntKind)(l m:List Int):l.map (Value.int k)++m.map (Value.int k)=(l++m).map (Value.int k):=by simp
theorem B6{l:List Value}(h:l.all (·.oneCell')=true):∀u∈l,u.oneCell'=true:=List.all_eq_true.1 h
theorem Fd(k:IntKind)(l:List Int):∀u∈l.map (Value.int k),u.oneCell'=true:=fun u hu=>by
 obtain ⟨x,_,rfl⟩:=List.mem_map.1 hu;rfl
theorem St.nilk{W w:World}{rs:List Af}(h:St W w rs)(e:TypeId)(s:Nat)(k:IntKind):St W w (Go.Proofs.YtngojkompmcceaaGreatDoor.own e s none 0 0 (([]:List Int).map (Value.int k))::rs):=h.nil e s
theorem St.allocOwn{W w:World}{rs:List Af}(h:St W w rs)(e:TypeId)(s n:Nat)(cs:List Value)(hl:cs.length=n*s)(hn:n≤maxLen):St W (w.alloc (.cells cs.toArray e)) (Go.Proofs.YtngojkompmcceaaGreatDoor.own e s (some ⟨w.heap.size,0,none⟩) n n cs::rs):=by
 have ht:cs.toArray.toList.take (n*s)=cs:=by rw [←hl];simp
 obtain ⟨h1,f,h2,h3,h4⟩:=h
 refine ⟨h1.alloc _,w.heap.size::f,List.nodup_cons.2 ⟨fun hm=>by have:=h4.lt _ hm;omega,h2⟩,fun b hb=>?_,[w.heap.size],f,rfl,⟨rfl,hl, .inr ⟨w.heap.size,n,cs.toArray,rfl,Nat.zero_le _,heap_alloc_new w _,Nat.le_refl _,hn,by simpa using hl,ht⟩⟩,h4.loc fun b hb=>?_⟩
 ·rcases List.mem_cons.1 hb with h|h
  ·rw [h];exact h1.sz
  exact h3 b h
 exact heap_alloc_old w _ (h4.lt b hb)
section
variable{P:Program}{W w:World}{rs rs':List Af}{Q:Exit→Act→World→Prop}{K:Act→World→Prop}{o:Oper}{a:Act}
theorem CV(hS:St W w rs)(t:TypeId)(n:Nat)(ps:List (Nat×Operand))(ho:o.op= .buildSlice t n ps.toArray)(e:TypeId)(s b:Nat)(el:Bq P t e s b)(vs cs:List Value)(hvs:AX a s 0 ps vs cs)(hn:vs.length=n)(hn0:0<n)(hns:n*s≤2^24)
 (h:∀g w',St W w' (own e s (some ⟨g,0,none⟩) n n cs::rs)→K (a.put o.dst (.slice (some ⟨g,0,none⟩) n n)) w'):o.wp P a w K Q:=by
 obtain ⟨ht,⟨i,z,hi,hz,rfl,hb,hzs⟩,hp⟩:=el
 obtain ⟨h1,h2,hcs,hsz⟩:=hvs.vals
 have hns':0<n*i.size:=Nat.mul_pos hn0 hp
 have hnm:n≤maxLen:=by
  have:n*1≤n*i.size:=Nat.mul_le_mul_left _ hp
  unfold maxLen;omega
 have hcl:∀us:List Value,(∀v∈us,v.cells.size=i.size)→(us.flatMap (·.cells.toList)).length=us.length*i.size:=by
  intro us
  induction us with
  | nil=>intro _;simp
  | cons u us ih=>
    intro hu
    have h1:=hu u (by simp)
    rw [List.flatMap_cons,List.length_append,ih fun v hv=>hu v (by simp [hv]),List.length_cons,Nat.add_mul,Nat.one_mul,Array.length_toList,h1,Nat.add_comm]
 have hcl':cs.length=n*i.size:=by rw [←hcs,hcl vs hsz,hn]
 refine Go.wp_buildSlice t e n ps.toArray ho (cs.toArray) i z ht hi hz (by omega) (by omega) ?_ (h _ _ (hS.allocOwn e i.size n cs hcl' hnm))
 have h3:=FP i.size vs 0 [] (((List.range (n*i.size)).map (fun j=>z.cells[j%z.cells.size]!))) (by simp) (by simp [hn]) hsz
 simp only [List.nil_append] at h3
 rw [←hcs]
 have e1:(Array.map (fun x:Nat×Operand=>(x.1,a.eval x.2)) ps.toArray).toList=(vs.zipIdx 0).map fun x=>(x.2,x.1):=by
  rw [←h1];simp
 rw [e1]
 rw [←h3]
 congr 1
 apply Array.ext_getElem?
 intro j
 simp only [Array.getElem?_map,Array.getElem?_range,List.getElem?_toArray,List.getElem?_map]
 by_cases hj:j<n*i.size
 ·simp [hj]
 simp [hj]
end
end Go.Proofs.YtngojkompmcceaaGreatDoor
namespace Go.Proofs.YtngojkompmcceaaGreatDoor
attribute [local irreducible] Region.wanted
set_option linter.unusedVariables false
set_option maxRecDepth 100000
set_option maxHeartbeats 8000000
theorem O9:Hw Tryz.prog 46 3 .i64 1 8:=Hw.mk' (.int .i64 0) Tryz.underlying46 AA AA (by decide)
end Go.Proofs.YtngojkompmcceaaGreatDoor
namespace Go.Proofs.YtngojkompmcceaaGreatDoor
attribute [local irreducible] Region.wanted
open Go.RowKit
set_option linter.unusedVariables false
set_option maxRecDepth 100000
set_option maxHeartbeats 8000000
section
variable{P:Program}{W w:World}{rs rs':List Af}{tmps:Array Value}
def JB(tmps:Array Value):ResultVar→Sem Value
 | .tmp t=>pure (tmps.getD t undef)
 | .cell a t=>do loadVar t (←asAddr (tmps.getD a undef))
def AC(P:Program)(tmps:Array Value)(w:World)(r:ResultVar)(v:Value):Prop:=(JB tmps r).run P w= .ok v w
theorem AC.tmp{t:Tmp}{v:Value}(h:tmps.getD t undef=v):AC P tmps w (.tmp t) v:=by
 show (pure (tmps.getD t undef):Sem Value).run P w= .ok v w
 rw [h];rfl
theorem AC.row{p g n:Nat}{ty:TypeId}{cs:List Value}(hp:tmps.getD p undef= .pointer (some ⟨g,0,none⟩))(h1:Cx P ty n)(hn:cs.length=n)(hc:w.rangeAt g 0 cs):AC P tmps w (.cell p ty) (.agg cs.toArray):=by
 show (do loadVar ty (←asAddr (tmps.getD p undef)):Sem Value).run P w= .ok (.agg cs.toArray) w
 rw [hp]
 obtain ⟨hr,hs⟩:=h1
 cases hu:P.underlying ty with
 | none=>rw [hu] at hr;cases hr
 | some d=>
   rw [hu,Option.map_some,Option.some.injEq] at hr
   exact run_loadVar_mid (P:=P) w g 0 ty cs d hc hu hr (by rw [hs,hn])
theorem AC.arr{p g n:Nat}{ty:TypeId}{l:List Int}(hS:St W w rs)(hp:tmps.getD p undef= .pointer (some ⟨g,0,none⟩))(h1:Cx P ty n)(pl:AK (Go.Proofs.YtngojkompmcceaaGreatDoor.arr g n l) rs rs'):AC P tmps w (.cell p ty) (.agg (iv l)):=by
 obtain ⟨hr,hn⟩:=hS.arr pl
 exact AC.row (cs:=l.map (Value.int .i64)) hp h1 (by simpa using hn) hr.range
theorem AC.blk{p g n:Nat}{ty:TypeId}{cs:List Value}(hS:St W w rs)(hp:tmps.getD p undef= .pointer (some ⟨g,0,none⟩))(h1:Cx P ty n)(pl:AK (Go.Proofs.YtngojkompmcceaaGreatDoor.blk g cs) rs rs')(hn:cs.length=n):AC P tmps w (.cell p ty) (.agg cs.toArray):=
 AC.row hp h1 hn (hS.blk pl).1.range
inductive Cw(P:Program)(tmps:Array Value)(w:World):List ResultVar→List Value→Prop
 | nil:Cw P tmps w [] []
 | cons {r:ResultVar} {v:Value} {rs:List ResultVar} {vs:List Value} (h:AC P tmps w r v) (t:Cw P tmps w rs vs):Cw P tmps w (r::rs) (v::vs)
theorem Cw.run{rs:List ResultVar}{vs:List Value}(h:Cw P tmps w rs vs):(rs.mapM (JB tmps)).run P w= .ok vs w:=by
 induction h with
 | nil=>rfl
 | @cons r v rs vs h t ih=>
   rw [List.mapM_cons]
   have h':=h
   unfold AC at h'
   simp only [Sem.run_bind]
   rw [h',Result.andThen_ok,ih,Result.andThen_ok]
   rfl
theorem Fi{fn:Func}{xs:List ResultVar}{vs:List Value}(hr:fn.results=xs.toArray)(h:Cw P tmps w xs vs):
 (results fn tmps).run P w= .ok (if h:vs.toArray.size=1 then vs.toArray[0] else .tuple vs.toArray) w:=by
 have e:results fn tmps=(do
  let vs ←fn.results.mapM (JB tmps)
  pure (if h:vs.size=1 then vs[0] else .tuple vs)):=by
  unfold results
  congr 1
 have h2:=h.run
 rw [e,hr,List.mapM_toArray,Sem.run_bind,Sem.run_map,h2]
 rfl
theorem AI{fn:Func}{R:Ending→World→Prop}{a:Act}{xs:List ResultVar}{vs:List Value}(hr:fn.results=xs.toArray)(h:Cw P a.tmps w xs vs)(hl:vs.length≠1)(hd:a.defers=[])(hR:R (.returned (.tuple vs.toArray)) w):bodyPost P fn R .ret a w:=by
 refine bodyPost_ret (v:= .tuple vs.toArray) ?_ hd hR
 rw [Fi hr h,dif_neg (by simpa using hl)]
theorem Cd{fn:Func}{R:Ending→World→Prop}{a:Act}{x:ResultVar}{v:Value}(hr:fn.results=#[x])(h:AC P a.tmps w x v)(hd:a.defers=[])(hR:R (.returned v) w):bodyPost P fn R .ret a w:=by
 refine bodyPost_ret (v:=v) ?_ hd hR
 rw [Fi (xs:=[x]) hr (Cw.cons h Cw.nil)]
 rfl
end
section
variable{P:Program}{w:World}{Q:Exit→Act→World→Prop}{K:Act→World→Prop}{o:Oper}{a:Act}
theorem BT{f:FuncId}{x:Operand}{xs:List Operand}{ats:Array TypeId}{Ci:Array Value}(ho:o.op= .call {callee:= .value x,args:=xs.toArray,argTypes:=ats})(hx:a.eval x= .func (.func f) #[] Ci)
 (hcall:∀(args:Array Value)(w:World),(callFunc f args).run P w= .ok (.enter f args) w)
 {R:Ending→World→Prop} (hc:Calls P f ((xs.map a.eval).toArray++Ci) w R) (h:∀e w',R e w'→∃v,e= .returned v∧K (a.put o.dst v) w'):o.wp P a w K Q:=by
 have e1:(execOp a.eval o).run P w=(callFunc f ((xs.map a.eval).toArray++Ci)).run P w:=by
  unfold execOp
  rw [ho]
  have e2:(#[]++(xs.toArray).map a.eval++Ci:Array Value)=(xs.map a.eval).toArray++Ci:=by simp
  rw [←e2]
  simp only [resolve,hx]
  rfl
 unfold Oper.wp
 rw [e1,hcall,Oper.upon_enter]
 refine hc.mono fun e w' hR=>?_
 obtain ⟨v,rfl,h2⟩:=h e w' hR
 exact h2
end
theorem Gc(n d:Int)(w:World)(h0:0≤n)(h1:n≤2305843009213693951)(h2:1≤d)(h3:d≤1000000000):
 Calls Tryz.prog 48 #[.int .i64 n, .int .i64 d] w fun e w'=>e= .returned (.int .i64 (El n d))∧w=w':=by
 have H:Hid ((2*n+d)/(2*d)=El n d):=by unfold Hid El;rw [if_neg (by omega)]
 have hn:¬n<0:=by omega
 go_enter Tryz.func48,Tryz.ntmps48
 go_wp2_with fail
 go_ret
 exact ⟨FC H.out,rfl⟩
theorem Em(n d:Int)(w:World)(h0: -2305843009213693951≤n)(h1:n≤2305843009213693951)(h2:1≤d)(h3:d≤1000000000):
 Calls Tryz.prog 48 #[.int .i64 n, .int .i64 d] w fun e w'=>e= .returned (.int .i64 (El n d))∧w=w':=by
 by_cases hn:n<0
 ·have hb:=JC (-n) d 2305843009213693951 (by omega) (by omega) h2
  have H:Hid (-El (-n) d=El n d):=by have:=Nc n d h2;unfold Hid;omega
  obtain ⟨hb1,hb2⟩:=hb
  go_enter Tryz.func48,Tryz.ntmps48
  go_wp2_with (go_at_call 48;refine (Gc (-n) d _ (by omega) (by omega) h2 h3).mono ?_;rintro e w' ⟨rfl,rfl⟩)
  go_ret
  exact ⟨FC H.out,rfl⟩
 exact Gc n d w (by omega) h1 h2 h3
theorem Gg(a1 a2 a3 a4 b1 b2 b3 b4 c1 c2 c3 c4 r g b:Int)(w:World)
 (hr:0≤r∧r≤255) (hg:0≤g∧g≤255) (hb:0≤b∧b≤255)
 (ha1: -200000000≤a1∧a1≤200000000) (ha2: -200000000≤a2∧a2≤200000000) (ha3: -200000000≤a3∧a3≤200000000) (ha4: -200000000≤a4∧a4≤200000000)
 (hb1: -200000000≤b1∧b1≤200000000) (hb2: -200000000≤b2∧b2≤200000000) (hb3: -200000000≤b3∧b3≤200000000) (hb4: -200000000≤b4∧b4≤200000000)
 (hc1: -200000000≤c1∧c1≤200000000) (hc2: -200000000≤c2∧c2≤200000000) (hc3: -200000000≤c3∧c3≤200000000) (hc4: -200000000≤c4∧c4≤200000000):
 Calls Tryz.prog 52 #[.agg #[.int .i64 a1, .int .i64 a2, .int .i64 a3, .int .i64 a4, .int .i64 b1, .int .i64 b2, .int .i64 b3, .int .i64 b4, .int .i64 c1, .int .i64 c2, .int .i64 c3, .int .i64 c4], .agg #[.int .i64 r, .int .i64 g, .int .i64 b]] w
  fun e w'=>e= .returned (.tuple #[.int .i64 (D3 (El (a4+a1*r+a2*g+a3*b) 65536)), .int .i64 (D3 (El (b4+b1*r+b2*g+b3*b) 65536)), .int .i64 (D3 (El (c4+c1*r+c2*g+c3*b) 65536)), .int .i64 0])∧AP w w':=by
 have ⟨pa1,qa1⟩:=EI a1 r 200000000 255 ha1 hr
 have ⟨pa2,qa2⟩:=EI a2 g 200000000 255 ha2 hg
 have ⟨pa3,qa3⟩:=EI a3 b 200000000 255 ha3 hb
 have ⟨pb1,qb1⟩:=EI b1 r 200000000 255 hb1 hr
 have ⟨pb2,qb2⟩:=EI b2 g 200000000 255 hb2 hg
 have ⟨pb3,qb3⟩:=EI b3 b 200000000 255 hb3 hb
 have ⟨pc1,qc1⟩:=EI c1 r 200000000 255 hc1 hr
 have ⟨pc2,qc2⟩:=EI c2 g 200000000 255 hc2 hg
 have ⟨pc3,qc3⟩:=EI c3 b 200000000 255 hc3 hb
 simp only [Int.reduceMul,Int.reduceNeg] at pa1 pa2 pa3 pb1 pb2 pb3 pc1 pc2 pc3 qa1 qa2 qa3 qb1 qb2 qb3 qc1 qc2 qc3
 obtain ⟨hr1,hr2⟩:=hr
 obtain ⟨hg1,hg2⟩:=hg
 obtain ⟨hb1',hb2'⟩:=hb
 obtain ⟨ha41,ha42⟩:=ha4
 obtain ⟨hb41,hb42⟩:=hb4
 obtain ⟨hc41,hc42⟩:=hc4
 clear ha1 ha2 ha3 hb1 hb2 hb3 hc1 hc2 hc3
 go_enter Tryz.func52,Tryz.ntmps52
 go_wp2_with (first|(with_reducible refine wp_loop_rounds 4 ?_)|(with_reducible rw [rounds_succ])|(go_at_call 48;refine (Em _ _ _ (by omega) (by omega) (by omega) (by omega)).mono ?_;rintro e w' ⟨rfl,rfl⟩))
 go_quiet (fail)
 go_wp2
 refine bodyPost_ret (A5 rfl _ _ _) rfl ?_
 exact ⟨rfl,by repeat (first|exact AP.refl _|apply AP.drew|apply AP.drewN|apply AP.alloc|refine AP.setCell ?_ (by simp;omega) _)⟩
def OA(r g b:Int):Int:=D3 (El (19595*r+38470*g+7471*b) 65536)
def N8(r g b:Int):Int:=D3 (El (8388608+ -11059*r+ -21709*g+32768*b) 65536)
def N9(r g b:Int):Int:=D3 (El (8388608+32768*r+ -27439*g+ -5329*b) 65536)
def FU(y _u v:Int):Int:=D3 (El (65536*y+91881*v-11760768) 65536)
def FT(y u v:Int):Int:=D3 (El (65536*y+ -22554*u+ -46802*v+8877568) 65536)
def FS(y u _v:Int):Int:=D3 (El (65536*y+116130*u-14864640) 65536)
theorem PO(r g b:Int):0≤OA r g b∧OA r g b≤255:=Bc _
theorem PM(r g b:Int):0≤N8 r g b∧N8 r g b≤255:=Bc _
theorem PN(r g b:Int):0≤N9 r g b∧N9 r g b≤255:=Bc _
theorem JM(r g b:Int)(w:World)(hr:0≤r∧r≤255)(hg:0≤g∧g≤255)(hb:0≤b∧b≤255):
 Calls Tryz.prog 32 #[.int .i64 r, .int .i64 g, .int .i64 b] w fun e w'=>e= .returned (.tuple #[.int .i64 (OA r g b), .int .i64 (N8 r g b), .int .i64 (N9 r g b), .int .i64 0])∧AP w w':=by
 go_enter Tryz.func32,Tryz.ntmps32
 go_wp2_with (go_at_call 52;refine (Gg 19595 38470 7471 0 (-11059) (-21709) 32768 8388608 32768 (-27439) (-5329) 8388608 r g b _ hr hg hb (by omega) (by omega) (by omega) (by omega) (by omega) (by omega) (by omega) (by omega) (by omega) (by omega) (by omega) (by omega)).mono ?_;rintro e w' ⟨rfl,hgr⟩)
 refine bodyPost_ret (A5 rfl _ _ _) rfl ?_
 refine ⟨MA ?_,?_⟩
 ·simp only [OA,N8,N9];rfl
 exact (by repeat (first|exact AP.refl _|apply AP.drew|apply AP.drewN|apply AP.alloc):AP w _).trans hgr
theorem Hk(r g b:Int)(w:World)(hr:0≤r∧r≤255)(hg:0≤g∧g≤255)(hb:0≤b∧b≤255):
 Calls Tryz.prog 33 #[.int .i64 r, .int .i64 g, .int .i64 b] w fun e w'=>e= .returned (.tuple #[.int .i64 (FU r g b), .int .i64 (FT r g b), .int .i64 (FS r g b), .int .i64 0])∧AP w w':=by
 go_enter Tryz.func33,Tryz.ntmps33
 go_wp2_with (go_at_call 52;refine (Gg 65536 0 91881 (-11760768) 65536 (-22554) (-46802) 8877568 65536 116130 0 (-14864640) r g b _ hr hg hb (by omega) (by omega) (by omega) (by omega) (by omega) (by omega) (by omega) (by omega) (by omega) (by omega) (by omega) (by omega)).mono ?_;rintro e w' ⟨rfl,hgr⟩)
 refine bodyPost_ret (A5 rfl _ _ _) rfl ?_
 refine ⟨MA ?_,?_⟩
 ·have e1:FU r g b=D3 (El (-11760768+65536*r+91881*b) 65536):=by unfold FU;congr 2;omega
  have e2:FT r g b=D3 (El (8877568+65536*r+ -22554*g+ -46802*b) 65536):=by unfold FT;congr 2;omega
  have e3:FS r g b=D3 (El (-14864640+65536*r+116130*g) 65536):=by unfold FS;congr 2;omega
  rw [e1,e2,e3];rfl
 exact (by repeat (first|exact AP.refl _|apply AP.drew|apply AP.drewN|apply AP.alloc):AP w _).trans hgr
def Bn(p:Int→Bool)(xs:List Int):Int:=match xs.findIdx? p with|some i=>(i:Int)|none=> -1
theorem GD(p:Int→Bool)(xs:List Int)(i:Nat)(h:i<xs.length)(hp:p (AG xs i)=true)(hpre:∀j,j<i→p (AG xs j)=false):Bn p xs=i:=by
 have:xs.findIdx? p=some i:=by
  rw [List.findIdx?_eq_some_iff_getElem]
  refine ⟨h,by simpa [AG,List.getD,List.getElem?_eq_getElem h] using hp,fun j hj=>?_⟩
  have:=hpre j hj
  simpa [AG,List.getD,List.getElem?_eq_getElem (show j<xs.length by omega)] using this
 simp [Bn,this]
theorem GC(p:Int→Bool)(xs:List Int)(hpre:∀j,j<xs.length→p (AG xs j)=false):Bn p xs= -1:=by
 have:xs.findIdx? p=none:=by
  rw [List.findIdx?_eq_none_iff]
  intro x hx
  obtain ⟨j,hj,rfl⟩:=List.getElem_of_mem hx
  have:=hpre j hj
  simpa [AG,List.getD,List.getElem?_eq_getElem hj] using this
 simp [Bn,this]
theorem Gz(p:Int→Bool)(xs:List Int):decide (0≤Bn p xs)=xs.any p:=by
 unfold Bn
 rw [Bool.eq_iff_iff,decide_eq_true_eq,List.any_eq_true]
 cases h:xs.findIdx? p with
 | none=>
   rw [List.findIdx?_eq_none_iff] at h
   simp only [Int.reduceNeg]
   constructor
   ·intro h';omega
   rintro ⟨x,hx,hp⟩;rw [h x hx] at hp;cases hp
 | some i=>
   rw [List.findIdx?_eq_some_iff_getElem] at h
   obtain ⟨hi,hp,_⟩:=h
   exact ⟨fun _=>⟨_,List.getElem_mem hi,hp⟩,fun _=>by dsimp only;omega⟩
theorem IF(p:Int→Bool)(xs:List Int): -1≤Bn p xs:=by
 unfold Bn;split<;>omega
theorem GF(w:World)(v:Value)(xs:List Int)(hs:Md w v xs)(K:Nat)(Ci:Array Value)(p:Int→Bool)(hk:∀(args:Array Value)(w:World),(callFunc K args).run Tryz.prog w= .ok (.enter K args) w)
 (hf:∀n,Calls Tryz.prog K (#[.int .i64 n]++Ci) w fun e w'=>e= .returned (.bool (p n))∧w=w'):
 Calls Tryz.prog 93 #[v, .func (.func K) #[] Ci] w fun e w'=>e= .returned (.int .i64 (Bn p xs))∧w=w':=by
 obtain ⟨a,c,rfl,hc1,hc2,ha⟩:=hs.open
 have HF:=AD hf
 clear hf
 go_enter Tryz.func93,Tryz.ntmps93
 go_wp2_with fail
 go_loopg [8] xs.length (fun gk xv wr=>∃(i:Nat),gk+i=xs.length∧xv= .int .i64 i∧(∀j,j<i→p (AG xs j)=false)∧wr=w)
 case atStart=>exact ⟨0,rfl,rfl,fun j hj=>by omega,rfl⟩
 case round=>
  obtain ⟨i,hi,rfl,hpre,rfl⟩:=hrel
  have hi':i≤xs.length:=by omega
  have HP:=AD hpre
  clear hpre
  by_cases hlt:i<xs.length
  ·obtain ⟨ba,oa,rfl,hca⟩:=ha i hlt
   have h1:=hca i hlt
   clear ha hca
   have HM:Hid (gk-1+(i+1)=xs.length):=by unfold Hid;omega
   have HG:Hid (gk-1<gk):=by unfold Hid;omega
   clear hi
   go_wp2_with fail
   refine (HF.out (AG xs i)).mono ?_
   rintro e w' ⟨rfl,rfl⟩
   by_cases hp:p (AG xs i)=true
   ·have HX:=AD (GD p xs i hlt hp HP.out)
    rw [hp]
    clear hp
    go_wp2_with fail
    go_ret
    exact ⟨FC HX.out.symm,rfl⟩
   have hp':p (AG xs i)=false:=by simpa using hp
   have HX:Hid (∀j,j<i+1→p (AG xs j)=false):=fun j hj=>by
    by_cases hji:j=i
    ·subst hji;exact hp'
    exact HP.out j (by omega)
   rw [hp']
   clear hp hp'
   go_wp2_with fail
   go_roundg (gk-1)
   case measure=>exact HG.out
   case rel=>exact ⟨i+1,HM.out,by go_num,HX.out,rfl⟩
  have HX:=AD (GC p xs (fun j hj=>HP.out j (by omega)))
  clear ha
  go_wp2_with fail
  go_ret
  exact ⟨FC HX.out.symm,rfl⟩
theorem Au(w:World)(v:Value)(xs:List Int)(hs:Md w v xs)(K:Nat)(Ci:Array Value)(p:Int→Bool)(hk:∀(args:Array Value)(w:World),(callFunc K args).run Tryz.prog w= .ok (.enter K args) w)
 (hf:∀n,Calls Tryz.prog K (#[.int .i64 n]++Ci) w fun e w'=>e= .returned (.bool (p n))∧w=w'):
 Calls Tryz.prog 65 #[v, .func (.func K) #[] Ci] w fun e w'=>e= .returned (.bool (xs.any p))∧w=w':=by
 have HA:=AD (Gz p xs)
 have hb:=IF p xs
 have HF:=AD (GF w v xs hs K Ci p hk hf)
 clear hf hs
 go_enter Tryz.func65,Tryz.ntmps65
 go_wp2_with (go_at_call 93;refine HF.out.mono ?_;rintro e w' ⟨rfl,rfl⟩)
 go_ret
 exact ⟨EP HA.out,rfl⟩
def BJ(l:List Int)(lo hi:Int):Bool:= !l.any fun n=>decide (n<lo)||decide (hi<n)
theorem BZ(l:List Int)(lo hi:Int):BJ l lo hi=true↔∀i,i<l.length→lo≤AG l i∧AG l i≤hi:=by
 unfold BJ
 rw [Bool.not_eq_true',List.any_eq_false]
 constructor
 ·intro h i hi
  have:=h l[i] (List.getElem_mem hi)
  simp only [Bool.or_eq_true,decide_eq_true_eq,not_or] at this
  simp only [AG,List.getD,List.getElem?_eq_getElem hi,Option.getD_some]
  omega
 intro h x hx
 obtain ⟨j,hj,rfl⟩:=List.getElem_of_mem hx
 have:=h j hj
 simp only [AG,List.getD,List.getElem?_eq_getElem hj,Option.getD_some] at this
 simp only [Bool.or_eq_true,decide_eq_true_eq,not_or]
 omega
end Go.Proofs.YtngojkompmcceaaGreatDoor
