/- What the laws DeskFront DeskErrors DeskSet need, part 2. -/
import Derived.Test.YtngojkompmcceaaGreatDoorBaseDZ1
import Derived.Test.YtngojkompmcceaaGreatDoorProg
namespace Go.Proofs.YtngojkompmcceaaGreatDoor
open Go.RowKit
set_option linter.unusedVariables false
set_option maxRecDepth 100000
set_option maxHeartbeats 8000000
def Bi(P:Program)(op:Op)(ty:TypeId)(a:Act)(v:Value):Prop:=
 ∀(d:Option Tmp)(pos:String)(af:Array Edge)(g:Option (Nat×Bool))(w:World),(execOp a.eval ⟨d,op,ty,pos,af,g⟩).run P w= .ok (.value v) w
section
variable{P:Program}{ops:Array Oper}{Q:Exit→Act→World→Prop}{rest:List Oper}{a:Act}{w:World}{d:Option Tmp}{op:Op}{ty:TypeId}{pos:String}{af:Array Edge}{g:Option (Nat×Bool)}
theorem Er(v:Value)(K:Act→World→Prop)(h:K (a.put d v) w):(Oper.mk d (.move (.const v)) ty pos af g).wp P a w K Q:=h
theorem AT(v:Value)(hv:Bi P op ty a v)(hw:Region.wanted ⟨d,op,ty,pos,af,g⟩ (yielded ops a.tmps)=true)(h:(Oper.mk d (.move (.const v)) ty pos af g).wp P a w (wpList P ops Q rest) Q):wpList P ops Q (⟨d,op,ty,pos,af,g⟩::rest) a w:=by
 refine QM hw ?_
 unfold Oper.wp
 rw [hv d pos af g w]
 exact h
theorem N3(b:Bool)(hv:Bi P op ty a (.bool b))(hw:Region.wanted ⟨d,op,ty,pos,af,g⟩ (yielded ops a.tmps)=true)(ht:b=true→(Oper.mk d (.move (.const (.bool true))) ty pos af g).wp P a w (wpList P ops Q rest) Q)
 (hf:b=false→(Oper.mk d (.move (.const (.bool false))) ty pos af g).wp P a w (wpList P ops Q rest) Q):wpList P ops Q (⟨d,op,ty,pos,af,g⟩::rest) a w:=by
 cases b
 ·exact AT _ hv hw (hf rfl)
 exact AT _ hv hw (ht rfl)
theorem BX(p:Prop)[Decidable p](hv:Bi P op ty a (.bool (decide p)))(hw:Region.wanted ⟨d,op,ty,pos,af,g⟩ (yielded ops a.tmps)=true)(ht:p→(Oper.mk d (.move (.const (.bool true))) ty pos af g).wp P a w (wpList P ops Q rest) Q)
 (hf:¬p→(Oper.mk d (.move (.const (.bool false))) ty pos af g).wp P a w (wpList P ops Q rest) Q):wpList P ops Q (⟨d,op,ty,pos,af,g⟩::rest) a w:=
 N3 _ hv hw (fun h=>ht (of_decide_eq_true h)) (fun h=>hf (of_decide_eq_false h))
theorem AB{d:Tmp}{v:Value}(h:(Oper.mk (some d) (.move (.const v)) 0 "" #[] none).wp P a w (wpList P ops Q rest) Q):wpList P ops Q rest (a.put (some d) v) w:=h
theorem AK{md:Region.Mode}{D:List Nat}{S:World→Prop}{fuel:Nat}{listed:Array Bool}{d:Tmp}{v:Value}(h:(Oper.mk (some d) (.move (.const v)) 0 "" #[] none).wp P a w (AI P md ops Q D S fuel listed) Q):AI P md ops Q D S fuel listed (a.put (some d) v) w:=h
theorem Al{c x y:Operand}(hc:a.eval c= .bool true)(hw:Region.wanted ⟨d, .pick c x y,ty,pos,af,g⟩ (yielded ops a.tmps)=true)(h:(Oper.mk d (.move x) ty pos af g).wp P a w (wpList P ops Q rest) Q):wpList P ops Q (⟨d, .pick c x y,ty,pos,af,g⟩::rest) a w:=by
 refine QM hw ?_
 unfold Oper.wp execOp at*
 simp only [hc,asBool,Sem.run_bind,Sem.run_pure,Result.andThen_ok,if_true] at*
 exact h
theorem Af{c x y:Operand}(hc:a.eval c= .bool false)(hw:Region.wanted ⟨d, .pick c x y,ty,pos,af,g⟩ (yielded ops a.tmps)=true)(h:(Oper.mk d (.move y) ty pos af g).wp P a w (wpList P ops Q rest) Q):wpList P ops Q (⟨d, .pick c x y,ty,pos,af,g⟩::rest) a w:=by
 refine QM hw ?_
 unfold Oper.wp execOp at*
 simp only [hc,asBool,Sem.run_bind,Sem.run_pure,Result.andThen_ok,Bool.false_eq_true,if_false] at*
 exact h
end
def Au(z:Int)(j:Nat):Prop:=z=(j:Int)
theorem Au.cast{j:Nat}:Au (j:Int) j:=rfl
theorem Au.add{x y:Int}{i j:Nat}(h:Au x i)(k:Au y j):Au (x+y) (i+j):=by unfold Au at*;omega
theorem Au.mul{x y:Int}{i j:Nat}(h:Au x i)(k:Au y j):Au (x*y) (i*j):=by unfold Au at*;rw [h,k];push_cast;rfl
theorem Au.div{x y:Int}{i j:Nat}(h:Au x i)(k:Au y j):Au (x/y) (i/j):=by unfold Au at*;rw [h,k];push_cast;rfl
theorem Au.mod{x y:Int}{i j:Nat}(h:Au x i)(k:Au y j):Au (x%y) (i%j):=by unfold Au at*;rw [h,k];push_cast;rfl
theorem Au.min{x y:Int}{i j:Nat}(h:Au x i)(k:Au y j):Au (Min.min x y) (Min.min i j):=by unfold Au at*;omega
theorem Au.max{x y:Int}{i j:Nat}(h:Au x i)(k:Au y j):Au (Max.max x y) (Max.max i j):=by unfold Au at*;omega
class Bt(z:Int)(j:outParam Nat):Prop where
 out:Au z j
instance Bt.cast{j:Nat}:Bt (j:Int) j:=⟨rfl⟩
instance Bt.l0:Bt 0 0:=⟨rfl⟩
instance Bt.l1:Bt 1 1:=⟨rfl⟩
instance Bt.l2:Bt 2 2:=⟨rfl⟩
instance Bt.l3:Bt 3 3:=⟨rfl⟩
instance Bt.l4:Bt 4 4:=⟨rfl⟩
instance Bt.l5:Bt 5 5:=⟨rfl⟩
instance Bt.l6:Bt 6 6:=⟨rfl⟩
instance Bt.l7:Bt 7 7:=⟨rfl⟩
instance Bt.l8:Bt 8 8:=⟨rfl⟩
instance Bt.add{x y:Int}{i j:Nat}[h:Bt x i][k:Bt y j]:Bt (x+y) (i+j):=⟨h.out.add k.out⟩
instance Bt.mul{x y:Int}{i j:Nat}[h:Bt x i][k:Bt y j]:Bt (x*y) (i*j):=⟨h.out.mul k.out⟩
theorem Au.auto{z:Int}{j:Nat}[h:Bt z j]:Au z j:=h.out
theorem Au.sub{x y:Int}{i j:Nat}(h:Au x i)(k:Au y j)(l:j≤i):Au (x-y) (i-j):=by unfold Au at*;omega
theorem Au.toNat{x:Int}(h:0≤x):Au x x.toNat:=by unfold Au;omega
section
variable{P:Program}{a:Act}{x y z:Operand}{t u ty:TypeId}{m n:Int}{k:IntKind}
theorem V.as{op:Op}{m':Int}(h:Bi P op ty a (.int k m))(e:m=m'):Bi P op ty a (.int k m'):=e▸ h
theorem V.add(hx:a.eval x= .int k m)(hy:a.eval y= .int k n):Bi P (.binOp .add t x y u) ty a (.int k (k.wrap (m+n))):=fun d pos af g w=>by
 simp only [execOp,hx,hy,binOp_add,Op.intArith,eqGuard];rfl
theorem V.sub(hx:a.eval x= .int k m)(hy:a.eval y= .int k n):Bi P (.binOp .sub t x y u) ty a (.int k (k.wrap (m-n))):=fun d pos af g w=>by
 simp only [execOp,hx,hy,binOp_sub,Op.intArith,eqGuard];rfl
theorem V.mul(hx:a.eval x= .int k m)(hy:a.eval y= .int k n):Bi P (.binOp .mul t x y u) ty a (.int k (k.wrap (m*n))):=fun d pos af g w=>by
 simp only [execOp,hx,hy,binOp_mul,Op.intArith,eqGuard];rfl
theorem V.addI(hx:a.eval x= .int .i64 m)(hy:a.eval y= .int .i64 n)(h: -9223372036854775808≤m+n∧m+n≤9223372036854775807):Bi P (.binOp .add t x y u) ty a (.int .i64 (m+n)):=by
 have:=V.add (P:=P) (t:=t) (u:=u) (ty:=ty) hx hy;rwa [IntWalk.i64_in _ h] at this
theorem V.subR(hk:k≠ .i64)(hx:a.eval x= .int k m)(hy:a.eval y= .int k n):Bi P (.binOp .sub t x y u) ty a (.int k (k.wrap (m-n))):=V.sub hx hy
theorem V.subI(hx:a.eval x= .int .i64 m)(hy:a.eval y= .int .i64 n)(h: -9223372036854775808≤m-n∧m-n≤9223372036854775807):Bi P (.binOp .sub t x y u) ty a (.int .i64 (m-n)):=by
 have:=V.sub (P:=P) (t:=t) (u:=u) (ty:=ty) hx hy;rwa [IntWalk.i64_in _ h] at this
theorem V.mulI(hx:a.eval x= .int .i64 m)(hy:a.eval y= .int .i64 n)(h: -9223372036854775808≤m*n∧m*n≤9223372036854775807):Bi P (.binOp .mul t x y u) ty a (.int .i64 (m*n)):=by
 have:=V.mul (P:=P) (t:=t) (u:=u) (ty:=ty) hx hy;rwa [IntWalk.i64_in _ h] at this
theorem V.neg(hx:a.eval x= .int .i64 n)(h: -9223372036854775807≤n∧n≤9223372036854775807):Bi P (.unOp .neg t x) ty a (.int .i64 (-n)):=fun d pos af g w=>by
 have e:Op.unary .neg (.int .i64 n)=pure (.int .i64 (IntKind.i64.wrap (0-n))):=rfl
 simp only [execOp,hx,e,Int.zero_sub,IntWalk.i64_in (-n) (by omega)];rfl
theorem V.quo(hx:a.eval x= .int .i64 m)(hy:a.eval y= .int .i64 n)(h:0≤m∧m≤9223372036854775807)(h2:0<n):Bi P (.binOp .quo t x y u) ty a (.int .i64 (m/n)):=fun d pos af g w=>by
 have e1:m.tdiv n=m/n:=Int.tdiv_eq_ediv_of_nonneg h.1
 have e2:0≤m/n:=Int.ediv_nonneg h.1 (by omega)
 have e3:m/n≤m:=Int.ediv_le_self n h.1
 have hn:n≠0:=by omega
 simp only [execOp,hx,hy,binOp_quo,Op.intDiv,eqGuard,if_neg hn,e1,IntWalk.i64_in (m/n) (by omega)];rfl
theorem V.rem(hx:a.eval x= .int k m)(hy:a.eval y= .int k n)(h:0≤m)(h2:0<n):Bi P (.binOp .rem t x y u) ty a (.int k (m%n)):=fun d pos af g w=>by
 have hn:n≠0:=by omega
 simp only [execOp,hx,hy,binOp_rem,Op.intDiv,eqGuard,if_neg hn,Int.tmod_eq_emod_of_nonneg h];rfl
theorem V.shl{yk:IntKind}{j:Nat}(hx:a.eval x= .int k m)(hy:a.eval y= .int yk n)(hj:Au n j)(h:j<64)(hk:k.bits=64):Bi P (.binOp .shl t x y u) ty a (.int k (k.wrap (m*2^j))):=fun d pos af g w=>by
 unfold Au at hj
 have h0:¬n<0:=by omega
 have hm:Min.min n.toNat k.bits=j:=by omega
 simp only [execOp,hx,hy,binOp_shl,Op.shift,eqGuard,if_neg h0,hm];rfl
theorem V.shlI{yk:IntKind}{j:Nat}(hx:a.eval x= .int .i64 m)(hy:a.eval y= .int yk n)(hj:Au n j)(h:j<64)(h1: -9223372036854775808≤m*2^j∧m*2^j≤9223372036854775807):Bi P (.binOp .shl t x y u) ty a (.int .i64 (m*2^j)):=by
 have:=V.shl (P:=P) (t:=t) (u:=u) (ty:=ty) hx hy hj h rfl;rwa [IntWalk.i64_in _ h1] at this
theorem V.shl1{yk:IntKind}{j:Nat}(hx:a.eval x= .int .i64 1)(hy:a.eval y= .int yk n)(hj:Au n j)(h:j<63):Bi P (.binOp .shl t x y u) ty a (.int .i64 (2^j)):=by
 have e:(2:Int)^j≤4611686018427387904:=by
  have:=Nat.pow_le_pow_right (n:=2) (by omega) (show j≤62 by omega)
  have h2:(2:Int)^j=((2^j:Nat):Int):=by push_cast;rfl
  omega
 have e0:(0:Int)≤2^j:=Int.pow_nonneg (by omega)
 have:=V.shl (P:=P) (t:=t) (u:=u) (ty:=ty) hx hy hj (by omega) rfl
 rwa [Int.one_mul,IntWalk.i64_in _ (by omega)] at this
theorem V.shr{yk:IntKind}{j:Nat}(hx:a.eval x= .int k m)(hy:a.eval y= .int yk n)(hj:Au n j)(h:j<64)(hk:k.bits=64):Bi P (.binOp .shr t x y u) ty a (.int k (m/2^j)):=fun d pos af g w=>by
 unfold Au at hj
 have e:m.fdiv (2^j)=m/2^j:=Int.fdiv_eq_ediv_of_nonneg _ (Int.pow_nonneg (by omega))
 have h0:¬n<0:=by omega
 have hm:Min.min n.toNat k.bits=j:=by omega
 simp only [execOp,hx,hy,binOp_shr,Op.shift,eqGuard,if_neg h0,hm,e];rfl
theorem V.or(hx:a.eval x= .int k m)(hy:a.eval y= .int k n):Bi P (.binOp .or t x y u) ty a (.int k (bits .or k m n)):=fun d pos af g w=>by
 simp only [execOp,hx,hy,binOp_or,intBits_or,eqGuard];rfl
theorem V.eql(hx:a.eval x= .int k m)(hy:a.eval y= .int k n):Bi P (.binOp .eql t x y u) ty a (.bool (decide (m=n))):=fun d pos af g w=>by
 simp only [execOp,hx,hy,binOp_eql,eqGuard_at_int];rfl
theorem V.neq(hx:a.eval x= .int k m)(hy:a.eval y= .int k n):Bi P (.binOp .neq t x y u) ty a (.bool (decide (m≠n))):=fun d pos af g w=>by
 simp only [execOp,hx,hy,binOp_neq,eqGuard_at_int,ne_eq,decide_not];rfl
theorem V.lss(hx:a.eval x= .int k m)(hy:a.eval y= .int k n):Bi P (.binOp .lss t x y u) ty a (.bool (decide (m<n))):=fun d pos af g w=>by
 simp only [execOp,hx,hy,binOp_lss,eqGuard];rfl
theorem V.leq(hx:a.eval x= .int k m)(hy:a.eval y= .int k n):Bi P (.binOp .leq t x y u) ty a (.bool (decide (m≤n))):=fun d pos af g w=>by
 simp only [execOp,hx,hy,binOp_leq,eqGuard];rfl
theorem V.gtr(hx:a.eval x= .int k m)(hy:a.eval y= .int k n):Bi P (.binOp .gtr t x y u) ty a (.bool (decide (n<m))):=fun d pos af g w=>by
 simp only [execOp,hx,hy,binOp_gtr,eqGuard];rfl
theorem V.geq(hx:a.eval x= .int k m)(hy:a.eval y= .int k n):Bi P (.binOp .geq t x y u) ty a (.bool (decide (n≤m))):=fun d pos af g w=>by
 simp only [execOp,hx,hy,binOp_geq,eqGuard];rfl
theorem V.not{b:Bool}(hx:a.eval x= .bool b):Bi P (.unOp .not t x) ty a (.bool (!b)):=fun d pos af g w=>by
 simp only [execOp,hx,Op.unary];rfl
theorem V.notD{p:Prop}[Decidable p](hx:a.eval x= .bool (decide p)):Bi P (.unOp .not t x) ty a (.bool (decide (¬p))):=by
 rw [decide_not];exact V.not hx
theorem V.eqlB{b c:Bool}(ht:P.underlying t=some .bool)(hx:a.eval x= .bool b)(hy:a.eval y= .bool c):Bi P (.binOp .eql t x y u) ty a (.bool (decide (b=c))):=fun d pos af g w=>by
 have e:=run_eql_bool (P:=P) w t b c ht
 have e2:eqGuard .eql t x y (.bool b) (.bool c)=pure ():=rfl
 simp only [execOp,hx,hy,e2,Sem.run_bind,Sem.run_pure,Result.andThen_ok,e]
 rfl
theorem V.convI{k':IntKind}(hs:(P.underlying t).isSome=true)(hd:P.underlying u=some (.int k'))(hx:a.eval x= .int k m)(h:k'.wrap m=m):Bi P (.convert t u x) ty a (.int k' m):=fun d pos af g w=>by
 have e:P.intKind u=k':=by simp [Program.intKind,hd]
 have e2:=run_convert_int (P:=P) w t u k m hs (by rw [e];exact hd)
 rw [e,h] at e2
 simp only [execOp,hx,Sem.run_bind,e2,Result.andThen_ok,Sem.run_pure]
theorem V.extract{vs:List Value}{i:Nat}{v:Value}(hx:a.eval x= .tuple vs.toArray)(hv:vs[i]? =some v):Bi P (.extract x i) ty a v:=fun d pos af g w=>by
 have e:(vs.toArray)[i]? =some v:=by simpa using hv
 simp only [execOp,hx,Instr.extract,e];rfl
theorem V.nilCheck{p:Addr}(hx:a.eval x= .pointer (some p)):Bi P (.nilCheck x) ty a (.pointer (some p)):=fun d pos af g w=>by
 simp only [execOp,hx];rfl
theorem V.len{ad:Option Addr}{n c:Nat}{e:TypeId}(ht:P.underlying t=some (.slice e))(hx:a.eval x= .slice ad n c):Bi P (.call {callee:= .builtin .len,args:=#[x],argTypes:=#[t]}) ty a (.int .i64 n):=fun d pos af g w=>by
 have e:P.elem t=e:=by simp [Program.elem,ht]
 have e2:=run_len_slice (P:=P) w t ty ad n c (by rw [e];exact ht)
 simp only [execOp,resolve,invoke,builtin,Sem.run_bind,Sem.run_pure,Result.andThen_ok,List.map_toArray,List.map_cons,List.map_nil,hx,e2]
 rfl
theorem V.indexSl{b off n c j s js q:Nat}{e:TypeId}{i:Int}(ht:P.underlying t=some (.slice e))(hs:(P.info? e).map (·.size)=some s)(hx:a.eval x= .slice (some ⟨b,off,none⟩) n c)(hy:a.eval y= .int k i)(hj:Au i j)(hn:j<n)(hjs:j*s=js)(hq:off+js=q):
 Bi P (.indexAddr t x y) ty a (.pointer (some ⟨b,q,none⟩)):=fun d pos af g w=>by
 unfold Au at hj
 subst hjs
 have e0:P.elem t=e:=by simp [Program.elem,ht]
 have e2:=run_indexAt_slice (P:=P) w t ⟨b,off,none⟩ n c k i (by rw [e0];exact ht)
 rw [if_pos (by omega),e0,BS w hs,Result.andThen_ok,Addr.add_mid,show i.toNat=j by omega,hq] at e2
 simp only [execOp,hx,hy,Sem.run_bind,e2,Result.andThen_ok,Sem.run_pure]
theorem V.indexAr{b off n j s js q:Nat}{e:TypeId}{i:Int}(ht:P.underlying t=some (.array n e))(hs:(P.info? e).map (·.size)=some s)(hx:a.eval x= .pointer (some ⟨b,off,none⟩))(hy:a.eval y= .int k i)(hj:Au i j)(hn:j<n)(hjs:j*s=js)(hq:off+js=q):
 Bi P (.indexAddr t x y) ty a (.pointer (some ⟨b,q,none⟩)):=fun d pos af g w=>by
 unfold Au at hj
 subst hjs
 have e0:P.elem t=e:=by simp [Program.elem,ht]
 have e1:P.arrayLen t=n:=by simp [Program.arrayLen,ht]
 have e2:=run_indexAt_array (P:=P) w t ⟨b,off,none⟩ k i (by rw [e0,e1];exact ht)
 rw [e1,if_pos (by omega),e0,BS w hs,Result.andThen_ok,Addr.add_mid,show i.toNat=j by omega,hq] at e2
 simp only [execOp,hx,hy,Sem.run_bind,e2,Result.andThen_ok,Sem.run_pure]
theorem V.indexIv{l:List Int}{n j:Nat}{e:TypeId}{i:Int}(ht:P.underlying t=some (.array n e))(he:P.underlying e=some (.int .i64))(hs:(P.info? e).map (·.size)=some 1)(hx:a.eval x= .agg (iv l))(hy:a.eval y= .int k i)(hl:A4 l n)(hj:Au i j)(hn:j<n):
 Bi P (.index t x y) ty a (.int .i64 (AG l j)):=fun d pos af g w=>by
 unfold Au at hj
 have e0:P.elem t=e:=by simp [Program.elem,ht]
 have e1:P.arrayLen t=n:=by simp [Program.arrayLen,ht]
 have e3:(isAgg e).run P w= .ok false w:=by simp [isAgg,run_underlying he]
 have e2:=G0 (P:=P) w t (iv l) k i (by rw [e0,e1];exact ht)
 rw [e1,if_pos (by omega),e0,BS w hs,Result.andThen_ok,show i.toNat=j by omega,Nat.mul_one,Nl,e3,Result.andThen_ok,IW l j (by rw [hl.out];exact hn)] at e2
 simp only [execOp,hx,hy,Sem.run_bind,e2,Result.andThen_ok,Sem.run_pure,Bool.false_eq_true,if_false]
end
section
variable{P:Program}{ops:Array Oper}{Q:Exit→Act→World→Prop}{rest:List Oper}{a:Act}{W w:World}{rs:List Ak}{d:Option Tmp}{x y:Operand}{t ty:TypeId}{pos:String}{af:Array Edge}{g:Option (Nat×Bool)}{k:IntKind}
theorem Kd{ad:Option Addr}{n c j s:Nat}{cs:List Value}{e:TypeId}{i:Int}(hv:Sl W s (.slice ad n c) n cs)(ht:P.underlying t=some (.slice e))(hs:(P.info? e).map (·.size)=some s)(hx:a.eval x= .slice ad n c)(hy:a.eval y= .int k i)(hj:Au i j)(hn:j<n)
 (hw:Region.wanted ⟨d, .indexAddr t x y,ty,pos,af,g⟩ (yielded ops a.tmps)=true)
 (h:∀b o,W.rangeAt b o ((cs.drop (j*s)).take s)→(Oper.mk d (.move (.const (.pointer (some ⟨b,o,none⟩)))) ty pos af g).wp P a w (wpList P ops Q rest) Q):wpList P ops Q (⟨d, .indexAddr t x y,ty,pos,af,g⟩::rest) a w:=by
 obtain ⟨hl,a',c',e1,_,_,hor⟩:=hv
 cases e1
 rcases hor with h0|⟨b,off,rfl,hc⟩
 ·omega
 refine AT _ (V.indexSl (q:=off+j*s) ht hs hx hy hj hn rfl rfl) hw (h b _ fun m v hv=>?_)
 rw [List.getElem?_take] at hv
 split at hv
 ·rename_i hm
  rw [List.getElem?_drop] at hv
  have hjs:j*s+s≤n*s:=by have:=Nat.mul_le_mul_right s hn;rw [Nat.succ_mul] at this;exact this
  rw [Nat.add_assoc,hc (j*s+m) (by omega),hv]
 cases hv
theorem DR{ad:Option Addr}{n c j:Nat}{l:List Int}{e:TypeId}{i:Int}(hv:Sl W 1 (.slice ad n c) n (l.map (Value.int .i64)))(ht:P.underlying t=some (.slice e))(hs:(P.info? e).map (·.size)=some 1)(hx:a.eval x= .slice ad n c)(hy:a.eval y= .int k i)(hj:Au i j)(hn:j<n)
 (hw:Region.wanted ⟨d, .indexAddr t x y,ty,pos,af,g⟩ (yielded ops a.tmps)=true)
 (h:∀b o,W.cell? ⟨b,o,none⟩=some (.int .i64 (AG l j))→(Oper.mk d (.move (.const (.pointer (some ⟨b,o,none⟩)))) ty pos af g).wp P a w (wpList P ops Q rest) Q):wpList P ops Q (⟨d, .indexAddr t x y,ty,pos,af,g⟩::rest) a w:=
 Kd hv ht hs hx hy hj hn hw fun b o hr=>h b o (by
  have hl:l.length=n:=by have:=hv.1;simpa using this
  have:=hr 0 (.int .i64 (AG l j)) (by simp [AG,List.getD,List.getElem?_drop,hl,hn])
  simpa using this)
end
structure Ag(P:Program)(s:TypeId)(f:Nat)(fo:Nat)(ft:TypeId):Prop where
 ex:∃fs fl,P.underlying s=some (.struct fs)∧fs[f]? =some fl∧fl.offset=fo∧fl.type=ft
 sz:∃n,(P.info? ft).map (·.size)=some n∧n≠0
section
variable{P:Program}{a:Act}{x:Operand}{t ft ty:TypeId}{f fo:Nat}
theorem Ag.mk'(fs:Array Field)(fl:Field)(n:Nat)(h1:P.underlying t=some (.struct fs))(h2:fs[f]? =some fl)(h3:fl.offset=fo)(h4:fl.type=ft)(h5:(P.info? ft).map (·.size)=some n)(h6:n≠0):Ag P t f fo ft:=
 ⟨⟨fs,fl,h1,h2,h3,h4⟩,⟨n,h5,h6⟩⟩
theorem V.fieldAddr{b off q:Nat}(hf:Ag P t f fo ft)(hx:a.eval x= .pointer (some ⟨b,off,none⟩))(hq:off+fo=q):Bi P (.fieldAddr t x f) ty a (.pointer (some ⟨b,q,none⟩)):=fun d pos af g w=>by
 obtain ⟨⟨fs,fl,h1,h2,rfl,rfl⟩,n,h3,h4⟩:=hf
 simp only [execOp,hx,Instr.fieldAt,Instr.sureAddr,Sem.run_bind,run_underlying h1,Result.andThen_ok,h2,fieldPlace,BS w h3,Sem.run_pure]
 rw [if_neg h4]
 simp only [Sem.run_pure,Result.andThen_ok,Addr.add_mid,hq]
end
end Go.Proofs.YtngojkompmcceaaGreatDoor
/- Short words for what the walks say often. -/
namespace Go.Proofs.YtngojkompmcceaaGreatDoor
open Go.RowKit
set_option linter.unusedVariables false
set_option maxRecDepth 100000
set_option maxHeartbeats 8000000
theorem AQ{r:Ak}{rs rs':List Ak}(h:AL r rs rs':=by (repeat (first|with_reducible exact AL.head|apply AL.tail))):AL r rs rs':=h
theorem Ad{xs rs:List Ak}(h:Kf xs rs:=by (repeat (first|exact Kf.nil|with_reducible exact Kf.refl|(apply Kf.cons;(case p=>(repeat (first|with_reducible exact AL.head|apply AL.tail))))|apply Kf.skip))):Kf xs rs:=h
theorem BY{z:Int}{j:Nat}(h:Au z j:=by (repeat (first|exact Au.auto|with_reducible apply Au.add|with_reducible apply Au.sub|with_reducible apply Au.mul|with_reducible apply Au.div|with_reducible apply Au.mod|with_reducible apply Au.min|with_reducible apply Au.max|(with_reducible show (_:Nat)≤_;omega)|exact Au.toNat (by omega)))):Au z j:=h
theorem D0{x v:Value}(h:C8 x v:=by (first|exact C8.int rfl|exact C8.bool rfl|exact C8.slice rfl|exact C8.pointer rfl|exact C8.string rfl|exact C8.map rfl|exact C8.func rfl)):C8 x v:=h
theorem DC{o:Oper}{i:Nat}{l:List Oper}(h:D7 o i l:=by (repeat (first|with_reducible exact D7.head|apply D7.tail))):D7 o i l:=h
theorem SK{p:Prop}(h:p:=by exact fun _ _ _ _ h=>h):p:=h
theorem E6{p:Prop}(h:p:=by first|exact fun _ _ _ _ h=>h|exact fun _ _ _ _ h=>nomatch h.1):p:=h
theorem AU{p:Prop}(h:False:=by omega):p:=h.elim
theorem O3{p q:Prop}(h:p)(hn:¬p:=by decide):q:=absurd h hn
theorem AA{α:Type _}{a b:α}(h:a=b:=by kernel_rfl):a=b:=h
theorem Bj{a b:Nat}(h:a=b:=by first|with_reducible exact Nat.zero_add _|with_reducible exact Nat.add_zero _|exact rfl):a=b:=h
theorem SL{v:Value}{k:Nat}{cs cs':List Value}(h:CZ v k cs cs':=by (repeat (first|with_reducible exact CZ.head|apply CZ.tail))):CZ v k cs cs':=h
theorem Gi{l:List Int}{n:Nat}(h:A4 l n:=by first|(with_reducible assumption)|exact A4.rep|exact A4.set (by with_reducible assumption)|exact A4.set A4.rep|exact A4.set (A4.set A4.rep)):A4 l n:=h
structure A8(p:Prop):Prop where
 out:p
structure Rw(c e p q:Prop):Prop where
 t:c→p
 f:e→q
structure Mg(T q:Nat→World→Prop):Prop where
 out:∀g w,T g w→q g w
structure Mi(T q:World→Prop):Prop where
 out:∀w,T w→q w
structure Rx(T q:Option Addr→Nat→World→Prop):Prop where
 out:∀a c w,T a c w→q a c w
structure Rt(p:Prop):Prop where
structure Rv(n:Nat)(p:Prop):Prop where
structure Ru(n:Nat)(p:Prop):Prop where
def CI(_:Nat)(p:Prop):Prop:=p
section
variable{P:Program}{ops:Array Oper}{Q:Exit→Act→World→Prop}{rest:List Oper}{a:Act}{w:World}{d:Option Tmp}{op:Op}{ty:TypeId}{pos:String}{af:Array Edge}{g:Option (Nat×Bool)}{x:Operand}
theorem Ap(d:Option Tmp)(op:Op)(h:wpList P ops Q (⟨d,op,ty,pos,af,g⟩::rest) a w):wpList P ops Q (⟨d,op,ty,pos,af,g⟩::rest) a w:=h
theorem Gj(h:wpList P ops Q (⟨d, .move x,ty,pos,af,g⟩::rest) a w):wpList P ops Q (⟨d, .move x,ty,pos,af,g⟩::rest) a w:=h
theorem SP(h:(Oper.mk d op ty pos af none).wp P a w (wpList P ops Q rest) Q):wpList P ops Q (⟨d,op,ty,pos,af,none⟩::rest) a w:=QM rfl h
theorem MT(h:wpList P ops Q (⟨d, .assign x,ty,pos,af,g⟩::rest) a w):wpList P ops Q (⟨d, .assign x,ty,pos,af,g⟩::rest) a w:=h
theorem At{o:Oper}(h:o.wp P a w (wpList P ops Q rest) Q)(hw:Region.wanted o (yielded ops a.tmps)=true:=by kernel_rfl):wpList P ops Q (o::rest) a w:=QM hw h
theorem SJ(n:Nat)(h:wpList P ops Q (⟨some n,op,ty,pos,af,g⟩::rest) a w):wpList P ops Q (⟨some n,op,ty,pos,af,g⟩::rest) a w:=h
theorem CO{n:Nat}(h:wpList P ops Q (⟨some n,op,ty,pos,af,g⟩::rest) a w):CI n (wpList P ops Q (⟨some n,op,ty,pos,af,g⟩::rest) a w):=h
theorem SI{o:Oper}:Rt (wpList P ops Q (o::rest) a w):=⟨⟩
theorem SH{n:Nat}:Rv n (wpList P ops Q (⟨some n,op,ty,pos,af,g⟩::rest) a w):=⟨⟩
theorem SG{n:Nat}{xs:Array Operand}{ts:Array TypeId}:Ru n (wpList P ops Q (⟨d, .call ⟨.value (.func n),xs,ts⟩,ty,pos,af,g⟩::rest) a w):=⟨⟩
theorem AR{v:Value}(hw:Region.wanted ⟨d,op,ty,pos,af,g⟩ (yielded ops a.tmps)=true)(hv:Bi P op ty a v)(h:(Oper.mk d (.move (.const v)) ty pos af g).wp P a w (wpList P ops Q rest) Q):wpList P ops Q (⟨d,op,ty,pos,af,g⟩::rest) a w:=AT v hv hw h
theorem A2{v:Value}{d:Tmp}(h:(Oper.mk (some d) (.move (.const v)) 0 "" #[] none).wp P a w (wpList P ops Q rest) Q):∃v',Ending.returned v= .returned v'∧wpList P ops Q rest (a.put (some d) v') w:=⟨v,rfl,h⟩
theorem C9{W:World}{rs:List Ak}{v:Value}{d:Tmp}(hS:St W w rs)(h:∀w,St W w rs→(Oper.mk (some d) (.move (.const v)) 0 "" #[] none).wp P a w (wpList P ops Q rest) Q):∀e w',(e=Ending.returned v∧AP w w')→∃v',e= .returned v'∧wpList P ops Q rest (a.put (some d) v') w':=fun _ w' h2=>⟨v,h2.1,h w' (hS.ext h2.2)⟩
theorem As{f:FuncId}{xs:List Operand}{ts:Array TypeId}{R:Ending→World→Prop}(hw:Region.wanted ⟨d, .call ⟨.value (.func f),xs.toArray,ts⟩,ty,pos,af,g⟩ (yielded ops a.tmps)=true)(hcall:∀(args:Array Value)(w:World),(callFunc f args).run P w= .ok (.enter f args) w)(hc:Calls P f (xs.map a.eval).toArray w R)
 (h:∀e w',R e w'→∃v,e= .returned v∧wpList P ops Q rest (a.put d v) w'):wpList P ops Q (⟨d, .call ⟨.value (.func f),xs.toArray,ts⟩,ty,pos,af,g⟩::rest) a w:=Ac hcall hw ⟨R,hc,h⟩
end
theorem AF{p:Prop}(k:p)(_:Rt p:=by (fail_if_success with_reducible exact SI);exact ⟨⟩):p:=k
theorem AH(n:Nat){p:Prop}(k:p)(_:Rv n p:=by with_reducible exact SH):p:=k
theorem Ar(n:Nat){p:Prop}(k:p)(_:Ru n p:=by with_reducible exact SG):p:=k
section
variable{p q:Prop}
theorem X0(k:q)(h:A8 q→p:=by intro zq9;(first|(with_reducible refine Gj ?_)|(with_reducible refine MT ?_));((first|go_big_want|go_step));go_step;go_step;with_reducible exact zq9.out):p:=h ⟨k⟩
theorem X1(k:q)(h:A8 q→p:=by intro zq9;(with_reducible refine Gj ?_);((first|go_big_want|go_step));go_step;go_step;with_reducible exact zq9.out):p:=h ⟨k⟩
theorem X2(k:q)(h:A8 q→p:=by intro zq9;(with_reducible refine Ap _ (.binOp .lss _ _ _ _) ?_);(refine AR AA (V.lss rfl rfl) ?_);go_step;with_reducible exact zq9.out):p:=h ⟨k⟩
theorem X3(n:Nat)(k:q)(h:A8 q→CI n p:=by intro zq9;(with_reducible refine CO ?_);(refine AR AA (V.lss rfl rfl) ?_);go_step;with_reducible exact zq9.out):p:=h ⟨k⟩
theorem X4(k:q)(h:A8 q→p:=by intro zq9;(with_reducible refine Ap _ (.binOp .add _ _ _ _) ?_);(refine AR AA (V.addI rfl rfl (by omega)) ?_);go_step;with_reducible exact zq9.out):p:=h ⟨k⟩
theorem X5(n:Nat)(k:q)(h:A8 q→CI n p:=by intro zq9;(with_reducible refine CO ?_);(refine AR AA (V.extract rfl rfl) ?_);go_step;with_reducible exact zq9.out):p:=h ⟨k⟩
theorem X6(n:Nat){c e r:Prop}(k:c→q)(k2:e→r)(h:Rw c e q r→CI n p:=by intro zq9;(with_reducible refine CO ?_);refine BX _ (V.lss rfl rfl) AA zq9.t zq9.f):p:=h ⟨k,k2⟩
theorem X7(k:q)(h:A8 q→p:=by intro zq9;(with_reducible refine Ap _ (.pick _ _ _) ?_);(refine Al rfl AA ?_);go_step;with_reducible exact zq9.out):p:=h ⟨k⟩
theorem X8(k:q)(h:A8 q→p:=by intro zq9;(with_reducible refine MT ?_);((first|go_big_want|go_step));go_step;go_step;with_reducible exact zq9.out):p:=h ⟨k⟩
theorem X9(k:q)(h:A8 q→p:=by intro zq9;(with_reducible refine Ap _ (.extract _ _) ?_);(refine AR AA (V.extract rfl rfl) ?_);go_step;with_reducible exact zq9.out):p:=h ⟨k⟩
theorem Gg(k:q)(h:A8 q→p:=by intro zq9;(with_reducible refine Ap _ (.binOp .gtr _ _ _ _) ?_);(refine AR AA (V.gtr rfl rfl) ?_);go_step;with_reducible exact zq9.out):p:=h ⟨k⟩
theorem Jo(k:q)(h:A8 q→p:=by intro zq9;(with_reducible refine Ap _ (.pick _ _ _) ?_);(refine Af rfl AA ?_);go_step;with_reducible exact zq9.out):p:=h ⟨k⟩
theorem Ki(n:Nat)(k:q)(h:A8 q→CI n p:=by intro zq9;(with_reducible refine CO ?_);(refine AR AA (V.eql rfl rfl) ?_);go_step;with_reducible exact zq9.out):p:=h ⟨k⟩
theorem K9(k:q)(h:A8 q→p:=by intro zq9;(with_reducible refine Ap _ (.binOp .eql 3 _ _ _) ?_);(refine AR AA (V.eql rfl rfl) ?_);go_step;with_reducible exact zq9.out):p:=h ⟨k⟩
theorem LA(k:q)(h:A8 q→p:=by intro zq9;(with_reducible refine Ap _ (.binOp .neq 23 _ _ _) ?_);(refine AR AA (V.neq rfl rfl) ?_);go_step;with_reducible exact zq9.out):p:=h ⟨k⟩
theorem LB(n:Nat)(k:q)(h:A8 q→CI n p:=by intro zq9;(with_reducible refine CO ?_);(refine AR AA (V.gtr rfl rfl) ?_);go_step;with_reducible exact zq9.out):p:=h ⟨k⟩
theorem LC(n:Nat)(k:q)(h:A8 q→CI n p:=by intro zq9;(with_reducible refine CO ?_);(refine AR AA (V.indexSl Tryz.underlying22 Gy rfl rfl BY (by omega) (Nat.mul_one _) Bj) ?_);go_step;with_reducible exact zq9.out):p:=h ⟨k⟩
theorem LD(n:Nat)(k:q)(h:A8 q→CI n p:=by intro zq9;(with_reducible refine CO ?_);(refine AR AA (V.len Tryz.underlying46 rfl) ?_);go_step;with_reducible exact zq9.out):p:=h ⟨k⟩
theorem MR(n:Nat){T q:Nat→World→Prop}(k:∀g w,T g w→q g w)(h:Mg T q→CI n p:=by intro zq9;(with_reducible refine CO ?_);(refine At ?_;apply MG (o:=⟨some _,_,_,_,_,_⟩) hS 33 rfl (List.replicate 64 0) 64 List.length_replicate Rr);intro g w9 h9;refine AB ?_;go_step;with_reducible exact zq9.out g w9 h9):p:=h ⟨k⟩
theorem MS(n:Nat)(k:q)(h:A8 q→CI n p:=by intro zq9;(with_reducible refine CO ?_);(refine AR AA (V.build (vs:=[(0, .int .i64 _),(1, .func _ _ _)]) rfl (Pi _ _ _ _)) ?_);go_step;with_reducible exact zq9.out):p:=h ⟨k⟩
theorem Mj(n:Nat){T q:Nat→World→Prop}(k:∀g w,T g w→q g w)(h:Mg T q→CI n p:=by intro zq9;(with_reducible refine CO ?_);(refine At ?_;apply K6 (o:=⟨some _,_,_,_,_,_⟩) hS 85 _ rfl _ rfl);intro g w9 h9;refine AB ?_;go_step;with_reducible exact zq9.out g w9 h9):p:=h ⟨k⟩
theorem Ml{T q:World→Prop}(k:∀w,T w→q w)(h:Mi T q→p:=by intro zq9;(with_reducible refine Ap _ (.store 33 _ _) ?_);(refine At ?_;apply IB hS 33 _ _ rfl _ rfl 64 (Aj rfl) _ _;(case hp=>exact AQ);(case hy=>rfl);(case hm=>(repeat (first|assumption|exact A4.rep|apply A4.set|((with_reducible show A4 (_::_) _);exact rfl))));(case hd=>exact rfl));intro w9 h9;with_reducible exact zq9.out w9 h9):p:=h ⟨k⟩
theorem Mm(k:q)(h:A8 q→p:=by intro zq9;(with_reducible refine Ap _ (.load 9 _) ?_);(refine At ?_;apply Gd hS 9 _ rfl _ rfl (Ai rfl) _;(case hc=>with_reducible assumption);refine AB ?_);go_step;with_reducible exact zq9.out):p:=h ⟨k⟩
theorem Mn(n:Nat)(k:q)(h:A8 q→CI n p:=by intro zq9;(with_reducible refine CO ?_);(refine AR AA (V.len Tryz.underlying22 rfl) ?_);go_step;with_reducible exact zq9.out):p:=h ⟨k⟩
theorem OF(k:q)(h:A8 q→p:=by intro zq9;(with_reducible refine Ap _ (.load 3 _) ?_);(refine At ?_;apply Gd hS 3 _ rfl _ rfl (Ai rfl) _;(case hc=>with_reducible assumption);refine AB ?_);go_step;with_reducible exact zq9.out):p:=h ⟨k⟩
theorem OG(k:q)(h:A8 q→p:=by intro zq9;(with_reducible refine Ap _ (.load 33 _) ?_);(refine At ?_;apply N2 hS 33 _ rfl _ rfl 64 (Aj rfl) _;(case hp=>exact AQ);refine AB ?_);go_step;with_reducible exact zq9.out):p:=h ⟨k⟩
theorem OH(k:q)(h:A8 q→p:=by intro zq9;(with_reducible refine Ap _ (.load 85 _) ?_);(refine At ?_;apply MJ hS 85 _ rfl _ _ rfl 17 (Aj rfl) _;(case hp=>exact AQ);(case hi=>(repeat (first|(apply Mb.head;(repeat (first|exact FF.nil|(apply FF.ints;(case hn=>exact Gi);(case h=>omega);(case hm=>rfl))|apply FF.val)))|(apply Mb.skipI;(case hn=>exact Gi);(case h=>omega);(case ho=>rfl))|apply Mb.skipV)));refine AB ?_);go_step;with_reducible exact zq9.out):p:=h ⟨k⟩
theorem OI(n:Nat)(k:q)(h:A8 q→CI n p:=by intro zq9;(with_reducible refine CO ?_);(refine AR AA (V.neq rfl rfl) ?_);go_step;with_reducible exact zq9.out):p:=h ⟨k⟩
theorem OV(n:Nat){T q:Nat→World→Prop}(k:∀g w,T g w→q g w)(h:Mg T q→CI n p:=by intro zq9;(with_reducible refine CO ?_);(refine At ?_;apply PJ (o:=⟨some _,_,_,_,_,_⟩) hS 33 _ rfl _ 64 rfl;(case hn=>assumption));intro g w9 h9;refine AB ?_;go_step;with_reducible exact zq9.out g w9 h9):p:=h ⟨k⟩
theorem OW(n:Nat){T q:Nat→World→Prop}(k:∀g w,T g w→q g w)(h:Mg T q→CI n p:=by intro zq9;(with_reducible refine CO ?_);(refine At ?_;apply Ae (o:=⟨some _,_,_,_,_,_⟩) hS 22 1 _ rfl 9 1 16 EG _ _;(case hvs=>(repeat (first|exact AV.nil|(apply AV.agg;(rfl);(rfl))|(apply AV.one;exact D0;(rfl);(rfl)))));(case hn=>rfl);(case hn0=>decide);(case hns=>decide));intro g w9 h9;refine AB ?_;go_step;with_reducible exact zq9.out g w9 h9):p:=h ⟨k⟩
theorem OX(k:q)(h:A8 q→p:=by intro zq9;(with_reducible refine Ap _ (.call ⟨.builtin .len,_,_⟩) ?_);(refine AR AA (V.len Tryz.underlying22 rfl) ?_);go_step;with_reducible exact zq9.out):p:=h ⟨k⟩
theorem Pf(n:Nat)(k:q)(h:A8 q→CI n p:=by intro zq9;(with_reducible refine CO ?_);(refine AR AA (V.lenS Tryz.underlying9 rfl) ?_);go_step;with_reducible exact zq9.out):p:=h ⟨k⟩
theorem Pg(n:Nat)(k:q)(h:A8 q→CI n p:=by intro zq9;(with_reducible refine CO ?_);(refine AR AA (V.leq rfl rfl) ?_);go_step;with_reducible exact zq9.out):p:=h ⟨k⟩
theorem P9(n:Nat){c e r:Prop}(k:c→q)(k2:e→r)(h:Rw c e q r→CI n p:=by intro zq9;(with_reducible refine CO ?_);refine N3 _ (V.not rfl) AA zq9.t zq9.f):p:=h ⟨k,k2⟩
theorem QA(n:Nat)(k:q)(h:A8 q→CI n p:=by intro zq9;(with_reducible refine CO ?_);(refine DR (by with_reducible assumption) Tryz.underlying46 Bg rfl rfl BY (by omega) AA ?_);with_reducible exact zq9.out):p:=h ⟨k⟩
theorem QB(k:q)(h:A8 q→p:=by intro zq9;(with_reducible refine Ap _ (.binOp .sub _ _ _ _) ?_);(refine AR AA (V.subI rfl rfl (by omega)) ?_);go_step;with_reducible exact zq9.out):p:=h ⟨k⟩
theorem QC(k:q)(h:A8 q→p:=by intro zq9;(with_reducible refine Ap _ (.nilCheck _) ?_);(refine AR AA (V.nilCheck rfl) ?_);go_step;with_reducible exact zq9.out):p:=h ⟨k⟩
theorem QD(k:q)(h:A8 q→p:=by intro zq9;(with_reducible refine Ap _ (.pick _ _ _) ?_);(first|(refine Al rfl AA ?_)|(refine Af rfl AA ?_));go_step;with_reducible exact zq9.out):p:=h ⟨k⟩
theorem QE(k:q)(h:A8 q→p:=by intro zq9;(with_reducible refine Ap _ (.slice 33 _ _ _ _) ?_);(refine AR AA (V.sliceA Tryz.underlying33 Bg rfl (by (first|exact Lo.none|exact Lo.some rfl BY)) (by (first|exact Up.none|exact Up.some rfl BY)) (by omega) (by omega) (by omega) rfl rfl rfl) ?_);go_step;with_reducible exact zq9.out):p:=h ⟨k⟩
theorem QF(n:Nat)(k:q)(h:A8 q→CI n p:=by intro zq9;(with_reducible refine CO ?_);(refine AT (.int .i64 ((y:Nat):Int)) (V.as (V.indexIv Tryz.underlying83 Tryz.underlying3 Bg rfl rfl hC Au.cast (by omega)) HX.out) AA ?_);go_step;with_reducible exact zq9.out):p:=h ⟨k⟩
theorem QG(n:Nat)(k:q)(h:A8 q→CI n p:=by intro zq9;(with_reducible refine CO ?_);(refine AR AA (V.convI (by rw [Tryz.underlying106];rfl) Tryz.underlying3 rfl (IntWalk.i64_in _ (by omega))) ?_);go_step;with_reducible exact zq9.out):p:=h ⟨k⟩
theorem QH(n:Nat)(k:q)(h:A8 q→CI n p:=by intro zq9;(with_reducible refine CO ?_);(refine AR AA (V.convI (by rw [Tryz.underlying3];rfl) Tryz.underlying106 rfl (IntWalk.u64_in _ (by omega))) ?_);go_step;with_reducible exact zq9.out):p:=h ⟨k⟩
theorem QP(n:Nat){T q:Nat→World→Prop}(k:∀g w,T g w→q g w)(h:Mg T q→CI n p:=by intro zq9;(with_reducible refine CO ?_);(refine At ?_;apply MH (o:=⟨some _,_,_,_,_,_⟩) hS 85 rfl _ Rs);intro g w9 h9;refine AB ?_;go_step;with_reducible exact zq9.out g w9 h9):p:=h ⟨k⟩
theorem QQ(n:Nat)(k:q)(h:A8 q→CI n p:=by intro zq9;(with_reducible refine CO ?_);(refine AT (.int _ (((k+1:Nat):Int))) (V.as (V.addI rfl rfl (by omega)) (by omega)) (by kernel_rfl) ?_);go_step;with_reducible exact zq9.out):p:=h ⟨k⟩
theorem QR(n:Nat)(k:q)(h:A8 q→CI n p:=by intro zq9;(with_reducible refine CO ?_);(refine AR AA (V.addI rfl rfl (by omega)) ?_);go_step;with_reducible exact zq9.out):p:=h ⟨k⟩
theorem Qw(n:Nat){T q:Nat→World→Prop}(k:∀g w,T g w→q g w)(h:Mg T q→CI n p:=by intro zq9;(with_reducible refine CO ?_);(refine At ?_;apply Ae (o:=⟨some _,_,_,_,_,_⟩) hS 46 1 _ rfl 3 1 8 M9 _ _;(case hvs=>(repeat (first|exact AV.nil|(apply AV.agg;(rfl);(rfl))|(apply AV.one;exact D0;(rfl);(rfl)))));(case hn=>rfl);(case hn0=>decide);(case hns=>decide));intro g w9 h9;refine AB ?_;go_step;with_reducible exact zq9.out g w9 h9):p:=h ⟨k⟩
theorem Qx{T q:World→Prop}(k:∀w,T w→q w)(h:Mi T q→p:=by intro zq9;(with_reducible refine Ap _ (.store 85 _ _) ?_);(refine At ?_;apply Kb hS 85 _ _ rfl _ rfl 17 (Aj rfl) _ _;(case hp=>exact AQ);(case hy=>rfl);(case hn=>(repeat (first|exact FF.nil|(apply FF.ints;(case hn=>exact Gi);(case h=>omega);(case hm=>rfl))|apply FF.val)));(case hn'=>(repeat (first|exact FF.nil|(apply FF.ints;(case hn=>exact Gi);(case h=>omega);(case hm=>rfl))|apply FF.val)));(case hv=>rfl);(case hd=>exact rfl));intro w9 h9;with_reducible exact zq9.out w9 h9):p:=h ⟨k⟩
theorem Qy(n:Nat){T q:Option Addr→Nat→World→Prop}(k:∀a c w,T a c w→q a c w)(h:Rx T q→CI n p:=by intro zq9;(with_reducible refine CO ?_);(refine At ?_;apply AY (o:=⟨some _,_,_,_,_,_⟩) hS _ _ 46 rfl 3 1 8 M9 _ _ _ _ rfl;(case hp=>exact AQ);(case hx=>exact rfl);(case hm=>(first|exact hS.slBlk AQ (by rfl) (by decide)|exact hS.sl AQ|with_reducible assumption|exact Sl.ext (by with_reducible assumption) hS.1|exact Sl.nil _ _|exact Sl.ext (by assumption) hS.1|assumption));(case h1=>(first|exact BJ rfl|exact GF _ _|(intro u hu;cases hu)));(case h63=>unfold maxLen;omega);(case hb=>omega));intro a9 c9 w9 h9;(first|simp only [B4] at h9|simp only [B5] at h9|simp only [B6] at h9|simp only [B7] at h9|simp only [B8] at h9|skip);refine AB ?_;go_step;with_reducible exact zq9.out a9 c9 w9 h9):p:=h ⟨k⟩
theorem Qz(k:q)(h:A8 q→p:=by intro zq9;(with_reducible refine Ap _ (.binOp .leq _ _ _ _) ?_);(refine AR AA (V.leq rfl rfl) ?_);go_step;with_reducible exact zq9.out):p:=h ⟨k⟩
theorem Q1(k:q)(h:A8 q→p:=by intro zq9;(with_reducible refine Ap _ (.binOp .neq 3 _ _ _) ?_);(refine AR AA (V.neq rfl rfl) ?_);go_step;with_reducible exact zq9.out):p:=h ⟨k⟩
theorem Q3(k:q)(h:A8 q→p:=by intro zq9;(with_reducible refine Ap _ (.call ⟨.builtin .len,_,_⟩) ?_);(refine AR AA (V.len Tryz.underlying46 rfl) ?_);go_step;with_reducible exact zq9.out):p:=h ⟨k⟩
theorem Q4(k:q)(h:A8 q→p:=by intro zq9;(with_reducible refine Ap _ (.fieldAddr 35 _ 0) ?_);(refine AR AA (V.fieldAddr Fw rfl Bj) ?_);go_step;with_reducible exact zq9.out):p:=h ⟨k⟩
theorem Q5(k:q)(h:A8 q→p:=by intro zq9;(with_reducible refine Ap _ (.fieldAddr 85 _ 0) ?_);(refine AR AA (V.fieldAddr J2 rfl Bj) ?_);go_step;with_reducible exact zq9.out):p:=h ⟨k⟩
theorem Q6(k:q)(h:A8 q→p:=by intro zq9;(with_reducible refine Ap _ (.load 3 _) ?_);(refine At ?_;apply Bz hS 3 _ rfl _ _ rfl (Ai rfl) _;(case hp=>exact AQ);(case hc=>rfl);refine AB ?_);go_step;with_reducible exact zq9.out):p:=h ⟨k⟩
theorem Q7(k:q)(h:A8 q→p:=by intro zq9;(with_reducible refine Ap _ (.load 46 _) ?_);(refine At ?_;apply ML hS 46 _ rfl _ _ rfl (Ai rfl) _;(case hp=>exact AQ);(case hi=>(repeat (first|exact Mc.head|(apply Mc.skipI;(case hn=>exact Gi);(case h=>omega);(case ho=>rfl))|apply Mc.skipV)));refine AB ?_);go_step;with_reducible exact zq9.out):p:=h ⟨k⟩
theorem Q8(k:q)(h:A8 q→p:=by intro zq9;(with_reducible refine Ap _ (.load 83 _) ?_);(refine At ?_;apply FD hS 83 _ rfl _ _ rfl 16 (Aj rfl) _;(case hp=>exact AQ);(case hi=>(repeat (first|(apply Iu.head;exact Gi)|(apply Iu.skipI;(case hn=>exact Gi);(case h=>omega);(case ho=>rfl))|apply Iu.skipV)));refine AB ?_);go_step;with_reducible exact zq9.out):p:=h ⟨k⟩
theorem Q9(n:Nat)(k:q)(h:A8 q→CI n p:=by intro zq9;(with_reducible refine CO ?_);(refine AT (.int _ (((en:Nat):Int))) (V.as (V.subI rfl rfl (by omega)) (by omega)) (by kernel_rfl) ?_);go_step;with_reducible exact zq9.out):p:=h ⟨k⟩
theorem RA(n:Nat)(k:q)(h:A8 q→CI n p:=by intro zq9;(with_reducible refine CO ?_);(refine AT (.int _ (((h+1:Nat):Int))) (V.as (V.addI rfl rfl (by omega)) (by omega)) (by kernel_rfl) ?_);go_step;with_reducible exact zq9.out):p:=h ⟨k⟩
theorem RB(n:Nat)(k:q)(h:A8 q→CI n p:=by intro zq9;(with_reducible refine CO ?_);(refine AT (.int _ (((h:Nat):Int))) (V.as (V.shr rfl rfl BY (by omega) rfl) (by omega)) (by kernel_rfl) ?_);go_step;with_reducible exact zq9.out):p:=h ⟨k⟩
theorem RC(n:Nat)(k:q)(h:A8 q→CI n p:=by intro zq9;(with_reducible refine CO ?_);(refine AT (.int _ (((q+1:Nat):Int))) (V.as (V.addI rfl rfl (by omega)) (by omega)) (by kernel_rfl) ?_);go_step;with_reducible exact zq9.out):p:=h ⟨k⟩
theorem RD(n:Nat)(k:q)(h:A8 q→CI n p:=by intro zq9;(with_reducible refine CO ?_);(refine AT (.int _ (((t:Nat):Int))) (V.as (V.mulI rfl rfl (by omega)) (by omega)) (by kernel_rfl) ?_);go_step;with_reducible exact zq9.out):p:=h ⟨k⟩
theorem RE(n:Nat)(k:q)(h:A8 q→CI n p:=by intro zq9;(with_reducible refine CO ?_);(refine AR AA (V.indexSl Tryz.underlying46 Bg rfl rfl (show Au 0 0 from rfl) (by omega) (show 0*1=0 from rfl) Bj) ?_);go_step;with_reducible exact zq9.out):p:=h ⟨k⟩
theorem RF(n:Nat)(k:q)(h:A8 q→CI n p:=by intro zq9;(with_reducible refine CO ?_);(refine AR AA (V.indexSl Tryz.underlying46 Bg rfl rfl BY (by omega) (Nat.mul_one _) Bj) ?_);go_step;with_reducible exact zq9.out):p:=h ⟨k⟩
theorem RG(n:Nat)(k:q)(h:A8 q→CI n p:=by intro zq9;(with_reducible refine CO ?_);(refine AR AA (V.len Tryz.underlying110 rfl) ?_);go_step;with_reducible exact zq9.out):p:=h ⟨k⟩
theorem RM(n:Nat){T q:Nat→World→Prop}(k:∀g w,T g w→q g w)(h:Mg T q→CI n p:=by intro zq9;(with_reducible refine CO ?_);(refine At ?_;apply Cf (o:=⟨some _,_,_,_,_,_⟩) hS 140 rfl (.agg #[.int .i64 0, .int .i64 0, .int .i64 0, .int .i64 0, .int .i64 0, .int .i64 0, .int .i64 0, .int .i64 0, .int .i64 0]) [.int .i64 0, .int .i64 0, .int .i64 0, .int .i64 0, .int .i64 0, .int .i64 0, .int .i64 0, .int .i64 0, .int .i64 0] (fun w=>Tryz.zeroValue140 w) rfl);intro g w9 h9;refine AB ?_;go_step;with_reducible exact zq9.out g w9 h9):p:=h ⟨k⟩
theorem RN(n:Nat){T q:Nat→World→Prop}(k:∀g w,T g w→q g w)(h:Mg T q→CI n p:=by intro zq9;(with_reducible refine CO ?_);(refine At ?_;apply Ae (o:=⟨some _,_,_,_,_,_⟩) hS 22 4 _ rfl 9 1 16 EG _ _;(case hvs=>(repeat (first|exact AV.nil|(apply AV.agg;(rfl);(rfl))|(apply AV.one;exact D0;(rfl);(rfl)))));(case hn=>rfl);(case hn0=>decide);(case hns=>decide));intro g w9 h9;refine AB ?_;go_step;with_reducible exact zq9.out g w9 h9):p:=h ⟨k⟩
theorem RO{T q:World→Prop}(k:∀w,T w→q w)(h:Mi T q→p:=by intro zq9;(with_reducible refine Ap _ (.mapUpdate 115 _ _ _) ?_);(refine At ?_;apply Et (enc:=ik) hS 115 _ _ _ rfl _ rfl _ rfl Tryz.underlying115 (BD Tryz.underlying3) _;(case hp=>exact AQ);(case hv=>(first|exact C8.int rfl|exact C8.bool rfl|exact C8.slice rfl|exact C8.pointer rfl|exact C8.string rfl|exact C8.map rfl|exact C8.func rfl|exact C8.agg rfl));(case hd=>exact rfl));intro w9 h9;with_reducible exact zq9.out w9 h9):p:=h ⟨k⟩
theorem RP{T q:World→Prop}(k:∀w,T w→q w)(h:Mi T q→p:=by intro zq9;(with_reducible refine Ap _ (.store 140 _ _) ?_);(refine At ?_;apply CW hS 140 _ _ rfl _ rfl 9 (Aj rfl) _ _;(case hp=>exact AQ);(case hy=>rfl);(case hn=>rfl);(case hn'=>rfl);(case hv=>rfl);(case hd=>exact rfl));intro w9 h9;with_reducible exact zq9.out w9 h9):p:=h ⟨k⟩
theorem RQ(n:Nat){T q:Nat→World→Prop}(k:∀g w,T g w→q g w)(h:Mg T q→CI n p:=by intro zq9;(with_reducible refine CO ?_);(refine At ?_;apply Ae (o:=⟨some _,_,_,_,_,_⟩) hS 68 1 _ rfl 72 3 24 Pm _ _;(case hvs=>(repeat (first|exact AV.nil|(apply AV.agg;(rfl);(rfl))|(apply AV.one;exact D0;(rfl);(rfl)))));(case hn=>rfl);(case hn0=>decide);(case hns=>decide));intro g w9 h9;simp only [List.cons_append,List.nil_append] at h9;refine AB ?_;go_step;with_reducible exact zq9.out g w9 h9):p:=h ⟨k⟩
theorem RS(n:Nat){T q:Option Addr→Nat→World→Prop}(k:∀a c w,T a c w→q a c w)(h:Rx T q→CI n p:=by intro zq9;(with_reducible refine CO ?_);(refine At ?_;apply AY (o:=⟨some _,_,_,_,_,_⟩) hS _ _ 68 rfl 72 3 24 Pm _ _ _ _ rfl;(case hp=>exact AQ);(case hx=>exact rfl);(case hm=>(first|exact hS.slBlk AQ (by rfl) (by decide)|exact hS.sl AQ|with_reducible assumption|exact Sl.ext (by with_reducible assumption) hS.1|exact Sl.nil _ _|exact Sl.ext (by assumption) hS.1|assumption));(case h1=>(first|exact BJ rfl|exact GF _ _|(intro u hu;cases hu)));(case h63=>unfold maxLen;omega);(case hb=>omega));intro a9 c9 w9 h9;(first|simp only [B4] at h9|simp only [B5] at h9|simp only [B6] at h9|simp only [B7] at h9|simp only [B8] at h9|skip);refine AB ?_;go_step;with_reducible exact zq9.out a9 c9 w9 h9):p:=h ⟨k⟩
theorem RT(k:q)(h:A8 q→p:=by intro zq9;(with_reducible refine Ap _ (.binOp .eql 23 _ _ _) ?_);(refine AR AA (V.eql rfl rfl) ?_);go_step;with_reducible exact zq9.out):p:=h ⟨k⟩
theorem RU(k:q)(h:A8 q→p:=by intro zq9;(with_reducible refine Ap _ (.binOp .geq _ _ _ _) ?_);(refine AR AA (V.geq rfl rfl) ?_);go_step;with_reducible exact zq9.out):p:=h ⟨k⟩
theorem RV(k:q)(h:A8 q→p:=by intro zq9;(with_reducible refine Ap _ (.fieldAddr 85 _ 1) ?_);(refine AR AA (V.fieldAddr J3 rfl Bj) ?_);go_step;with_reducible exact zq9.out):p:=h ⟨k⟩
theorem RW(k:q)(h:A8 q→p:=by intro zq9;(with_reducible refine Ap _ (.load 3 _) ?_);(refine At ?_;apply DO hS 3 _ rfl _ _ rfl (Ai rfl) _ _ _ _ _;(case hp=>exact AQ);(case hi=>omega);refine AB ?_);go_step;with_reducible exact zq9.out):p:=h ⟨k⟩
theorem RX(k:q)(h:A8 q→p:=by intro zq9;(with_reducible refine Ap _ (.load 33 _) ?_);(refine At ?_;apply FD hS 33 _ rfl _ _ rfl 64 (Aj rfl) _;(case hp=>exact AQ);(case hi=>(repeat (first|(apply Iu.head;exact Gi)|(apply Iu.skipI;(case hn=>exact Gi);(case h=>omega);(case ho=>rfl))|apply Iu.skipV)));refine AB ?_);go_step;with_reducible exact zq9.out):p:=h ⟨k⟩
theorem RY(k:q)(h:A8 q→p:=by intro zq9;(with_reducible refine Ap _ (.unOp .not _ _) ?_);(refine AR AA (V.not rfl) ?_);go_step;with_reducible exact zq9.out):p:=h ⟨k⟩
theorem RZ(n:Nat)(k:q)(h:A8 q→CI n p:=by intro zq9;(with_reducible refine CO ?_);(refine At ?_;apply ER (enc:=ik) hS 115 _ _ rfl _ rfl _ rfl Tryz.underlying115 (BD Tryz.underlying3) (.int .i64 0) (fun w=>Tryz.zeroValue3 w) _;(case hp=>exact AQ);(case hf=>with_reducible assumption);refine AB ?_);go_step;with_reducible exact zq9.out):p:=h ⟨k⟩
theorem Ra(n:Nat)(k:q)(h:A8 q→CI n p:=by intro zq9;(with_reducible refine CO ?_);(refine At ?_;apply DP (enc:=ik) hS 115 _ _ rfl _ rfl _ rfl Tryz.underlying115 (BD Tryz.underlying3) (.int .i64 0) (fun w=>Tryz.zeroValue3 w) _;(case hp=>exact AQ);(case hf=>with_reducible assumption);refine AB ?_);go_step;with_reducible exact zq9.out):p:=h ⟨k⟩
theorem Rb(n:Nat)(k:q)(h:A8 q→CI n p:=by intro zq9;(with_reducible refine CO ?_);(refine AT (.int _ (((2*z+y:Nat):Int))) (V.as (V.addI rfl rfl (by omega)) (by omega)) (by kernel_rfl) ?_);go_step;with_reducible exact zq9.out):p:=h ⟨k⟩
theorem Rc(n:Nat)(k:q)(h:A8 q→CI n p:=by intro zq9;(with_reducible refine CO ?_);(refine AT (.int _ (((2*z:Nat):Int))) (V.as (V.shlI rfl rfl BY (by omega) (by omega)) (by omega)) (by kernel_rfl) ?_);go_step;with_reducible exact zq9.out):p:=h ⟨k⟩
theorem Rd(n:Nat)(k:q)(h:A8 q→CI n p:=by intro zq9;(with_reducible refine CO ?_);(refine AT (.int _ (((a+s:Nat):Int))) (V.as (V.addI rfl rfl (by omega)) (by omega)) (by kernel_rfl) ?_);go_step;with_reducible exact zq9.out):p:=h ⟨k⟩
theorem Re(n:Nat)(k:q)(h:A8 q→CI n p:=by intro zq9;(with_reducible refine CO ?_);(refine AT (.int _ (((s+1:Nat):Int))) (V.as (V.addI rfl rfl (by omega)) (by omega)) (by kernel_rfl) ?_);go_step;with_reducible exact zq9.out):p:=h ⟨k⟩
theorem Rf(n:Nat)(k:q)(h:A8 q→CI n p:=by intro zq9;(with_reducible refine CO ?_);(refine AT (.int _ (((x:Nat):Int))) (V.as (V.subI rfl rfl (by omega)) (by omega)) (by kernel_rfl) ?_);go_step;with_reducible exact zq9.out):p:=h ⟨k⟩
theorem Rh(n:Nat)(k:q)(h:A8 q→CI n p:=by intro zq9;(with_reducible refine CO ?_);(refine AT (.int _ (0)) (V.as (V.subI rfl rfl (by omega)) (by omega)) (by kernel_rfl) ?_);go_step;with_reducible exact zq9.out):p:=h ⟨k⟩
theorem Ri(n:Nat)(k:q)(h:A8 q→CI n p:=by intro zq9;(with_reducible refine CO ?_);(refine AR AA (V.build (vs:=[(0,_),(1,_),(2,_),(3,_),(4,_),(5,_),(6,_),(7,_),(8,_)]) rfl (Cz _ _ _ _ _ _ _ _ _)) ?_);go_step;with_reducible exact zq9.out):p:=h ⟨k⟩
theorem Rj(n:Nat)(k:q)(h:A8 q→CI n p:=by intro zq9;(with_reducible refine CO ?_);(refine AR AA (V.indexAr Tryz.underlying33 Bg rfl rfl BY (by omega) (Nat.mul_one _) Bj) ?_);go_step;with_reducible exact zq9.out):p:=h ⟨k⟩
theorem Ry(n:Nat){T q:Nat→World→Prop}(k:∀g w,T g w→q g w)(h:Mg T q→CI n p:=by intro zq9;(with_reducible refine CO ?_);(refine At ?_;apply Cg (o:=⟨some _,_,_,_,_,_⟩) hS 46 1 _ rfl 3 1 8 M9 _ _;(case hvs=>(repeat (first|exact AV.nil|(apply AV.agg;(rfl);(rfl))|(apply AV.one;exact D0;(rfl);(rfl)))));(case hn=>rfl);(case hn0=>decide);(case hns=>decide));intro g w9 h9;refine AB ?_;go_step;with_reducible exact zq9.out g w9 h9):p:=h ⟨k⟩
theorem Rz{T q:World→Prop}(k:∀w,T w→q w)(h:Mi T q→p:=by intro zq9;(with_reducible refine Ap _ (.mapUpdate 158 _ _ _) ?_);(refine At ?_;apply Et (enc:=ik) hS 158 _ _ _ rfl _ rfl _ rfl Tryz.underlying158 (BD Tryz.underlying3) _;(case hp=>exact AQ);(case hv=>(first|exact C8.int rfl|exact C8.bool rfl|exact C8.slice rfl|exact C8.pointer rfl|exact C8.string rfl|exact C8.map rfl|exact C8.func rfl|exact C8.agg rfl));(case hd=>exact rfl));intro w9 h9;with_reducible exact zq9.out w9 h9):p:=h ⟨k⟩
theorem R0{T q:World→Prop}(k:∀w,T w→q w)(h:Mi T q→p:=by intro zq9;(with_reducible refine Ap _ (.store 3 _ _) ?_);(refine At ?_;apply Ge hS 3 _ _ rfl _ _ rfl (Ai rfl) _ _;(case hp=>exact AQ);(case hy=>rfl);(case hi=>omega);(case hd=>exact rfl));intro w9 h9;with_reducible exact zq9.out w9 h9):p:=h ⟨k⟩
theorem R3{T q:World→Prop}(k:∀w,T w→q w)(h:Mi T q→p:=by intro zq9;(with_reducible refine Ap _ (.store 3 _ _) ?_);(refine At ?_;apply ES hS 3 _ _ rfl _ _ rfl (Ai rfl) _ _;(case hp=>exact AQ);(case hy=>rfl);(case hi=>(repeat (first|(apply DX.head;(case hn=>exact Gi);(case h=>omega))|(apply DX.skipI;(case hn=>exact Gi);(case h=>omega);(case ho=>rfl))|apply DX.skipV)));(case hd=>exact rfl));intro w9 h9;with_reducible exact zq9.out w9 h9):p:=h ⟨k⟩
theorem R4{T q:World→Prop}(k:∀w,T w→q w)(h:Mi T q→p:=by intro zq9;(with_reducible refine Ap _ (.store 72 _ _) ?_);(refine At ?_;apply CW hS 72 _ _ rfl _ rfl 3 (Aj rfl) _ _;(case hp=>exact AQ);(case hy=>rfl);(case hn=>rfl);(case hn'=>rfl);(case hv=>rfl);(case hd=>exact rfl));intro w9 h9;with_reducible exact zq9.out w9 h9):p:=h ⟨k⟩
theorem R5(k:q)(h:A8 q→p:=by intro zq9;(with_reducible refine Ap _ (.convert 3 21 _) ?_);(refine AR AA (V.convI (by rw [Tryz.underlying3];rfl) Tryz.underlying21 rfl (IntWalk.i32_in _ (by omega))) ?_);go_step;with_reducible exact zq9.out):p:=h ⟨k⟩
theorem R6(k:q)(h:A8 q→p:=by intro zq9;(with_reducible refine Ap _ (.load 46 _) ?_);(refine At ?_;apply Gd hS 46 _ rfl _ rfl (Ai rfl) _;(case hc=>with_reducible assumption);refine AB ?_);go_step;with_reducible exact zq9.out):p:=h ⟨k⟩
theorem R7(k:q)(h:A8 q→p:=by intro zq9;(with_reducible refine Ap _ (.load 56 _) ?_);(refine At ?_;apply Bz hS 56 _ rfl _ _ rfl (Ai rfl) _;(case hp=>exact AQ);(case hc=>rfl);refine AB ?_);go_step;with_reducible exact zq9.out):p:=h ⟨k⟩
theorem R8(k:q)(h:A8 q→p:=by intro zq9;(with_reducible refine Ap _ (.load 9 _) ?_);(refine At ?_;apply Dy hS 9 _ rfl _ _ rfl (Ai rfl) _ _ _ _ _;(case hp=>exact AQ);(case hv=>with_reducible assumption);refine AB ?_);go_step;with_reducible exact zq9.out):p:=h ⟨k⟩
theorem R9(n:Nat)(k:q)(h:A8 q→CI n p:=by intro zq9;(with_reducible refine CO ?_);(refine AT _ (V.indexIv Tryz.underlying33 Tryz.underlying3 Bg rfl rfl (by (repeat (first|assumption|exact A4.rep|apply A4.set|((with_reducible show A4 (_::_) _);exact rfl)))) BY (by omega)) AA ?_);go_step;with_reducible exact zq9.out):p:=h ⟨k⟩
end
end Go.Proofs.YtngojkompmcceaaGreatDoor
namespace Go.Proofs.YtngojkompmcceaaGreatDoor
attribute [local irreducible] Region.wanted
set_option linter.unusedVariables false
set_option maxRecDepth 100000
set_option maxHeartbeats 8000000
theorem Gy:(Tryz.prog.info? 9).map (·.size)=some 1:=by kernel_rfl
theorem Bg:(Tryz.prog.info? 3).map (·.size)=some 1:=by kernel_rfl
theorem Fw:Ag Tryz.prog 35 0 0 33:=Ag.mk' _ _ 64 Tryz.underlying35 rfl rfl rfl AA (by decide)
theorem IU:Ag Tryz.prog 35 1 64 33:=Ag.mk' _ _ 64 Tryz.underlying35 rfl rfl rfl AA (by decide)
theorem NB:Ag Tryz.prog 42 0 0 3:=Ag.mk' _ _ 1 Tryz.underlying42 rfl rfl rfl AA (by decide)
theorem Po:Ag Tryz.prog 42 1 1 40:=Ag.mk' _ _ 1 Tryz.underlying42 rfl rfl rfl AA (by decide)
theorem Qi:(Tryz.prog.info? 72).map (·.size)=some 3:=by kernel_rfl
theorem Pp:Ag Tryz.prog 72 0 0 3:=Ag.mk' _ _ 1 Tryz.underlying72 rfl rfl rfl AA (by decide)
theorem J2:Ag Tryz.prog 85 0 0 83:=Ag.mk' _ _ 16 Tryz.underlying85 rfl rfl rfl AA (by decide)
theorem J3:Ag Tryz.prog 85 1 16 46:=Ag.mk' _ _ 1 Tryz.underlying85 rfl rfl rfl AA (by decide)
theorem IS:Ag Tryz.prog 109 0 0 3:=Ag.mk' _ _ 1 Tryz.underlying109 rfl rfl rfl AA (by decide)
theorem IT:Ag Tryz.prog 109 1 1 46:=Ag.mk' _ _ 1 Tryz.underlying109 rfl rfl rfl AA (by decide)
theorem J6:(Tryz.prog.info? 109).map (·.size)=some 2:=by kernel_rfl
theorem Pt:(Tryz.prog.info? 120).map (·.size)=some 3:=by kernel_rfl
theorem Om:Ag Tryz.prog 120 0 0 3:=Ag.mk' _ _ 1 Tryz.underlying120 rfl rfl rfl AA (by decide)
theorem On:Ag Tryz.prog 120 1 1 3:=Ag.mk' _ _ 1 Tryz.underlying120 rfl rfl rfl AA (by decide)
theorem PN:(Tryz.prog.info? 46).map (·.size)=some 1:=by kernel_rfl
end Go.Proofs.YtngojkompmcceaaGreatDoor
namespace Go.Proofs.YtngojkompmcceaaGreatDoor
open Go.RowKit
set_option linter.unusedVariables false
set_option maxRecDepth 100000
set_option maxHeartbeats 8000000
section
variable{P:Program}{Q:Exit→Act→World→Prop}{md:Region.Mode}{D:List Nat}{S:World→Prop}{l:List Oper}{fuel:Nat}{listed:Array Bool}{a:Act}{w:World}
 {d:Option Tmp} {op:Op} {ty:TypeId} {pos:String} {af:Array Edge} {g:Option (Nat×Bool)}
theorem B9(i:Nat)(v:Value)(hi:D7 ⟨d,op,ty,pos,af,g⟩ i l)(hs:Region.noSelect l.toArray=true)(hf:Region.free md l.toArray listed i=true)(hr:(Region.ready md l.toArray listed).contains i=true)
 (hQ:∀v c a w,Q (.panic c) (a.put d v) w→Q (.panic c) a w) (hv:Bi P op ty a v) (hw:Region.wanted ⟨d,op,ty,pos,af,g⟩ (yielded l.toArray a.tmps)=true)
 (h:(Oper.mk d (.move (.const v)) ty pos af g).wp P a w (AI P md l.toArray Q D S fuel (listed.setIfInBounds i true)) Q):AI P md l.toArray Q D S (fuel+1) listed a w:=
 Hv i hi hs hf hr hQ (fun w=>AT v hv hw (Er v _ (show wpList P l.toArray _ [] _ _ from wpList_nil ⟨rfl,rfl⟩))) (by cases d<;>rfl) h
theorem PW(i:Nat)(x:Operand)(hi:D7 ⟨d, .move x,ty,pos,af,g⟩ i l)(hs:Region.noSelect l.toArray=true)(hf:Region.free md l.toArray listed i=true)(hr:(Region.ready md l.toArray listed).contains i=true)
 (hQ:∀v c a w,Q (.panic c) (a.put d v) w→Q (.panic c) a w) (hw:Region.wanted ⟨d, .move x,ty,pos,af,g⟩ (yielded l.toArray a.tmps)=true)
 (h:(Oper.mk d (.move x) ty pos af g).wp P a w (AI P md l.toArray Q D S fuel (listed.setIfInBounds i true)) Q):AI P md l.toArray Q D S (fuel+1) listed a w:=
 Hv i hi hs hf hr hQ (a1:=a.put d (a.eval x)) (fun w=>AT _ (fun _ _ _ _ _=>rfl) hw (Er _ _ (show wpList P l.toArray _ [] _ _ from wpList_nil ⟨rfl,rfl⟩))) (by cases d<;>rfl) h
theorem PU(i:Nat)(x:Operand)(hi:D7 ⟨d, .assign x,ty,pos,af,g⟩ i l)(hs:Region.noSelect l.toArray=true)(hf:Region.free md l.toArray listed i=true)(hr:(Region.ready md l.toArray listed).contains i=true)
 (hQ:∀v c a w,Q (.panic c) (a.put d v) w→Q (.panic c) a w) (hw:Region.wanted ⟨d, .assign x,ty,pos,af,g⟩ (yielded l.toArray a.tmps)=true)
 (h:(Oper.mk d (.move x) ty pos af g).wp P a w (AI P md l.toArray Q D S fuel (listed.setIfInBounds i true)) Q):AI P md l.toArray Q D S (fuel+1) listed a w:=
 Hv i hi hs hf hr hQ (a1:=a.put d (a.eval x)) (fun w=>AT _ (fun _ _ _ _ _=>rfl) hw (Er _ _ (show wpList P l.toArray _ [] _ _ from wpList_nil ⟨rfl,rfl⟩))) (by cases d<;>rfl) h
theorem Je(i:Nat)(b:Bool){c x y:Operand}(hi:D7 ⟨d, .pick c x y,ty,pos,af,g⟩ i l)(hs:Region.noSelect l.toArray=true)(hf:Region.free md l.toArray listed i=true)(hr:(Region.ready md l.toArray listed).contains i=true)
 (hQ:∀v c a w,Q (.panic c) (a.put d v) w→Q (.panic c) a w) (hc:a.eval c= .bool b) (hw:Region.wanted ⟨d, .pick c x y,ty,pos,af,g⟩ (yielded l.toArray a.tmps)=true)
 (h:(Oper.mk d (.move (bif b then x else y)) ty pos af g).wp P a w (AI P md l.toArray Q D S fuel (listed.setIfInBounds i true)) Q):AI P md l.toArray Q D S (fuel+1) listed a w:=
 Hv i hi hs hf hr hQ (a1:=a.put d (a.eval (bif b then x else y))) (fun w=>AT _ (fun _ _ _ _ w=>by simp only [execOp,hc,asBool,Sem.run_bind,Sem.run_pure,Result.andThen_ok];cases b<;>rfl) hw (Er _ _ (show wpList P l.toArray _ [] _ _ from wpList_nil ⟨rfl,rfl⟩))) (by cases d<;>rfl) h
theorem L6(i:Nat){c x y:Operand}(hi:D7 ⟨d, .pick c x y,ty,pos,af,g⟩ i l)(hs:Region.noSelect l.toArray=true)(hf:Region.free md l.toArray listed i=true)(hr:(Region.ready md l.toArray listed).contains i=true)
 (hQ:∀v c a w,Q (.panic c) (a.put d v) w→Q (.panic c) a w) (hc:a.eval c= .bool true) (hw:Region.wanted ⟨d, .pick c x y,ty,pos,af,g⟩ (yielded l.toArray a.tmps)=true)
 (h:(Oper.mk d (.move x) ty pos af g).wp P a w (AI P md l.toArray Q D S fuel (listed.setIfInBounds i true)) Q):AI P md l.toArray Q D S (fuel+1) listed a w:=Je i true hi hs hf hr hQ hc hw h
theorem Hw(i:Nat){c x y:Operand}(hi:D7 ⟨d, .pick c x y,ty,pos,af,g⟩ i l)(hs:Region.noSelect l.toArray=true)(hf:Region.free md l.toArray listed i=true)(hr:(Region.ready md l.toArray listed).contains i=true)
 (hQ:∀v c a w,Q (.panic c) (a.put d v) w→Q (.panic c) a w) (hc:a.eval c= .bool false) (hw:Region.wanted ⟨d, .pick c x y,ty,pos,af,g⟩ (yielded l.toArray a.tmps)=true)
 (h:(Oper.mk d (.move y) ty pos af g).wp P a w (AI P md l.toArray Q D S fuel (listed.setIfInBounds i true)) Q):AI P md l.toArray Q D S (fuel+1) listed a w:=Je i false hi hs hf hr hQ hc hw h
theorem Qp(i:Nat)(b:Bool)(hi:D7 ⟨d,op,ty,pos,af,g⟩ i l)(hs:Region.noSelect l.toArray=true)(hf:Region.free md l.toArray listed i=true)(hr:(Region.ready md l.toArray listed).contains i=true)
 (hQ:∀v c a w,Q (.panic c) (a.put d v) w→Q (.panic c) a w) (hv:Bi P op ty a (.bool b)) (hw:Region.wanted ⟨d,op,ty,pos,af,g⟩ (yielded l.toArray a.tmps)=true)
 (ht:b=true→(Oper.mk d (.move (.const (.bool true))) ty pos af g).wp P a w (AI P md l.toArray Q D S fuel (listed.setIfInBounds i true)) Q)
 (hn:b=false→(Oper.mk d (.move (.const (.bool false))) ty pos af g).wp P a w (AI P md l.toArray Q D S fuel (listed.setIfInBounds i true)) Q):AI P md l.toArray Q D S (fuel+1) listed a w:=by
 cases b
 ·exact B9 i _ hi hs hf hr hQ hv hw (hn rfl)
 exact B9 i _ hi hs hf hr hQ hv hw (ht rfl)
theorem PV(i:Nat)(p:Prop)[Decidable p](hi:D7 ⟨d,op,ty,pos,af,g⟩ i l)(hs:Region.noSelect l.toArray=true)(hf:Region.free md l.toArray listed i=true)(hr:(Region.ready md l.toArray listed).contains i=true)
 (hQ:∀v c a w,Q (.panic c) (a.put d v) w→Q (.panic c) a w) (hv:Bi P op ty a (.bool (decide p))) (hw:Region.wanted ⟨d,op,ty,pos,af,g⟩ (yielded l.toArray a.tmps)=true)
 (ht:p→(Oper.mk d (.move (.const (.bool true))) ty pos af g).wp P a w (AI P md l.toArray Q D S fuel (listed.setIfInBounds i true)) Q)
 (hn:¬p→(Oper.mk d (.move (.const (.bool false))) ty pos af g).wp P a w (AI P md l.toArray Q D S fuel (listed.setIfInBounds i true)) Q):AI P md l.toArray Q D S (fuel+1) listed a w:=
 Qp i _ hi hs hf hr hQ hv hw (fun h=>ht (of_decide_eq_true h)) (fun h=>hn (of_decide_eq_false h))
theorem PX(i:Nat)(hi:D7 ⟨d,op,ty,pos,af,g⟩ i l)(hs:Region.noSelect l.toArray=true)(hf:Region.free md l.toArray listed i=true)(hr:(Region.ready md l.toArray listed).contains i=true)
 (hQ:∀v c a w,Q (.panic c) (a.put d v) w→Q (.panic c) a w) (hw:Region.wanted ⟨d,op,ty,pos,af,g⟩ (yielded l.toArray a.tmps)=false)
 (h:(Oper.mk d (.move (.const undef)) ty pos af g).wp P a w (AI P md l.toArray Q D S fuel (listed.setIfInBounds i true)) Q):AI P md l.toArray Q D S (fuel+1) listed a w:=
 Hv i hi hs hf hr hQ (a1:=a.put d undef) (fun w=>wpList_skip hw (wpList_nil ⟨rfl,rfl⟩)) (by cases d<;>rfl) h
end
section
variable{P:Program}{Q:Exit→Act→World→Prop}{a:Act}{W w:World}{c:Code}
end
end Go.Proofs.YtngojkompmcceaaGreatDoor
/- Short words for regions that draw their order. -/
namespace Go.Proofs.YtngojkompmcceaaGreatDoor
open Go.RowKit
set_option linter.unusedVariables false
set_option maxRecDepth 100000
set_option maxHeartbeats 8000000
structure OT(md:Region.Mode)(l:List Oper)(listed:Array Bool)(Q:Exit→Act→World→Prop)(a:Act)(d:Option Tmp)(op:Op)(ty:TypeId)(pos:String)(af:Array Edge)(g:Option (Nat×Bool))(i:Nat)(b:Bool):Prop where
 hi:D7 ⟨d,op,ty,pos,af,g⟩ i l
 hs:Region.noSelect l.toArray=true
 hf:Region.free md l.toArray listed i=true
 hr:(Region.ready md l.toArray listed).contains i=true
 hQ:∀v c a w,Q (.panic c) (a.put d v) w→Q (.panic c) a w
 hw:Region.wanted ⟨d,op,ty,pos,af,g⟩ (yielded l.toArray a.tmps)=b
section
variable{P:Program}{Q:Exit→Act→World→Prop}{md:Region.Mode}{D:List Nat}{S:World→Prop}{l:List Oper}{fuel:Nat}{listed:Array Bool}{a:Act}{w:World}{d:Option Tmp}{op:Op}{ty:TypeId}{pos:String}{af:Array Edge}{g:Option (Nat×Bool)}{x:Operand}{i:Nat}{b:Bool}
theorem Cj(hi:D7 ⟨d,op,ty,pos,af,g⟩ i l:=by (repeat (first|with_reducible exact D7.head|apply D7.tail)))(hs:Region.noSelect l.toArray=true:=by kernel_rfl)(hf:Region.free md l.toArray listed i=true:=by kernel_rfl)(hr:(Region.ready md l.toArray listed).contains i=true:=by kernel_rfl)
 (hQ:∀v c a w,Q (.panic c) (a.put d v) w→Q (.panic c) a w:=by first|exact fun _ _ _ _ h=>h|exact fun _ _ _ _ h=>nomatch h.1) (hw:Region.wanted ⟨d,op,ty,pos,af,g⟩ (yielded l.toArray a.tmps)=b:=by kernel_rfl):OT md l listed Q a d op ty pos af g i b:=⟨hi,hs,hf,hr,hQ,hw⟩
theorem DT(i:Nat){v:Value}(t:OT md l listed Q a d op ty pos af g i true)(hv:Bi P op ty a v)(h:(Oper.mk d (.move (.const v)) ty pos af g).wp P a w (AI P md l.toArray Q D S fuel (listed.setIfInBounds i true)) Q):AI P md l.toArray Q D S (fuel+1) listed a w:=B9 i v t.1 t.2 t.3 t.4 t.5 hv t.6 h
theorem SN(i:Nat)(t:OT md l listed Q a d (.move x) ty pos af g i true)(h:(Oper.mk d (.move x) ty pos af g).wp P a w (AI P md l.toArray Q D S fuel (listed.setIfInBounds i true)) Q):AI P md l.toArray Q D S (fuel+1) listed a w:=PW i x t.1 t.2 t.3 t.4 t.5 t.6 h
theorem SM(i:Nat)(t:OT md l listed Q a d (.assign x) ty pos af g i true)(h:(Oper.mk d (.move x) ty pos af g).wp P a w (AI P md l.toArray Q D S fuel (listed.setIfInBounds i true)) Q):AI P md l.toArray Q D S (fuel+1) listed a w:=PU i x t.1 t.2 t.3 t.4 t.5 t.6 h
theorem SO(i:Nat)(t:OT md l listed Q a d op ty pos af g i false)(h:(Oper.mk d (.move (.const undef)) ty pos af g).wp P a w (AI P md l.toArray Q D S fuel (listed.setIfInBounds i true)) Q):AI P md l.toArray Q D S (fuel+1) listed a w:=PX i t.1 t.2 t.3 t.4 t.5 t.6 h
theorem CS(i:Nat){o:Oper}(h:o.wp P a w (fun a' w'=>(i∉D→S w→S w')∧AI P md l.toArray Q D S fuel (listed.setIfInBounds i true) a' w') Q)(hi:D7 o i l:=by (repeat (first|with_reducible exact D7.head|apply D7.tail)))(hw:Region.wanted o (yielded l.toArray a.tmps)=true:=by kernel_rfl)
 (hr:Region.ready md l.toArray listed=[i]:=by kernel_rfl):AI P md l.toArray Q D S (fuel+1) listed a w:=Ob i hi hw hr h
theorem SE{A:Prop}{d:Tmp}{v:Value}(h:(Oper.mk (some d) (.move (.const v)) 0 "" #[] none).wp P a w (AI P md l.toArray Q D S fuel listed) Q)(h1:A:=by exact fun _ h=>h):A∧AI P md l.toArray Q D S fuel listed (a.put (some d) v) w:=⟨h1,h⟩
def Me(_:Nat)(p:Prop):Prop:=p
def PL(_:Nat)(_:List Nat)(p:Prop):Prop:=p
theorem PB{v:Value}(t:OT md l listed Q a d op ty pos af g i true)(hv:Bi P op ty a v)(h:(Oper.mk d (.move (.const v)) ty pos af g).wp P a w (AI P md l.toArray Q D S fuel (listed.setIfInBounds i true)) Q):Me i (AI P md l.toArray Q D S (fuel+1) listed a w):=B9 i v t.1 t.2 t.3 t.4 t.5 hv t.6 h
theorem Rp(t:OT md l listed Q a d (.move x) ty pos af g i true)(h:(Oper.mk d (.move x) ty pos af g).wp P a w (AI P md l.toArray Q D S fuel (listed.setIfInBounds i true)) Q):Me i (AI P md l.toArray Q D S (fuel+1) listed a w):=PW i x t.1 t.2 t.3 t.4 t.5 t.6 h
theorem Ro(t:OT md l listed Q a d (.assign x) ty pos af g i true)(h:(Oper.mk d (.move x) ty pos af g).wp P a w (AI P md l.toArray Q D S fuel (listed.setIfInBounds i true)) Q):Me i (AI P md l.toArray Q D S (fuel+1) listed a w):=PU i x t.1 t.2 t.3 t.4 t.5 t.6 h
theorem Rq(t:OT md l listed Q a d op ty pos af g i false)(h:(Oper.mk d (.move (.const undef)) ty pos af g).wp P a w (AI P md l.toArray Q D S fuel (listed.setIfInBounds i true)) Q):Me i (AI P md l.toArray Q D S (fuel+1) listed a w):=PX i t.1 t.2 t.3 t.4 t.5 t.6 h
end
section
variable{P:Program}{Q:Exit→Act→World→Prop}{md:Region.Mode}{D:List Nat}{S:World→Prop}{i:Nat}{E:List Nat}{l:List Oper}{oi:Oper}{a1:Act}{fuel:Nat}{listed:Array Bool}{a:Act}{w:World}
theorem EO(hi:D7 oi i l)(hs:Region.noSelect l.toArray=true)(hf:Region.free md l.toArray listed i=true)(hr:(Region.ready md l.toArray listed).contains i=true)(hQ:∀v c a w,Q (.panic c) (a.put oi.dst v) w→Q (.panic c) a w)(hE:In md l.toArray listed i E D=true)(hSw:S w)(hfr:∀w,S w→wpList P l.toArray (FreeOne (fun w'=>w'=w) a1) [oi] a w)(hd:a1.defers=a.defers)(h:AI P md l.toArray Q D S fuel (listed.setIfInBounds i true) a1 w):PL i E (AI P md l.toArray Q D S (fuel+1) listed a w):=PY i hi hs hf hr hQ E hE hSw hfr hd h
theorem Rn(hi:D7 oi i l)(hs:Region.noSelect l.toArray=true)(hf:Region.free md l.toArray listed i=true)(hr:(Region.ready md l.toArray listed).contains i=true)(hQ:∀v c a w,Q (.panic c) (a.put oi.dst v) w→Q (.panic c) a w)(hfr:∀w,wpList P l.toArray (FreeOne (fun w'=>w'=w) a1) [oi] a w)(hd:a1.defers=a.defers)(h:AI P md l.toArray Q D S fuel (listed.setIfInBounds i true) a1 w):Me i (AI P md l.toArray Q D S (fuel+1) listed a w):=Hv i hi hs hf hr hQ hfr hd h
end
section
variable{p q:Prop}
theorem Ah(n:Nat)(k:q)(h:A8 q→Me n p:=by intro zq9;(first|(refine Rp Cj ?_;go_step)|(refine Ro Cj ?_;go_step));with_reducible exact zq9.out):p:=h ⟨k⟩
theorem FU(n:Nat)(k:q)(h:A8 q→Me n p:=by intro zq9;refine Rq Cj ?_;go_step;with_reducible exact zq9.out):p:=h ⟨k⟩
theorem Y0(n:Nat)(k:q)(h:A8 q→Me n p:=by intro zq9;refine PB Cj (V.indexSl Tryz.underlying110 J6 rfl rfl BY (by omega) rfl Bj) ?_;go_step;with_reducible exact zq9.out):p:=h ⟨k⟩
theorem Y1(n:Nat)(k:q)(h:A8 q→Me n p:=by intro zq9;refine PB Cj (V.extract rfl rfl) ?_;go_step;with_reducible exact zq9.out):p:=h ⟨k⟩
theorem Y2(n:Nat)(L:List Nat)(k:q)(h:A8 q→PL n L p:=by intro zq9;apply EO DC AA AA AA E6 AA (hS.sub Ad);(case hfr=>intro w hS;((refine At ?_;apply Jl hS 109 _ rfl _ _ rfl 2 (Aj rfl) _ _ _ _ _;(case hp=>exact AQ);(case inst=>infer_instance);(case he=>with_reducible assumption);(case hq=>exact rfl);(case hj=>omega);refine AB ?_;go_step));refine wpList_nil ?_;exact ⟨rfl,rfl⟩);(case hd=>rfl);with_reducible exact zq9.out):p:=h ⟨k⟩
theorem Y3{T q:Nat→World→Prop}(k:∀g w,T g w→q g w)(h:Mg T q→p:=by intro zq9;refine Cf (o:=⟨some _,_,_,_,_,_⟩) hS 42 rfl (.agg #[.int .i64 0, .nilFunc]) [.int .i64 0, .nilFunc] (fun w=>Tryz.zeroValue42 w) rfl ?_;intro g9 w9 h9;refine ⟨fun _ _=>h9.sub Ad,?_⟩;refine AK ?_;go_step;with_reducible exact zq9.out g9 w9 h9):p:=h ⟨k⟩
theorem Y4{T q:World→Prop}(k:∀w,T w→q w)(h:Mi T q→p:=by intro zq9;(refine CW hS 42 _ _ rfl _ rfl 2 (Aj rfl) _ _ AQ (by rfl) (by rfl) (by rfl) (by rfl) rfl ?_);intro w9 h9;refine ⟨fun h=>absurd (by decide) h,?_⟩;with_reducible exact zq9.out w9 h9):p:=h ⟨k⟩
theorem Y5{T q:World→Prop}(k:∀w,T w→q w)(h:Mi T q→p:=by intro zq9;(apply MN hS 109 _ _ rfl _ _ rfl 2 (Aj rfl) _ _ _ _ _;(case hp=>exact AQ);(case inst=>infer_instance);(case he=>with_reducible assumption);(case hone=>with_reducible assumption);(case hq=>exact rfl);(case hj=>omega);(case hy=>exact rfl);(case hd=>exact rfl));intro w9 h9;refine ⟨fun h=>absurd (by decide) h,?_⟩;with_reducible exact zq9.out w9 h9):p:=h ⟨k⟩
theorem Y6(n:Nat)(L:List Nat)(k:q)(h:A8 q→PL n L p:=by intro zq9;apply EO DC AA AA AA E6 AA (hS.sub Ad);(case hfr=>intro w hS;((refine At ?_;apply DO hS 3 _ rfl _ _ rfl (Ai rfl) _ _ _ _ _;(case hp=>exact AQ);(case hi=>omega);refine AB ?_;go_step));refine wpList_nil ?_;exact ⟨rfl,rfl⟩);(case hd=>rfl);with_reducible exact zq9.out):p:=h ⟨k⟩
theorem Y7(n:Nat)(k:q)(h:A8 q→Me n p:=by intro zq9;refine PB Cj (V.indexAr Tryz.underlying33 Bg rfl rfl BY (by omega) (Nat.mul_one _) Bj) ?_;go_step;with_reducible exact zq9.out):p:=h ⟨k⟩
theorem Y8(n:Nat)(L:List Nat)(k:q)(h:A8 q→PL n L p:=by intro zq9;apply EO DC AA AA AA E6 AA (hS.sub Ad);(case hfr=>intro w hS;((refine At ?_;apply FD hS 33 _ rfl _ _ rfl 64 (Aj rfl) _;(case hp=>exact AQ);(case hi=>(repeat (first|(apply Iu.head;exact Gi)|(apply Iu.skipI;(case hn=>exact Gi);(case h=>omega);(case ho=>rfl))|apply Iu.skipV)));refine AB ?_;go_step));refine wpList_nil ?_;exact ⟨rfl,rfl⟩);(case hd=>rfl);with_reducible exact zq9.out):p:=h ⟨k⟩
theorem Y9(n:Nat)(L:List Nat)(k:q)(h:A8 q→PL n L p:=by intro zq9;apply EO DC AA AA AA E6 AA (hS.sub Ad);(case hfr=>intro w hS;((refine At ?_;apply Dy hS 9 _ rfl _ _ rfl (Ai rfl) _ _ _ _ _;(case hp=>exact AQ);(case hv=>with_reducible assumption);refine AB ?_;go_step));refine wpList_nil ?_;exact ⟨rfl,rfl⟩);(case hd=>rfl);with_reducible exact zq9.out):p:=h ⟨k⟩
theorem Rk(n:Nat)(k:q)(h:A8 q→Me n p:=by intro zq9;refine PB Cj (V.indexSl Tryz.underlying22 Gy rfl rfl (show Au 0 0 from rfl) (by omega) (show 0*1=0 from rfl) Bj) ?_;go_step;with_reducible exact zq9.out):p:=h ⟨k⟩
theorem SA{T q:World→Prop}(k:∀w,T w→q w)(h:Mi T q→p:=by intro zq9;(refine IB hS 33 _ _ rfl _ rfl 64 (Aj rfl) _ _ AQ (by rfl) (by (repeat (first|assumption|exact A4.rep|apply A4.set|((with_reducible show A4 (_::_) _);exact rfl)))) rfl ?_);intro w9 h9;refine ⟨fun h=>absurd (by decide) h,?_⟩;with_reducible exact zq9.out w9 h9):p:=h ⟨k⟩
theorem SB(n:Nat)(L:List Nat)(k:q)(h:A8 q→PL n L p:=by intro zq9;apply EO DC AA AA AA E6 AA (hS.sub Ad);(case hfr=>intro w hS;((refine At ?_;apply Dx hS 3 _ rfl _ _ rfl (Ai rfl) _ _;(case hp=>exact AQ);(case hi=>omega);refine AB ?_;go_step));refine wpList_nil ?_;exact ⟨rfl,rfl⟩);(case hd=>rfl);with_reducible exact zq9.out):p:=h ⟨k⟩
theorem SC(n:Nat)(L:List Nat)(k:q)(h:A8 q→PL n L p:=by intro zq9;apply EO DC AA AA AA E6 AA (hS.sub Ad);(case hfr=>intro w hS;((refine At ?_;apply H6 hS 46 _ rfl _ _ rfl (Ai rfl) _ _ _ _ _ _;(case hp=>exact AQ);(case inst=>infer_instance);(case he=>with_reducible assumption);(case hq=>exact rfl);(case hj=>omega);(case hv=>exact rfl);refine AB ?_;go_step));refine wpList_nil ?_;exact ⟨rfl,rfl⟩);(case hd=>rfl);with_reducible exact zq9.out):p:=h ⟨k⟩
theorem SD(n:Nat)(L:List Nat)(k:q)(h:A8 q→PL n L p:=by intro zq9;apply EO DC AA AA AA E6 AA (hS.sub Ad);(case hfr=>intro w hS;((refine At ?_;apply KZ hS 3 _ rfl _ _ rfl (Ai rfl) _ _ _ _ _ _;(case hp=>exact AQ);(case inst=>infer_instance);(case he=>with_reducible assumption);(case hq=>exact rfl);(case hj=>omega);(case hv=>exact rfl);refine AB ?_;go_step));refine wpList_nil ?_;exact ⟨rfl,rfl⟩);(case hd=>rfl);with_reducible exact zq9.out):p:=h ⟨k⟩
end
end Go.Proofs.YtngojkompmcceaaGreatDoor
namespace Go.Proofs.YtngojkompmcceaaGreatDoor
attribute [local irreducible] Region.wanted
open Go.RowKit
set_option linter.unusedVariables false
set_option maxRecDepth 100000
set_option maxHeartbeats 8000000
theorem EJ(l:List Int)(i:Nat)(z:Int)(h:i<l.length):AG (l.set i z) i=z:=by simp [AG,List.getD,h]
theorem GB(l:List Int)(i j:Nat)(z:Int)(h:i≠j):AG (l.set i z) j=AG l j:=by simp [AG,List.getD,h]
theorem Ef(l:List Int)(i j:Nat)(z:Int)(h:i<l.length):AG (l.set i z) j=if i=j then z else AG l j:=by
 split
 ·rename_i e;subst e;exact EJ l i z h
 rename_i e;exact GB l i j z e
theorem CD(l:List Int)(i:Nat)(h:i<l.length):l[i]? =some (AG l i):=by simp [AG,List.getD,h]
theorem IZ(l:List Int)(i:Nat)(h:l.length≤i):AG l i=0:=by simp [AG,List.getD,List.getElem?_eq_none h]
theorem JO{l m:List Int}(h:l.length=m.length)(k:∀i,i<l.length→AG l i=AG m i):l=m:=by
 apply List.ext_getElem h
 intro i h1 h2
 have:=k i h1
 simpa [AG,List.getD,List.getElem?_eq_getElem h1,List.getElem?_eq_getElem h2] using this
theorem Hh(n i:Nat):AG (List.replicate n 0) i=0:=by unfold AG;rw [List.getD_eq_getElem?_getD,List.getElem?_replicate];split<;>rfl
theorem Kt(n:Nat)(z:Int)(i:Nat)(h:i<n):AG (List.replicate n z) i=z:=by simp [AG,List.getD,h]
def tab(n:Nat)(F:Nat→Int):List Int:=(List.range n).map F
theorem En(n:Nat)(F:Nat→Int):(tab n F).length=n:=by simp [tab]
theorem Ku(n:Nat)(F:Nat→Int)(i:Nat)(h:i<n):AG (tab n F) i=F i:=by simp [tab,AG,List.getD,h]
theorem Nr{n:Nat}{F:Nat→Int}{l:List Int}(h:l.length=n)(k:∀i,i<n→AG l i=F i):l=tab n F:=JO (by rw [h,En]) fun i hi=>by rw [k i (by omega),Ku n F i (by omega)]
section
variable{P:Program}{W w:World}{rs rs':List Ak}{Q:Exit→Act→World→Prop}{K:Act→World→Prop}{o:Oper}{a:Act}
theorem St.ownLen{e:TypeId}{s n c:Nat}{ad:Option Addr}{xs:List Value}(hS:St W w rs)(hp:AL (Go.Proofs.YtngojkompmcceaaGreatDoor.own e s ad n c xs) rs rs'):xs.length=n*s:=(hS.own hp).1
theorem Hj{e:TypeId}{s n c g off m:Nat}{xs:List Value}(hS:St W w rs)(hp:AL (own e s (some ⟨g,0,none⟩) n c xs) rs rs'):w.rangeAt g off ((xs.drop off).take m):=fun j v hv=>by
 rw [List.getElem?_take] at hv
 split at hv
 ·rw [List.getElem?_drop] at hv;exact GG hS hp hv
 cases hv
theorem DO(hS:St W w rs)(ty:TypeId)(x:Operand)(ho:o.op= .load ty x)(g off:Nat)(hx:a.eval x= .pointer (some ⟨g,off,none⟩))(h1:IG P ty)(e:TypeId)(s n c:Nat)(l:List Int)(hp:AL (own e s (some ⟨g,0,none⟩) n c (l.map (Value.int .i64))) rs rs')
 (hi:off<n*s) (h:K (a.put o.dst (.int .i64 (AG l off))) w):o.wp P a w K Q:=by
 have hl:=hS.ownLen hp
 rw [List.length_map] at hl
 exact Dy hS ty x ho g off hx h1 e s n c _ hp _ (by rw [List.getElem?_map,CD l off (by omega)];rfl) h
theorem MK(hS:St W w rs)(ty:TypeId)(x:Operand)(ho:o.op= .load ty x)(g off:Nat)(hx:a.eval x= .pointer (some ⟨g,off,none⟩))(m:Nat)(h1:DB P ty m)(e:TypeId)(s n c:Nat)(l:List Int)(hp:AL (own e s (some ⟨g,0,none⟩) n c (l.map (Value.int .i64))) rs rs')
 (hi:off+m≤n*s) (h:K (a.put o.dst (.agg (iv ((l.drop off).take m)))) w):o.wp P a w K Q:=by
 have hl:=hS.ownLen hp
 rw [List.length_map] at hl
 refine Ch ty x ho g off hx m h1 (((l.drop off).take m).map (Value.int .i64)) (by simp;omega) ?_ h
 have:=Hj (off:=off) (m:=m) hS hp
 rwa [←List.map_drop,←List.map_take] at this
theorem Gc(hS:St W w rs)(ty:TypeId)(x:Operand)(ho:o.op= .load ty x)(g off:Nat)(hx:a.eval x= .pointer (some ⟨g,off,none⟩))(m:Nat)(h1:DB P ty m)(e:TypeId)(s n c:Nat)(l:List Int)(hp:AL (own e s (some ⟨g,0,none⟩) n c (l.map (Value.int .i64))) rs rs')
 (hi:off+m≤n*s) (l':List Int) (hl':(l.drop off).take m=l') (h:K (a.put o.dst (.agg (iv l'))) w):o.wp P a w K Q:=
 MK hS ty x ho g off hx m h1 e s n c l hp hi (by rw [hl'];exact h)
end
section
variable{P:Program}{ops:Array Oper}{Q:Exit→Act→World→Prop}{rest:List Oper}{a:Act}{W w:World}{rs:List Ak}{d:Option Tmp}{x y:Operand}{t ty:TypeId}{pos:String}{af:Array Edge}{g:Option (Nat×Bool)}{k:IntKind}
end
inductive Lo(a:Act):Option Operand→Nat→Prop
 | none:Lo a none 0
 | some {x:Operand} {k:IntKind} {i:Int} {j:Nat} (h:a.eval x= .int k i) (hj:Au i j):Lo a (some x) j
inductive Up(a:Act)(n:Nat):Option Operand→Nat→Prop
 | none:Up a n none n
 | some {x:Operand} {k:IntKind} {i:Int} {j:Nat} (h:a.eval x= .int k i) (hj:Au i j):Up a n (some x) j
section
variable{P:Program}{W w:World}{a:Act}{x:Operand}{t ty:TypeId}
theorem V.build{ps:List (Nat×Operand)}{vs:List (Nat×Value)}{v:Value}(hvs:ps.map (fun x=>(x.1,a.eval x.2))=vs)(hr:∀w,(Instr.build t vs.toArray).run P w= .ok v w):Bi P (.build t ps.toArray) ty a v:=fun d pos af g w=>by
 have e:(ps.toArray).map (fun (x:Nat×Operand)=>(x.1,a.eval x.2))=vs.toArray:=by rw [←hvs];simp
 have e2:execOp a.eval ⟨d, .build t ps.toArray,ty,pos,af,g⟩=(do pure (.value (←Instr.build t ((ps.toArray).map fun (x:Nat×Operand)=>(x.1,a.eval x.2))))):=rfl
 rw [e2,e]
 simp only [Sem.run_bind,hr,Result.andThen_ok,Sem.run_pure]
def cutAt(ad:Option Addr)(c l s:Nat):Option Addr:=if c=l then ad else ad.map (·.add (l*s))
theorem V.slice{ad:Option Addr}{n c l h s:Nat}{e:TypeId}{lo hi:Option Operand}(ht:P.underlying t=some (.slice e))(hs:(P.info? e).map (·.size)=some s)(hx:a.eval x= .slice ad n c)(hl:Lo a lo l)(hh:Up a n hi h)(h1:l≤h)(h2:h≤c):
 Bi P (.slice t x lo hi none) ty a (.slice (cutAt ad c l s) (h-l) (c-l)):=fun d pos af g w=>by
 have e0:P.elem t=e:=by simp [Program.elem,ht]
 have ht':P.underlying t=some (.slice (P.elem t)):=by rw [e0];exact ht
 have fin:∀{lv hv:Option Value},lo.map a.eval=lv→hi.map a.eval=hv→(Instr.slice t (.slice ad n c) lv hv none).run P w=((sizeOf (P.elem t)).run P w).andThen (fun s w=> .ok (sliced ad l h c s) w)→
  (execOp a.eval ⟨d, .slice t x lo hi none,ty,pos,af,g⟩).run P w= .ok (.value (.slice (cutAt ad c l s) (h-l) (c-l))) w:=by
  intro lv hv e1 e2 hr
  rw [e0,BS w hs,Result.andThen_ok] at hr
  simp only [execOp,hx,e1,e2,Option.map_none,Sem.run_bind,run_sliceAt_slice w t _ lv hv none ht',hr,Result.andThen_ok,Sem.run_pure,sliced,cutAt]
 cases hl with
 | none=>cases hh with
   | none=>exact fin rfl rfl (run_slice_all w t ad n c ht')
   | @some y k2 i2 _ hy hj=>
     unfold Au at hj
     subst hj
     have:=run_slice_h w t ad n c ht' k2 (h:Int) (by omega) (by omega)
     rw [Int.toNat_natCast] at this
     exact fin rfl (by rw [Option.map_some,hy]) this
 | @some y1 k1 i1 _ hy1 hj1=>
   unfold Au at hj1
   subst hj1
   cases hh with
   | none=>
     have:=run_slice_l w t ad n c ht' k1 (l:Int) (by omega) (by omega)
     rw [Int.toNat_natCast] at this
     exact fin (by rw [Option.map_some,hy1]) rfl this
   | @some y k2 i2 _ hy hj=>
     unfold Au at hj
     subst hj
     have:=run_slice_lh w t ad n c ht' k1 k2 (l:Int) (h:Int) (by omega) (by omega) (by omega)
     rw [Int.toNat_natCast,Int.toNat_natCast] at this
     exact fin (by rw [Option.map_some,hy1]) (by rw [Option.map_some,hy]) this
theorem Sl.cutAt{s n c:Nat}{ad:Option Addr}{cs:List Value}(hv:Sl w s (.slice ad n c) n cs)(l h:Nat)(h1:l≤h)(h2:h≤n):Sl w s (.slice (cutAt ad c l s) (h-l) (c-l)) (h-l) ((cs.drop (l*s)).take ((h-l)*s)):=by
 obtain ⟨hlen,a',c',e,hnc,hcm,hor⟩:=hv
 cases e
 have hhs:h*s≤n*s:=Nat.mul_le_mul_right s h2
 have hls:l*s≤h*s:=Nat.mul_le_mul_right s h1
 have hsub:(h-l)*s=h*s-l*s:=Nat.sub_mul h l s
 refine ⟨by simp;omega,_,_,rfl,by omega,by omega,?_⟩
 by_cases hz:h-l=0
 ·exact .inl hz
 rcases hor with h0|⟨b,off,rfl,hc⟩
 ·omega
 refine .inr ⟨b,off+l*s,?_,fun k hk=>?_⟩
 ·unfold Go.Proofs.YtngojkompmcceaaGreatDoor.cutAt
  rw [if_neg (by omega)]
  simp only [Option.map_some,Addr.add_mid]
 rw [Nat.add_assoc,hc (l*s+k) (by omega),List.getElem?_take,if_pos hk,List.getElem?_drop]
end
structure Ix(P:Program)(t e:TypeId)(k:IntKind)(s b:Nat):Prop where
 ht:P.underlying t=some (.slice e)
 ex:∃i z,P.info? e=some i∧i.zero=some z∧i.size=s∧i.bytes=b∧z.cells=Array.replicate s (.int k 0)
 pos:0<s
theorem Ix.mk'{P:Program}{t e:TypeId}{k:IntKind}{s b:Nat}(z:Value)(ht:P.underlying t=some (.slice e))(hi:(P.info? e).map (fun i=>(i.zero,i.size,i.bytes))=some (some z,s,b))(hz:z.cells=Array.replicate s (.int k 0))(hp:0<s):Ix P t e k s b:=by
 obtain ⟨i,h1,h2,h3,h4⟩:=info_parts hi
 exact ⟨ht,⟨i,z,h1,h2,h3,h4,hz⟩,hp⟩
section
variable{P:Program}{W w:World}{rs rs':List Ak}{Q:Exit→Act→World→Prop}{K:Act→World→Prop}{o:Oper}{a:Act}
end
section
variable{P:Program}{W w:World}{a:Act}{x:Operand}{t ty:TypeId}
theorem V.sliceA{b off N l h s q m c:Nat}{e:TypeId}{lo hi:Option Operand}(ht:P.underlying t=some (.array N e))(hs:(P.info? e).map (·.size)=some s)(hx:a.eval x= .pointer (some ⟨b,off,none⟩))(hl:Lo a lo l)(hh:Up a N hi h)(h1:l≤h)(h2:h≤N)(h3:l<N)(hq:off+l*s=q)(hm:h-l=m)(hc:N-l=c):
 Bi P (.slice t x lo hi none) ty a (.slice (some ⟨b,q,none⟩) m c):=fun d pos af g w=>by
 subst hm;subst hc
 have e0:P.elem t=e:=by simp [Program.elem,ht]
 have e1:P.arrayLen t=N:=by simp [Program.arrayLen,ht]
 have ht':P.underlying t=some (.array (P.arrayLen t) (P.elem t)):=by rw [e0,e1];exact ht
 have fin:∀{lv hv:Option Value},lo.map a.eval=lv→hi.map a.eval=hv→(Instr.sliceAt t (.pointer (some ⟨b,off,none⟩)) lv hv none).run P w=((sizeOf (P.elem t)).run P w).andThen (fun s w=> .ok (slicedAt ⟨b,off,none⟩ l h N s) w)→
  (execOp a.eval ⟨d, .slice t x lo hi none,ty,pos,af,g⟩).run P w= .ok (.value (.slice (some ⟨b,q,none⟩) (h-l) (N-l))) w:=by
  intro lv hv e1 e2 hr
  rw [e0,BS w hs,Result.andThen_ok] at hr
  have e3:slicedAt (⟨b,off,none⟩:Addr) l h N s= .slice (some ⟨b,q,none⟩) (h-l) (N-l):=by
   unfold slicedAt
   rw [if_neg (by omega)]
   simp only [Addr.add_mid,hq]
  simp only [execOp,hx,e1,e2,Option.map_none,Sem.run_bind,hr,Result.andThen_ok,Sem.run_pure,e3]
 cases hl with
 | none=>cases hh with
   | none=>exact fin rfl rfl (by have:=run_sliceAt_array_all (P:=P) w t ⟨b,off,none⟩ ht';rwa [e1] at this)
   | @some y k2 i2 _ hy hj=>
     unfold Au at hj
     subst hj
     have:=run_sliceAt_array_h (P:=P) w t ⟨b,off,none⟩ ht' k2 (h:Int) (by omega) (by omega)
     rw [Int.toNat_natCast,e1] at this
     exact fin rfl (by rw [Option.map_some,hy]) this
 | @some y1 k1 i1 _ hy1 hj1=>
   unfold Au at hj1
   subst hj1
   cases hh with
   | none=>
     have:=run_sliceAt_array_l (P:=P) w t ⟨b,off,none⟩ ht' k1 (l:Int) (by omega) (by omega)
     rw [Int.toNat_natCast,e1] at this
     exact fin (by rw [Option.map_some,hy1]) rfl this
   | @some y k2 i2 _ hy hj=>
     unfold Au at hj
     subst hj
     have:=run_sliceAt_array_lh (P:=P) w t ⟨b,off,none⟩ ht' k1 k2 (l:Int) (h:Int) (by omega) (by omega) (by omega)
     rw [Int.toNat_natCast,Int.toNat_natCast,e1] at this
     exact fin (by rw [Option.map_some,hy1]) (by rw [Option.map_some,hy]) this
end
section
variable{W w:World}{rs rs':List Ak}
theorem St.isl{g n:Nat}{l:List Int}(hS:St W w rs)(p:AL (Go.Proofs.YtngojkompmcceaaGreatDoor.arr g n l) rs rs')(hn:n≤9223372036854775807):OD w (.slice (some ⟨g,0,none⟩) n n) l:=
 OD.of_row (hS.arr p).1 (hS.arr p).2 (by unfold maxLen;omega)
end
theorem B4(k:IntKind)(l:List Int)(a:Int):l.map (Value.int k)++[Value.int k a]=(l++[a]).map (Value.int k):=by simp
theorem B5(k:IntKind)(l:List Int)(a b:Int):l.map (Value.int k)++[Value.int k a,Value.int k b]=(l++[a,b]).map (Value.int k):=by simp
theorem B6(k:IntKind)(l:List Int)(a b c:Int):l.map (Value.int k)++[Value.int k a,Value.int k b,Value.int k c]=(l++[a,b,c]).map (Value.int k):=by simp
theorem B7(k:IntKind)(l:List Int)(a b c d:Int):l.map (Value.int k)++[Value.int k a,Value.int k b,Value.int k c,Value.int k d]=(l++[a,b,c,d]).map (Value.int k):=by simp
theorem B8(k:IntKind)(l m:List Int):l.map (Value.int k)++m.map (Value.int k)=(l++m).map (Value.int k):=by simp
theorem BJ{l:List Value}(h:l.all (·.oneCell')=true):∀u∈l,u.oneCell'=true:=List.all_eq_true.1 h
theorem GF(k:IntKind)(l:List Int):∀u∈l.map (Value.int k),u.oneCell'=true:=fun u hu=>by
 obtain ⟨x,_,rfl⟩:=List.mem_map.1 hu;rfl
theorem St.nilk{W w:World}{rs:List Ak}(h:St W w rs)(e:TypeId)(s:Nat)(k:IntKind):St W w (Go.Proofs.YtngojkompmcceaaGreatDoor.own e s none 0 0 (([]:List Int).map (Value.int k))::rs):=h.nil e s
theorem St.allocOwn{W w:World}{rs:List Ak}(h:St W w rs)(e:TypeId)(s n:Nat)(cs:List Value)(hl:cs.length=n*s)(hn:n≤maxLen):St W (w.alloc (.cells cs.toArray e)) (Go.Proofs.YtngojkompmcceaaGreatDoor.own e s (some ⟨w.heap.size,0,none⟩) n n cs::rs):=by
 have ht:cs.toArray.toList.take (n*s)=cs:=by rw [←hl];simp
 obtain ⟨h1,f,h2,h3,h4⟩:=h
 refine ⟨h1.alloc _,w.heap.size::f,List.nodup_cons.2 ⟨fun hm=>by have:=h4.lt _ hm;omega,h2⟩,fun b hb=>?_,[w.heap.size],f,rfl,⟨rfl,hl, .inr ⟨w.heap.size,n,cs.toArray,rfl,Nat.zero_le _,heap_alloc_new w _,Nat.le_refl _,hn,by simpa using hl,ht⟩⟩,h4.loc fun b hb=>?_⟩
 ·rcases List.mem_cons.1 hb with h|h
  ·rw [h];exact h1.sz
  exact h3 b h
 exact heap_alloc_old w _ (h4.lt b hb)
section
variable{P:Program}{W w:World}{rs rs':List Ak}{Q:Exit→Act→World→Prop}{K:Act→World→Prop}{o:Oper}{a:Act}
theorem Cg(hS:St W w rs)(t:TypeId)(n:Nat)(ps:List (Nat×Operand))(ho:o.op= .buildSlice t n ps.toArray)(e:TypeId)(s b:Nat)(el:B3 P t e s b)(vs cs:List Value)(hvs:AV a s 0 ps vs cs)(hn:vs.length=n)(hn0:0<n)(hns:n*s≤2^24)
 (h:∀g w',St W w' (own e s (some ⟨g,0,none⟩) n n cs::rs)→K (a.put o.dst (.slice (some ⟨g,0,none⟩) n n)) w'):o.wp P a w K Q:=by
 obtain ⟨ht,⟨i,z,hi,hz,rfl,hb,hzs⟩,hp⟩:=el
 obtain ⟨h1,h2,hcs,hsz⟩:=hvs.vals
 have hns':0<n*i.size:=Nat.mul_pos hn0 hp
 have hnm:n≤maxLen:=by
  have:n*1≤n*i.size:=Nat.mul_le_mul_left _ hp
  unfold maxLen;omega
 have hcl:∀us:List Value,(∀v∈us,v.cells.size=i.size)→(us.flatMap (·.cells.toList)).length=us.length*i.size:=by
  intro us
  induction us with
  | nil=>intro _;simp
  | cons u us ih=>
    intro hu
    have h1:=hu u (by simp)
    rw [List.flatMap_cons,List.length_append,ih fun v hv=>hu v (by simp [hv]),List.length_cons,Nat.add_mul,Nat.one_mul,Array.length_toList,h1,Nat.add_comm]
 have hcl':cs.length=n*i.size:=by rw [←hcs,hcl vs hsz,hn]
 refine Go.wp_buildSlice t e n ps.toArray ho (cs.toArray) i z ht hi hz (by omega) (by omega) ?_ (h _ _ (hS.allocOwn e i.size n cs hcl' hnm))
 have h3:=Fu i.size vs 0 [] (((List.range (n*i.size)).map (fun j=>z.cells[j%z.cells.size]!))) (by simp) (by simp [hn]) hsz
 simp only [List.nil_append] at h3
 rw [←hcs]
 have e1:(Array.map (fun x:Nat×Operand=>(x.1,a.eval x.2)) ps.toArray).toList=(vs.zipIdx 0).map fun x=>(x.2,x.1):=by
  rw [←h1];simp
 rw [e1]
 rw [←h3]
 congr 1
 apply Array.ext_getElem?
 intro j
 simp only [Array.getElem?_map,Array.getElem?_range,List.getElem?_toArray,List.getElem?_map]
 by_cases hj:j<n*i.size
 ·simp [hj]
 simp [hj]
end
end Go.Proofs.YtngojkompmcceaaGreatDoor
namespace Go.Proofs.YtngojkompmcceaaGreatDoor
attribute [local irreducible] Region.wanted
set_option linter.unusedVariables false
set_option maxRecDepth 100000
set_option maxHeartbeats 8000000
theorem Qc:Ix Tryz.prog 46 3 .i64 1 8:=Ix.mk' (.int .i64 0) Tryz.underlying46 AA AA (by decide)
end Go.Proofs.YtngojkompmcceaaGreatDoor
namespace Go.Proofs.YtngojkompmcceaaGreatDoor
attribute [local irreducible] Region.wanted
open Go.RowKit
set_option linter.unusedVariables false
set_option maxRecDepth 100000
set_option maxHeartbeats 8000000
section
variable{P:Program}{W w:World}{rs rs':List Ak}{tmps:Array Value}
def KD(tmps:Array Value):ResultVar→Sem Value
 | .tmp t=>pure (tmps.getD t undef)
 | .cell a t=>do loadVar t (←asAddr (tmps.getD a undef))
def AD(P:Program)(tmps:Array Value)(w:World)(r:ResultVar)(v:Value):Prop:=(KD tmps r).run P w= .ok v w
theorem AD.tmp{t:Tmp}{v:Value}(h:tmps.getD t undef=v):AD P tmps w (.tmp t) v:=by
 show (pure (tmps.getD t undef):Sem Value).run P w= .ok v w
 rw [h];rfl
theorem AD.row{p g n:Nat}{ty:TypeId}{cs:List Value}(hp:tmps.getD p undef= .pointer (some ⟨g,0,none⟩))(h1:DB P ty n)(hn:cs.length=n)(hc:w.rangeAt g 0 cs):AD P tmps w (.cell p ty) (.agg cs.toArray):=by
 show (do loadVar ty (←asAddr (tmps.getD p undef)):Sem Value).run P w= .ok (.agg cs.toArray) w
 rw [hp]
 obtain ⟨hr,hs⟩:=h1
 cases hu:P.underlying ty with
 | none=>rw [hu] at hr;cases hr
 | some d=>
   rw [hu,Option.map_some,Option.some.injEq] at hr
   exact run_loadVar_mid (P:=P) w g 0 ty cs d hc hu hr (by rw [hs,hn])
theorem AD.arr{p g n:Nat}{ty:TypeId}{l:List Int}(hS:St W w rs)(hp:tmps.getD p undef= .pointer (some ⟨g,0,none⟩))(h1:DB P ty n)(pl:AL (Go.Proofs.YtngojkompmcceaaGreatDoor.arr g n l) rs rs'):AD P tmps w (.cell p ty) (.agg (iv l)):=by
 obtain ⟨hr,hn⟩:=hS.arr pl
 exact AD.row (cs:=l.map (Value.int .i64)) hp h1 (by simpa using hn) hr.range
theorem AD.blk{p g n:Nat}{ty:TypeId}{cs:List Value}(hS:St W w rs)(hp:tmps.getD p undef= .pointer (some ⟨g,0,none⟩))(h1:DB P ty n)(pl:AL (Go.Proofs.YtngojkompmcceaaGreatDoor.blk g cs) rs rs')(hn:cs.length=n):AD P tmps w (.cell p ty) (.agg cs.toArray):=
 AD.row hp h1 hn (hS.blk pl).1.range
inductive DA(P:Program)(tmps:Array Value)(w:World):List ResultVar→List Value→Prop
 | nil:DA P tmps w [] []
 | cons {r:ResultVar} {v:Value} {rs:List ResultVar} {vs:List Value} (h:AD P tmps w r v) (t:DA P tmps w rs vs):DA P tmps w (r::rs) (v::vs)
theorem DA.run{rs:List ResultVar}{vs:List Value}(h:DA P tmps w rs vs):(rs.mapM (KD tmps)).run P w= .ok vs w:=by
 induction h with
 | nil=>rfl
 | @cons r v rs vs h t ih=>
   rw [List.mapM_cons]
   have h':=h
   unfold AD at h'
   simp only [Sem.run_bind]
   rw [h',Result.andThen_ok,ih,Result.andThen_ok]
   rfl
theorem GK{fn:Func}{xs:List ResultVar}{vs:List Value}(hr:fn.results=xs.toArray)(h:DA P tmps w xs vs):
 (results fn tmps).run P w= .ok (if h:vs.toArray.size=1 then vs.toArray[0] else .tuple vs.toArray) w:=by
 have e:results fn tmps=(do
  let vs ←fn.results.mapM (KD tmps)
  pure (if h:vs.size=1 then vs[0] else .tuple vs)):=by
  unfold results
  congr 1
 have h2:=h.run
 rw [e,hr,List.mapM_toArray,Sem.run_bind,Sem.run_map,h2]
 rfl
theorem AJ{fn:Func}{R:Ending→World→Prop}{a:Act}{xs:List ResultVar}{vs:List Value}(hr:fn.results=xs.toArray)(h:DA P a.tmps w xs vs)(hl:vs.length≠1)(hd:a.defers=[])(hR:R (.returned (.tuple vs.toArray)) w):bodyPost P fn R .ret a w:=by
 refine bodyPost_ret (v:= .tuple vs.toArray) ?_ hd hR
 rw [GK hr h,dif_neg (by simpa using hl)]
theorem Co{fn:Func}{R:Ending→World→Prop}{a:Act}{x:ResultVar}{v:Value}(hr:fn.results=#[x])(h:AD P a.tmps w x v)(hd:a.defers=[])(hR:R (.returned v) w):bodyPost P fn R .ret a w:=by
 refine bodyPost_ret (v:=v) ?_ hd hR
 rw [GK (xs:=[x]) hr (DA.cons h DA.nil)]
 rfl
end
section
variable{P:Program}{w:World}{Q:Exit→Act→World→Prop}{K:Act→World→Prop}{o:Oper}{a:Act}
theorem Bc{f:FuncId}{x:Operand}{xs:List Operand}{ats:Array TypeId}{Ct:Array Value}(ho:o.op= .call {callee:= .value x,args:=xs.toArray,argTypes:=ats})(hx:a.eval x= .func (.func f) #[] Ct)
 (hcall:∀(args:Array Value)(w:World),(callFunc f args).run P w= .ok (.enter f args) w)
 {R:Ending→World→Prop} (hc:Calls P f ((xs.map a.eval).toArray++Ct) w R) (h:∀e w',R e w'→∃v,e= .returned v∧K (a.put o.dst v) w'):o.wp P a w K Q:=by
 have e1:(execOp a.eval o).run P w=(callFunc f ((xs.map a.eval).toArray++Ct)).run P w:=by
  unfold execOp
  rw [ho]
  have e2:(#[]++(xs.toArray).map a.eval++Ct:Array Value)=(xs.map a.eval).toArray++Ct:=by simp
  rw [←e2]
  simp only [resolve,hx]
  rfl
 unfold Oper.wp
 rw [e1,hcall,Oper.upon_enter]
 refine hc.mono fun e w' hR=>?_
 obtain ⟨v,rfl,h2⟩:=h e w' hR
 exact h2
end
theorem JW(n m:Int)(w:World)(hm:0<m)(hm2:m≤9223372036854775807):
 Calls Tryz.prog 8 #[.int .i64 n, .int .i64 m] w fun e w'=>e= .returned (.int .i64 (n%m))∧w=w':=by
 have h0:=E3 n m hm
 have h1:=E4 n m hm
 have hb:n.tmod m≤m:=by have:=Int.tmod_lt_of_pos n hm;omega
 by_cases h:n.tmod m<0
 ·have H:Hid (n.tmod m+m=n%m):=h0 h
  clear h0 h1
  have hb2: -m<n.tmod m:=by have:=Int.lt_tmod_of_pos n hm;omega
  go_enter Tryz.func8,Tryz.ntmps8
  go_wp2
  go_ret
  exact ⟨Do H.out,rfl⟩
 have H:Hid (n.tmod m=n%m):=h1 (by omega)
 clear h0 h1
 have h3:0≤n.tmod m:=by omega
 clear h
 go_enter Tryz.func8,Tryz.ntmps8
 go_wp2
 go_ret
 exact ⟨Do H.out,rfl⟩
theorem Hq(n d:Int)(w:World)(h0:0≤n)(h1:n≤2305843009213693951)(h2:1≤d)(h3:d≤1000000000):
 Calls Tryz.prog 48 #[.int .i64 n, .int .i64 d] w fun e w'=>e= .returned (.int .i64 (E9 n d))∧w=w':=by
 have H:Hid ((2*n+d)/(2*d)=E9 n d):=by unfold Hid E9;rw [if_neg (by omega)]
 have hn:¬n<0:=by omega
 go_enter Tryz.func48,Tryz.ntmps48
 go_wp2_with fail
 go_ret
 exact ⟨Do H.out,rfl⟩
theorem FA(n d:Int)(w:World)(h0: -2305843009213693951≤n)(h1:n≤2305843009213693951)(h2:1≤d)(h3:d≤1000000000):
 Calls Tryz.prog 48 #[.int .i64 n, .int .i64 d] w fun e w'=>e= .returned (.int .i64 (E9 n d))∧w=w':=by
 by_cases hn:n<0
 ·have hb:=KE (-n) d 2305843009213693951 (by omega) (by omega) h2
  have H:Hid (-E9 (-n) d=E9 n d):=by have:=O5 n d h2;unfold Hid;omega
  obtain ⟨hb1,hb2⟩:=hb
  go_enter Tryz.func48,Tryz.ntmps48
  go_wp2_with (go_at_call 48;refine (Hq (-n) d _ (by omega) (by omega) h2 h3).mono ?_;rintro e w' ⟨rfl,rfl⟩)
  go_ret
  exact ⟨Do H.out,rfl⟩
 exact Hq n d w (by omega) h1 h2 h3
theorem Hx(a1 a2 a3 a4 b1 b2 b3 b4 c1 c2 c3 c4 r g b:Int)(w:World)
 (hr:0≤r∧r≤255) (hg:0≤g∧g≤255) (hb:0≤b∧b≤255)
 (ha1: -200000000≤a1∧a1≤200000000) (ha2: -200000000≤a2∧a2≤200000000) (ha3: -200000000≤a3∧a3≤200000000) (ha4: -200000000≤a4∧a4≤200000000)
 (hb1: -200000000≤b1∧b1≤200000000) (hb2: -200000000≤b2∧b2≤200000000) (hb3: -200000000≤b3∧b3≤200000000) (hb4: -200000000≤b4∧b4≤200000000)
 (hc1: -200000000≤c1∧c1≤200000000) (hc2: -200000000≤c2∧c2≤200000000) (hc3: -200000000≤c3∧c3≤200000000) (hc4: -200000000≤c4∧c4≤200000000):
 Calls Tryz.prog 52 #[.agg #[.int .i64 a1, .int .i64 a2, .int .i64 a3, .int .i64 a4, .int .i64 b1, .int .i64 b2, .int .i64 b3, .int .i64 b4, .int .i64 c1, .int .i64 c2, .int .i64 c3, .int .i64 c4], .agg #[.int .i64 r, .int .i64 g, .int .i64 b]] w
  fun e w'=>e= .returned (.tuple #[.int .i64 (EK (E9 (a4+a1*r+a2*g+a3*b) 65536)), .int .i64 (EK (E9 (b4+b1*r+b2*g+b3*b) 65536)), .int .i64 (EK (E9 (c4+c1*r+c2*g+c3*b) 65536)), .int .i64 0])∧AP w w':=by
 have ⟨pa1,qa1⟩:=Eb a1 r 200000000 255 ha1 hr
 have ⟨pa2,qa2⟩:=Eb a2 g 200000000 255 ha2 hg
 have ⟨pa3,qa3⟩:=Eb a3 b 200000000 255 ha3 hb
 have ⟨pb1,qb1⟩:=Eb b1 r 200000000 255 hb1 hr
 have ⟨pb2,qb2⟩:=Eb b2 g 200000000 255 hb2 hg
 have ⟨pb3,qb3⟩:=Eb b3 b 200000000 255 hb3 hb
 have ⟨pc1,qc1⟩:=Eb c1 r 200000000 255 hc1 hr
 have ⟨pc2,qc2⟩:=Eb c2 g 200000000 255 hc2 hg
 have ⟨pc3,qc3⟩:=Eb c3 b 200000000 255 hc3 hb
 simp only [Int.reduceMul,Int.reduceNeg] at pa1 pa2 pa3 pb1 pb2 pb3 pc1 pc2 pc3 qa1 qa2 qa3 qb1 qb2 qb3 qc1 qc2 qc3
 obtain ⟨hr1,hr2⟩:=hr
 obtain ⟨hg1,hg2⟩:=hg
 obtain ⟨hb1',hb2'⟩:=hb
 obtain ⟨ha41,ha42⟩:=ha4
 obtain ⟨hb41,hb42⟩:=hb4
 obtain ⟨hc41,hc42⟩:=hc4
 clear ha1 ha2 ha3 hb1 hb2 hb3 hc1 hc2 hc3
 go_enter Tryz.func52,Tryz.ntmps52
 go_wp2_with (first|(with_reducible refine wp_loop_rounds 4 ?_)|(with_reducible rw [rounds_succ])|(go_at_call 48;refine (FA _ _ _ (by omega) (by omega) (by omega) (by omega)).mono ?_;rintro e w' ⟨rfl,rfl⟩))
 go_quiet (fail)
 go_wp2
 refine bodyPost_ret (A7 rfl _ _ _) rfl ?_
 exact ⟨rfl,by repeat (first|exact AP.refl _|apply AP.drew|apply AP.drewN|apply AP.alloc|refine AP.setCell ?_ (by simp;omega) _)⟩
def Pb(r g b:Int):Int:=EK (E9 (19595*r+38470*g+7471*b) 65536)
def PZ(r g b:Int):Int:=EK (E9 (8388608+ -11059*r+ -21709*g+32768*b) 65536)
def Pa(r g b:Int):Int:=EK (E9 (8388608+32768*r+ -27439*g+ -5329*b) 65536)
def Fz(y _u v:Int):Int:=EK (E9 (65536*y+91881*v-11760768) 65536)
def Fy(y u v:Int):Int:=EK (E9 (65536*y+ -22554*u+ -46802*v+8877568) 65536)
def Fx(y u _v:Int):Int:=EK (E9 (65536*y+116130*u-14864640) 65536)
theorem Qs(r g b:Int):0≤Pb r g b∧Pb r g b≤255:=Bm _
theorem Qq(r g b:Int):0≤PZ r g b∧PZ r g b≤255:=Bm _
theorem Qr(r g b:Int):0≤Pa r g b∧Pa r g b≤255:=Bm _
theorem KR(r g b:Int)(w:World)(hr:0≤r∧r≤255)(hg:0≤g∧g≤255)(hb:0≤b∧b≤255):
 Calls Tryz.prog 32 #[.int .i64 r, .int .i64 g, .int .i64 b] w fun e w'=>e= .returned (.tuple #[.int .i64 (Pb r g b), .int .i64 (PZ r g b), .int .i64 (Pa r g b), .int .i64 0])∧AP w w':=by
 go_enter Tryz.func32,Tryz.ntmps32
 go_wp2_with (go_at_call 52;refine (Hx 19595 38470 7471 0 (-11059) (-21709) 32768 8388608 32768 (-27439) (-5329) 8388608 r g b _ hr hg hb (by omega) (by omega) (by omega) (by omega) (by omega) (by omega) (by omega) (by omega) (by omega) (by omega) (by omega) (by omega)).mono ?_;rintro e w' ⟨rfl,hgr⟩)
 refine bodyPost_ret (A7 rfl _ _ _) rfl ?_
 refine ⟨Nd ?_,?_⟩
 ·simp only [Pb,PZ,Pa];rfl
 exact (by repeat (first|exact AP.refl _|apply AP.drew|apply AP.drewN|apply AP.alloc):AP w _).trans hgr
theorem Ii(r g b:Int)(w:World)(hr:0≤r∧r≤255)(hg:0≤g∧g≤255)(hb:0≤b∧b≤255):
 Calls Tryz.prog 33 #[.int .i64 r, .int .i64 g, .int .i64 b] w fun e w'=>e= .returned (.tuple #[.int .i64 (Fz r g b), .int .i64 (Fy r g b), .int .i64 (Fx r g b), .int .i64 0])∧AP w w':=by
 go_enter Tryz.func33,Tryz.ntmps33
 go_wp2_with (go_at_call 52;refine (Hx 65536 0 91881 (-11760768) 65536 (-22554) (-46802) 8877568 65536 116130 0 (-14864640) r g b _ hr hg hb (by omega) (by omega) (by omega) (by omega) (by omega) (by omega) (by omega) (by omega) (by omega) (by omega) (by omega) (by omega)).mono ?_;rintro e w' ⟨rfl,hgr⟩)
 refine bodyPost_ret (A7 rfl _ _ _) rfl ?_
 refine ⟨Nd ?_,?_⟩
 ·have e1:Fz r g b=EK (E9 (-11760768+65536*r+91881*b) 65536):=by unfold Fz;congr 2;omega
  have e2:Fy r g b=EK (E9 (8877568+65536*r+ -22554*g+ -46802*b) 65536):=by unfold Fy;congr 2;omega
  have e3:Fx r g b=EK (E9 (-14864640+65536*r+116130*g) 65536):=by unfold Fx;congr 2;omega
  rw [e1,e2,e3];rfl
 exact (by repeat (first|exact AP.refl _|apply AP.drew|apply AP.drewN|apply AP.alloc):AP w _).trans hgr
def By(p:Int→Bool)(xs:List Int):Int:=match xs.findIdx? p with|some i=>(i:Int)|none=> -1
theorem Gv(p:Int→Bool)(xs:List Int)(i:Nat)(h:i<xs.length)(hp:p (AG xs i)=true)(hpre:∀j,j<i→p (AG xs j)=false):By p xs=i:=by
 have:xs.findIdx? p=some i:=by
  rw [List.findIdx?_eq_some_iff_getElem]
  refine ⟨h,by simpa [AG,List.getD,List.getElem?_eq_getElem h] using hp,fun j hj=>?_⟩
  have:=hpre j hj
  simpa [AG,List.getD,List.getElem?_eq_getElem (show j<xs.length by omega)] using this
 simp [By,this]
theorem Gu(p:Int→Bool)(xs:List Int)(hpre:∀j,j<xs.length→p (AG xs j)=false):By p xs= -1:=by
 have:xs.findIdx? p=none:=by
  rw [List.findIdx?_eq_none_iff]
  intro x hx
  obtain ⟨j,hj,rfl⟩:=List.getElem_of_mem hx
  have:=hpre j hj
  simpa [AG,List.getD,List.getElem?_eq_getElem hj] using this
 simp [By,this]
theorem IQ(p:Int→Bool)(xs:List Int):decide (0≤By p xs)=xs.any p:=by
 unfold By
 rw [Bool.eq_iff_iff,decide_eq_true_eq,List.any_eq_true]
 cases h:xs.findIdx? p with
 | none=>
   rw [List.findIdx?_eq_none_iff] at h
   simp only [Int.reduceNeg]
   constructor
   ·intro h';omega
   rintro ⟨x,hx,hp⟩;rw [h x hx] at hp;cases hp
 | some i=>
   rw [List.findIdx?_eq_some_iff_getElem] at h
   obtain ⟨hi,hp,_⟩:=h
   exact ⟨fun _=>⟨_,List.getElem_mem hi,hp⟩,fun _=>by dsimp only;omega⟩
theorem JF(p:Int→Bool)(xs:List Int): -1≤By p xs:=by
 unfold By;split<;>omega
theorem Gx(w:World)(v:Value)(xs:List Int)(hs:OD w v xs)(K:Nat)(Ct:Array Value)(p:Int→Bool)(hk:∀(args:Array Value)(w:World),(callFunc K args).run Tryz.prog w= .ok (.enter K args) w)
 (hf:∀n,Calls Tryz.prog K (#[.int .i64 n]++Ct) w fun e w'=>e= .returned (.bool (p n))∧w=w'):
 Calls Tryz.prog 93 #[v, .func (.func K) #[] Ct] w fun e w'=>e= .returned (.int .i64 (By p xs))∧w=w':=by
 obtain ⟨a,c,rfl,hc1,hc2,ha⟩:=hs.open
 have HF:=AC hf
 clear hf
 go_enter Tryz.func93,Tryz.ntmps93
 go_wp2_with fail
 go_loopg [8] xs.length (fun gk xv wr=>∃(i:Nat),gk+i=xs.length∧xv= .int .i64 i∧(∀j,j<i→p (AG xs j)=false)∧wr=w)
 case atStart=>exact ⟨0,rfl,rfl,fun j hj=>by omega,rfl⟩
 case round=>
  obtain ⟨i,hi,rfl,hpre,rfl⟩:=hrel
  have hi':i≤xs.length:=by omega
  have HP:=AC hpre
  clear hpre
  by_cases hlt:i<xs.length
  ·obtain ⟨ba,oa,rfl,hca⟩:=ha i hlt
   have h1:=hca i hlt
   clear ha hca
   have HM:Hid (gk-1+(i+1)=xs.length):=by unfold Hid;omega
   have HG:Hid (gk-1<gk):=by unfold Hid;omega
   clear hi
   go_wp2_with fail
   refine (HF.out (AG xs i)).mono ?_
   rintro e w' ⟨rfl,rfl⟩
   by_cases hp:p (AG xs i)=true
   ·have HX:=AC (Gv p xs i hlt hp HP.out)
    rw [hp]
    clear hp
    go_wp2_with fail
    go_ret
    exact ⟨Do HX.out.symm,rfl⟩
   have hp':p (AG xs i)=false:=by simpa using hp
   have HX:Hid (∀j,j<i+1→p (AG xs j)=false):=fun j hj=>by
    by_cases hji:j=i
    ·subst hji;exact hp'
    exact HP.out j (by omega)
   rw [hp']
   clear hp hp'
   go_wp2_with fail
   go_roundg (gk-1)
   case measure=>exact HG.out
   case rel=>exact ⟨i+1,HM.out,by go_num,HX.out,rfl⟩
  have HX:=AC (Gu p xs (fun j hj=>HP.out j (by omega)))
  clear ha
  go_wp2_with fail
  go_ret
  exact ⟨Do HX.out.symm,rfl⟩
theorem Az(w:World)(v:Value)(xs:List Int)(hs:OD w v xs)(K:Nat)(Ct:Array Value)(p:Int→Bool)(hk:∀(args:Array Value)(w:World),(callFunc K args).run Tryz.prog w= .ok (.enter K args) w)
 (hf:∀n,Calls Tryz.prog K (#[.int .i64 n]++Ct) w fun e w'=>e= .returned (.bool (p n))∧w=w'):
 Calls Tryz.prog 65 #[v, .func (.func K) #[] Ct] w fun e w'=>e= .returned (.bool (xs.any p))∧w=w':=by
 have HA:=AC (IQ p xs)
 have hb:=JF p xs
 have HF:=AC (Gx w v xs hs K Ct p hk hf)
 clear hf hs
 go_enter Tryz.func65,Tryz.ntmps65
 go_wp2_with (go_at_call 93;refine HF.out.mono ?_;rintro e w' ⟨rfl,rfl⟩)
 go_ret
 exact ⟨Eh HA.out,rfl⟩
def BM(l:List Int)(lo hi:Int):Bool:= !l.any fun n=>decide (n<lo)||decide (hi<n)
theorem BV(l:List Int)(lo hi:Int):BM l lo hi=true↔∀i,i<l.length→lo≤AG l i∧AG l i≤hi:=by
 unfold BM
 rw [Bool.not_eq_true',List.any_eq_false]
 constructor
 ·intro h i hi
  have:=h l[i] (List.getElem_mem hi)
  simp only [Bool.or_eq_true,decide_eq_true_eq,not_or] at this
  simp only [AG,List.getD,List.getElem?_eq_getElem hi,Option.getD_some]
  omega
 intro h x hx
 obtain ⟨j,hj,rfl⟩:=List.getElem_of_mem hx
 have:=h j hj
 simp only [AG,List.getD,List.getElem?_eq_getElem hj,Option.getD_some] at this
 simp only [Bool.or_eq_true,decide_eq_true_eq,not_or]
 omega
end Go.Proofs.YtngojkompmcceaaGreatDoor
