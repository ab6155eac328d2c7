/- What the laws OwnMemory need, part 2. -/
import Derived.Test.YtkcbhcajfcfmmaaDoorBaseOZ1
import Derived.ProofKit
import Derived.OpenShut
import Derived.ChangeOld
import Derived.Deep.Slices
namespace Go.Proofs.YtkcbhcajfcfmmaaDoor
open Go.RowKit
set_option linter.unusedVariables false
set_option maxRecDepth 100000
set_option maxHeartbeats 8000000
def CG(P:Program)(op:Op)(ty:TypeId)(a:Act)(v:Value):Prop:=
 ∀(d:Option Tmp)(pos:String)(af:Array Edge)(g:Option (Nat×Bool))(w:World),(execOp a.eval ⟨d,op,ty,pos,af,g⟩).run P w= .ok (.value v) w
section
variable{P:Program}{ops:Array Oper}{Q:Exit→Act→World→Prop}{rest:List Oper}{a:Act}{w:World}{d:Option Tmp}{op:Op}{ty:TypeId}{pos:String}{af:Array Edge}{g:Option (Nat×Bool)}
theorem Dr(v:Value)(K:Act→World→Prop)(h:K (a.put d v) w):(Oper.mk d (.move (.const v)) ty pos af g).wp P a w K Q:=h
theorem AP(v:Value)(hv:CG P op ty a v)(hw:Region.wanted ⟨d,op,ty,pos,af,g⟩ (yielded ops a.tmps)=true)(h:(Oper.mk d (.move (.const v)) ty pos af g).wp P a w (wpList P ops Q rest) Q):wpList P ops Q (⟨d,op,ty,pos,af,g⟩::rest) a w:=by
 refine NA hw ?_
 unfold Oper.wp
 rw [hv d pos af g w]
 exact h
theorem No(b:Bool)(hv:CG P op ty a (.bool b))(hw:Region.wanted ⟨d,op,ty,pos,af,g⟩ (yielded ops a.tmps)=true)(ht:b=true→(Oper.mk d (.move (.const (.bool true))) ty pos af g).wp P a w (wpList P ops Q rest) Q)
 (hf:b=false→(Oper.mk d (.move (.const (.bool false))) ty pos af g).wp P a w (wpList P ops Q rest) Q):wpList P ops Q (⟨d,op,ty,pos,af,g⟩::rest) a w:=by
 cases b
 ·exact AP _ hv hw (hf rfl)
 exact AP _ hv hw (ht rfl)
theorem Cq(p:Prop)[Decidable p](hv:CG P op ty a (.bool (decide p)))(hw:Region.wanted ⟨d,op,ty,pos,af,g⟩ (yielded ops a.tmps)=true)(ht:p→(Oper.mk d (.move (.const (.bool true))) ty pos af g).wp P a w (wpList P ops Q rest) Q)
 (hf:¬p→(Oper.mk d (.move (.const (.bool false))) ty pos af g).wp P a w (wpList P ops Q rest) Q):wpList P ops Q (⟨d,op,ty,pos,af,g⟩::rest) a w:=
 No _ hv hw (fun h=>ht (of_decide_eq_true h)) (fun h=>hf (of_decide_eq_false h))
theorem AC{d:Tmp}{v:Value}(h:(Oper.mk (some d) (.move (.const v)) 0 "" #[] none).wp P a w (wpList P ops Q rest) Q):wpList P ops Q rest (a.put (some d) v) w:=h
theorem AK{md:Region.Mode}{D:List Nat}{S:World→Prop}{fuel:Nat}{listed:Array Bool}{d:Tmp}{v:Value}(h:(Oper.mk (some d) (.move (.const v)) 0 "" #[] none).wp P a w (AH P md ops Q D S fuel listed) Q):AH P md ops Q D S fuel listed (a.put (some d) v) w:=h
theorem BD{c x y:Operand}(hc:a.eval c= .bool true)(hw:Region.wanted ⟨d, .pick c x y,ty,pos,af,g⟩ (yielded ops a.tmps)=true)(h:(Oper.mk d (.move x) ty pos af g).wp P a w (wpList P ops Q rest) Q):wpList P ops Q (⟨d, .pick c x y,ty,pos,af,g⟩::rest) a w:=by
 refine NA hw ?_
 unfold Oper.wp execOp at*
 simp only [hc,asBool,Sem.run_bind,Sem.run_pure,Result.andThen_ok,if_true] at*
 exact h
theorem A9{c x y:Operand}(hc:a.eval c= .bool false)(hw:Region.wanted ⟨d, .pick c x y,ty,pos,af,g⟩ (yielded ops a.tmps)=true)(h:(Oper.mk d (.move y) ty pos af g).wp P a w (wpList P ops Q rest) Q):wpList P ops Q (⟨d, .pick c x y,ty,pos,af,g⟩::rest) a w:=by
 refine NA hw ?_
 unfold Oper.wp execOp at*
 simp only [hc,asBool,Sem.run_bind,Sem.run_pure,Result.andThen_ok,Bool.false_eq_true,if_false] at*
 exact h
end
def At(z:Int)(j:Nat):Prop:=z=(j:Int)
theorem At.cast{j:Nat}:At (j:Int) j:=rfl
theorem At.l0:At 0 0:=rfl
theorem At.add{x y:Int}{i j:Nat}(h:At x i)(k:At y j):At (x+y) (i+j):=by unfold At at*;omega
theorem At.mul{x y:Int}{i j:Nat}(h:At x i)(k:At y j):At (x*y) (i*j):=by unfold At at*;rw [h,k];push_cast;rfl
theorem At.div{x y:Int}{i j:Nat}(h:At x i)(k:At y j):At (x/y) (i/j):=by unfold At at*;rw [h,k];push_cast;rfl
theorem At.mod{x y:Int}{i j:Nat}(h:At x i)(k:At y j):At (x%y) (i%j):=by unfold At at*;rw [h,k];push_cast;rfl
theorem At.min{x y:Int}{i j:Nat}(h:At x i)(k:At y j):At (Min.min x y) (Min.min i j):=by unfold At at*;omega
theorem At.max{x y:Int}{i j:Nat}(h:At x i)(k:At y j):At (Max.max x y) (Max.max i j):=by unfold At at*;omega
class Dx(z:Int)(j:outParam Nat):Prop where
 out:At z j
instance Dx.cast{j:Nat}:Dx (j:Int) j:=⟨rfl⟩
instance Dx.l0:Dx 0 0:=⟨rfl⟩
instance Dx.l1:Dx 1 1:=⟨rfl⟩
instance Dx.l8:Dx 8 8:=⟨rfl⟩
instance Dx.add{x y:Int}{i j:Nat}[h:Dx x i][k:Dx y j]:Dx (x+y) (i+j):=⟨h.out.add k.out⟩
theorem At.auto{z:Int}{j:Nat}[h:Dx z j]:At z j:=h.out
theorem At.sub{x y:Int}{i j:Nat}(h:At x i)(k:At y j)(l:j≤i):At (x-y) (i-j):=by unfold At at*;omega
theorem At.toNat{x:Int}(h:0≤x):At x x.toNat:=by unfold At;omega
section
variable{P:Program}{a:Act}{x y z:Operand}{t u ty:TypeId}{m n:Int}{k:IntKind}
theorem V.as{op:Op}{m':Int}(h:CG P op ty a (.int k m))(e:m=m'):CG P op ty a (.int k m'):=e▸ h
theorem V.add(hx:a.eval x= .int k m)(hy:a.eval y= .int k n):CG P (.binOp .add t x y u) ty a (.int k (k.wrap (m+n))):=fun d pos af g w=>by
 simp only [execOp,hx,hy,binOp_add,Op.intArith,eqGuard];rfl
theorem V.sub(hx:a.eval x= .int k m)(hy:a.eval y= .int k n):CG P (.binOp .sub t x y u) ty a (.int k (k.wrap (m-n))):=fun d pos af g w=>by
 simp only [execOp,hx,hy,binOp_sub,Op.intArith,eqGuard];rfl
theorem V.mul(hx:a.eval x= .int k m)(hy:a.eval y= .int k n):CG P (.binOp .mul t x y u) ty a (.int k (k.wrap (m*n))):=fun d pos af g w=>by
 simp only [execOp,hx,hy,binOp_mul,Op.intArith,eqGuard];rfl
theorem V.addI(hx:a.eval x= .int .i64 m)(hy:a.eval y= .int .i64 n)(h: -9223372036854775808≤m+n∧m+n≤9223372036854775807):CG P (.binOp .add t x y u) ty a (.int .i64 (m+n)):=by
 have:=V.add (P:=P) (t:=t) (u:=u) (ty:=ty) hx hy;rwa [IntWalk.i64_in _ h] at this
theorem V.subR(hk:k≠ .i64)(hx:a.eval x= .int k m)(hy:a.eval y= .int k n):CG P (.binOp .sub t x y u) ty a (.int k (k.wrap (m-n))):=V.sub hx hy
theorem V.subI(hx:a.eval x= .int .i64 m)(hy:a.eval y= .int .i64 n)(h: -9223372036854775808≤m-n∧m-n≤9223372036854775807):CG P (.binOp .sub t x y u) ty a (.int .i64 (m-n)):=by
 have:=V.sub (P:=P) (t:=t) (u:=u) (ty:=ty) hx hy;rwa [IntWalk.i64_in _ h] at this
theorem V.mulI(hx:a.eval x= .int .i64 m)(hy:a.eval y= .int .i64 n)(h: -9223372036854775808≤m*n∧m*n≤9223372036854775807):CG P (.binOp .mul t x y u) ty a (.int .i64 (m*n)):=by
 have:=V.mul (P:=P) (t:=t) (u:=u) (ty:=ty) hx hy;rwa [IntWalk.i64_in _ h] at this
theorem V.shl{yk:IntKind}{j:Nat}(hx:a.eval x= .int k m)(hy:a.eval y= .int yk n)(hj:At n j)(h:j<64)(hk:k.bits=64):CG P (.binOp .shl t x y u) ty a (.int k (k.wrap (m*2^j))):=fun d pos af g w=>by
 unfold At at hj
 have h0:¬n<0:=by omega
 have hm:Min.min n.toNat k.bits=j:=by omega
 simp only [execOp,hx,hy,binOp_shl,Op.shift,eqGuard,if_neg h0,hm];rfl
theorem V.shlI{yk:IntKind}{j:Nat}(hx:a.eval x= .int .i64 m)(hy:a.eval y= .int yk n)(hj:At n j)(h:j<64)(h1: -9223372036854775808≤m*2^j∧m*2^j≤9223372036854775807):CG P (.binOp .shl t x y u) ty a (.int .i64 (m*2^j)):=by
 have:=V.shl (P:=P) (t:=t) (u:=u) (ty:=ty) hx hy hj h rfl;rwa [IntWalk.i64_in _ h1] at this
theorem V.shl1{yk:IntKind}{j:Nat}(hx:a.eval x= .int .i64 1)(hy:a.eval y= .int yk n)(hj:At n j)(h:j<63):CG P (.binOp .shl t x y u) ty a (.int .i64 (2^j)):=by
 have e:(2:Int)^j≤4611686018427387904:=by
  have:=Nat.pow_le_pow_right (n:=2) (by omega) (show j≤62 by omega)
  have h2:(2:Int)^j=((2^j:Nat):Int):=by push_cast;rfl
  omega
 have e0:(0:Int)≤2^j:=Int.pow_nonneg (by omega)
 have:=V.shl (P:=P) (t:=t) (u:=u) (ty:=ty) hx hy hj (by omega) rfl
 rwa [Int.one_mul,IntWalk.i64_in _ (by omega)] at this
theorem V.shr{yk:IntKind}{j:Nat}(hx:a.eval x= .int k m)(hy:a.eval y= .int yk n)(hj:At n j)(h:j<64)(hk:k.bits=64):CG P (.binOp .shr t x y u) ty a (.int k (m/2^j)):=fun d pos af g w=>by
 unfold At at hj
 have e:m.fdiv (2^j)=m/2^j:=Int.fdiv_eq_ediv_of_nonneg _ (Int.pow_nonneg (by omega))
 have h0:¬n<0:=by omega
 have hm:Min.min n.toNat k.bits=j:=by omega
 simp only [execOp,hx,hy,binOp_shr,Op.shift,eqGuard,if_neg h0,hm,e];rfl
theorem V.or(hx:a.eval x= .int k m)(hy:a.eval y= .int k n):CG P (.binOp .or t x y u) ty a (.int k (bits .or k m n)):=fun d pos af g w=>by
 simp only [execOp,hx,hy,binOp_or,intBits_or,eqGuard];rfl
theorem V.eql(hx:a.eval x= .int k m)(hy:a.eval y= .int k n):CG P (.binOp .eql t x y u) ty a (.bool (decide (m=n))):=fun d pos af g w=>by
 simp only [execOp,hx,hy,binOp_eql,eqGuard_at_int];rfl
theorem V.neq(hx:a.eval x= .int k m)(hy:a.eval y= .int k n):CG P (.binOp .neq t x y u) ty a (.bool (decide (m≠n))):=fun d pos af g w=>by
 simp only [execOp,hx,hy,binOp_neq,eqGuard_at_int,ne_eq,decide_not];rfl
theorem V.lss(hx:a.eval x= .int k m)(hy:a.eval y= .int k n):CG P (.binOp .lss t x y u) ty a (.bool (decide (m<n))):=fun d pos af g w=>by
 simp only [execOp,hx,hy,binOp_lss,eqGuard];rfl
theorem V.leq(hx:a.eval x= .int k m)(hy:a.eval y= .int k n):CG P (.binOp .leq t x y u) ty a (.bool (decide (m≤n))):=fun d pos af g w=>by
 simp only [execOp,hx,hy,binOp_leq,eqGuard];rfl
theorem V.gtr(hx:a.eval x= .int k m)(hy:a.eval y= .int k n):CG P (.binOp .gtr t x y u) ty a (.bool (decide (n<m))):=fun d pos af g w=>by
 simp only [execOp,hx,hy,binOp_gtr,eqGuard];rfl
theorem V.geq(hx:a.eval x= .int k m)(hy:a.eval y= .int k n):CG P (.binOp .geq t x y u) ty a (.bool (decide (n≤m))):=fun d pos af g w=>by
 simp only [execOp,hx,hy,binOp_geq,eqGuard];rfl
theorem V.not{b:Bool}(hx:a.eval x= .bool b):CG P (.unOp .not t x) ty a (.bool (!b)):=fun d pos af g w=>by
 simp only [execOp,hx,Op.unary];rfl
theorem V.notD{p:Prop}[Decidable p](hx:a.eval x= .bool (decide p)):CG P (.unOp .not t x) ty a (.bool (decide (¬p))):=by
 rw [decide_not];exact V.not hx
theorem V.convI{k':IntKind}(hs:(P.underlying t).isSome=true)(hd:P.underlying u=some (.int k'))(hx:a.eval x= .int k m)(h:k'.wrap m=m):CG P (.convert t u x) ty a (.int k' m):=fun d pos af g w=>by
 have e:P.intKind u=k':=by simp [Program.intKind,hd]
 have e2:=run_convert_int (P:=P) w t u k m hs (by rw [e];exact hd)
 rw [e,h] at e2
 simp only [execOp,hx,Sem.run_bind,e2,Result.andThen_ok,Sem.run_pure]
theorem V.conv{k':IntKind}(hs:(P.underlying t).isSome=true)(hd:P.underlying u=some (.int k'))(hx:a.eval x= .int k m):CG P (.convert t u x) ty a (.int k' (k'.wrap m)):=fun d pos af g w=>by
 have e:P.intKind u=k':=by simp [Program.intKind,hd]
 have e2:=run_convert_int (P:=P) w t u k m hs (by rw [e];exact hd)
 rw [e] at e2
 simp only [execOp,hx,Sem.run_bind,e2,Result.andThen_ok,Sem.run_pure]
theorem V.extract{vs:List Value}{i:Nat}{v:Value}(hx:a.eval x= .tuple vs.toArray)(hv:vs[i]? =some v):CG P (.extract x i) ty a v:=fun d pos af g w=>by
 have e:(vs.toArray)[i]? =some v:=by simpa using hv
 simp only [execOp,hx,Instr.extract,e];rfl
theorem V.nilCheck{p:Addr}(hx:a.eval x= .pointer (some p)):CG P (.nilCheck x) ty a (.pointer (some p)):=fun d pos af g w=>by
 simp only [execOp,hx];rfl
theorem V.len{ad:Option Addr}{n c:Nat}{e:TypeId}(ht:P.underlying t=some (.slice e))(hx:a.eval x= .slice ad n c):CG P (.call {callee:= .builtin .len,args:=#[x],argTypes:=#[t]}) ty a (.int .i64 n):=fun d pos af g w=>by
 have e:P.elem t=e:=by simp [Program.elem,ht]
 have e2:=run_len_slice (P:=P) w t ty ad n c (by rw [e];exact ht)
 simp only [execOp,resolve,invoke,builtin,Sem.run_bind,Sem.run_pure,Result.andThen_ok,List.map_toArray,List.map_cons,List.map_nil,hx,e2]
 rfl
theorem V.indexSl{b off n c j s js q:Nat}{e:TypeId}{i:Int}(ht:P.underlying t=some (.slice e))(hs:(P.info? e).map (·.size)=some s)(hx:a.eval x= .slice (some ⟨b,off,none⟩) n c)(hy:a.eval y= .int k i)(hj:At i j)(hn:j<n)(hjs:j*s=js)(hq:off+js=q):
 CG P (.indexAddr t x y) ty a (.pointer (some ⟨b,q,none⟩)):=fun d pos af g w=>by
 unfold At at hj
 subst hjs
 have e0:P.elem t=e:=by simp [Program.elem,ht]
 have e2:=run_indexAt_slice (P:=P) w t ⟨b,off,none⟩ n c k i (by rw [e0];exact ht)
 rw [if_pos (by omega),e0,BV w hs,Result.andThen_ok,Addr.add_mid,show i.toNat=j by omega,hq] at e2
 simp only [execOp,hx,hy,Sem.run_bind,e2,Result.andThen_ok,Sem.run_pure]
theorem V.indexAr{b off n j s js q:Nat}{e:TypeId}{i:Int}(ht:P.underlying t=some (.array n e))(hs:(P.info? e).map (·.size)=some s)(hx:a.eval x= .pointer (some ⟨b,off,none⟩))(hy:a.eval y= .int k i)(hj:At i j)(hn:j<n)(hjs:j*s=js)(hq:off+js=q):
 CG P (.indexAddr t x y) ty a (.pointer (some ⟨b,q,none⟩)):=fun d pos af g w=>by
 unfold At at hj
 subst hjs
 have e0:P.elem t=e:=by simp [Program.elem,ht]
 have e1:P.arrayLen t=n:=by simp [Program.arrayLen,ht]
 have e2:=run_indexAt_array (P:=P) w t ⟨b,off,none⟩ k i (by rw [e0,e1];exact ht)
 rw [e1,if_pos (by omega),e0,BV w hs,Result.andThen_ok,Addr.add_mid,show i.toNat=j by omega,hq] at e2
 simp only [execOp,hx,hy,Sem.run_bind,e2,Result.andThen_ok,Sem.run_pure]
theorem V.indexIv{l:List Int}{n j:Nat}{e:TypeId}{i:Int}(ht:P.underlying t=some (.array n e))(he:P.underlying e=some (.int .i64))(hs:(P.info? e).map (·.size)=some 1)(hx:a.eval x= .agg (iv l))(hy:a.eval y= .int k i)(hl:Ag l n)(hj:At i j)(hn:j<n):
 CG P (.index t x y) ty a (.int .i64 (AF l j)):=fun d pos af g w=>by
 unfold At at hj
 have e0:P.elem t=e:=by simp [Program.elem,ht]
 have e1:P.arrayLen t=n:=by simp [Program.arrayLen,ht]
 have e3:(isAgg e).run P w= .ok false w:=by simp [isAgg,run_underlying he]
 have e2:=FZ (P:=P) w t (iv l) k i (by rw [e0,e1];exact ht)
 rw [e1,if_pos (by omega),e0,BV w hs,Result.andThen_ok,show i.toNat=j by omega,Nat.mul_one,Ks,e3,Result.andThen_ok,IM l j (by rw [hl.out];exact hn)] at e2
 simp only [execOp,hx,hy,Sem.run_bind,e2,Result.andThen_ok,Sem.run_pure,Bool.false_eq_true,if_false]
end
section
variable{P:Program}{ops:Array Oper}{Q:Exit→Act→World→Prop}{rest:List Oper}{a:Act}{W w:World}{rs:List Ac}{d:Option Tmp}{x y:Operand}{t ty:TypeId}{pos:String}{af:Array Edge}{g:Option (Nat×Bool)}{k:IntKind}
theorem FG{ad:Option Addr}{n c j s:Nat}{cs:List Value}{e:TypeId}{i:Int}(hv:Sl W s (.slice ad n c) n cs)(ht:P.underlying t=some (.slice e))(hs:(P.info? e).map (·.size)=some s)(hx:a.eval x= .slice ad n c)(hy:a.eval y= .int k i)(hj:At i j)(hn:j<n)
 (hw:Region.wanted ⟨d, .indexAddr t x y,ty,pos,af,g⟩ (yielded ops a.tmps)=true)
 (h:∀b o,W.rangeAt b o ((cs.drop (j*s)).take s)→(Oper.mk d (.move (.const (.pointer (some ⟨b,o,none⟩)))) ty pos af g).wp P a w (wpList P ops Q rest) Q):wpList P ops Q (⟨d, .indexAddr t x y,ty,pos,af,g⟩::rest) a w:=by
 obtain ⟨hl,a',c',e1,_,_,hor⟩:=hv
 cases e1
 rcases hor with h0|⟨b,off,rfl,hc⟩
 ·omega
 refine AP _ (V.indexSl (q:=off+j*s) ht hs hx hy hj hn rfl rfl) hw (h b _ fun m v hv=>?_)
 rw [List.getElem?_take] at hv
 split at hv
 ·rename_i hm
  rw [List.getElem?_drop] at hv
  have hjs:j*s+s≤n*s:=by have:=Nat.mul_le_mul_right s hn;rw [Nat.succ_mul] at this;exact this
  rw [Nat.add_assoc,hc (j*s+m) (by omega),hv]
 cases hv
theorem Ca{ad:Option Addr}{n c j:Nat}{l:List Int}{e:TypeId}{i:Int}(hv:Sl W 1 (.slice ad n c) n (l.map (Value.int .i64)))(ht:P.underlying t=some (.slice e))(hs:(P.info? e).map (·.size)=some 1)(hx:a.eval x= .slice ad n c)(hy:a.eval y= .int k i)(hj:At i j)(hn:j<n)
 (hw:Region.wanted ⟨d, .indexAddr t x y,ty,pos,af,g⟩ (yielded ops a.tmps)=true)
 (h:∀b o,W.cell? ⟨b,o,none⟩=some (.int .i64 (AF l j))→(Oper.mk d (.move (.const (.pointer (some ⟨b,o,none⟩)))) ty pos af g).wp P a w (wpList P ops Q rest) Q):wpList P ops Q (⟨d, .indexAddr t x y,ty,pos,af,g⟩::rest) a w:=
 FG hv ht hs hx hy hj hn hw fun b o hr=>h b o (by
  have hl:l.length=n:=by have:=hv.1;simpa using this
  have:=hr 0 (.int .i64 (AF l j)) (by simp [AF,List.getD,List.getElem?_drop,hl,hn])
  simpa using this)
theorem DV{ad:Option Addr}{n c j s q:Nat}{cs:List Value}{e et:TypeId}{i:Int}{rs':List Ac}(hS:St W w rs)(hx:a.eval x= .slice ad n c)(hp:AI (own et s ad n c cs) rs rs')(ht:P.underlying t=some (.slice e))(hs:(P.info? e).map (·.size)=some s)(hy:a.eval y= .int k i)(hj:At i j)(hn:j<n)(hq:j*s=q)
 (hw:Region.wanted ⟨d, .indexAddr t x y,ty,pos,af,g⟩ (yielded ops a.tmps)=true)
 (h:∀b,ad=some ⟨b,0,none⟩→(Oper.mk d (.move (.const (.pointer (some ⟨b,q,none⟩)))) ty pos af g).wp P a w (wpList P ops Q rest) Q):wpList P ops Q (⟨d, .indexAddr t x y,ty,pos,af,g⟩::rest) a w:=by
 obtain ⟨b,rfl⟩:=BO hS hp (by omega)
 exact AP _ (V.indexSl (q:=q) ht hs hx hy hj hn hq (Nat.zero_add _)) hw (h b rfl)
end
structure AR(P:Program)(s:TypeId)(f:Nat)(fo:Nat)(ft:TypeId):Prop where
 ex:∃fs fl,P.underlying s=some (.struct fs)∧fs[f]? =some fl∧fl.offset=fo∧fl.type=ft
 sz:∃n,(P.info? ft).map (·.size)=some n∧n≠0
section
variable{P:Program}{a:Act}{x:Operand}{t ft ty:TypeId}{f fo:Nat}
theorem AR.mk'(fs:Array Field)(fl:Field)(n:Nat)(h1:P.underlying t=some (.struct fs))(h2:fs[f]? =some fl)(h3:fl.offset=fo)(h4:fl.type=ft)(h5:(P.info? ft).map (·.size)=some n)(h6:n≠0):AR P t f fo ft:=
 ⟨⟨fs,fl,h1,h2,h3,h4⟩,⟨n,h5,h6⟩⟩
theorem V.fieldAddr{b off q:Nat}(hf:AR P t f fo ft)(hx:a.eval x= .pointer (some ⟨b,off,none⟩))(hq:off+fo=q):CG P (.fieldAddr t x f) ty a (.pointer (some ⟨b,q,none⟩)):=fun d pos af g w=>by
 obtain ⟨⟨fs,fl,h1,h2,rfl,rfl⟩,n,h3,h4⟩:=hf
 simp only [execOp,hx,Instr.fieldAt,Instr.sureAddr,Sem.run_bind,run_underlying h1,Result.andThen_ok,h2,fieldPlace,BV w h3,Sem.run_pure]
 rw [if_neg h4]
 simp only [Sem.run_pure,Result.andThen_ok,Addr.add_mid,hq]
end
end Go.Proofs.YtkcbhcajfcfmmaaDoor
/- Short words for what the walks say often. -/
namespace Go.Proofs.YtkcbhcajfcfmmaaDoor
open Go.RowKit
set_option linter.unusedVariables false
set_option maxRecDepth 100000
set_option maxHeartbeats 8000000
theorem AQ{r:Ac}{rs rs':List Ac}(h:AI r rs rs':=by (repeat (first|with_reducible exact AI.head|apply AI.tail))):AI r rs rs':=h
theorem Ao{xs rs:List Ac}(h:H3 xs rs:=by (repeat (first|exact H3.nil|with_reducible exact H3.refl|(apply H3.cons;(case p=>(repeat (first|with_reducible exact AI.head|apply AI.tail))))|apply H3.skip))):H3 xs rs:=h
theorem BL{z:Int}{j:Nat}(h:At z j:=by (repeat (first|exact At.auto|with_reducible apply At.add|with_reducible apply At.sub|with_reducible apply At.mul|with_reducible apply At.div|with_reducible apply At.mod|with_reducible apply At.min|with_reducible apply At.max|(with_reducible show (_:Nat)≤_;omega)|exact At.toNat (by omega)))):At z j:=h
theorem Bx{x v:Value}(h:CT x v:=by (first|exact CT.int rfl|exact CT.bool rfl|exact CT.slice rfl|exact CT.pointer rfl|exact CT.string rfl|exact CT.map rfl|exact CT.func rfl)):CT x v:=h
theorem Cf{o:Oper}{i:Nat}{l:List Oper}(h:DK o i l:=by (repeat (first|with_reducible exact DK.head|apply DK.tail))):DK o i l:=h
theorem Oy{p:Prop}(h:p:=by exact fun _ _ _ _ h=>h):p:=h
theorem Cv{p:Prop}(h:p:=by first|exact fun _ _ _ _ h=>h|exact fun _ _ _ _ h=>nomatch h.1):p:=h
theorem Ar{p:Prop}(h:False:=by omega):p:=h.elim
theorem Hb{p q:Prop}(h:p)(hn:¬p:=by decide):q:=absurd h hn
theorem AB{α:Type _}{a b:α}(h:a=b:=by kernel_rfl):a=b:=h
theorem CD{a b:Nat}(h:a=b:=by first|with_reducible exact Nat.zero_add _|with_reducible exact Nat.add_zero _|exact rfl):a=b:=h
theorem Ot{v:Value}{k:Nat}{cs cs':List Value}(h:Bu v k cs cs':=by (repeat (first|with_reducible exact Bu.head|apply Bu.tail))):Bu v k cs cs':=h
theorem CM{l:List Int}{n:Nat}(h:Ag l n:=by first|(with_reducible assumption)|exact Ag.rep|exact Ag.set (by with_reducible assumption)|exact Ag.set Ag.rep|exact Ag.set (Ag.set Ag.rep)):Ag l n:=h
structure Aq(p:Prop):Prop where
 out:p
structure Np(c e p q:Prop):Prop where
 t:c→p
 f:e→q
structure KA(T q:Nat→World→Prop):Prop where
 out:∀g w,T g w→q g w
structure LK(T q:World→Prop):Prop where
 out:∀w,T w→q w
structure Nq(T q:Option Addr→Nat→World→Prop):Prop where
 out:∀a c w,T a c w→q a c w
structure Ok(p:Prop):Prop where
structure Om(n:Nat)(p:Prop):Prop where
structure Ol(n:Nat)(p:Prop):Prop where
def Bh(_:Nat)(p:Prop):Prop:=p
section
variable{P:Program}{ops:Array Oper}{Q:Exit→Act→World→Prop}{rest:List Oper}{a:Act}{w:World}{d:Option Tmp}{op:Op}{ty:TypeId}{pos:String}{af:Array Edge}{g:Option (Nat×Bool)}{x:Operand}
theorem Az(d:Option Tmp)(op:Op)(h:wpList P ops Q (⟨d,op,ty,pos,af,g⟩::rest) a w):wpList P ops Q (⟨d,op,ty,pos,af,g⟩::rest) a w:=h
theorem It(h:wpList P ops Q (⟨d, .move x,ty,pos,af,g⟩::rest) a w):wpList P ops Q (⟨d, .move x,ty,pos,af,g⟩::rest) a w:=h
theorem O2(h:(Oper.mk d op ty pos af none).wp P a w (wpList P ops Q rest) Q):wpList P ops Q (⟨d,op,ty,pos,af,none⟩::rest) a w:=NA rfl h
theorem OD(h:wpList P ops Q (⟨d, .assign x,ty,pos,af,g⟩::rest) a w):wpList P ops Q (⟨d, .assign x,ty,pos,af,g⟩::rest) a w:=h
theorem A3{o:Oper}(h:o.wp P a w (wpList P ops Q rest) Q)(hw:Region.wanted o (yielded ops a.tmps)=true:=by kernel_rfl):wpList P ops Q (o::rest) a w:=NA hw h
theorem Ox(n:Nat)(h:wpList P ops Q (⟨some n,op,ty,pos,af,g⟩::rest) a w):wpList P ops Q (⟨some n,op,ty,pos,af,g⟩::rest) a w:=h
theorem Bl{n:Nat}(h:wpList P ops Q (⟨some n,op,ty,pos,af,g⟩::rest) a w):Bh n (wpList P ops Q (⟨some n,op,ty,pos,af,g⟩::rest) a w):=h
theorem Ow{o:Oper}:Ok (wpList P ops Q (o::rest) a w):=⟨⟩
theorem Ov{n:Nat}:Om n (wpList P ops Q (⟨some n,op,ty,pos,af,g⟩::rest) a w):=⟨⟩
theorem Ou{n:Nat}{xs:Array Operand}{ts:Array TypeId}:Ol n (wpList P ops Q (⟨d, .call ⟨.value (.func n),xs,ts⟩,ty,pos,af,g⟩::rest) a w):=⟨⟩
theorem Av{v:Value}(hw:Region.wanted ⟨d,op,ty,pos,af,g⟩ (yielded ops a.tmps)=true)(hv:CG P op ty a v)(h:(Oper.mk d (.move (.const v)) ty pos af g).wp P a w (wpList P ops Q rest) Q):wpList P ops Q (⟨d,op,ty,pos,af,g⟩::rest) a w:=AP v hv hw h
theorem As{v:Value}{d:Tmp}(h:(Oper.mk (some d) (.move (.const v)) 0 "" #[] none).wp P a w (wpList P ops Q rest) Q):∃v',Ending.returned v= .returned v'∧wpList P ops Q rest (a.put (some d) v') w:=⟨v,rfl,h⟩
theorem Gd{W:World}{rs:List Ac}{v:Value}{d:Tmp}(hS:St W w rs)(h:∀w,St W w rs→(Oper.mk (some d) (.move (.const v)) 0 "" #[] none).wp P a w (wpList P ops Q rest) Q):∀e w',(e=Ending.returned v∧AX w w')→∃v',e= .returned v'∧wpList P ops Q rest (a.put (some d) v') w':=fun _ w' h2=>⟨v,h2.1,h w' (hS.ext h2.2)⟩
theorem An{f:FuncId}{xs:List Operand}{ts:Array TypeId}{R:Ending→World→Prop}(hw:Region.wanted ⟨d, .call ⟨.value (.func f),xs.toArray,ts⟩,ty,pos,af,g⟩ (yielded ops a.tmps)=true)(hcall:∀(args:Array Value)(w:World),(callFunc f args).run P w= .ok (.enter f args) w)(hc:Calls P f (xs.map a.eval).toArray w R)
 (h:∀e w',R e w'→∃v,e= .returned v∧wpList P ops Q rest (a.put d v) w'):wpList P ops Q (⟨d, .call ⟨.value (.func f),xs.toArray,ts⟩,ty,pos,af,g⟩::rest) a w:=Ay hcall hw ⟨R,hc,h⟩
end
theorem AG{p:Prop}(k:p)(_:Ok p:=by (fail_if_success with_reducible exact Ow);exact ⟨⟩):p:=k
theorem AU(n:Nat){p:Prop}(k:p)(_:Om n p:=by with_reducible exact Ov):p:=k
theorem Am(n:Nat){p:Prop}(k:p)(_:Ol n p:=by with_reducible exact Ou):p:=k
section
variable{p q:Prop}
theorem X0(k:q)(h:Aq q→p:=by intro zq9;(first|(with_reducible refine It ?_)|(with_reducible refine OD ?_));((first|go_big_want|go_step));go_step;go_step;with_reducible exact zq9.out):p:=h ⟨k⟩
theorem X1(k:q)(h:Aq q→p:=by intro zq9;(with_reducible refine It ?_);((first|go_big_want|go_step));go_step;go_step;with_reducible exact zq9.out):p:=h ⟨k⟩
theorem X2(n:Nat)(k:q)(h:Aq q→Bh n p:=by intro zq9;(with_reducible refine Bl ?_);(refine Av AB (V.lss rfl rfl) ?_);go_step;with_reducible exact zq9.out):p:=h ⟨k⟩
theorem X3(k:q)(h:Aq q→p:=by intro zq9;(with_reducible refine Az _ (.binOp .lss _ _ _ _) ?_);(refine Av AB (V.lss rfl rfl) ?_);go_step;with_reducible exact zq9.out):p:=h ⟨k⟩
theorem X4(n:Nat)(k:q)(h:Aq q→Bh n p:=by intro zq9;(with_reducible refine Bl ?_);(refine Av AB (V.extract rfl rfl) ?_);go_step;with_reducible exact zq9.out):p:=h ⟨k⟩
theorem X5(k:q)(h:Aq q→p:=by intro zq9;(with_reducible refine Az _ (.pick _ _ _) ?_);(refine BD rfl AB ?_);go_step;with_reducible exact zq9.out):p:=h ⟨k⟩
theorem X6(n:Nat){c e r:Prop}(k:c→q)(k2:e→r)(h:Np c e q r→Bh n p:=by intro zq9;(with_reducible refine Bl ?_);refine Cq _ (V.lss rfl rfl) AB zq9.t zq9.f):p:=h ⟨k,k2⟩
theorem X7(n:Nat)(k:q)(h:Aq q→Bh n p:=by intro zq9;(with_reducible refine Bl ?_);(refine Av AB (V.neq rfl rfl) ?_);go_step;with_reducible exact zq9.out):p:=h ⟨k⟩
theorem X8(k:q)(h:Aq q→p:=by intro zq9;(with_reducible refine OD ?_);((first|go_big_want|go_step));go_step;go_step;with_reducible exact zq9.out):p:=h ⟨k⟩
theorem X9(n:Nat){c e r:Prop}(k:c→q)(k2:e→r)(h:Np c e q r→Bh n p:=by intro zq9;(with_reducible refine Bl ?_);refine No _ (V.not rfl) AB zq9.t zq9.f):p:=h ⟨k,k2⟩
theorem Ge(k:q)(h:Aq q→p:=by intro zq9;(with_reducible refine Az _ (.binOp .add _ _ _ _) ?_);(refine Av AB (V.addI rfl rfl (by omega)) ?_);go_step;with_reducible exact zq9.out):p:=h ⟨k⟩
theorem Gf(n:Nat)(k:q)(h:Aq q→Bh n p:=by intro zq9;(with_reducible refine Bl ?_);(refine Av AB (V.gtr rfl rfl) ?_);go_step;with_reducible exact zq9.out):p:=h ⟨k⟩
theorem H0(k:q)(h:Aq q→p:=by intro zq9;(with_reducible refine Az _ (.pick _ _ _) ?_);(refine A9 rfl AB ?_);go_step;with_reducible exact zq9.out):p:=h ⟨k⟩
theorem Ik(n:Nat){T q:Nat→World→Prop}(k:∀g w,T g w→q g w)(h:KA T q→Bh n p:=by intro zq9;(with_reducible refine Bl ?_);(refine A3 ?_;apply I8 (o:=⟨some _,_,_,_,_,_⟩) hS 32 _ rfl _ rfl);intro g w9 h9;refine AC ?_;go_step;with_reducible exact zq9.out g w9 h9):p:=h ⟨k⟩
theorem Il(n:Nat)(k:q)(h:Aq q→Bh n p:=by intro zq9;(with_reducible refine Bl ?_);(refine Av AB (V.indexSl Tryd.underlying22 JV rfl rfl BL (by omega) (Nat.mul_one _) CD) ?_);go_step;with_reducible exact zq9.out):p:=h ⟨k⟩
theorem JE(n:Nat){c e r:Prop}(k:c→q)(k2:e→r)(h:Np c e q r→Bh n p:=by intro zq9;(with_reducible refine Bl ?_);refine Cq _ (V.eql rfl rfl) AB zq9.t zq9.f):p:=h ⟨k,k2⟩
theorem JF(n:Nat)(k:q)(h:Aq q→Bh n p:=by intro zq9;(with_reducible refine Bl ?_);(refine Av AB (V.eql rfl rfl) ?_);go_step;with_reducible exact zq9.out):p:=h ⟨k⟩
theorem JG(n:Nat)(k:q)(h:Aq q→Bh n p:=by intro zq9;(with_reducible refine Bl ?_);(refine Av AB (V.fieldAddr En rfl CD) ?_);go_step;with_reducible exact zq9.out):p:=h ⟨k⟩
theorem JH(n:Nat)(k:q)(h:Aq q→Bh n p:=by intro zq9;(with_reducible refine Bl ?_);(refine Av AB (V.len Tryd.underlying23 rfl) ?_);go_step;with_reducible exact zq9.out):p:=h ⟨k⟩
theorem J2{T q:World→Prop}(k:∀w,T w→q w)(h:LK T q→p:=by intro zq9;(with_reducible refine Az _ (.store 32 _ _) ?_);(refine A3 ?_;apply FF hS 32 _ _ rfl _ rfl 103 (AY rfl) _ _;(case hp=>exact AQ);(case hy=>rfl);(case hn=>(repeat (first|exact BG.nil|(apply BG.ints;(case hn=>exact CM);(case h=>omega);(case hm=>rfl))|apply BG.val)));(case hn'=>(repeat (first|exact BG.nil|(apply BG.ints;(case hn=>exact CM);(case h=>omega);(case hm=>rfl))|apply BG.val)));(case hv=>rfl);(case hd=>exact rfl));intro w9 h9;with_reducible exact zq9.out w9 h9):p:=h ⟨k⟩
theorem J3(n:Nat){c e r:Prop}(k:c→q)(k2:e→r)(h:Np c e q r→Bh n p:=by intro zq9;(with_reducible refine Bl ?_);refine Cq _ (V.neq rfl rfl) AB zq9.t zq9.f):p:=h ⟨k,k2⟩
theorem J4(k:q)(h:Aq q→p:=by intro zq9;(with_reducible refine Az _ (.load 22 _) ?_);(refine A3 ?_;apply CS hS 22 _ rfl _ _ rfl (Ab rfl) _;(case hp=>exact AQ);(case hi=>(repeat (first|exact EW.head|(apply EW.skipI;(case hn=>exact CM);(case h=>omega);(case ho=>rfl))|apply EW.skipV)));refine AC ?_);go_step;with_reducible exact zq9.out):p:=h ⟨k⟩
theorem J5(n:Nat)(k:q)(h:Aq q→Bh n p:=by intro zq9;(with_reducible refine Bl ?_);(refine Av AB (V.addI rfl rfl (by omega)) ?_);go_step;with_reducible exact zq9.out):p:=h ⟨k⟩
theorem J6(n:Nat)(k:q)(h:Aq q→Bh n p:=by intro zq9;(with_reducible refine Bl ?_);(refine Av AB (V.len Tryd.underlying22 rfl) ?_);go_step;with_reducible exact zq9.out):p:=h ⟨k⟩
theorem KC(k:q)(h:Aq q→p:=by intro zq9;(with_reducible refine Az _ (.load 28 _) ?_);(refine A3 ?_;apply DA hS 28 _ rfl _ _ rfl 17 (AY rfl) _;(case hp=>exact AQ);(case hi=>(repeat (first|(apply F9.head;(repeat (first|exact BG.nil|(apply BG.ints;(case hn=>exact CM);(case h=>omega);(case hm=>rfl))|apply BG.val)))|(apply F9.skipI;(case hn=>exact CM);(case h=>omega);(case ho=>rfl))|apply F9.skipV)));refine AC ?_);go_step;with_reducible exact zq9.out):p:=h ⟨k⟩
theorem KD(k:q)(h:Aq q→p:=by intro zq9;(with_reducible refine Az _ (.load 32 _) ?_);(refine A3 ?_;apply DA hS 32 _ rfl _ _ rfl 103 (AY rfl) _;(case hp=>exact AQ);(case hi=>(repeat (first|(apply F9.head;(repeat (first|exact BG.nil|(apply BG.ints;(case hn=>exact CM);(case h=>omega);(case hm=>rfl))|apply BG.val)))|(apply F9.skipI;(case hn=>exact CM);(case h=>omega);(case ho=>rfl))|apply F9.skipV)));refine AC ?_);go_step;with_reducible exact zq9.out):p:=h ⟨k⟩
theorem KE(k:q)(h:Aq q→p:=by intro zq9;(with_reducible refine Az _ (.pick _ _ _) ?_);(first|(refine BD rfl AB ?_)|(refine A9 rfl AB ?_));go_step;with_reducible exact zq9.out):p:=h ⟨k⟩
theorem K8(k:q)(h:Aq q→p:=by intro zq9;(with_reducible refine Az _ (.binOp .gtr _ _ _ _) ?_);(refine Av AB (V.gtr rfl rfl) ?_);go_step;with_reducible exact zq9.out):p:=h ⟨k⟩
theorem K9(k:q)(h:Aq q→p:=by intro zq9;(with_reducible refine Az _ (.load 5 _) ?_);(refine A3 ?_;apply Ds hS 5 _ rfl _ rfl (Ab rfl) _;(case hc=>with_reducible assumption);refine AC ?_);go_step;with_reducible exact zq9.out):p:=h ⟨k⟩
theorem LL(n:Nat){T q:Nat→World→Prop}(k:∀g w,T g w→q g w)(h:KA T q→Bh n p:=by intro zq9;(with_reducible refine Bl ?_);(refine A3 ?_;apply Fz (o:=⟨some _,_,_,_,_,_⟩) hS 28 rfl _ Oi);intro g w9 h9;refine AC ?_;go_step;with_reducible exact zq9.out g w9 h9):p:=h ⟨k⟩
theorem LM(n:Nat){T q:Nat→World→Prop}(k:∀g w,T g w→q g w)(h:KA T q→Bh n p:=by intro zq9;(with_reducible refine Bl ?_);(refine A3 ?_;apply Fz (o:=⟨some _,_,_,_,_,_⟩) hS 32 rfl _ Oj);intro g w9 h9;refine AC ?_;go_step;with_reducible exact zq9.out g w9 h9):p:=h ⟨k⟩
theorem LN{T q:World→Prop}(k:∀w,T w→q w)(h:LK T q→p:=by intro zq9;(with_reducible refine Az _ (.store 28 _ _) ?_);(refine A3 ?_;apply FF hS 28 _ _ rfl _ rfl 17 (AY rfl) _ _;(case hp=>exact AQ);(case hy=>rfl);(case hn=>(repeat (first|exact BG.nil|(apply BG.ints;(case hn=>exact CM);(case h=>omega);(case hm=>rfl))|apply BG.val)));(case hn'=>(repeat (first|exact BG.nil|(apply BG.ints;(case hn=>exact CM);(case h=>omega);(case hm=>rfl))|apply BG.val)));(case hv=>rfl);(case hd=>exact rfl));intro w9 h9;with_reducible exact zq9.out w9 h9):p:=h ⟨k⟩
theorem Lv(n:Nat){T q:Option Addr→Nat→World→Prop}(k:∀a c w,T a c w→q a c w)(h:Nq T q→Bh n p:=by intro zq9;(with_reducible refine Bl ?_);(refine A3 ?_;apply Ad (o:=⟨some _,_,_,_,_,_⟩) hS _ _ 22 rfl 5 1 1 Ei _ _ _ _ rfl;(case hp=>exact AQ);(case hx=>exact rfl);(case hm=>(first|exact hS.slBlk AQ (by rfl) (by decide)|exact hS.sl AQ|with_reducible assumption|exact Sl.ext (by with_reducible assumption) hS.1|exact Sl.nil _ _|exact Sl.ext (by assumption) hS.1|assumption));(case h1=>(first|exact BQ rfl|exact BE _ _|(intro u hu;cases hu)));(case h63=>unfold maxLen;omega);(case hb=>omega));intro a9 c9 w9 h9;(first|simp only [Bz] at h9|simp only [B3] at h9|simp only [B4] at h9|simp only [B5] at h9|simp only [B6] at h9|skip);refine AC ?_;go_step;with_reducible exact zq9.out a9 c9 w9 h9):p:=h ⟨k⟩
theorem Lw(k:q)(h:Aq q→p:=by intro zq9;(with_reducible refine Az _ (.call ⟨.builtin .len,_,_⟩) ?_);(refine Av AB (V.len Tryd.underlying22 rfl) ?_);go_step;with_reducible exact zq9.out):p:=h ⟨k⟩
theorem Lx(k:q)(h:Aq q→p:=by intro zq9;(with_reducible refine Az _ (.fieldAddr 32 _ 0) ?_);(refine Av AB (V.fieldAddr MM rfl CD) ?_);go_step;with_reducible exact zq9.out):p:=h ⟨k⟩
theorem Ly(k:q)(h:Aq q→p:=by intro zq9;(with_reducible refine Az _ (.load 3 _) ?_);(refine A3 ?_;apply CS hS 3 _ rfl _ _ rfl (Ab rfl) _;(case hp=>exact AQ);(case hi=>(repeat (first|exact EW.head|(apply EW.skipI;(case hn=>exact CM);(case h=>omega);(case ho=>rfl))|apply EW.skipV)));refine AC ?_);go_step;with_reducible exact zq9.out):p:=h ⟨k⟩
theorem MG(k:q)(h:Aq q→p:=by intro zq9;(with_reducible refine Az _ (.extract _ _) ?_);(refine Av AB (V.extract rfl rfl) ?_);go_step;with_reducible exact zq9.out):p:=h ⟨k⟩
theorem MH(k:q)(h:Aq q→p:=by intro zq9;(with_reducible refine Az _ (.fieldAddr 32 _ 1) ?_);(refine Av AB (V.fieldAddr MN rfl CD) ?_);go_step;with_reducible exact zq9.out):p:=h ⟨k⟩
theorem MI(k:q)(h:Aq q→p:=by intro zq9;(with_reducible refine Az _ (.load 23 _) ?_);(refine A3 ?_;apply CS hS 23 _ rfl _ _ rfl (Ab rfl) _;(case hp=>exact AQ);(case hi=>(repeat (first|exact EW.head|(apply EW.skipI;(case hn=>exact CM);(case h=>omega);(case ho=>rfl))|apply EW.skipV)));refine AC ?_);go_step;with_reducible exact zq9.out):p:=h ⟨k⟩
theorem MJ(n:Nat)(k:q)(h:Aq q→Bh n p:=by intro zq9;(with_reducible refine Bl ?_);(refine AP (.int _ (((i+1:Nat):Int))) (V.as (V.addI rfl rfl (by omega)) (by omega)) (by kernel_rfl) ?_);go_step;with_reducible exact zq9.out):p:=h ⟨k⟩
theorem Mq(n:Nat){T q:Nat→World→Prop}(k:∀g w,T g w→q g w)(h:KA T q→Bh n p:=by intro zq9;(with_reducible refine Bl ?_);(refine A3 ?_;apply I8 (o:=⟨some _,_,_,_,_,_⟩) hS 28 _ rfl _ rfl);intro g w9 h9;refine AC ?_;go_step;with_reducible exact zq9.out g w9 h9):p:=h ⟨k⟩
theorem Mr(n:Nat){T q:Nat→World→Prop}(k:∀g w,T g w→q g w)(h:KA T q→Bh n p:=by intro zq9;(with_reducible refine Bl ?_);(refine A3 ?_;apply AM (o:=⟨some _,_,_,_,_,_⟩) hS 22 1 _ rfl 5 1 1 Ei _ _;(case hvs=>(repeat (first|exact AN.nil|(apply AN.agg;(rfl);(rfl))|(apply AN.one;exact Bx;(rfl);(rfl)))));(case hn=>rfl);(case hn0=>decide);(case hns=>decide));intro g w9 h9;refine AC ?_;go_step;with_reducible exact zq9.out g w9 h9):p:=h ⟨k⟩
theorem Ms(n:Nat){T q:Nat→World→Prop}(k:∀g w,T g w→q g w)(h:KA T q→Bh n p:=by intro zq9;(with_reducible refine Bl ?_);(refine A3 ?_;apply AM (o:=⟨some _,_,_,_,_,_⟩) hS 22 2 _ rfl 5 1 1 Ei _ _;(case hvs=>(repeat (first|exact AN.nil|(apply AN.agg;(rfl);(rfl))|(apply AN.one;exact Bx;(rfl);(rfl)))));(case hn=>rfl);(case hn0=>decide);(case hns=>decide));intro g w9 h9;refine AC ?_;go_step;with_reducible exact zq9.out g w9 h9):p:=h ⟨k⟩
theorem Mt(k:q)(h:Aq q→p:=by intro zq9;(with_reducible refine Az _ (.binOp .neq 36 _ _ _) ?_);(refine Av AB (V.neq rfl rfl) ?_);go_step;with_reducible exact zq9.out):p:=h ⟨k⟩
theorem Mu(k:q)(h:Aq q→p:=by intro zq9;(with_reducible refine Az _ (.fieldAddr 32 _ 2) ?_);(refine Av AB (V.fieldAddr MO rfl CD) ?_);go_step;with_reducible exact zq9.out):p:=h ⟨k⟩
theorem Mv(k:q)(h:Aq q→p:=by intro zq9;(with_reducible refine Az _ (.load 3 _) ?_);(refine A3 ?_;apply Ds hS 3 _ rfl _ rfl (Ab rfl) _;(case hc=>with_reducible assumption);refine AC ?_);go_step;with_reducible exact zq9.out):p:=h ⟨k⟩
theorem Mw(k:q)(h:Aq q→p:=by intro zq9;(with_reducible refine Az _ (.nilCheck _) ?_);(refine Av AB (V.nilCheck rfl) ?_);go_step;with_reducible exact zq9.out):p:=h ⟨k⟩
theorem Mx(k:q)(h:Aq q→p:=by intro zq9;(with_reducible refine Az _ (.unOp .not _ _) ?_);(refine Av AB (V.not rfl) ?_);go_step;with_reducible exact zq9.out):p:=h ⟨k⟩
theorem My(n:Nat)(k:q)(h:Aq q→Bh n p:=by intro zq9;(with_reducible refine Bl ?_);(refine Av AB (V.convI (by rw [Tryd.underlying3];rfl) Tryd.underlying70 rfl (IntWalk.u64_in _ (by omega))) ?_);go_step;with_reducible exact zq9.out):p:=h ⟨k⟩
theorem Mz(n:Nat)(k:q)(h:Aq q→Bh n p:=by intro zq9;(with_reducible refine Bl ?_);(refine Av AB (V.convI (by rw [Tryd.underlying70];rfl) Tryd.underlying3 rfl (IntWalk.i64_in _ (by omega))) ?_);go_step;with_reducible exact zq9.out):p:=h ⟨k⟩
theorem M0(n:Nat)(k:q)(h:Aq q→Bh n p:=by intro zq9;(with_reducible refine Bl ?_);(refine Av AB (V.fieldAddr GG rfl CD) ?_);go_step;with_reducible exact zq9.out):p:=h ⟨k⟩
theorem NM(k:q)(h:Aq q→p:=by intro zq9;(with_reducible refine Az _ (.binOp .neq 3 _ _ _) ?_);(refine Av AB (V.neq rfl rfl) ?_);go_step;with_reducible exact zq9.out):p:=h ⟨k⟩
theorem NN(k:q)(h:Aq q→p:=by intro zq9;(with_reducible refine Az _ (.fieldAddr 28 _ 0) ?_);(refine Av AB (V.fieldAddr II rfl CD) ?_);go_step;with_reducible exact zq9.out):p:=h ⟨k⟩
theorem NO(k:q)(h:Aq q→p:=by intro zq9;(with_reducible refine Az _ (.fieldAddr 32 _ 3) ?_);(refine Av AB (V.fieldAddr MP rfl CD) ?_);go_step;with_reducible exact zq9.out):p:=h ⟨k⟩
theorem NP(k:q)(h:Aq q→p:=by intro zq9;(with_reducible refine Az _ (.fieldAddr 32 _ 5) ?_);(refine Av AB (V.fieldAddr MQ rfl CD) ?_);go_step;with_reducible exact zq9.out):p:=h ⟨k⟩
theorem NQ(k:q)(h:Aq q→p:=by intro zq9;(with_reducible refine Az _ (.fieldAddr 54 _ 1) ?_);(refine Av AB (V.fieldAddr MS rfl CD) ?_);go_step;with_reducible exact zq9.out):p:=h ⟨k⟩
theorem NR(n:Nat)(k:q)(h:Aq q→Bh n p:=by intro zq9;(with_reducible refine Bl ?_);(refine AP (.int .i64 ((y:Nat):Int)) (V.as (V.indexIv Tryd.underlying26 Tryd.underlying3 DC rfl rfl hC At.cast (by omega)) HX.out) AB ?_);go_step;with_reducible exact zq9.out):p:=h ⟨k⟩
theorem NS(n:Nat)(k:q)(h:Aq q→Bh n p:=by intro zq9;(with_reducible refine Bl ?_);(refine Av AB (V.len Tryd.underlying35 rfl) ?_);go_step;with_reducible exact zq9.out):p:=h ⟨k⟩
theorem NT(n:Nat)(k:q)(h:Aq q→Bh n p:=by intro zq9;(with_reducible refine Bl ?_);(refine Av AB (V.leq rfl rfl) ?_);go_step;with_reducible exact zq9.out):p:=h ⟨k⟩
theorem Nr{T q:World→Prop}(k:∀w,T w→q w)(h:LK T q→p:=by intro zq9;(with_reducible refine Az _ (.store 22 _ _) ?_);(refine A3 ?_;apply CZ hS 22 _ _ rfl _ _ rfl (Ab rfl) _ _;(case hp=>exact AQ);(case hy=>exact Bx);(case hz=>rfl);(case hi=>(repeat (first|exact DM.head|(apply DM.skipI;(case hn=>exact CM);(case h=>omega);(case ho=>rfl))|apply DM.skipV)));(case hd=>exact rfl));intro w9 h9;with_reducible exact zq9.out w9 h9):p:=h ⟨k⟩
theorem Ns(k:q)(h:Aq q→p:=by intro zq9;(with_reducible refine Az _ (.binOp .eql 3 _ _ _) ?_);(refine Av AB (V.eql rfl rfl) ?_);go_step;with_reducible exact zq9.out):p:=h ⟨k⟩
theorem Nt(k:q)(h:Aq q→p:=by intro zq9;(with_reducible refine Az _ (.binOp .leq _ _ _ _) ?_);(refine Av AB (V.leq rfl rfl) ?_);go_step;with_reducible exact zq9.out):p:=h ⟨k⟩
theorem Nu(k:q)(h:Aq q→p:=by intro zq9;(with_reducible refine Az _ (.convert 3 5 _) ?_);(refine Av AB (V.convI (by rw [Tryd.underlying3];rfl) Tryd.underlying5 rfl (IntWalk.u8_in _ (by omega))) ?_);go_step;with_reducible exact zq9.out):p:=h ⟨k⟩
theorem Nv(k:q)(h:Aq q→p:=by intro zq9;(with_reducible refine Az _ (.fieldAddr 32 _ 4) ?_);(refine Av AB (V.fieldAddr GH rfl CD) ?_);go_step;with_reducible exact zq9.out):p:=h ⟨k⟩
theorem Nw(k:q)(h:Aq q→p:=by intro zq9;(with_reducible refine Az _ (.load 25 _) ?_);(refine A3 ?_;apply F6 hS 25 _ rfl _ _ rfl 64 (AY rfl) _;(case hp=>exact AQ);(case hi=>(repeat (first|(apply Ih.head;exact CM)|(apply Ih.skipI;(case hn=>exact CM);(case h=>omega);(case ho=>rfl))|apply Ih.skipV)));refine AC ?_);go_step;with_reducible exact zq9.out):p:=h ⟨k⟩
theorem Nx(k:q)(h:Aq q→p:=by intro zq9;(with_reducible refine Az _ (.load 26 _) ?_);(refine A3 ?_;apply F6 hS 26 _ rfl _ _ rfl 16 (AY rfl) _;(case hp=>exact AQ);(case hi=>(repeat (first|(apply Ih.head;exact CM)|(apply Ih.skipI;(case hn=>exact CM);(case h=>omega);(case ho=>rfl))|apply Ih.skipV)));refine AC ?_);go_step;with_reducible exact zq9.out):p:=h ⟨k⟩
theorem Ny(k:q)(h:Aq q→p:=by intro zq9;(with_reducible refine Az _ (.load 4 _) ?_);(refine A3 ?_;apply CQ hS 4 _ rfl _ _ rfl (Ab rfl) _;(case hp=>exact AQ);(case hc=>rfl);refine AC ?_);go_step;with_reducible exact zq9.out):p:=h ⟨k⟩
theorem Nz(k:q)(h:Aq q→p:=by intro zq9;(with_reducible refine Az _ (.slice 22 _ _ _ _) ?_);(refine Av AB (V.slice Tryd.underlying22 JV rfl (by (first|exact Lo.none|exact Lo.some rfl BL)) (by (first|exact Up.none|exact Up.some rfl BL)) (by omega) (by omega)) ?_);go_step;with_reducible exact zq9.out):p:=h ⟨k⟩
theorem N0(n:Nat)(k:q)(h:Aq q→Bh n p:=by intro zq9;(with_reducible refine Bl ?_);(refine AP (.int _ (((en:Nat):Int))) (V.as (V.subI rfl rfl (by omega)) (by omega)) (by kernel_rfl) ?_);go_step;with_reducible exact zq9.out):p:=h ⟨k⟩
theorem N5(n:Nat)(k:q)(h:Aq q→Bh n p:=by intro zq9;(with_reducible refine Bl ?_);(refine AP (.int _ (((h+1:Nat):Int))) (V.as (V.addI rfl rfl (by omega)) (by omega)) (by kernel_rfl) ?_);go_step;with_reducible exact zq9.out):p:=h ⟨k⟩
theorem N6(n:Nat)(k:q)(h:Aq q→Bh n p:=by intro zq9;(with_reducible refine Bl ?_);(refine AP (.int _ (((h:Nat):Int))) (V.as (V.shr rfl rfl BL (by omega) rfl) (by omega)) (by kernel_rfl) ?_);go_step;with_reducible exact zq9.out):p:=h ⟨k⟩
theorem N7(n:Nat)(k:q)(h:Aq q→Bh n p:=by intro zq9;(with_reducible refine Bl ?_);(refine AP (.int _ (((k+1:Nat):Int))) (V.as (V.addI rfl rfl (by omega)) (by omega)) (by kernel_rfl) ?_);go_step;with_reducible exact zq9.out):p:=h ⟨k⟩
theorem N8(n:Nat)(k:q)(h:Aq q→Bh n p:=by intro zq9;(with_reducible refine Bl ?_);(refine AP (.int _ (((q+1:Nat):Int))) (V.as (V.addI rfl rfl (by omega)) (by omega)) (by kernel_rfl) ?_);go_step;with_reducible exact zq9.out):p:=h ⟨k⟩
theorem N9(n:Nat)(k:q)(h:Aq q→Bh n p:=by intro zq9;(with_reducible refine Bl ?_);(refine AP (.int _ (((t:Nat):Int))) (V.as (V.mulI rfl rfl (by omega)) (by omega)) (by kernel_rfl) ?_);go_step;with_reducible exact zq9.out):p:=h ⟨k⟩
theorem OA(n:Nat)(k:q)(h:Aq q→Bh n p:=by intro zq9;(with_reducible refine Bl ?_);(refine Av AB (V.build (vs:=[]) rfl KF) ?_);go_step;with_reducible exact zq9.out):p:=h ⟨k⟩
theorem OB(n:Nat)(k:q)(h:Aq q→Bh n p:=by intro zq9;(with_reducible refine Bl ?_);(refine Av AB (V.indexAr Tryd.underlying26 DC rfl rfl BL (by omega) (Nat.mul_one _) CD) ?_);go_step;with_reducible exact zq9.out):p:=h ⟨k⟩
theorem OC(n:Nat)(k:q)(h:Aq q→Bh n p:=by intro zq9;(with_reducible refine Bl ?_);(refine Av AB (V.len Tryd.underlying63 rfl) ?_);go_step;with_reducible exact zq9.out):p:=h ⟨k⟩
theorem OE{T q:World→Prop}(k:∀w,T w→q w)(h:LK T q→p:=by intro zq9;(with_reducible refine Az _ (.store 3 _ _) ?_);(refine A3 ?_;apply If hS 3 _ _ rfl _ _ rfl (Ab rfl) _ _;(case hp=>exact AQ);(case hy=>rfl);(case hi=>(repeat (first|(apply EZ.head;(case hn=>exact CM);(case h=>omega))|(apply EZ.skipI;(case hn=>exact CM);(case h=>omega);(case ho=>rfl))|apply EZ.skipV)));(case hd=>exact rfl));intro w9 h9;with_reducible exact zq9.out w9 h9):p:=h ⟨k⟩
theorem OF{T q:World→Prop}(k:∀w,T w→q w)(h:LK T q→p:=by intro zq9;(with_reducible refine Az _ (.store 5 _ _) ?_);(refine A3 ?_;apply FE hS 5 _ _ rfl _ _ rfl (Ab rfl) _ _ _ _ _;(case hp=>exact AQ);(case hy=>exact Bx);(case hv=>rfl);(case hi=>omega);(case hd=>exact rfl));intro w9 h9;with_reducible exact zq9.out w9 h9):p:=h ⟨k⟩
theorem OG(n:Nat)(k:q)(h:Aq q→Bh n p:=by intro zq9;(with_reducible refine Bl ?_);(refine Ca (by with_reducible assumption) Tryd.underlying23 DC rfl rfl BL (by omega) AB ?_);with_reducible exact zq9.out):p:=h ⟨k⟩
theorem OH(k:q)(h:Aq q→p:=by intro zq9;(with_reducible refine Az _ (.binOp .geq _ _ _ _) ?_);(refine Av AB (V.geq rfl rfl) ?_);go_step;with_reducible exact zq9.out):p:=h ⟨k⟩
theorem OI(k:q)(h:Aq q→p:=by intro zq9;(with_reducible refine Az _ (.binOp .sub _ _ _ _) ?_);(refine Av AB (V.subI rfl rfl (by omega)) ?_);go_step;with_reducible exact zq9.out):p:=h ⟨k⟩
theorem OJ(k:q)(h:Aq q→p:=by intro zq9;(with_reducible refine Az _ (.call ⟨.builtin .len,_,_⟩) ?_);(refine Av AB (V.len Tryd.underlying23 rfl) ?_);go_step;with_reducible exact zq9.out):p:=h ⟨k⟩
theorem OK(k:q)(h:Aq q→p:=by intro zq9;(with_reducible refine Az _ (.fieldAddr 28 _ 1) ?_);(refine Av AB (V.fieldAddr GG rfl CD) ?_);go_step;with_reducible exact zq9.out):p:=h ⟨k⟩
theorem OL(k:q)(h:Aq q→p:=by intro zq9;(with_reducible refine Az _ (.fieldAddr 30 _ 0) ?_);(refine Av AB (V.fieldAddr KN rfl CD) ?_);go_step;with_reducible exact zq9.out):p:=h ⟨k⟩
theorem OM(k:q)(h:Aq q→p:=by intro zq9;(with_reducible refine Az _ (.fieldAddr 30 _ 1) ?_);(refine Av AB (V.fieldAddr KO rfl CD) ?_);go_step;with_reducible exact zq9.out):p:=h ⟨k⟩
theorem ON(k:q)(h:Aq q→p:=by intro zq9;(with_reducible refine Az _ (.fieldAddr 32 _ 6) ?_);(refine Av AB (V.fieldAddr En rfl CD) ?_);go_step;with_reducible exact zq9.out):p:=h ⟨k⟩
theorem OO(k:q)(h:Aq q→p:=by intro zq9;(with_reducible refine Az _ (.fieldAddr 54 _ 0) ?_);(refine Av AB (V.fieldAddr MR rfl CD) ?_);go_step;with_reducible exact zq9.out):p:=h ⟨k⟩
theorem OP(k:q)(h:Aq q→p:=by intro zq9;(with_reducible refine Az _ (.load 22 _) ?_);(refine A3 ?_;apply CQ hS 22 _ rfl _ _ rfl (Ab rfl) _;(case hp=>exact AQ);(case hc=>rfl);refine AC ?_);go_step;with_reducible exact zq9.out):p:=h ⟨k⟩
theorem OQ(k:q)(h:Aq q→p:=by intro zq9;(with_reducible refine Az _ (.load 22 _) ?_);(refine A3 ?_;apply C9 hS 22 _ rfl _ _ rfl (Ab rfl) _ _ _ _ _;(case hp=>exact AQ);(case hv=>with_reducible assumption);refine AC ?_);go_step;with_reducible exact zq9.out):p:=h ⟨k⟩
theorem OR(n:Nat)(k:q)(h:Aq q→Bh n p:=by intro zq9;(with_reducible refine Bl ?_);(refine A3 ?_;apply FC (enc:=ik) hS 68 _ _ rfl _ rfl _ rfl Tryd.underlying68 (Bi Tryd.underlying3) (.int .i64 0) (fun w=>Tryd.zeroValue3 w) _;(case hp=>exact AQ);(case hf=>with_reducible assumption);refine AC ?_);go_step;with_reducible exact zq9.out):p:=h ⟨k⟩
theorem OS(n:Nat)(k:q)(h:Aq q→Bh n p:=by intro zq9;(with_reducible refine Bl ?_);(refine AP (.int _ (((2*z+y:Nat):Int))) (V.as (V.addI rfl rfl (by omega)) (by omega)) (by kernel_rfl) ?_);go_step;with_reducible exact zq9.out):p:=h ⟨k⟩
theorem OT(n:Nat)(k:q)(h:Aq q→Bh n p:=by intro zq9;(with_reducible refine Bl ?_);(refine AP (.int _ (((2*z:Nat):Int))) (V.as (V.shlI rfl rfl BL (by omega) (by omega)) (by omega)) (by kernel_rfl) ?_);go_step;with_reducible exact zq9.out):p:=h ⟨k⟩
theorem OU(n:Nat)(k:q)(h:Aq q→Bh n p:=by intro zq9;(with_reducible refine Bl ?_);(refine AP (.int _ (((a+s:Nat):Int))) (V.as (V.addI rfl rfl (by omega)) (by omega)) (by kernel_rfl) ?_);go_step;with_reducible exact zq9.out):p:=h ⟨k⟩
theorem OV(n:Nat)(k:q)(h:Aq q→Bh n p:=by intro zq9;(with_reducible refine Bl ?_);(refine AP (.int _ (((s+1:Nat):Int))) (V.as (V.addI rfl rfl (by omega)) (by omega)) (by kernel_rfl) ?_);go_step;with_reducible exact zq9.out):p:=h ⟨k⟩
theorem OW(n:Nat)(k:q)(h:Aq q→Bh n p:=by intro zq9;(with_reducible refine Bl ?_);(refine AP (.int _ (((x:Nat):Int))) (V.as (V.subI rfl rfl (by omega)) (by omega)) (by kernel_rfl) ?_);go_step;with_reducible exact zq9.out):p:=h ⟨k⟩
theorem OX(n:Nat)(k:q)(h:Aq q→Bh n p:=by intro zq9;(with_reducible refine Bl ?_);(refine AP (.int _ (0)) (V.as (V.subI rfl rfl (by omega)) (by omega)) (by kernel_rfl) ?_);go_step;with_reducible exact zq9.out):p:=h ⟨k⟩
theorem OY(n:Nat)(k:q)(h:Aq q→Bh n p:=by intro zq9;(with_reducible refine Bl ?_);(refine Av AB (V.build (vs:=[]) rfl KH) ?_;unfold gz);go_step;with_reducible exact zq9.out):p:=h ⟨k⟩
theorem OZ(n:Nat)(k:q)(h:Aq q→Bh n p:=by intro zq9;(with_reducible refine Bl ?_);(refine Av AB (V.indexSl Tryd.underlying69 Nf rfl rfl BL (by omega) rfl CD) ?_);go_step;with_reducible exact zq9.out):p:=h ⟨k⟩
theorem On(n:Nat){T q:Nat→World→Prop}(k:∀g w,T g w→q g w)(h:KA T q→Bh n p:=by intro zq9;(with_reducible refine Bl ?_);(refine A3 ?_;apply AM (o:=⟨some _,_,_,_,_,_⟩) hS 22 4 _ rfl 5 1 1 Ei _ _;(case hvs=>(repeat (first|exact AN.nil|(apply AN.agg;(rfl);(rfl))|(apply AN.one;exact Bx;(rfl);(rfl)))));(case hn=>rfl);(case hn0=>decide);(case hns=>decide));intro g w9 h9;refine AC ?_;go_step;with_reducible exact zq9.out g w9 h9):p:=h ⟨k⟩
theorem NC(n:Nat){T q:Nat→World→Prop}(k:∀g w,T g w→q g w)(h:KA T q→Bh n p:=by intro zq9;(with_reducible refine Bl ?_);(refine A3 ?_;apply AM (o:=⟨some _,_,_,_,_,_⟩) hS 23 1 _ rfl 3 1 8 FR _ _;(case hvs=>(repeat (first|exact AN.nil|(apply AN.agg;(rfl);(rfl))|(apply AN.one;exact Bx;(rfl);(rfl)))));(case hn=>rfl);(case hn0=>decide);(case hns=>decide));intro g w9 h9;refine AC ?_;go_step;with_reducible exact zq9.out g w9 h9):p:=h ⟨k⟩
theorem ND(n:Nat){T q:Nat→World→Prop}(k:∀g w,T g w→q g w)(h:KA T q→Bh n p:=by intro zq9;(with_reducible refine Bl ?_);(refine A3 ?_;apply Co (o:=⟨some _,_,_,_,_,_⟩) hS 23 1 _ rfl 3 1 8 FR _ _;(case hvs=>(repeat (first|exact AN.nil|(apply AN.agg;(rfl);(rfl))|(apply AN.one;exact Bx;(rfl);(rfl)))));(case hn=>rfl);(case hn0=>decide);(case hns=>decide));intro g w9 h9;refine AC ?_;go_step;with_reducible exact zq9.out g w9 h9):p:=h ⟨k⟩
theorem NE{T q:World→Prop}(k:∀w,T w→q w)(h:LK T q→p:=by intro zq9;(with_reducible refine Az _ (.mapUpdate 68 _ _ _) ?_);(refine A3 ?_;apply Du (enc:=ik) hS 68 _ _ _ rfl _ rfl _ rfl Tryd.underlying68 (Bi Tryd.underlying3) _;(case hp=>exact AQ);(case hv=>(first|exact CT.int rfl|exact CT.bool rfl|exact CT.slice rfl|exact CT.pointer rfl|exact CT.string rfl|exact CT.map rfl|exact CT.func rfl|exact CT.agg rfl));(case hd=>exact rfl));intro w9 h9;with_reducible exact zq9.out w9 h9):p:=h ⟨k⟩
theorem NF{T q:World→Prop}(k:∀w,T w→q w)(h:LK T q→p:=by intro zq9;(with_reducible refine Az _ (.mapUpdate 88 _ _ _) ?_);(refine A3 ?_;apply Du (enc:=ik) hS 88 _ _ _ rfl _ rfl _ rfl Tryd.underlying88 (Bi Tryd.underlying3) _;(case hp=>exact AQ);(case hv=>(first|exact CT.int rfl|exact CT.bool rfl|exact CT.slice rfl|exact CT.pointer rfl|exact CT.string rfl|exact CT.map rfl|exact CT.func rfl|exact CT.agg rfl));(case hd=>exact rfl));intro w9 h9;with_reducible exact zq9.out w9 h9):p:=h ⟨k⟩
theorem NG{T q:World→Prop}(k:∀w,T w→q w)(h:LK T q→p:=by intro zq9;(with_reducible refine Az _ (.store 23 _ _) ?_);(refine A3 ?_;apply CZ hS 23 _ _ rfl _ _ rfl (Ab rfl) _ _;(case hp=>exact AQ);(case hy=>exact Bx);(case hz=>rfl);(case hi=>(repeat (first|exact DM.head|(apply DM.skipI;(case hn=>exact CM);(case h=>omega);(case ho=>rfl))|apply DM.skipV)));(case hd=>exact rfl));intro w9 h9;with_reducible exact zq9.out w9 h9):p:=h ⟨k⟩
theorem NH(n:Nat){T q:Option Addr→Nat→World→Prop}(k:∀a c w,T a c w→q a c w)(h:Nq T q→Bh n p:=by intro zq9;(with_reducible refine Bl ?_);(refine A3 ?_;apply Ad (o:=⟨some _,_,_,_,_,_⟩) (hS.nilk 5 1 .u8) _ _ 22 rfl 5 1 1 Ei _ _ _ _ rfl;(case hp=>exact AQ);(case hx=>exact rfl);(case hm=>(first|exact hS.slBlk AQ (by rfl) (by decide)|exact hS.sl AQ|with_reducible assumption|exact Sl.ext (by with_reducible assumption) hS.1|exact Sl.nil _ _|exact Sl.ext (by assumption) hS.1|assumption));(case h1=>(first|exact BQ rfl|exact BE _ _|(intro u hu;cases hu)));(case h63=>unfold maxLen;omega);(case hb=>omega));intro a9 c9 w9 h9;(first|simp only [Bz] at h9|simp only [B3] at h9|simp only [B4] at h9|simp only [B5] at h9|simp only [B6] at h9|skip);refine AC ?_;go_step;with_reducible exact zq9.out a9 c9 w9 h9):p:=h ⟨k⟩
theorem NI(n:Nat){T q:Option Addr→Nat→World→Prop}(k:∀a c w,T a c w→q a c w)(h:Nq T q→Bh n p:=by intro zq9;(with_reducible refine Bl ?_);(refine A3 ?_;apply Ad (o:=⟨some _,_,_,_,_,_⟩) hS _ _ 23 rfl 3 1 8 FR _ _ _ _ rfl;(case hp=>exact AQ);(case hx=>exact rfl);(case hm=>(first|exact hS.slBlk AQ (by rfl) (by decide)|exact hS.sl AQ|with_reducible assumption|exact Sl.ext (by with_reducible assumption) hS.1|exact Sl.nil _ _|exact Sl.ext (by assumption) hS.1|assumption));(case h1=>(first|exact BQ rfl|exact BE _ _|(intro u hu;cases hu)));(case h63=>unfold maxLen;omega);(case hb=>omega));intro a9 c9 w9 h9;(first|simp only [Bz] at h9|simp only [B3] at h9|simp only [B4] at h9|simp only [B5] at h9|simp only [B6] at h9|skip);refine AC ?_;go_step;with_reducible exact zq9.out a9 c9 w9 h9):p:=h ⟨k⟩
theorem NJ(n:Nat){T q:Option Addr→Nat→World→Prop}(k:∀a c w,T a c w→q a c w)(h:Nq T q→Bh n p:=by intro zq9;(with_reducible refine Bl ?_);(refine A3 ?_;apply Ad (o:=⟨some _,_,_,_,_,_⟩) hS _ _ 35 rfl 22 1 24 IB _ _ _ _ rfl;(case hp=>exact AQ);(case hx=>exact rfl);(case hm=>(first|exact hS.slBlk AQ (by rfl) (by decide)|exact hS.sl AQ|with_reducible assumption|exact Sl.ext (by with_reducible assumption) hS.1|exact Sl.nil _ _|exact Sl.ext (by assumption) hS.1|assumption));(case h1=>(first|exact BQ rfl|exact BE _ _|(intro u hu;cases hu)));(case h63=>unfold maxLen;omega);(case hb=>omega));intro a9 c9 w9 h9;(first|simp only [Bz] at h9|simp only [B3] at h9|simp only [B4] at h9|simp only [B5] at h9|simp only [B6] at h9|skip);refine AC ?_;go_step;with_reducible exact zq9.out a9 c9 w9 h9):p:=h ⟨k⟩
theorem NK(k:q)(h:Aq q→p:=by intro zq9;(with_reducible refine Az _ (.load 23 _) ?_);(refine A3 ?_;apply Ds hS 23 _ rfl _ rfl (Ab rfl) _;(case hc=>with_reducible assumption);refine AC ?_);go_step;with_reducible exact zq9.out):p:=h ⟨k⟩
theorem NL(n:Nat)(k:q)(h:Aq q→Bh n p:=by intro zq9;(with_reducible refine Bl ?_);(refine A3 ?_;apply FB (enc:=ik) hS 68 _ _ rfl _ rfl _ rfl Tryd.underlying68 (Bi Tryd.underlying3) (.int .i64 0) (fun w=>Tryd.zeroValue3 w) _;(case hp=>exact AQ);(case hf=>with_reducible assumption);refine AC ?_);go_step;with_reducible exact zq9.out):p:=h ⟨k⟩
end
end Go.Proofs.YtkcbhcajfcfmmaaDoor
namespace Go.Proofs.YtkcbhcajfcfmmaaDoor
attribute [local irreducible] Region.wanted
set_option linter.unusedVariables false
set_option maxRecDepth 100000
set_option maxHeartbeats 8000000
theorem JV:(Tryd.prog.info? 5).map (·.size)=some 1:=by kernel_rfl
theorem DC:(Tryd.prog.info? 3).map (·.size)=some 1:=by kernel_rfl
theorem II:AR Tryd.prog 28 0 0 26:=AR.mk' _ _ 16 Tryd.underlying28 rfl rfl rfl AB (by decide)
theorem GG:AR Tryd.prog 28 1 16 23:=AR.mk' _ _ 1 Tryd.underlying28 rfl rfl rfl AB (by decide)
theorem KN:AR Tryd.prog 30 0 0 28:=AR.mk' _ _ 17 Tryd.underlying30 rfl rfl rfl AB (by decide)
theorem KO:AR Tryd.prog 30 1 17 28:=AR.mk' _ _ 17 Tryd.underlying30 rfl rfl rfl AB (by decide)
theorem MM:AR Tryd.prog 32 0 0 3:=AR.mk' _ _ 1 Tryd.underlying32 rfl rfl rfl AB (by decide)
theorem MN:AR Tryd.prog 32 1 1 3:=AR.mk' _ _ 1 Tryd.underlying32 rfl rfl rfl AB (by decide)
theorem MO:AR Tryd.prog 32 2 2 3:=AR.mk' _ _ 1 Tryd.underlying32 rfl rfl rfl AB (by decide)
theorem MP:AR Tryd.prog 32 3 3 25:=AR.mk' _ _ 64 Tryd.underlying32 rfl rfl rfl AB (by decide)
theorem GH:AR Tryd.prog 32 4 67 30:=AR.mk' _ _ 34 Tryd.underlying32 rfl rfl rfl AB (by decide)
theorem MQ:AR Tryd.prog 32 5 101 3:=AR.mk' _ _ 1 Tryd.underlying32 rfl rfl rfl AB (by decide)
theorem En:AR Tryd.prog 32 6 102 22:=AR.mk' _ _ 1 Tryd.underlying32 rfl rfl rfl AB (by decide)
theorem KW:(Tryd.prog.info? 22).map (·.size)=some 1:=by kernel_rfl
theorem MR:AR Tryd.prog 54 0 0 22:=AR.mk' _ _ 1 Tryd.underlying54 rfl rfl rfl AB (by decide)
theorem MS:AR Tryd.prog 54 1 1 4:=AR.mk' _ _ 1 Tryd.underlying54 rfl rfl rfl AB (by decide)
theorem IJ:AR Tryd.prog 62 0 0 3:=AR.mk' _ _ 1 Tryd.underlying62 rfl rfl rfl AB (by decide)
theorem IK:AR Tryd.prog 62 1 1 23:=AR.mk' _ _ 1 Tryd.underlying62 rfl rfl rfl AB (by decide)
theorem KX:(Tryd.prog.info? 62).map (·.size)=some 2:=by kernel_rfl
theorem Nf:(Tryd.prog.info? 28).map (·.size)=some 17:=by kernel_rfl
theorem Lz:(Tryd.prog.info? 23).map (·.size)=some 1:=by kernel_rfl
end Go.Proofs.YtkcbhcajfcfmmaaDoor
namespace Go.Proofs.YtkcbhcajfcfmmaaDoor
open Go.RowKit
set_option linter.unusedVariables false
set_option maxRecDepth 100000
set_option maxHeartbeats 8000000
section
variable{P:Program}{Q:Exit→Act→World→Prop}{md:Region.Mode}{D:List Nat}{S:World→Prop}{l:List Oper}{fuel:Nat}{listed:Array Bool}{a:Act}{w:World}
 {d:Option Tmp} {op:Op} {ty:TypeId} {pos:String} {af:Array Edge} {g:Option (Nat×Bool)}
theorem BJ(i:Nat)(v:Value)(hi:DK ⟨d,op,ty,pos,af,g⟩ i l)(hs:Region.noSelect l.toArray=true)(hf:Region.free md l.toArray listed i=true)(hr:(Region.ready md l.toArray listed).contains i=true)
 (hQ:∀v c a w,Q (.panic c) (a.put d v) w→Q (.panic c) a w) (hv:CG P op ty a v) (hw:Region.wanted ⟨d,op,ty,pos,af,g⟩ (yielded l.toArray a.tmps)=true)
 (h:(Oper.mk d (.move (.const v)) ty pos af g).wp P a w (AH P md l.toArray Q D S fuel (listed.setIfInBounds i true)) Q):AH P md l.toArray Q D S (fuel+1) listed a w:=
 Fu i hi hs hf hr hQ (fun w=>AP v hv hw (Dr v _ (show wpList P l.toArray _ [] _ _ from wpList_nil ⟨rfl,rfl⟩))) (by cases d<;>rfl) h
theorem L9(i:Nat)(x:Operand)(hi:DK ⟨d, .move x,ty,pos,af,g⟩ i l)(hs:Region.noSelect l.toArray=true)(hf:Region.free md l.toArray listed i=true)(hr:(Region.ready md l.toArray listed).contains i=true)
 (hQ:∀v c a w,Q (.panic c) (a.put d v) w→Q (.panic c) a w) (hw:Region.wanted ⟨d, .move x,ty,pos,af,g⟩ (yielded l.toArray a.tmps)=true)
 (h:(Oper.mk d (.move x) ty pos af g).wp P a w (AH P md l.toArray Q D S fuel (listed.setIfInBounds i true)) Q):AH P md l.toArray Q D S (fuel+1) listed a w:=
 Fu i hi hs hf hr hQ (a1:=a.put d (a.eval x)) (fun w=>AP _ (fun _ _ _ _ _=>rfl) hw (Dr _ _ (show wpList P l.toArray _ [] _ _ from wpList_nil ⟨rfl,rfl⟩))) (by cases d<;>rfl) h
theorem L7(i:Nat)(x:Operand)(hi:DK ⟨d, .assign x,ty,pos,af,g⟩ i l)(hs:Region.noSelect l.toArray=true)(hf:Region.free md l.toArray listed i=true)(hr:(Region.ready md l.toArray listed).contains i=true)
 (hQ:∀v c a w,Q (.panic c) (a.put d v) w→Q (.panic c) a w) (hw:Region.wanted ⟨d, .assign x,ty,pos,af,g⟩ (yielded l.toArray a.tmps)=true)
 (h:(Oper.mk d (.move x) ty pos af g).wp P a w (AH P md l.toArray Q D S fuel (listed.setIfInBounds i true)) Q):AH P md l.toArray Q D S (fuel+1) listed a w:=
 Fu i hi hs hf hr hQ (a1:=a.put d (a.eval x)) (fun w=>AP _ (fun _ _ _ _ _=>rfl) hw (Dr _ _ (show wpList P l.toArray _ [] _ _ from wpList_nil ⟨rfl,rfl⟩))) (by cases d<;>rfl) h
theorem Hp(i:Nat)(b:Bool){c x y:Operand}(hi:DK ⟨d, .pick c x y,ty,pos,af,g⟩ i l)(hs:Region.noSelect l.toArray=true)(hf:Region.free md l.toArray listed i=true)(hr:(Region.ready md l.toArray listed).contains i=true)
 (hQ:∀v c a w,Q (.panic c) (a.put d v) w→Q (.panic c) a w) (hc:a.eval c= .bool b) (hw:Region.wanted ⟨d, .pick c x y,ty,pos,af,g⟩ (yielded l.toArray a.tmps)=true)
 (h:(Oper.mk d (.move (bif b then x else y)) ty pos af g).wp P a w (AH P md l.toArray Q D S fuel (listed.setIfInBounds i true)) Q):AH P md l.toArray Q D S (fuel+1) listed a w:=
 Fu i hi hs hf hr hQ (a1:=a.put d (a.eval (bif b then x else y))) (fun w=>AP _ (fun _ _ _ _ w=>by simp only [execOp,hc,asBool,Sem.run_bind,Sem.run_pure,Result.andThen_ok];cases b<;>rfl) hw (Dr _ _ (show wpList P l.toArray _ [] _ _ from wpList_nil ⟨rfl,rfl⟩))) (by cases d<;>rfl) h
theorem Js(i:Nat){c x y:Operand}(hi:DK ⟨d, .pick c x y,ty,pos,af,g⟩ i l)(hs:Region.noSelect l.toArray=true)(hf:Region.free md l.toArray listed i=true)(hr:(Region.ready md l.toArray listed).contains i=true)
 (hQ:∀v c a w,Q (.panic c) (a.put d v) w→Q (.panic c) a w) (hc:a.eval c= .bool true) (hw:Region.wanted ⟨d, .pick c x y,ty,pos,af,g⟩ (yielded l.toArray a.tmps)=true)
 (h:(Oper.mk d (.move x) ty pos af g).wp P a w (AH P md l.toArray Q D S fuel (listed.setIfInBounds i true)) Q):AH P md l.toArray Q D S (fuel+1) listed a w:=Hp i true hi hs hf hr hQ hc hw h
theorem Fv(i:Nat){c x y:Operand}(hi:DK ⟨d, .pick c x y,ty,pos,af,g⟩ i l)(hs:Region.noSelect l.toArray=true)(hf:Region.free md l.toArray listed i=true)(hr:(Region.ready md l.toArray listed).contains i=true)
 (hQ:∀v c a w,Q (.panic c) (a.put d v) w→Q (.panic c) a w) (hc:a.eval c= .bool false) (hw:Region.wanted ⟨d, .pick c x y,ty,pos,af,g⟩ (yielded l.toArray a.tmps)=true)
 (h:(Oper.mk d (.move y) ty pos af g).wp P a w (AH P md l.toArray Q D S fuel (listed.setIfInBounds i true)) Q):AH P md l.toArray Q D S (fuel+1) listed a w:=Hp i false hi hs hf hr hQ hc hw h
theorem Nk(i:Nat)(b:Bool)(hi:DK ⟨d,op,ty,pos,af,g⟩ i l)(hs:Region.noSelect l.toArray=true)(hf:Region.free md l.toArray listed i=true)(hr:(Region.ready md l.toArray listed).contains i=true)
 (hQ:∀v c a w,Q (.panic c) (a.put d v) w→Q (.panic c) a w) (hv:CG P op ty a (.bool b)) (hw:Region.wanted ⟨d,op,ty,pos,af,g⟩ (yielded l.toArray a.tmps)=true)
 (ht:b=true→(Oper.mk d (.move (.const (.bool true))) ty pos af g).wp P a w (AH P md l.toArray Q D S fuel (listed.setIfInBounds i true)) Q)
 (hn:b=false→(Oper.mk d (.move (.const (.bool false))) ty pos af g).wp P a w (AH P md l.toArray Q D S fuel (listed.setIfInBounds i true)) Q):AH P md l.toArray Q D S (fuel+1) listed a w:=by
 cases b
 ·exact BJ i _ hi hs hf hr hQ hv hw (hn rfl)
 exact BJ i _ hi hs hf hr hQ hv hw (ht rfl)
theorem L8(i:Nat)(p:Prop)[Decidable p](hi:DK ⟨d,op,ty,pos,af,g⟩ i l)(hs:Region.noSelect l.toArray=true)(hf:Region.free md l.toArray listed i=true)(hr:(Region.ready md l.toArray listed).contains i=true)
 (hQ:∀v c a w,Q (.panic c) (a.put d v) w→Q (.panic c) a w) (hv:CG P op ty a (.bool (decide p))) (hw:Region.wanted ⟨d,op,ty,pos,af,g⟩ (yielded l.toArray a.tmps)=true)
 (ht:p→(Oper.mk d (.move (.const (.bool true))) ty pos af g).wp P a w (AH P md l.toArray Q D S fuel (listed.setIfInBounds i true)) Q)
 (hn:¬p→(Oper.mk d (.move (.const (.bool false))) ty pos af g).wp P a w (AH P md l.toArray Q D S fuel (listed.setIfInBounds i true)) Q):AH P md l.toArray Q D S (fuel+1) listed a w:=
 Nk i _ hi hs hf hr hQ hv hw (fun h=>ht (of_decide_eq_true h)) (fun h=>hn (of_decide_eq_false h))
theorem MA(i:Nat)(hi:DK ⟨d,op,ty,pos,af,g⟩ i l)(hs:Region.noSelect l.toArray=true)(hf:Region.free md l.toArray listed i=true)(hr:(Region.ready md l.toArray listed).contains i=true)
 (hQ:∀v c a w,Q (.panic c) (a.put d v) w→Q (.panic c) a w) (hw:Region.wanted ⟨d,op,ty,pos,af,g⟩ (yielded l.toArray a.tmps)=false)
 (h:(Oper.mk d (.move (.const undef)) ty pos af g).wp P a w (AH P md l.toArray Q D S fuel (listed.setIfInBounds i true)) Q):AH P md l.toArray Q D S (fuel+1) listed a w:=
 Fu i hi hs hf hr hQ (a1:=a.put d undef) (fun w=>wpList_skip hw (wpList_nil ⟨rfl,rfl⟩)) (by cases d<;>rfl) h
end
section
variable{P:Program}{Q:Exit→Act→World→Prop}{a:Act}{W w:World}{c:Code}
end
end Go.Proofs.YtkcbhcajfcfmmaaDoor
/- Short words for regions that draw their order. -/
namespace Go.Proofs.YtkcbhcajfcfmmaaDoor
open Go.RowKit
set_option linter.unusedVariables false
set_option maxRecDepth 100000
set_option maxHeartbeats 8000000
structure LI(md:Region.Mode)(l:List Oper)(listed:Array Bool)(Q:Exit→Act→World→Prop)(a:Act)(d:Option Tmp)(op:Op)(ty:TypeId)(pos:String)(af:Array Edge)(g:Option (Nat×Bool))(i:Nat)(b:Bool):Prop where
 hi:DK ⟨d,op,ty,pos,af,g⟩ i l
 hs:Region.noSelect l.toArray=true
 hf:Region.free md l.toArray listed i=true
 hr:(Region.ready md l.toArray listed).contains i=true
 hQ:∀v c a w,Q (.panic c) (a.put d v) w→Q (.panic c) a w
 hw:Region.wanted ⟨d,op,ty,pos,af,g⟩ (yielded l.toArray a.tmps)=b
section
variable{P:Program}{Q:Exit→Act→World→Prop}{md:Region.Mode}{D:List Nat}{S:World→Prop}{l:List Oper}{fuel:Nat}{listed:Array Bool}{a:Act}{w:World}{d:Option Tmp}{op:Op}{ty:TypeId}{pos:String}{af:Array Edge}{g:Option (Nat×Bool)}{x:Operand}{i:Nat}{b:Bool}
theorem DG(hi:DK ⟨d,op,ty,pos,af,g⟩ i l:=by (repeat (first|with_reducible exact DK.head|apply DK.tail)))(hs:Region.noSelect l.toArray=true:=by kernel_rfl)(hf:Region.free md l.toArray listed i=true:=by kernel_rfl)(hr:(Region.ready md l.toArray listed).contains i=true:=by kernel_rfl)
 (hQ:∀v c a w,Q (.panic c) (a.put d v) w→Q (.panic c) a w:=by first|exact fun _ _ _ _ h=>h|exact fun _ _ _ _ h=>nomatch h.1) (hw:Region.wanted ⟨d,op,ty,pos,af,g⟩ (yielded l.toArray a.tmps)=b:=by kernel_rfl):LI md l listed Q a d op ty pos af g i b:=⟨hi,hs,hf,hr,hQ,hw⟩
theorem Dw(i:Nat){v:Value}(t:LI md l listed Q a d op ty pos af g i true)(hv:CG P op ty a v)(h:(Oper.mk d (.move (.const v)) ty pos af g).wp P a w (AH P md l.toArray Q D S fuel (listed.setIfInBounds i true)) Q):AH P md l.toArray Q D S (fuel+1) listed a w:=BJ i v t.1 t.2 t.3 t.4 t.5 hv t.6 h
theorem O0(i:Nat)(t:LI md l listed Q a d (.move x) ty pos af g i true)(h:(Oper.mk d (.move x) ty pos af g).wp P a w (AH P md l.toArray Q D S fuel (listed.setIfInBounds i true)) Q):AH P md l.toArray Q D S (fuel+1) listed a w:=L9 i x t.1 t.2 t.3 t.4 t.5 t.6 h
theorem Oz(i:Nat)(t:LI md l listed Q a d (.assign x) ty pos af g i true)(h:(Oper.mk d (.move x) ty pos af g).wp P a w (AH P md l.toArray Q D S fuel (listed.setIfInBounds i true)) Q):AH P md l.toArray Q D S (fuel+1) listed a w:=L7 i x t.1 t.2 t.3 t.4 t.5 t.6 h
theorem O1(i:Nat)(t:LI md l listed Q a d op ty pos af g i false)(h:(Oper.mk d (.move (.const undef)) ty pos af g).wp P a w (AH P md l.toArray Q D S fuel (listed.setIfInBounds i true)) Q):AH P md l.toArray Q D S (fuel+1) listed a w:=MA i t.1 t.2 t.3 t.4 t.5 t.6 h
theorem Cb(i:Nat){o:Oper}(h:o.wp P a w (fun a' w'=>(i∉D→S w→S w')∧AH P md l.toArray Q D S fuel (listed.setIfInBounds i true) a' w') Q)(hi:DK o i l:=by (repeat (first|with_reducible exact DK.head|apply DK.tail)))(hw:Region.wanted o (yielded l.toArray a.tmps)=true:=by kernel_rfl)
 (hr:Region.ready md l.toArray listed=[i]:=by kernel_rfl):AH P md l.toArray Q D S (fuel+1) listed a w:=LP i hi hw hr h
theorem Oq{A:Prop}{d:Tmp}{v:Value}(h:(Oper.mk (some d) (.move (.const v)) 0 "" #[] none).wp P a w (AH P md l.toArray Q D S fuel listed) Q)(h1:A:=by exact fun _ h=>h):A∧AH P md l.toArray Q D S fuel listed (a.put (some d) v) w:=⟨h1,h⟩
def LG(_:Nat)(p:Prop):Prop:=p
def Mp(_:Nat)(_:List Nat)(p:Prop):Prop:=p
theorem Nl{v:Value}(t:LI md l listed Q a d op ty pos af g i true)(hv:CG P op ty a v)(h:(Oper.mk d (.move (.const v)) ty pos af g).wp P a w (AH P md l.toArray Q D S fuel (listed.setIfInBounds i true)) Q):LG i (AH P md l.toArray Q D S (fuel+1) listed a w):=BJ i v t.1 t.2 t.3 t.4 t.5 hv t.6 h
theorem Of(t:LI md l listed Q a d (.move x) ty pos af g i true)(h:(Oper.mk d (.move x) ty pos af g).wp P a w (AH P md l.toArray Q D S fuel (listed.setIfInBounds i true)) Q):LG i (AH P md l.toArray Q D S (fuel+1) listed a w):=L9 i x t.1 t.2 t.3 t.4 t.5 t.6 h
theorem Oe(t:LI md l listed Q a d (.assign x) ty pos af g i true)(h:(Oper.mk d (.move x) ty pos af g).wp P a w (AH P md l.toArray Q D S fuel (listed.setIfInBounds i true)) Q):LG i (AH P md l.toArray Q D S (fuel+1) listed a w):=L7 i x t.1 t.2 t.3 t.4 t.5 t.6 h
theorem Og(t:LI md l listed Q a d op ty pos af g i false)(h:(Oper.mk d (.move (.const undef)) ty pos af g).wp P a w (AH P md l.toArray Q D S fuel (listed.setIfInBounds i true)) Q):LG i (AH P md l.toArray Q D S (fuel+1) listed a w):=MA i t.1 t.2 t.3 t.4 t.5 t.6 h
end
section
variable{P:Program}{Q:Exit→Act→World→Prop}{md:Region.Mode}{D:List Nat}{S:World→Prop}{i:Nat}{E:List Nat}{l:List Oper}{oi:Oper}{a1:Act}{fuel:Nat}{listed:Array Bool}{a:Act}{w:World}
theorem E5(hi:DK oi i l)(hs:Region.noSelect l.toArray=true)(hf:Region.free md l.toArray listed i=true)(hr:(Region.ready md l.toArray listed).contains i=true)(hQ:∀v c a w,Q (.panic c) (a.put oi.dst v) w→Q (.panic c) a w)(hE:Ga md l.toArray listed i E D=true)(hSw:S w)(hfr:∀w,S w→wpList P l.toArray (FreeOne (fun w'=>w'=w) a1) [oi] a w)(hd:a1.defers=a.defers)(h:AH P md l.toArray Q D S fuel (listed.setIfInBounds i true) a1 w):Mp i E (AH P md l.toArray Q D S (fuel+1) listed a w):=I3 i hi hs hf hr hQ E hE hSw hfr hd h
theorem Od(hi:DK oi i l)(hs:Region.noSelect l.toArray=true)(hf:Region.free md l.toArray listed i=true)(hr:(Region.ready md l.toArray listed).contains i=true)(hQ:∀v c a w,Q (.panic c) (a.put oi.dst v) w→Q (.panic c) a w)(hfr:∀w,wpList P l.toArray (FreeOne (fun w'=>w'=w) a1) [oi] a w)(hd:a1.defers=a.defers)(h:AH P md l.toArray Q D S fuel (listed.setIfInBounds i true) a1 w):LG i (AH P md l.toArray Q D S (fuel+1) listed a w):=Fu i hi hs hf hr hQ hfr hd h
end
section
variable{p q:Prop}
theorem Ai(n:Nat)(k:q)(h:Aq q→LG n p:=by intro zq9;(first|(refine Of DG ?_;go_step)|(refine Oe DG ?_;go_step));with_reducible exact zq9.out):p:=h ⟨k⟩
theorem EP(n:Nat)(k:q)(h:Aq q→LG n p:=by intro zq9;refine Og DG ?_;go_step;with_reducible exact zq9.out):p:=h ⟨k⟩
theorem Y0(n:Nat)(k:q)(h:Aq q→LG n p:=by intro zq9;refine Nl DG (V.indexSl Tryd.underlying63 KX rfl rfl BL (by omega) rfl CD) ?_;go_step;with_reducible exact zq9.out):p:=h ⟨k⟩
theorem Y1(n:Nat)(L:List Nat)(k:q)(h:Aq q→Mp n L p:=by intro zq9;apply E5 Cf AB AB AB Cv AB (hS.sub Ao);(case hfr=>intro w hS;((refine A3 ?_;apply Hw hS 62 _ rfl _ _ rfl 2 (AY rfl) _ _ _ _ _;(case hp=>exact AQ);(case inst=>infer_instance);(case he=>with_reducible assumption);(case hq=>exact rfl);(case hj=>omega);refine AC ?_;go_step));refine wpList_nil ?_;exact ⟨rfl,rfl⟩);(case hd=>rfl);with_reducible exact zq9.out):p:=h ⟨k⟩
theorem Y2{T q:World→Prop}(k:∀w,T w→q w)(h:LK T q→p:=by intro zq9;(apply Jx hS 62 _ _ rfl _ _ rfl 2 (AY rfl) _ _ _ _ _;(case hp=>exact AQ);(case inst=>infer_instance);(case he=>with_reducible assumption);(case hone=>with_reducible assumption);(case hq=>exact rfl);(case hj=>omega);(case hy=>exact rfl);(case hd=>exact rfl));intro w9 h9;refine ⟨fun h=>absurd (by decide) h,?_⟩;with_reducible exact zq9.out w9 h9):p:=h ⟨k⟩
theorem Y3(n:Nat)(k:q)(h:Aq q→LG n p:=by intro zq9;refine Nl DG (V.slice Tryd.underlying22 JV rfl (by (first|exact Lo.none|exact Lo.some rfl BL)) (by (first|exact Up.none|exact Up.some rfl BL)) (by omega) (by omega)) ?_;go_step;with_reducible exact zq9.out):p:=h ⟨k⟩
theorem Y4{T q:Nat→World→Prop}(k:∀g w,T g w→q g w)(h:KA T q→p:=by intro zq9;refine AM (o:=⟨some _,_,_,_,_,_⟩) hS 23 1 _ rfl 3 1 8 FR _ _ (by (repeat (first|exact AN.nil|(apply AN.agg;(rfl);(rfl))|(apply AN.one;exact Bx;(rfl);(rfl))))) (by rfl) (by decide) (by decide) ?_;intro g9 w9 h9;refine ⟨fun h=>absurd (by decide) h,?_⟩;refine AK ?_;go_step;with_reducible exact zq9.out g9 w9 h9):p:=h ⟨k⟩
theorem Y5{T q:Nat→World→Prop}(k:∀g w,T g w→q g w)(h:KA T q→p:=by intro zq9;refine AM (o:=⟨some _,_,_,_,_,_⟩) hS 35 1 _ rfl 22 1 24 IB _ _ (by (repeat (first|exact AN.nil|(apply AN.agg;(rfl);(rfl))|(apply AN.one;exact Bx;(rfl);(rfl))))) (by rfl) (by decide) (by decide) ?_;intro g9 w9 h9;refine ⟨fun _ _=>h9.sub Ao,?_⟩;refine AK ?_;go_step;with_reducible exact zq9.out g9 w9 h9):p:=h ⟨k⟩
theorem Y6(n:Nat)(L:List Nat)(k:q)(h:Aq q→Mp n L p:=by intro zq9;apply E5 Cf AB AB AB Cv AB (hS.sub Ao);(case hfr=>intro w hS;((refine A3 ?_;apply F0 hS 23 _ rfl _ _ rfl (Ab rfl) _ _ _ _ _ _;(case hp=>exact AQ);(case inst=>infer_instance);(case he=>with_reducible assumption);(case hq=>exact rfl);(case hj=>omega);(case hv=>exact rfl);refine AC ?_;go_step));refine wpList_nil ?_;exact ⟨rfl,rfl⟩);(case hd=>rfl);with_reducible exact zq9.out):p:=h ⟨k⟩
theorem Y7(n:Nat)(L:List Nat)(k:q)(h:Aq q→Mp n L p:=by intro zq9;apply E5 Cf AB AB AB Cv AB (hS.sub Ao);(case hfr=>intro w hS;((refine A3 ?_;apply Ib hS 3 _ rfl _ _ rfl (Ab rfl) _ _ _ _ _ _;(case hp=>exact AQ);(case inst=>infer_instance);(case he=>with_reducible assumption);(case hq=>exact rfl);(case hj=>omega);(case hv=>exact rfl);refine AC ?_;go_step));refine wpList_nil ?_;exact ⟨rfl,rfl⟩);(case hd=>rfl);with_reducible exact zq9.out):p:=h ⟨k⟩
theorem Y8(n:Nat)(L:List Nat)(k:q)(h:Aq q→Mp n L p:=by intro zq9;apply E5 Cf AB AB AB Cv AB (hS.sub Ao);(case hfr=>intro w hS;((refine A3 ?_;apply DA hS 28 _ rfl _ _ rfl 17 (AY rfl) _;(case hp=>exact AQ);(case hi=>(repeat (first|(apply F9.head;(repeat (first|exact BG.nil|(apply BG.ints;(case hn=>exact CM);(case h=>omega);(case hm=>rfl))|apply BG.val)))|(apply F9.skipI;(case hn=>exact CM);(case h=>omega);(case ho=>rfl))|apply F9.skipV)));refine AC ?_;go_step));refine wpList_nil ?_;exact ⟨rfl,rfl⟩);(case hd=>rfl);with_reducible exact zq9.out):p:=h ⟨k⟩
theorem Y9(n:Nat)(L:List Nat)(k:q)(h:Aq q→Mp n L p:=by intro zq9;apply E5 Cf AB AB AB Cv AB (hS.sub Ao);(case hfr=>intro w hS;((refine A3 ?_;apply CS hS 22 _ rfl _ _ rfl (Ab rfl) _;(case hp=>exact AQ);(case hi=>(repeat (first|exact EW.head|(apply EW.skipI;(case hn=>exact CM);(case h=>omega);(case ho=>rfl))|apply EW.skipV)));refine AC ?_;go_step));refine wpList_nil ?_;exact ⟨rfl,rfl⟩);(case hd=>rfl);with_reducible exact zq9.out):p:=h ⟨k⟩
end
end Go.Proofs.YtkcbhcajfcfmmaaDoor
namespace Go.Proofs.YtkcbhcajfcfmmaaDoor
attribute [local irreducible] Region.wanted
open Go.ChangeShapes Go.WideShapes Go.ChangeAt Go.RowKit
set_option linter.unusedVariables false
set_option maxRecDepth 100000
set_option maxHeartbeats 8000000
end Go.Proofs.YtkcbhcajfcfmmaaDoor
namespace Go.Proofs.YtkcbhcajfcfmmaaDoor
attribute [local irreducible] Region.wanted
open Go.ChangeShapes Go.WideShapes Go.ChangeAt Go.RowKit Go.Deep
set_option linter.unusedVariables false
set_option maxRecDepth 100000
set_option maxHeartbeats 8000000
def CH(P:Program)(k:IntKind):Nat→TypeId→Bool
 | 0,_=>false
 | d+1,t=>match P.underlying t with
   | some (.int k')=>decide (k'=k)&&P.cellsOf t==1
   | some (.array n e)=>CH P k d e&&P.cellsOf t==n*P.cellsOf e
   | some (.struct fs)=>fs.toList.all (fun f=>CH P k d f.type)&&(List.range (P.cellsOf t)).all fun j=>fs.toList.any fun f=>decide (f.offset≤j)&&decide (j<f.offset+P.cellsOf f.type)
   | _=>false
theorem Fx{H:Type}{enc:TypeId×Value→H}{P:Program}{W:World}{base:Nat}{sp:Nat→Bool}{held:Bool}(k:IntKind):∀(d:Nat)(t:TypeId),CH P k d t=true→∀(fuel:Nat)(cs:List Value)(x:DataW H×List MemPlace),
 DataW.trod enc P W base sp held fuel t cs=some x→cs.length=P.cellsOf t∧∀j,j<cs.length→∃n,cs[j]? =some (.int k n)∧(Lit.int k n).wf=true:=by
 intro d
 induction d with
 | zero=>intro t h;simp [CH] at h
 | succ d ih=>
   intro t ht fuel cs x h
   unfold CH at ht
   split at ht
   ·rename_i k' hu
    simp only [Bool.and_eq_true,decide_eq_true_eq,beq_iff_eq] at ht
    obtain ⟨rfl,hc⟩:=ht
    obtain ⟨n,rfl,_,hw⟩:=DataW.trod_int hu h
    refine ⟨by simp [hc],fun j hj=>?_⟩
    obtain rfl:j=0:=by simp at hj;omega
    exact ⟨n,rfl,hw⟩
   ·rename_i n e hu
    simp only [Bool.and_eq_true,beq_iff_eq] at ht
    obtain ⟨he,hc⟩:=ht
    obtain ⟨xs,m,_,_,hl,hxl,hf⟩:=DataW.trod_array hu h
    refine ⟨hl,fun j hj=>?_⟩
    rw [hl,hc] at hj
    have hcp:0<P.cellsOf e:=by
     rcases Nat.eq_zero_or_pos (P.cellsOf e) with h0|h0
     ·rw [h0] at hj;simp at hj
     exact h0
    have hjn:j/P.cellsOf e<n:=by rw [Nat.div_lt_iff_lt_mul hcp];exact hj
    have hfe:=hf (j/P.cellsOf e) hjn
    rw [List.getElem?_eq_getElem (by omega)] at hfe
    obtain ⟨hl2,hv⟩:=ih e he m _ _ hfe
    have hm:=Nat.mod_lt j hcp
    obtain ⟨v,hv1,hv2⟩:=hv (j%P.cellsOf e) (by rw [hl2];exact hm)
    refine ⟨v,?_,hv2⟩
    rw [List.getElem?_take,if_pos hm,List.getElem?_drop] at hv1
    rwa [show j/P.cellsOf e*P.cellsOf e+j%P.cellsOf e=j by rw [Nat.mul_comm];exact Nat.div_add_mod j _] at hv1
   ·rename_i fs hu
    simp only [Bool.and_eq_true] at ht
    obtain ⟨he,hc⟩:=ht
    obtain ⟨xs,m,_,_,hl,hxl,hf⟩:=DataW.trod_struct hu h
    refine ⟨hl,fun j hj=>?_⟩
    rw [List.all_eq_true] at he hc
    have h1:=hc j (List.mem_range.2 (by omega))
    rw [List.any_eq_true] at h1
    obtain ⟨f,hfm,h1⟩:=h1
    simp only [Bool.and_eq_true,decide_eq_true_eq] at h1
    obtain ⟨i,hi,hfi⟩:=List.getElem_of_mem hfm
    have hi':i<fs.size:=by simpa using hi
    have hfe:=hf i f (by rw [Array.getElem?_eq_getElem hi'];simpa using hfi)
    rw [List.getElem?_eq_getElem (by omega)] at hfe
    obtain ⟨hl2,hv⟩:=ih f.type (he f hfm) m _ _ hfe
    obtain ⟨v,hv1,hv2⟩:=hv (j-f.offset) (by rw [hl2];omega)
    refine ⟨v,?_,hv2⟩
    rw [List.getElem?_take,if_pos (by omega),List.getElem?_drop,show f.offset+(j-f.offset)=j by omega] at hv1
    exact hv1
   cases ht
theorem DR{H:Type}{enc:TypeId×Value→H}{P:Program}{W:World}{t e:TypeId}{v:Value}{x:DataW H×List MemPlace}{fuel:Nat}(k:IntKind)(ht:P.underlying t=some (.slice e))(dp:Nat)(he:CH P k dp e=true)
 (s:Nat) (hs:P.cellsOf e=s) (hs0:0<s) (h:DataW.trod enc P W 0 (fun _=>true) true fuel t [v]=some x):
 ∃(n:Nat) (ns:List Int),ns.length=n*s∧Sl W s v n (ns.map (Value.int k))∧∀i,i<ns.length→(Lit.int k (AF ns i)).wf=true:=by
 rcases open_slice ht h with ⟨h0,_⟩|⟨a,len,cap,m,n,D,Pl,hcs,hb,hl,hm,hmm,_,hx⟩
 ·obtain rfl:v= .slice none 0 0:=by simpa using h0
  exact ⟨0,[],by simp,Sl.nil W s,fun i hi=>by simp at hi⟩
 obtain rfl:v= .slice (some a) len cap:=by simpa using hcs
 have hmc:m=cap:=by simpa using hmm
 subst hmc
 have each:∀i,i<len*s→∃q:Int,W.cell? (a.add i)=some (.int k q)∧(Lit.int k q).wf=true:=by
  intro i hi
  have hsp:0<s:=by
   rcases Nat.eq_zero_or_pos s with h0|h0
   ·rw [h0] at hi;simp at hi
   exact h0
  have hil:i/s<len:=by rw [Nat.div_lt_iff_lt_mul hsp];exact hi
  obtain ⟨cs',h1,h2⟩:=hx (i/s) (by omega)
  rw [hs] at h1
  obtain ⟨hl3,hv3⟩:=Fx k dp e he _ _ _ h2
  obtain ⟨_,hl4,hc4⟩:=World.cells?_some h1
  have hm3:=Nat.mod_lt i hsp
  obtain ⟨q,hq1,hq2⟩:=hv3 (i%s) (by rw [hl4];exact hm3)
  refine ⟨q,?_,hq2⟩
  rw [←hq1,←hc4 (i%s) hm3,Go.Deep.add_add,show i/s*s+i%s=i by rw [Nat.mul_comm];exact Nat.div_add_mod i _]
 obtain ⟨f,hf⟩:=choose_lt each
 refine ⟨len,(List.range (len*s)).map f,by simp,⟨by simp,some a,m,rfl,hl,hm,?_⟩,?_⟩
 ·rcases Nat.eq_zero_or_pos (len*s) with h0|h0
  ·rcases Nat.eq_zero_or_pos len with h1|h1
   ·exact .inl h1
   exact absurd h0 (by have:=Nat.mul_pos h1 hs0;omega)
  refine .inr ?_
  have hc0:=(hf 0 h0).1
  have hspot:a.spot=none:=by
   rw [show a.add 0=a from rfl] at hc0
   unfold World.cell? at hc0
   split at hc0
   ·split at hc0
    ·cases hc0
    rename_i hh;simpa using hh
   cases hc0
  refine ⟨a.block,a.off,by cases a;simp at hspot;simp [hspot],fun i hi=>?_⟩
  have hci:=(hf i hi).1
  have haddr:a.add i=⟨a.block,a.off+i,none⟩:=by
   unfold Addr.add
   split
   ·rename_i h0;subst h0;cases a;simp at hspot;simp [hspot]
   rfl
  rw [haddr] at hci
  rw [hci]
  simp [hi]
 intro i hi
 have hi':i<len*s:=by simpa using hi
 have:=(hf i hi').2
 simpa [AF,List.getD,hi'] using this
theorem G8{H:Type}{enc:TypeId×Value→H}{P:Program}{W:World}{t e:TypeId}{v:Value}{d:DataW H}{p:List MemPlace}(k:IntKind)(ht:P.underlying t=some (.slice e))(dp:Nat)(he:CH P k dp e=true)
 (s:Nat) (hs:P.cellsOf e=s) (hs0:0<s) {base:Nat} (ho:Value.okWide P W .any base t v) (h:DataW.Trod enc P W 0 (fun _=>true) true t v d p):
 ∃(n:Nat) (ns:List Int),ns.length=n*s∧Sl W s v n (ns.map (Value.int k))∧∀i,i<ns.length→(Lit.int k (AF ns i)).wf=true:=by
 obtain ⟨fuel,h⟩:=h
 have hvc:v.cells.toList=[v]:=by
  unfold Value.okWide at ho
  rw [ht] at ho
  dsimp only at ho
  unfold Cell.okWide at ho
  rw [ht] at ho
  dsimp only at ho
  unfold Cell.ok at ho
  rw [ht] at ho
  cases v<;>first|rfl|exact absurd ho (by simp)
 rw [hvc] at h
 exact DR k ht dp he s hs hs0 h
theorem MW{P:Program}{W:World}{base:Nat}{t:TypeId}{v:Value}(hd:(match P.underlying t with|some (.struct _)|some (.array _ _)=>true|_=>false)=true)(ho:Value.okWide P W .any base t v):∃cs,v= .agg cs:=by
 unfold Value.okWide at ho
 split at ho
 ·obtain ⟨cs,h,_⟩:=ho;exact ⟨cs,h⟩
 ·obtain ⟨cs,h,_⟩:=ho;exact ⟨cs,h⟩
 rename_i h1 h2
 split at hd
 ·rename_i x h3;exact absurd h3 (h1 x)
 ·rename_i x y h3;exact absurd h3 (h2 x y)
 cases hd
theorem CX(n:Int):(Lit.int .i64 n).wf=true↔ -9223372036854775808≤n∧n≤9223372036854775807:=by
 simp only [Lit.wf,Bool.and_eq_true,decide_eq_true_eq]
 have h1:IntKind.i64.min= -9223372036854775808:=rfl
 have h2:IntKind.i64.max=9223372036854775807:=rfl
 rw [h1,h2]
theorem Fy(n:Int):(Lit.int .u8 n).wf=true↔0≤n∧n≤255:=by
 simp only [Lit.wf,Bool.and_eq_true,decide_eq_true_eq]
 have h1:IntKind.u8.min=0:=rfl
 have h2:IntKind.u8.max=255:=rfl
 rw [h1,h2]
end Go.Proofs.YtkcbhcajfcfmmaaDoor
namespace Go.Proofs.YtkcbhcajfcfmmaaDoor
attribute [local irreducible] Region.wanted
set_option linter.unusedVariables false
set_option maxRecDepth 100000
set_option maxHeartbeats 8000000
end Go.Proofs.YtkcbhcajfcfmmaaDoor
namespace Go.Proofs.YtkcbhcajfcfmmaaDoor
attribute [local irreducible] Region.wanted
open Go.RowKit
set_option linter.unusedVariables false
set_option maxRecDepth 100000
set_option maxHeartbeats 8000000
theorem Ep(l:List Int)(i:Nat)(z:Int)(h:i<l.length):AF (l.set i z) i=z:=by simp [AF,List.getD,h]
theorem IR(l:List Int)(i j:Nat)(z:Int)(h:i≠j):AF (l.set i z) j=AF l j:=by simp [AF,List.getD,h]
theorem LX(l:List Int)(i j:Nat)(z:Int)(h:i<l.length):AF (l.set i z) j=if i=j then z else AF l j:=by
 split
 ·rename_i e;subst e;exact Ep l i z h
 rename_i e;exact IR l i j z e
theorem Be(l:List Int)(i:Nat)(h:i<l.length):l[i]? =some (AF l i):=by simp [AF,List.getD,h]
theorem KZ{l m:List Int}(h:l.length=m.length)(k:∀i,i<l.length→AF l i=AF m i):l=m:=by
 apply List.ext_getElem h
 intro i h1 h2
 have:=k i h1
 simpa [AF,List.getD,List.getElem?_eq_getElem h1,List.getElem?_eq_getElem h2] using this
theorem Jb(n i:Nat):AF (List.replicate n 0) i=0:=by unfold AF;rw [List.getD_eq_getElem?_getD,List.getElem?_replicate];split<;>rfl
def Ni(n:Nat)(F:Nat→Int):List Int:=(List.range n).map F
theorem EU(n:Nat)(F:Nat→Int):(Ni n F).length=n:=by simp [Ni]
theorem Iu(n:Nat)(F:Nat→Int)(i:Nat)(h:i<n):AF (Ni n F) i=F i:=by simp [Ni,AF,List.getD,h]
section
variable{P:Program}{W w:World}{rs rs':List Ac}{Q:Exit→Act→World→Prop}{K:Act→World→Prop}{o:Oper}{a:Act}
theorem St.ownLen{e:TypeId}{s n c:Nat}{ad:Option Addr}{xs:List Value}(hS:St W w rs)(hp:AI (Go.Proofs.YtkcbhcajfcfmmaaDoor.own e s ad n c xs) rs rs'):xs.length=n*s:=(hS.own hp).1
theorem Jd{e:TypeId}{s n c g off m:Nat}{xs:List Value}(hS:St W w rs)(hp:AI (own e s (some ⟨g,0,none⟩) n c xs) rs rs'):w.rangeAt g off ((xs.drop off).take m):=fun j v hv=>by
 rw [List.getElem?_take] at hv
 split at hv
 ·rw [List.getElem?_drop] at hv;exact Dh hS hp hv
 cases hv
theorem Ic(hS:St W w rs)(ty:TypeId)(x:Operand)(ho:o.op= .load ty x)(g off:Nat)(hx:a.eval x= .pointer (some ⟨g,off,none⟩))(h1:FL P ty)(e:TypeId)(s n c:Nat)(l:List Int)(hp:AI (own e s (some ⟨g,0,none⟩) n c (l.map (Value.int .i64))) rs rs')
 (hi:off<n*s) (h:K (a.put o.dst (.int .i64 (AF l off))) w):o.wp P a w K Q:=by
 have hl:=hS.ownLen hp
 rw [List.length_map] at hl
 exact C9 hS ty x ho g off hx h1 e s n c _ hp _ (by rw [List.getElem?_map,Be l off (by omega)];rfl) h
theorem Je{e:TypeId}{s n c g off:Nat}{xs:List Value}(hS:St W w rs)(hp:AI (own e s (some ⟨g,0,none⟩) n c xs) rs rs')(v:Value)(hi:off<n*s):
 w.frozen? ⟨g,off,none⟩=false∧St W (w.setCell ⟨g,off,none⟩ v) (own e s (some ⟨g,0,none⟩) n c (xs.set off v)::rs'):=by
 have hown:=hS.own hp
 refine ⟨?_,?_⟩
 ·rcases hown.2 with ⟨h1,h2⟩|⟨g',cap,cur,h1,_,hg,_⟩
  ·cases h1
  cases h1;exact frozen_of_row w g off cur e hg
 refine St.change (rs1:=[own e s (some ⟨g,0,none⟩) n c (xs.set off v)]) (hS.pull hp) fun f1 h1 _ _=>?_
 obtain ⟨rfl,h1⟩:=h1
 refine ⟨[g],⟨[g],[],rfl,⟨rfl,by simpa using h1.1,?_⟩,rfl⟩,by simp,fun b hb=> .inl (by simpa [Value.ownBlock] using hb),CE.setCell w ⟨g,off,none⟩ v⟩
 rcases h1.2 with ⟨h2,h3⟩|⟨g',cap,cur,h2,hb,hg,hn,hc,hsz,htake⟩
 ·cases h2
 cases h2
 refine .inr ⟨g,c,cur.setIfInBounds off v,rfl,hb,heap_setCell_same w g off cur e _ hg,hn,hc,by simpa using hsz,?_⟩
 rw [Array.toList_setIfInBounds,List.take_set,htake]
theorem FE(hS:St W w rs)(ty:TypeId)(x y:Operand)(ho:o.op= .store ty x y)(g off:Nat)(hx:a.eval x= .pointer (some ⟨g,off,none⟩))(h1:FL P ty)(e:TypeId)(s n c:Nat)(xs:List Value)(hp:AI (own e s (some ⟨g,0,none⟩) n c xs) rs rs')
 (v:Value) (hy:CT (a.eval y) v) (hv:v.oneCell'=true) (hi:off<n*s) (hd:o.dst=none) (h:∀w',St W w' (own e s (some ⟨g,0,none⟩) n c (xs.set off v)::rs')→K a w'):o.wp P a w K Q:=by
 obtain ⟨hf,hS'⟩:=Je hS hp v hi
 have hl:=hS.ownLen hp
 exact EA ty x y ho _ hx h1 v (xs[off]'(by omega)) hy.eq hv (Dh hS hp (by simp [hl,hi])) hf hd (h _ hS')
end
section
variable{P:Program}{ops:Array Oper}{Q:Exit→Act→World→Prop}{rest:List Oper}{a:Act}{W w:World}{rs:List Ac}{d:Option Tmp}{x y:Operand}{t ty:TypeId}{pos:String}{af:Array Edge}{g:Option (Nat×Bool)}{k:IntKind}
end
inductive Lo(a:Act):Option Operand→Nat→Prop
 | none:Lo a none 0
 | some {x:Operand} {k:IntKind} {i:Int} {j:Nat} (h:a.eval x= .int k i) (hj:At i j):Lo a (some x) j
inductive Up(a:Act)(n:Nat):Option Operand→Nat→Prop
 | none:Up a n none n
 | some {x:Operand} {k:IntKind} {i:Int} {j:Nat} (h:a.eval x= .int k i) (hj:At i j):Up a n (some x) j
section
variable{P:Program}{W w:World}{a:Act}{x:Operand}{t ty:TypeId}
theorem V.build{ps:List (Nat×Operand)}{vs:List (Nat×Value)}{v:Value}(hvs:ps.map (fun x=>(x.1,a.eval x.2))=vs)(hr:∀w,(Instr.build t vs.toArray).run P w= .ok v w):CG P (.build t ps.toArray) ty a v:=fun d pos af g w=>by
 have e:(ps.toArray).map (fun (x:Nat×Operand)=>(x.1,a.eval x.2))=vs.toArray:=by rw [←hvs];simp
 have e2:execOp a.eval ⟨d, .build t ps.toArray,ty,pos,af,g⟩=(do pure (.value (←Instr.build t ((ps.toArray).map fun (x:Nat×Operand)=>(x.1,a.eval x.2))))):=rfl
 rw [e2,e]
 simp only [Sem.run_bind,hr,Result.andThen_ok,Sem.run_pure]
def cutAt(ad:Option Addr)(c l s:Nat):Option Addr:=if c=l then ad else ad.map (·.add (l*s))
theorem V.slice{ad:Option Addr}{n c l h s:Nat}{e:TypeId}{lo hi:Option Operand}(ht:P.underlying t=some (.slice e))(hs:(P.info? e).map (·.size)=some s)(hx:a.eval x= .slice ad n c)(hl:Lo a lo l)(hh:Up a n hi h)(h1:l≤h)(h2:h≤c):
 CG P (.slice t x lo hi none) ty a (.slice (cutAt ad c l s) (h-l) (c-l)):=fun d pos af g w=>by
 have e0:P.elem t=e:=by simp [Program.elem,ht]
 have ht':P.underlying t=some (.slice (P.elem t)):=by rw [e0];exact ht
 have fin:∀{lv hv:Option Value},lo.map a.eval=lv→hi.map a.eval=hv→(Instr.slice t (.slice ad n c) lv hv none).run P w=((sizeOf (P.elem t)).run P w).andThen (fun s w=> .ok (sliced ad l h c s) w)→
  (execOp a.eval ⟨d, .slice t x lo hi none,ty,pos,af,g⟩).run P w= .ok (.value (.slice (cutAt ad c l s) (h-l) (c-l))) w:=by
  intro lv hv e1 e2 hr
  rw [e0,BV w hs,Result.andThen_ok] at hr
  simp only [execOp,hx,e1,e2,Option.map_none,Sem.run_bind,run_sliceAt_slice w t _ lv hv none ht',hr,Result.andThen_ok,Sem.run_pure,sliced,cutAt]
 cases hl with
 | none=>cases hh with
   | none=>exact fin rfl rfl (run_slice_all w t ad n c ht')
   | @some y k2 i2 _ hy hj=>
     unfold At at hj
     subst hj
     have:=run_slice_h w t ad n c ht' k2 (h:Int) (by omega) (by omega)
     rw [Int.toNat_natCast] at this
     exact fin rfl (by rw [Option.map_some,hy]) this
 | @some y1 k1 i1 _ hy1 hj1=>
   unfold At at hj1
   subst hj1
   cases hh with
   | none=>
     have:=run_slice_l w t ad n c ht' k1 (l:Int) (by omega) (by omega)
     rw [Int.toNat_natCast] at this
     exact fin (by rw [Option.map_some,hy1]) rfl this
   | @some y k2 i2 _ hy hj=>
     unfold At at hj
     subst hj
     have:=run_slice_lh w t ad n c ht' k1 k2 (l:Int) (h:Int) (by omega) (by omega) (by omega)
     rw [Int.toNat_natCast,Int.toNat_natCast] at this
     exact fin (by rw [Option.map_some,hy1]) (by rw [Option.map_some,hy]) this
theorem Sl.cutAt{s n c:Nat}{ad:Option Addr}{cs:List Value}(hv:Sl w s (.slice ad n c) n cs)(l h:Nat)(h1:l≤h)(h2:h≤n):Sl w s (.slice (cutAt ad c l s) (h-l) (c-l)) (h-l) ((cs.drop (l*s)).take ((h-l)*s)):=by
 obtain ⟨hlen,a',c',e,hnc,hcm,hor⟩:=hv
 cases e
 have hhs:h*s≤n*s:=Nat.mul_le_mul_right s h2
 have hls:l*s≤h*s:=Nat.mul_le_mul_right s h1
 have hsub:(h-l)*s=h*s-l*s:=Nat.sub_mul h l s
 refine ⟨by simp;omega,_,_,rfl,by omega,by omega,?_⟩
 by_cases hz:h-l=0
 ·exact .inl hz
 rcases hor with h0|⟨b,off,rfl,hc⟩
 ·omega
 refine .inr ⟨b,off+l*s,?_,fun k hk=>?_⟩
 ·unfold Go.Proofs.YtkcbhcajfcfmmaaDoor.cutAt
  rw [if_neg (by omega)]
  simp only [Option.map_some,Addr.add_mid]
 rw [Nat.add_assoc,hc (l*s+k) (by omega),List.getElem?_take,if_pos hk,List.getElem?_drop]
end
structure EC(P:Program)(t e:TypeId)(k:IntKind)(s b:Nat):Prop where
 ht:P.underlying t=some (.slice e)
 ex:∃i z,P.info? e=some i∧i.zero=some z∧i.size=s∧i.bytes=b∧z.cells=Array.replicate s (.int k 0)
 pos:0<s
theorem EC.mk'{P:Program}{t e:TypeId}{k:IntKind}{s b:Nat}(z:Value)(ht:P.underlying t=some (.slice e))(hi:(P.info? e).map (fun i=>(i.zero,i.size,i.bytes))=some (some z,s,b))(hz:z.cells=Array.replicate s (.int k 0))(hp:0<s):EC P t e k s b:=by
 obtain ⟨i,h1,h2,h3,h4⟩:=info_parts hi
 exact ⟨ht,⟨i,z,h1,h2,h3,h4,hz⟩,hp⟩
theorem IP(k:IntKind)(s m:Nat)(hs:0<s):(madeCells (Array.replicate s (Value.int k 0)) m).toList=(List.replicate m (0:Int)).map (Value.int k):=by
 apply List.ext_getElem?
 intro i
 by_cases hi:i<m
 ·have:i%s<s:=Nat.mod_lt i hs
  simp [madeCells,hi,this]
 simp [madeCells,hi]
section
variable{P:Program}{W w:World}{rs rs':List Ac}{Q:Exit→Act→World→Prop}{K:Act→World→Prop}{o:Oper}{a:Act}
theorem St.grown{W w w':World}{rs:List Ac}{r:Ac}{f:List Nat}(hS:St W w rs)(hg:w.grownBy w' none)(hr:r.holds w' f)(hn:f.Nodup)(hf:∀b∈f,w.heap.size≤b):St W w' (r::rs):=by
 have hE:AX w w':=⟨hg.os,hg.tape,hg.output,hg.size,fun k hk=>hg.block k hk (by simp)⟩
 exact hS.call1 ⟨hE,f,hn,hf,f,[],by simp,hr,rfl⟩
theorem Lt(hS:St W w rs)(t:TypeId)(x y:Operand)(ho:o.op= .makeSlice t x y)(e:TypeId)(k:IntKind)(s b:Nat)(el:EC P t e k s b)(kx ky:IntKind)(n m:Nat)(i j:Int)(hx:a.eval x= .int kx i)(hy:a.eval y= .int ky j)(hi:At i n)(hj:At j m)(hnm:n=m)(hb:b*n≤281474976710656)(h63:n≤maxLen)
 (h:∀g w',St W w' (own e s (some ⟨g,0,none⟩) n n ((List.replicate (n*s) (0:Int)).map (Value.int k))::rs)→K (a.put o.dst (.slice (some ⟨g,0,none⟩) n n)) w'):o.wp P a w K Q:=by
 obtain ⟨ht,⟨info,z,h1,h2,h3,h4,h5⟩,hp⟩:=el
 subst hnm
 unfold At at hi hj
 subst hi;subst hj
 obtain ⟨w',hr,ho',hg⟩:=run_make_full (P:=P) w 0 t e info z s ht h1 h2 h3 kx ky n (by rw [h4];exact hb) h63 (Nat.zero_le _)
 rw [h5,IP k s (n*s) hp] at ho'
 unfold Oper.wp execOp
 simp only [ho,hx,hy,Sem.run_bind,hr,Result.andThen_ok,Sem.run_pure]
 exact h _ _ (St.grown (f:=[w.heap.size]) hS hg ⟨rfl,ho'⟩ (by simp) (by simp))
end
end Go.Proofs.YtkcbhcajfcfmmaaDoor
namespace Go.Proofs.YtkcbhcajfcfmmaaDoor
attribute [local irreducible] Region.wanted
set_option linter.unusedVariables false
set_option maxRecDepth 100000
set_option maxHeartbeats 8000000
def nx(c:Nat→Nat):Nat→Nat
 | 0=>0
 | k+1=>2*nx c k+c k
def ED(c:Nat→Nat):Nat→List (Nat×Nat)
 | 0=>[]
 | k+1=>ED c k++(List.range (c k)).map fun j=>(k+1,2*nx c k+j)
def sm(c:Nat→Nat):Nat→Nat
 | 0=>0
 | k+1=>sm c k+c k
theorem Cs(c:Nat→Nat):∀k,(ED c k).length=sm c k
 | 0=>rfl
 | k+1=>by simp [ED,sm,Cs c k]
def LF(x:Nat×Nat):Nat:=x.2*2^(16-x.1)
def Ls(x:Nat×Nat):Nat:=(x.2+1)*2^(16-x.1)
inductive Cd:Nat→List (Nat×Nat)→Nat→Prop
 | nil {a:Nat}:Cd a [] a
 | cons {x:Nat×Nat} {l:List (Nat×Nat)} {b:Nat} (h:Cd (Ls x) l b):Cd (LF x) (x::l) b
theorem Cd.append{a b c:Nat}{l m:List (Nat×Nat)}(h:Cd a l b)(k:Cd b m c):Cd a (l++m) c:=by
 induction h with
 | nil=>exact k
 | cons h ih=>exact .cons (ih k)
theorem Hq(k s:Nat):∀n a,Cd ((s+a)*2^(16-(k+1))) ((List.range' a n).map fun j=>(k+1,s+j)) ((s+a+n)*2^(16-(k+1)))
 | 0,a=>by simpa using Cd.nil
 | n+1,a=>by
   have h:=Hq k s n (a+1)
   simp only [List.range'_succ,List.map_cons]
   refine Cd.cons (x:=(k+1,s+a)) ?_
   rw [show s+a+(n+1)=s+(a+1)+n by omega]
   exact h
theorem E7(c:Nat→Nat):∀k,k≤16→Cd 0 (ED c k) (nx c k*2^(16-k))
 | 0,_=>by simpa [ED,nx] using Cd.nil
 | k+1,h=>by
   have h1:=E7 c k (by omega)
   have h2:=Hq k (2*nx c k) (c k) 0
   have e:nx c k*2^(16-k)=(2*nx c k+0)*2^(16-(k+1)):=by
    rw [show 16-k=(16-(k+1))+1 by omega,Nat.pow_succ,Nat.add_zero (2*_),Nat.mul_comm 2 (nx c k),Nat.mul_assoc (nx c k) 2,Nat.mul_comm 2]
   rw [e] at h1
   rw [ED,nx,List.range_eq_range']
   exact h1.append h2
theorem Cd.le{a b:Nat}{l:List (Nat×Nat)}(h:Cd a l b):a≤b:=by
 induction h with
 | nil=>omega
 | @cons x l b h ih=>
   have:LF x≤Ls x:=Nat.mul_le_mul_right _ (by omega)
   omega
theorem Cd.mem{a b:Nat}{l:List (Nat×Nat)}(h:Cd a l b):∀x∈l,a≤LF x∧Ls x≤b:=by
 induction h with
 | nil=>intro x hx;cases hx
 | @cons y l b h ih=>
   intro x hx
   rcases List.mem_cons.1 hx with rfl|hx
   ·exact ⟨Nat.le_refl _,h.le⟩
   have h1:=ih x hx
   have:LF y≤Ls y:=Nat.mul_le_mul_right _ (by omega)
   omega
theorem Cd.pair{a b:Nat}{l:List (Nat×Nat)}(h:Cd a l b):l.Pairwise fun x y=>Ls x≤LF y:=by
 induction h with
 | nil=>exact List.Pairwise.nil
 | @cons x l b h ih=>exact List.Pairwise.cons (fun y hy=>(h.mem y hy).1) ih
theorem Ee(c:Nat→Nat):∀k x,x∈ED c k→1≤x.1∧x.1≤k
 | 0,x,h=>by cases h
 | k+1,x,h=>by
   rcases List.mem_append.1 h with h|h
   ·have:=Ee c k x h;omega
   obtain ⟨j,_,rfl⟩:=List.mem_map.1 h
   exact ⟨by simp,by simp⟩
def Fp(c:Nat→Nat):Prop:=∀k,k<16→nx c (k+1)<2^(k+1)
theorem L2(c:Nat→Nat)(k:Nat):∀d,nx c k*2^d≤nx c (k+d)
 | 0=>by simp
 | d+1=>by
   have:=L2 c k d
   rw [←Nat.add_assoc,nx,Nat.pow_succ,←Nat.mul_assoc];omega
theorem D7(c:Nat→Nat):Fp c↔nx c 16<65536:=by
 constructor
 ·intro h;exact h 15 (by omega)
 intro h k hk
 have h1:=L2 c (k+1) (15-k)
 rw [show k+1+(15-k)=16 by omega] at h1
 have h2:nx c (k+1)*2^(15-k)<2^(k+1)*2^(15-k):=by
  rw [←Nat.pow_add,show k+1+(15-k)=16 by omega];exact Nat.lt_of_le_of_lt h1 h
 exact Nat.lt_of_mul_lt_mul_right h2
theorem ML(c:Nat→Nat)(h:Fp c)(x:Nat×Nat)(hx:x∈ED c 16):x.2+1<2^x.1∧1≤x.1∧x.1≤16:=by
 have h1:=Ee c 16 x hx
 have h2:=((E7 c 16 (by omega)).mem x hx).2
 have h3:=(D7 c).1 h
 refine ⟨?_,h1.1,h1.2⟩
 have h4:(x.2+1)*2^(16-x.1)<2^x.1*2^(16-x.1):=by
  rw [←Nat.pow_add,show x.1+(16-x.1)=16 by omega]
  have:Ls x=(x.2+1)*2^(16-x.1):=rfl
  simp at h2;omega
 exact Nat.lt_of_mul_lt_mul_right h4
theorem H8(x y:Nat×Nat)(hx:x.1≤y.1)(hy:y.1≤16)(h:y.2/2^(y.1-x.1)=x.2):LF x≤LF y∧LF y<Ls x:=by
 have hp:0<2^(y.1-x.1):=Nat.two_pow_pos _
 have hq:0<2^(16-y.1):=Nat.two_pow_pos _
 have e:2^(16-x.1)=2^(y.1-x.1)*2^(16-y.1):=by rw [←Nat.pow_add];congr 1;omega
 have h1:x.2*2^(y.1-x.1)≤y.2:=by rw [←h];exact Nat.div_mul_le_self _ _
 have h2:y.2<(x.2+1)*2^(y.1-x.1):=by rw [←h,Nat.mul_comm];exact Nat.lt_mul_div_succ _ hp
 unfold LF Ls
 rw [e,←Nat.mul_assoc,←Nat.mul_assoc]
 exact ⟨Nat.mul_le_mul_right _ h1,Nat.mul_lt_mul_of_pos_right h2 hq⟩
theorem JL(c:Nat→Nat)(i j:Nat)(x y:Nat×Nat)(hi:(ED c 16)[i]? =some x)(hj:(ED c 16)[j]? =some y)(hne:i≠j)(hl:x.1≤y.1):¬y.2/2^(y.1-x.1)=x.2:=by
 intro h
 have hp:=(E7 c 16 (by omega)).pair
 have hy:=Ee c 16 y (List.mem_of_getElem? hj)
 obtain ⟨h1,h2⟩:=H8 x y hl hy.2 h
 rw [List.pairwise_iff_getElem] at hp
 obtain ⟨hi1,hi2⟩:=List.getElem?_eq_some_iff.1 hi
 obtain ⟨hj1,hj2⟩:=List.getElem?_eq_some_iff.1 hj
 have hw:∀z:Nat×Nat,LF z<Ls z:=fun z=>Nat.mul_lt_mul_of_pos_right (by omega) (Nat.two_pow_pos _)
 rcases Nat.lt_or_gt_of_ne hne with g|g
 ·have:=hp i j hi1 hj1 g
  rw [hi2,hj2] at this;omega
 have:=hp j i hj1 hi1 g
 rw [hi2,hj2] at this
 have:=hw y
 omega
def cc(C:List Int)(k:Nat):Nat:=(AF C k).toNat
def EL(C:List Int):Bool:=(List.range 16).all (fun k=>decide (0≤AF C k∧AF C k≤256))&&decide (sm (cc C) 16≤256)
theorem Bs(C:List Int):EL C=true↔(∀k,k<16→0≤AF C k∧AF C k≤256)∧sm (cc C) 16≤256:=by
 simp [EL]
def Hf(c:Nat→Nat):Bool:=(List.range 16).all fun k=>decide (nx c (k+1)<2^(k+1))
theorem Cz(c:Nat→Nat):Hf c=true↔Fp c:=by simp [Hf,Fp]
def Hn(S:List Int):Bool:=S.all fun s=>decide (0≤s)&&decide (s<256)
def A7(C S:List Int):Int:=
 if EL C=true∧sm (cc C) 16=S.length then if Hn S then if S.Nodup∧Hf (cc C)=true then 0 else 4 else 1 else 4
theorem Bf{C S:List Int}(h:A7 C S=0):(∀k,k<16→0≤AF C k∧AF C k≤256)∧sm (cc C) 16=S.length∧S.length≤256∧(∀s∈S,0≤s∧s<256)∧S.Nodup∧Fp (cc C):=by
 unfold A7 at h
 split at h
 ·rename_i h1
  split at h
  ·rename_i h2
   split at h
   ·rename_i h3
    obtain ⟨h4,h5⟩:=(Bs C).1 h1.1
    refine ⟨h4,h1.2,by omega,?_,h3.1,(Cz _).1 h3.2⟩
    intro s hs
    have:=List.all_eq_true.1 h2 s hs
    simpa using this
   cases h
  cases h
 cases h
theorem Ln{C S:List Int}(h1:EL C=true)(h2:sm (cc C) 16=S.length)(h3:∀s∈S,0≤s∧s<256)(h4:S.Nodup)(h5:Fp (cc C)):A7 C S=0:=by
 unfold A7
 rw [if_pos ⟨h1,h2⟩,if_pos,if_pos ⟨h4,(Cz _).2 h5⟩]
 rw [Hn,List.all_eq_true];intro s hs;simpa using h3 s hs
def Cn(C S:List Int):List (Int×Nat×Nat):=S.zip (ED (cc C) 16)
theorem I7(C S:List Int)(h:sm (cc C) 16=S.length):(Cn C S).length=S.length:=by
 simp [Cn,Cs,h]
theorem Lq(C S:List Int)(h:sm (cc C) 16=S.length)(i:Nat)(hi:i<S.length):∃x,(ED (cc C) 16)[i]? =some x∧(Cn C S)[i]? =some (AF S i,x):=by
 have hl:i<(ED (cc C) 16).length:=by rw [Cs];omega
 refine ⟨_,List.getElem?_eq_getElem hl,?_⟩
 simp only [Cn,List.zip,List.getElem?_zipWith,Be S i hi,List.getElem?_eq_getElem hl]
theorem Gb(C S:List Int)(x:Int×Nat×Nat)(hx:x∈Cn C S):x.1∈S∧x.2∈ED (cc C) 16:=List.of_mem_zip (a:=x.1) (b:=x.2) hx
def symW(L:List (Int×Nat×Nat))(s:Int):Option (Nat×Nat):=(L.reverse.find? fun x=>decide (x.1=s)).map (·.2)
theorem Hl{L:List (Int×Nat×Nat)}{s:Int}{y:Nat×Nat}(h:symW L s=some y):(s,y)∈L:=by
 unfold symW at h
 cases hf:L.reverse.find? fun x=>decide (x.1=s) with
 | none=>rw [hf] at h;cases h
 | some x=>
   rw [hf] at h
   have h1:=List.mem_of_find?_eq_some hf
   have h2:=List.find?_some hf
   simp only [Option.map_some,Option.some.injEq] at h
   simp only [decide_eq_true_eq] at h2
   subst h;subst h2
   simpa using h1
theorem Jp{L:List (Int×Nat×Nat)}{s:Int}(h:symW L s=none):∀x∈L,x.1≠s:=by
 unfold symW at h
 rw [Option.map_eq_none_iff,List.find?_eq_none] at h
 intro x hx
 simpa using h x (by simpa using hx)
structure MF(L:List (Int×Nat×Nat)):Prop where
 long:∀x∈L,1≤x.2.1∧x.2.1≤16∧x.2.2+1<2^x.2.1
 sym:∀x∈L,∀y∈L,x.1=y.1→x=y
 pre:∀x∈L,∀y∈L,x.2.1≤y.2.1→y.2.2/2^(y.2.1-x.2.1)=x.2.2→x=y
 range:∀x∈L,0≤x.1∧x.1<256
theorem Ht{C S:List Int}(h:A7 C S=0):MF (Cn C S):=by
 obtain ⟨h1,h2,h3,h4,h5,h6⟩:=Bf h
 have idx:∀x∈Cn C S,∃i,i<S.length∧x.1=AF S i∧(ED (cc C) 16)[i]? =some x.2∧(Cn C S)[i]? =some x:=fun x hx=>by
  obtain ⟨i,hi,e⟩:=List.getElem_of_mem hx
  rw [I7 C S h2] at hi
  obtain ⟨y,e1,e2⟩:=Lq C S h2 i hi
  have e3:(Cn C S)[i]? =some x:=by rw [List.getElem?_eq_getElem (by rw [I7 C S h2];exact hi),e]
  rw [e2] at e3
  obtain rfl:(AF S i,y)=x:=by simpa using e3
  exact ⟨i,hi,rfl,e1,e2⟩
 refine ⟨fun x hx=>?_,fun x hx y hy e=>?_,fun x hx y hy hl hp=>?_,fun x hx=>h4 _ (Gb C S x hx).1⟩
 ·have:=ML (cc C) h6 x.2 (Gb C S x hx).2
  exact ⟨this.2.1,this.2.2,this.1⟩
 ·obtain ⟨i,hi,ei,ci,wi⟩:=idx x hx
  obtain ⟨j,hj,ej,cj,wj⟩:=idx y hy
  have hij:i=j:=by
   rw [ei,ej] at e
   have gi:=Be S i hi
   have gj:=Be S j hj
   rw [e] at gi
   exact (List.getElem?_inj hi h5).1 (by rw [gi,gj])
  subst hij
  rw [wi] at wj
  simpa using wj
 obtain ⟨i,hi,ei,ci,wi⟩:=idx x hx
 obtain ⟨j,hj,ej,cj,wj⟩:=idx y hy
 by_cases hij:i=j
 ·subst hij;rw [wi] at wj;simpa using wj
 exact absurd hp (JL (cc C) i j x.2 y.2 ci cj hij hl)
theorem MF.symW{L:List (Int×Nat×Nat)}(h:MF L){x:Int×Nat×Nat}(hx:x∈L):symW L x.1=some x.2:=by
 cases hs:Go.Proofs.YtkcbhcajfcfmmaaDoor.symW L x.1 with
 | none=>exact absurd rfl (Jp hs x hx)
 | some y=>
   have:=h.sym _ (Hl hs) x hx rfl
   rw [←this]
end Go.Proofs.YtkcbhcajfcfmmaaDoor
