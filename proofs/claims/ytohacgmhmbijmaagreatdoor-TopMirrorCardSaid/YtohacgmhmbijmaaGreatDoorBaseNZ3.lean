/- What the laws FrameAlone FrameGray FrameNear FrameFlat TopScale TopMirror need, part 3. -/
import Derived.Test.YtohacgmhmbijmaaGreatDoorBaseNZ1
import Derived.Test.YtohacgmhmbijmaaGreatDoorBaseNZ2
import Derived.Test.YtohacgmhmbijmaaGreatDoorProg
namespace Go.Proofs.YtohacgmhmbijmaaGreatDoor
open Go.RowKit
set_option linter.unusedVariables false
set_option maxRecDepth 100000
set_option maxHeartbeats 8000000
section
variable{P:Program}{Q:Exit→Act→World→Prop}{md:Region.Mode}{D:List Nat}{S:World→Prop}{l:List Oper}{fuel:Nat}{listed:Array Bool}{a:Act}{w:World}
 {d:Option Tmp} {op:Op} {ty:TypeId} {pos:String} {af:Array Edge} {g:Option (Nat×Bool)}
theorem BA(i:Nat)(v:Value)(hi:IW ⟨d,op,ty,pos,af,g⟩ i l)(hs:Region.noSelect l.toArray=true)(hf:Region.free md l.toArray listed i=true)(hr:(Region.ready md l.toArray listed).contains i=true)
 (hQ:∀v c a w,Q (.panic c) (a.put d v) w→Q (.panic c) a w) (hv:D3 P op ty a v) (hw:Region.wanted ⟨d,op,ty,pos,af,g⟩ (yielded l.toArray a.tmps)=true)
 (h:(Oper.mk d (.move (.const v)) ty pos af g).wp P a w (Ac P md l.toArray Q D S fuel (listed.setIfInBounds i true)) Q):Ac P md l.toArray Q D S (fuel+1) listed a w:=
 BP i hi hs hf hr hQ (fun w=>Af v hv hw (Jt v _ (show wpList P l.toArray _ [] _ _ from wpList_nil ⟨rfl,rfl⟩))) (by cases d<;>rfl) h
theorem fW(i:Nat)(x:Operand)(hi:IW ⟨d, .move x,ty,pos,af,g⟩ i l)(hs:Region.noSelect l.toArray=true)(hf:Region.free md l.toArray listed i=true)(hr:(Region.ready md l.toArray listed).contains i=true)
 (hQ:∀v c a w,Q (.panic c) (a.put d v) w→Q (.panic c) a w) (hw:Region.wanted ⟨d, .move x,ty,pos,af,g⟩ (yielded l.toArray a.tmps)=true)
 (h:(Oper.mk d (.move x) ty pos af g).wp P a w (Ac P md l.toArray Q D S fuel (listed.setIfInBounds i true)) Q):Ac P md l.toArray Q D S (fuel+1) listed a w:=
 BP i hi hs hf hr hQ (a1:=a.put d (a.eval x)) (fun w=>Af _ (fun _ _ _ _ _=>rfl) hw (Jt _ _ (show wpList P l.toArray _ [] _ _ from wpList_nil ⟨rfl,rfl⟩))) (by cases d<;>rfl) h
theorem fV(i:Nat)(x:Operand)(hi:IW ⟨d, .assign x,ty,pos,af,g⟩ i l)(hs:Region.noSelect l.toArray=true)(hf:Region.free md l.toArray listed i=true)(hr:(Region.ready md l.toArray listed).contains i=true)
 (hQ:∀v c a w,Q (.panic c) (a.put d v) w→Q (.panic c) a w) (hw:Region.wanted ⟨d, .assign x,ty,pos,af,g⟩ (yielded l.toArray a.tmps)=true)
 (h:(Oper.mk d (.move x) ty pos af g).wp P a w (Ac P md l.toArray Q D S fuel (listed.setIfInBounds i true)) Q):Ac P md l.toArray Q D S (fuel+1) listed a w:=
 BP i hi hs hf hr hQ (a1:=a.put d (a.eval x)) (fun w=>Af _ (fun _ _ _ _ _=>rfl) hw (Jt _ _ (show wpList P l.toArray _ [] _ _ from wpList_nil ⟨rfl,rfl⟩))) (by cases d<;>rfl) h
theorem Rl(i:Nat)(b:Bool){c x y:Operand}(hi:IW ⟨d, .pick c x y,ty,pos,af,g⟩ i l)(hs:Region.noSelect l.toArray=true)(hf:Region.free md l.toArray listed i=true)(hr:(Region.ready md l.toArray listed).contains i=true)
 (hQ:∀v c a w,Q (.panic c) (a.put d v) w→Q (.panic c) a w) (hc:a.eval c= .bool b) (hw:Region.wanted ⟨d, .pick c x y,ty,pos,af,g⟩ (yielded l.toArray a.tmps)=true)
 (h:(Oper.mk d (.move (bif b then x else y)) ty pos af g).wp P a w (Ac P md l.toArray Q D S fuel (listed.setIfInBounds i true)) Q):Ac P md l.toArray Q D S (fuel+1) listed a w:=
 BP i hi hs hf hr hQ (a1:=a.put d (a.eval (bif b then x else y))) (fun w=>Af _ (fun _ _ _ _ w=>by simp only [execOp,hc,asBool,Sem.run_bind,Sem.run_pure,Result.andThen_ok];cases b<;>rfl) hw (Jt _ _ (show wpList P l.toArray _ [] _ _ from wpList_nil ⟨rfl,rfl⟩))) (by cases d<;>rfl) h
theorem GC(i:Nat){c x y:Operand}(hi:IW ⟨d, .pick c x y,ty,pos,af,g⟩ i l)(hs:Region.noSelect l.toArray=true)(hf:Region.free md l.toArray listed i=true)(hr:(Region.ready md l.toArray listed).contains i=true)
 (hQ:∀v c a w,Q (.panic c) (a.put d v) w→Q (.panic c) a w) (hc:a.eval c= .bool true) (hw:Region.wanted ⟨d, .pick c x y,ty,pos,af,g⟩ (yielded l.toArray a.tmps)=true)
 (h:(Oper.mk d (.move x) ty pos af g).wp P a w (Ac P md l.toArray Q D S fuel (listed.setIfInBounds i true)) Q):Ac P md l.toArray Q D S (fuel+1) listed a w:=Rl i true hi hs hf hr hQ hc hw h
theorem EM(i:Nat){c x y:Operand}(hi:IW ⟨d, .pick c x y,ty,pos,af,g⟩ i l)(hs:Region.noSelect l.toArray=true)(hf:Region.free md l.toArray listed i=true)(hr:(Region.ready md l.toArray listed).contains i=true)
 (hQ:∀v c a w,Q (.panic c) (a.put d v) w→Q (.panic c) a w) (hc:a.eval c= .bool false) (hw:Region.wanted ⟨d, .pick c x y,ty,pos,af,g⟩ (yielded l.toArray a.tmps)=true)
 (h:(Oper.mk d (.move y) ty pos af g).wp P a w (Ac P md l.toArray Q D S fuel (listed.setIfInBounds i true)) Q):Ac P md l.toArray Q D S (fuel+1) listed a w:=Rl i false hi hs hf hr hQ hc hw h
theorem kO(i:Nat)(b:Bool)(hi:IW ⟨d,op,ty,pos,af,g⟩ i l)(hs:Region.noSelect l.toArray=true)(hf:Region.free md l.toArray listed i=true)(hr:(Region.ready md l.toArray listed).contains i=true)
 (hQ:∀v c a w,Q (.panic c) (a.put d v) w→Q (.panic c) a w) (hv:D3 P op ty a (.bool b)) (hw:Region.wanted ⟨d,op,ty,pos,af,g⟩ (yielded l.toArray a.tmps)=true)
 (ht:b=true→(Oper.mk d (.move (.const (.bool true))) ty pos af g).wp P a w (Ac P md l.toArray Q D S fuel (listed.setIfInBounds i true)) Q)
 (hn:b=false→(Oper.mk d (.move (.const (.bool false))) ty pos af g).wp P a w (Ac P md l.toArray Q D S fuel (listed.setIfInBounds i true)) Q):Ac P md l.toArray Q D S (fuel+1) listed a w:=by
 cases b
 ·exact BA i _ hi hs hf hr hQ hv hw (hn rfl)
 exact BA i _ hi hs hf hr hQ hv hw (ht rfl)
theorem VK(i:Nat)(p:Prop)[Decidable p](hi:IW ⟨d,op,ty,pos,af,g⟩ i l)(hs:Region.noSelect l.toArray=true)(hf:Region.free md l.toArray listed i=true)(hr:(Region.ready md l.toArray listed).contains i=true)
 (hQ:∀v c a w,Q (.panic c) (a.put d v) w→Q (.panic c) a w) (hv:D3 P op ty a (.bool (decide p))) (hw:Region.wanted ⟨d,op,ty,pos,af,g⟩ (yielded l.toArray a.tmps)=true)
 (ht:p→(Oper.mk d (.move (.const (.bool true))) ty pos af g).wp P a w (Ac P md l.toArray Q D S fuel (listed.setIfInBounds i true)) Q)
 (hn:¬p→(Oper.mk d (.move (.const (.bool false))) ty pos af g).wp P a w (Ac P md l.toArray Q D S fuel (listed.setIfInBounds i true)) Q):Ac P md l.toArray Q D S (fuel+1) listed a w:=
 kO i _ hi hs hf hr hQ hv hw (fun h=>ht (of_decide_eq_true h)) (fun h=>hn (of_decide_eq_false h))
theorem fX(i:Nat)(hi:IW ⟨d,op,ty,pos,af,g⟩ i l)(hs:Region.noSelect l.toArray=true)(hf:Region.free md l.toArray listed i=true)(hr:(Region.ready md l.toArray listed).contains i=true)
 (hQ:∀v c a w,Q (.panic c) (a.put d v) w→Q (.panic c) a w) (hw:Region.wanted ⟨d,op,ty,pos,af,g⟩ (yielded l.toArray a.tmps)=false)
 (h:(Oper.mk d (.move (.const undef)) ty pos af g).wp P a w (Ac P md l.toArray Q D S fuel (listed.setIfInBounds i true)) Q):Ac P md l.toArray Q D S (fuel+1) listed a w:=
 BP i hi hs hf hr hQ (a1:=a.put d undef) (fun w=>wpList_skip hw (wpList_nil ⟨rfl,rfl⟩)) (by cases d<;>rfl) h
end
section
variable{P:Program}{Q:Exit→Act→World→Prop}{a:Act}{W w:World}{c:Code}
theorem R3{F:Nat→Nat→Act}(rs:Nat→Nat→List Au)(h:c.wp P (fun e a w=>e= .normal∧∃g g',a=F g g'∧St W w (rs g g')) a w)(k:∀g g' w,St W w (rs g g')→Q .normal (F g g') w):c.wp P Q a w:=
 Code.wp_mono (fun e a w ⟨he,g,g',ha,hS⟩=>by subst he;subst ha;exact k g g' w hS) h
end
end Go.Proofs.YtohacgmhmbijmaaGreatDoor
/- Short Fh for regions that draw their order. -/
namespace Go.Proofs.YtohacgmhmbijmaaGreatDoor
open Go.RowKit
set_option linter.unusedVariables false
set_option maxRecDepth 100000
set_option maxHeartbeats 8000000
structure bk(md:Region.Mode)(l:List Oper)(listed:Array Bool)(Q:Exit→Act→World→Prop)(a:Act)(d:Option Tmp)(op:Op)(ty:TypeId)(pos:String)(af:Array Edge)(g:Option (Nat×Bool))(i:Nat)(b:Bool):Prop where
 hi:IW ⟨d,op,ty,pos,af,g⟩ i l
 hs:Region.noSelect l.toArray=true
 hf:Region.free md l.toArray listed i=true
 hr:(Region.ready md l.toArray listed).contains i=true
 hQ:∀v c a w,Q (.panic c) (a.put d v) w→Q (.panic c) a w
 hw:Region.wanted ⟨d,op,ty,pos,af,g⟩ (yielded l.toArray a.tmps)=b
section
variable{P:Program}{Q:Exit→Act→World→Prop}{md:Region.Mode}{D:List Nat}{S:World→Prop}{l:List Oper}{fuel:Nat}{listed:Array Bool}{a:Act}{w:World}{d:Option Tmp}{op:Op}{ty:TypeId}{pos:String}{af:Array Edge}{g:Option (Nat×Bool)}{x:Operand}{i:Nat}{b:Bool}
theorem BZ(hi:IW ⟨d,op,ty,pos,af,g⟩ i l:=by (repeat (first|with_reducible exact IW.head|apply IW.tail)))(hs:Region.noSelect l.toArray=true:=by kernel_rfl)(hf:Region.free md l.toArray listed i=true:=by kernel_rfl)(hr:(Region.ready md l.toArray listed).contains i=true:=by kernel_rfl)
 (hQ:∀v c a w,Q (.panic c) (a.put d v) w→Q (.panic c) a w:=by first|exact fun _ _ _ _ h=>h|exact fun _ _ _ _ h=>nomatch h.1) (hw:Region.wanted ⟨d,op,ty,pos,af,g⟩ (yielded l.toArray a.tmps)=b:=by kernel_rfl):bk md l listed Q a d op ty pos af g i b:=⟨hi,hs,hf,hr,hQ,hw⟩
theorem CA(i:Nat){v:Value}(t:bk md l listed Q a d op ty pos af g i true)(hv:D3 P op ty a v)(h:(Oper.mk d (.move (.const v)) ty pos af g).wp P a w (Ac P md l.toArray Q D S fuel (listed.setIfInBounds i true)) Q):Ac P md l.toArray Q D S (fuel+1) listed a w:=BA i v t.1 t.2 t.3 t.4 t.5 hv t.6 h
theorem lS(i:Nat)(t:bk md l listed Q a d (.move x) ty pos af g i true)(h:(Oper.mk d (.move x) ty pos af g).wp P a w (Ac P md l.toArray Q D S fuel (listed.setIfInBounds i true)) Q):Ac P md l.toArray Q D S (fuel+1) listed a w:=fW i x t.1 t.2 t.3 t.4 t.5 t.6 h
theorem lL(i:Nat)(t:bk md l listed Q a d (.assign x) ty pos af g i true)(h:(Oper.mk d (.move x) ty pos af g).wp P a w (Ac P md l.toArray Q D S fuel (listed.setIfInBounds i true)) Q):Ac P md l.toArray Q D S (fuel+1) listed a w:=fV i x t.1 t.2 t.3 t.4 t.5 t.6 h
theorem lT(i:Nat)(t:bk md l listed Q a d op ty pos af g i false)(h:(Oper.mk d (.move (.const undef)) ty pos af g).wp P a w (Ac P md l.toArray Q D S fuel (listed.setIfInBounds i true)) Q):Ac P md l.toArray Q D S (fuel+1) listed a w:=fX i t.1 t.2 t.3 t.4 t.5 t.6 h
theorem Ao(i:Nat){o:Oper}(h:o.wp P a w (fun a' w'=>(i∉D→S w→S w')∧Ac P md l.toArray Q D S fuel (listed.setIfInBounds i true) a' w') Q)(hi:IW o i l:=by (repeat (first|with_reducible exact IW.head|apply IW.tail)))(hw:Region.wanted o (yielded l.toArray a.tmps)=true:=by kernel_rfl)
 (hr:Region.ready md l.toArray listed=[i]:=by kernel_rfl):Ac P md l.toArray Q D S (fuel+1) listed a w:=cy i hi hw hr h
theorem kY{A:Prop}{d:Tmp}{v:Value}(h:(Oper.mk (some d) (.move (.const v)) 0 "" #[] none).wp P a w (Ac P md l.toArray Q D S fuel listed) Q)(h1:A:=by exact fun _ h=>h):A∧Ac P md l.toArray Q D S fuel listed (a.put (some d) v) w:=⟨h1,h⟩
def OI(_:Nat)(p:Prop):Prop:=p
def LM(_:Nat)(_:List Nat)(p:Prop):Prop:=p
theorem Kd{v:Value}(t:bk md l listed Q a d op ty pos af g i true)(hv:D3 P op ty a v)(h:(Oper.mk d (.move (.const v)) ty pos af g).wp P a w (Ac P md l.toArray Q D S fuel (listed.setIfInBounds i true)) Q):OI i (Ac P md l.toArray Q D S (fuel+1) listed a w):=BA i v t.1 t.2 t.3 t.4 t.5 hv t.6 h
theorem kw(t:bk md l listed Q a d (.move x) ty pos af g i true)(h:(Oper.mk d (.move x) ty pos af g).wp P a w (Ac P md l.toArray Q D S fuel (listed.setIfInBounds i true)) Q):OI i (Ac P md l.toArray Q D S (fuel+1) listed a w):=fW i x t.1 t.2 t.3 t.4 t.5 t.6 h
theorem ku(t:bk md l listed Q a d (.assign x) ty pos af g i true)(h:(Oper.mk d (.move x) ty pos af g).wp P a w (Ac P md l.toArray Q D S fuel (listed.setIfInBounds i true)) Q):OI i (Ac P md l.toArray Q D S (fuel+1) listed a w):=fV i x t.1 t.2 t.3 t.4 t.5 t.6 h
theorem kz(t:bk md l listed Q a d op ty pos af g i false)(h:(Oper.mk d (.move (.const undef)) ty pos af g).wp P a w (Ac P md l.toArray Q D S fuel (listed.setIfInBounds i true)) Q):OI i (Ac P md l.toArray Q D S (fuel+1) listed a w):=fX i t.1 t.2 t.3 t.4 t.5 t.6 h
end
section
variable{P:Program}{Q:Exit→Act→World→Prop}{md:Region.Mode}{D:List Nat}{S:World→Prop}{i:Nat}{E:List Nat}{l:List Oper}{oi:Oper}{a1:Act}{fuel:Nat}{listed:Array Bool}{a:Act}{w:World}
theorem CB(hi:IW oi i l)(hs:Region.noSelect l.toArray=true)(hf:Region.free md l.toArray listed i=true)(hr:(Region.ready md l.toArray listed).contains i=true)(hQ:∀v c a w,Q (.panic c) (a.put oi.dst v) w→Q (.panic c) a w)(hE:P8 md l.toArray listed i E D=true)(hSw:S w)(hfr:∀w,S w→wpList P l.toArray (FreeOne (fun w'=>w'=w) a1) [oi] a w)(hd:a1.defers=a.defers)(h:Ac P md l.toArray Q D S fuel (listed.setIfInBounds i true) a1 w):LM i E (Ac P md l.toArray Q D S (fuel+1) listed a w):=DG i hi hs hf hr hQ E hE hSw hfr hd h
theorem ks(hi:IW oi i l)(hs:Region.noSelect l.toArray=true)(hf:Region.free md l.toArray listed i=true)(hr:(Region.ready md l.toArray listed).contains i=true)(hQ:∀v c a w,Q (.panic c) (a.put oi.dst v) w→Q (.panic c) a w)(hfr:∀w,wpList P l.toArray (FreeOne (fun w'=>w'=w) a1) [oi] a w)(hd:a1.defers=a.defers)(h:Ac P md l.toArray Q D S fuel (listed.setIfInBounds i true) a1 w):OI i (Ac P md l.toArray Q D S (fuel+1) listed a w):=BP i hi hs hf hr hQ hfr hd h
end
section
variable{p q:Prop}
theorem AY(n:Nat)(k:q)(h:As q→OI n p:=by intro zq9;(first|(refine kw BZ ?_;go_step)|(refine ku BZ ?_;go_step));with_reducible exact zq9.out):p:=h ⟨k⟩
theorem DX(n:Nat)(k:q)(h:As q→OI n p:=by intro zq9;refine kz BZ ?_;go_step;with_reducible exact zq9.out):p:=h ⟨k⟩
theorem Y0{T q:World→Prop}(k:∀w,T w→q w)(h:Jv T q→p:=by intro zq9;(refine Bt hS 30 _ _ rfl _ _ rfl (AK rfl) _ _ AM _ CK (by rfl) Xc rfl ?_);intro w9 h9;refine ⟨fun _ h=>h,?_⟩;with_reducible exact zq9.out w9 h9):p:=h ⟨k⟩
theorem Y1(n:Nat)(k:q)(h:As q→OI n p:=by intro zq9;refine Kd BZ (V.extract rfl rfl) ?_;go_step;with_reducible exact zq9.out):p:=h ⟨k⟩
theorem Y2{T q:Nat→World→Prop}(k:∀g w,T g w→q g w)(h:IG T q→p:=by intro zq9;refine Lp (o:=⟨some _,_,_,_,_,_⟩) hS 30 _ _ rfl _ _ _ _ Yp _ _ _ _ _ _ rfl rfl BJ BJ (by omega) (by omega) (by unfold maxLen;omega) ?_;intro g9 w9 h9;refine kY ?_;go_step;with_reducible exact zq9.out g9 w9 h9):p:=h ⟨k⟩
theorem Y3{T q:Nat→World→Prop}(k:∀g w,T g w→q g w)(h:IG T q→p:=by intro zq9;refine CN (o:=⟨some _,_,_,_,_,_⟩) hS 30 rfl (.slice none 0 0) [.slice none 0 0] (fun w=>Tryz.zeroValue30 w) rfl ?_;intro g9 w9 h9;refine kY ?_;go_step;with_reducible exact zq9.out g9 w9 h9):p:=h ⟨k⟩
theorem Y4(n:Nat)(k:q)(h:As q→OI n p:=by intro zq9;refine Kd BZ (V.indexSl Tryz.underlying160 S7 rfl rfl BJ (by omega) rfl BT) ?_;go_step;with_reducible exact zq9.out):p:=h ⟨k⟩
theorem Y5(n:Nat)(L:List Nat)(k:q)(h:As q→LM n L p:=by intro zq9;apply CB Ai AA AA AA B5 AA (hS.sub AV);(case hfr=>intro w hS;((refine Ad ?_;apply AZ hS 3 _ rfl _ _ rfl (AK rfl) _;(case hp=>exact AM);(case hc=>rfl);refine AB ?_;go_step));refine wpList_nil ?_;exact ⟨rfl,rfl⟩);(case hd=>rfl);with_reducible exact zq9.out):p:=h ⟨k⟩
theorem Y6(n:Nat)(k:q)(h:As q→OI n p:=by intro zq9;refine Kd BZ (V.indexSl Tryz.underlying30 Ef rfl rfl BJ (by omega) (Nat.mul_one _) BT) ?_;go_step;with_reducible exact zq9.out):p:=h ⟨k⟩
theorem Y7(n:Nat)(L:List Nat)(k:q)(h:As q→LM n L p:=by intro zq9;apply CB Ai AA AA AA B5 AA (hS.sub AV);(case hfr=>intro w hS;((refine Ad ?_;apply R4 hS 159 _ rfl _ _ rfl 2 (AN rfl) _ _ _ _ _;(case hp=>exact AM);(case inst=>infer_instance);(case he=>with_reducible assumption);(case hq=>exact rfl);(case hj=>omega);refine AB ?_;go_step));refine wpList_nil ?_;exact ⟨rfl,rfl⟩);(case hd=>rfl);with_reducible exact zq9.out):p:=h ⟨k⟩
theorem Y8{T q:Nat→World→Prop}(k:∀g w,T g w→q g w)(h:IG T q→p:=by intro zq9;refine IE (o:=⟨some _,_,_,_,_,_⟩) hS 37 rfl _ jD ?_;intro g9 w9 h9;refine ⟨fun _ _=>h9.sub AV,?_⟩;refine AI ?_;go_step;with_reducible exact zq9.out g9 w9 h9):p:=h ⟨k⟩
theorem Y9{T q:World→Prop}(k:∀w,T w→q w)(h:Jv T q→p:=by intro zq9;(refine Ge hS 37 _ _ rfl _ rfl 103 (AN rfl) _ _ AM (by rfl) (by (repeat (first|exact Bx.nil|(apply Bx.ints;(case hn=>exact D6);(case h=>omega);(case hm=>rfl))|apply Bx.val))) (by (repeat (first|exact Bx.nil|(apply Bx.ints;(case hn=>exact D6);(case h=>omega);(case hm=>rfl))|apply Bx.val))) (by rfl) rfl ?_);intro w9 h9;refine ⟨fun h=>absurd (by decide) h,?_⟩;with_reducible exact zq9.out w9 h9):p:=h ⟨k⟩
theorem Vv(n:Nat)(k:q)(h:As q→OI n p:=by intro zq9;refine Kd BZ (V.addI rfl rfl (by omega)) ?_;go_step;with_reducible exact zq9.out):p:=h ⟨k⟩
theorem cZ(n:Nat)(L:List Nat)(k:q)(h:As q→LM n L p:=by intro zq9;apply CB Ai AA AA AA B5 AA (hS.sub AV);(case hfr=>intro w hS;((refine Ad ?_;apply Aj hS 30 _ rfl _ rfl (AK rfl) _;(case hc=>with_reducible assumption);refine AB ?_;go_step));refine wpList_nil ?_;exact ⟨rfl,rfl⟩);(case hd=>rfl);with_reducible exact zq9.out):p:=h ⟨k⟩
theorem e8{T q:World→Prop}(k:∀w,T w→q w)(h:Jv T q→p:=by intro zq9;(apply XT hS 159 _ _ rfl _ _ rfl 2 (AN rfl) _ _ _ _ _;(case hp=>exact AM);(case inst=>infer_instance);(case he=>with_reducible assumption);(case hone=>with_reducible assumption);(case hq=>exact rfl);(case hj=>omega);(case hy=>exact rfl);(case hd=>exact rfl));intro w9 h9;refine ⟨fun h=>absurd (by decide) h,?_⟩;with_reducible exact zq9.out w9 h9):p:=h ⟨k⟩
theorem fA{T q:World→Prop}(k:∀w,T w→q w)(h:Jv T q→p:=by intro zq9;(refine K7 hS 3 _ _ rfl _ _ rfl (AK rfl) _ _ _ _ _ AM _ (by rfl) (by omega) rfl ?_);intro w9 h9;refine ⟨fun h=>absurd (by decide) h,?_⟩;with_reducible exact zq9.out w9 h9):p:=h ⟨k⟩
theorem fB(n:Nat)(L:List Nat)(k:q)(h:As q→LM n L p:=by intro zq9;apply CB Ai AA AA AA B5 AA (hS.sub AV);(case hfr=>intro w hS;((refine Ad ?_;apply Aj hS 3 _ rfl _ rfl (AK rfl) _;(case hc=>with_reducible assumption);refine AB ?_;go_step));refine wpList_nil ?_;exact ⟨rfl,rfl⟩);(case hd=>rfl);with_reducible exact zq9.out):p:=h ⟨k⟩
theorem fD(n:Nat)(k:q)(h:As q→OI n p:=by intro zq9;refine Kd BZ (V.mulI rfl rfl (by omega)) ?_;go_step;with_reducible exact zq9.out):p:=h ⟨k⟩
theorem gt(n:Nat)(k:q)(h:As q→OI n p:=by intro zq9;refine Kd BZ (V.fieldAddr Sq rfl BT) ?_;go_step;with_reducible exact zq9.out):p:=h ⟨k⟩
theorem gu(n:Nat)(k:q)(h:As q→OI n p:=by intro zq9;refine Kd BZ (V.subI rfl rfl (by omega)) ?_;go_step;with_reducible exact zq9.out):p:=h ⟨k⟩
theorem jJ{T q:Nat→World→Prop}(k:∀g w,T g w→q g w)(h:IG T q→p:=by intro zq9;refine DJ (o:=⟨some _,_,_,_,_,_⟩) hS 26 rfl (List.replicate 64 0) 64 List.length_replicate QC ?_;intro g9 w9 h9;refine ⟨fun _ _=>h9.sub AV,?_⟩;refine AI ?_;go_step;with_reducible exact zq9.out g9 w9 h9):p:=h ⟨k⟩
theorem jK{T q:World→Prop}(k:∀w,T w→q w)(h:Jv T q→p:=by intro zq9;(refine EO hS 26 _ _ rfl _ rfl 64 (AN rfl) _ _ AM (by rfl) (by (repeat (first|assumption|exact Ae.rep|apply Ae.set|((with_reducible show Ae (_::_) _);exact rfl)))) rfl ?_);intro w9 h9;refine ⟨fun h=>absurd (by decide) h,?_⟩;with_reducible exact zq9.out w9 h9):p:=h ⟨k⟩
theorem jL(n:Nat)(L:List Nat)(k:q)(h:As q→LM n L p:=by intro zq9;apply CB Ai AA AA AA B5 AA (hS.sub AV);(case hfr=>intro w hS;((refine Ad ?_;apply AZ hS 133 _ rfl _ _ rfl (AK rfl) _;(case hp=>exact AM);(case hc=>rfl);refine AB ?_;go_step));refine wpList_nil ?_;exact ⟨rfl,rfl⟩);(case hd=>rfl);with_reducible exact zq9.out):p:=h ⟨k⟩
theorem jM(n:Nat)(L:List Nat)(k:q)(h:As q→LM n L p:=by intro zq9;apply CB Ai AA AA AA B5 AA (hS.sub AV);(case hfr=>intro w hS;((refine Ad ?_;apply Iv hS 3 _ rfl _ _ rfl (AK rfl) _ _ _ _ _;(case hp=>exact AM);(case hi=>omega);refine AB ?_;go_step));refine wpList_nil ?_;exact ⟨rfl,rfl⟩);(case hd=>rfl);with_reducible exact zq9.out):p:=h ⟨k⟩
theorem jw(n:Nat)(L:List Nat)(k:q)(h:As q→LM n L p:=by intro zq9;apply CB Ai AA AA AA B5 AA (hS.sub AV);(case hfr=>intro w hS;((refine Ad ?_;apply DW hS 26 _ rfl _ rfl 64 (AN rfl) _;(case hp=>exact AM);refine AB ?_;go_step));refine wpList_nil ?_;exact ⟨rfl,rfl⟩);(case hd=>rfl);with_reducible exact zq9.out):p:=h ⟨k⟩
theorem jx(n:Nat)(L:List Nat)(k:q)(h:As q→LM n L p:=by intro zq9;apply CB Ai AA AA AA B5 AA (hS.sub AV);(case hfr=>intro w hS;((refine Ad ?_;apply DK hS 34 _ rfl _ _ rfl 34 (AN rfl) _;(case hp=>exact AM);(case hi=>(repeat (first|(apply Hn.head;(repeat (first|exact Bx.nil|(apply Bx.ints;(case hn=>exact D6);(case h=>omega);(case hm=>rfl))|apply Bx.val)))|(apply Hn.skipI;(case hn=>exact D6);(case h=>omega);(case ho=>rfl))|apply Hn.skipV)));refine AB ?_;go_step));refine wpList_nil ?_;exact ⟨rfl,rfl⟩);(case hd=>rfl);with_reducible exact zq9.out):p:=h ⟨k⟩
theorem jy(n:Nat)(L:List Nat)(k:q)(h:As q→LM n L p:=by intro zq9;apply CB Ai AA AA AA B5 AA (hS.sub AV);(case hfr=>intro w hS;((refine Ad ?_;apply Aj hS 22 _ rfl _ rfl (AK rfl) _;(case hc=>with_reducible assumption);refine AB ?_;go_step));refine wpList_nil ?_;exact ⟨rfl,rfl⟩);(case hd=>rfl);with_reducible exact zq9.out):p:=h ⟨k⟩
theorem kU(n:Nat)(L:List Nat)(k:q)(h:As q→LM n L p:=by intro zq9;apply CB Ai AA AA AA B5 AA (hS.sub AV);(case hfr=>intro w hS;((refine Ad ?_;apply AZ hS 137 _ rfl _ _ rfl (AK rfl) _;(case hp=>exact AM);(case hc=>rfl);refine AB ?_;go_step));refine wpList_nil ?_;exact ⟨rfl,rfl⟩);(case hd=>rfl);with_reducible exact zq9.out):p:=h ⟨k⟩
theorem kV(n:Nat)(k:q)(h:As q→OI n p:=by intro zq9;refine Kd BZ (V.indexAr Tryz.underlying26 Ef rfl rfl BJ (by omega) (Nat.mul_one _) BT) ?_;go_step;with_reducible exact zq9.out):p:=h ⟨k⟩
theorem kW(n:Nat)(k:q)(h:As q→OI n p:=by intro zq9;refine Kd BZ (V.indexSl Tryz.underlying22 MY rfl rfl (show Bw 1 1 from rfl) (by omega) (show 1*1=1 from rfl) BT) ?_;go_step;with_reducible exact zq9.out):p:=h ⟨k⟩
theorem kX(n:Nat)(k:q)(h:As q→OI n p:=by intro zq9;refine Kd BZ (V.slice Tryz.underlying35 Wf rfl (by (first|exact Lo.none|exact Lo.some rfl BJ)) (by (first|exact Up.none|exact Up.some rfl BJ)) (by omega) (by omega)) ?_;go_step;with_reducible exact zq9.out):p:=h ⟨k⟩
theorem kZ{T q:Nat→World→Prop}(k:∀g w,T g w→q g w)(h:IG T q→p:=by intro zq9;refine AU (o:=⟨some _,_,_,_,_,_⟩) hS 30 1 _ rfl 3 1 8 Nv _ _ (by (repeat (first|exact AX.nil|(apply AX.agg;(rfl);(rfl))|(apply AX.one;exact CK;(rfl);(rfl))))) (by rfl) (by decide) (by decide) ?_;intro g9 w9 h9;refine ⟨fun h=>absurd (by decide) h,?_⟩;refine AI ?_;go_step;with_reducible exact zq9.out g9 w9 h9):p:=h ⟨k⟩
theorem ka(n:Nat)(L:List Nat)(k:q)(h:As q→LM n L p:=by intro zq9;apply CB Ai AA AA AA B5 AA (hS.sub AV);(case hfr=>intro w hS;((refine Ad ?_;apply Al hS 30 _ rfl _ _ rfl (AK rfl) _ _ _ _ _;(case hp=>exact AM);(case hv=>with_reducible assumption);refine AB ?_;go_step));refine wpList_nil ?_;exact ⟨rfl,rfl⟩);(case hd=>rfl);with_reducible exact zq9.out):p:=h ⟨k⟩
theorem kb(n:Nat)(L:List Nat)(k:q)(h:As q→LM n L p:=by intro zq9;apply CB Ai AA AA AA B5 AA (hS.sub AV);(case hfr=>intro w hS;((refine Ad ?_;apply CP hS 107 _ rfl _ rfl 2 (AN rfl) _;(case hp=>exact AM);(case hn=>rfl);refine AB ?_;go_step));refine wpList_nil ?_;exact ⟨rfl,rfl⟩);(case hd=>rfl);with_reducible exact zq9.out):p:=h ⟨k⟩
theorem kc(n:Nat)(L:List Nat)(k:q)(h:As q→LM n L p:=by intro zq9;apply CB Ai AA AA AA B5 AA (hS.sub AV);(case hfr=>intro w hS;((refine Ad ?_;apply CP hS 24 _ rfl _ rfl 3 (AN rfl) _;(case hp=>exact AM);(case hn=>rfl);refine AB ?_;go_step));refine wpList_nil ?_;exact ⟨rfl,rfl⟩);(case hd=>rfl);with_reducible exact zq9.out):p:=h ⟨k⟩
theorem ke(n:Nat)(k:q)(h:As q→OI n p:=by intro zq9;refine Kd BZ (V.indexSl Tryz.underlying22 MY rfl rfl (show Bw 0 0 from rfl) (by omega) (show 0*1=0 from rfl) BT) ?_;go_step;with_reducible exact zq9.out):p:=h ⟨k⟩
theorem kf(n:Nat)(k:q)(h:As q→OI n p:=by intro zq9;refine Kd BZ (V.indexSl Tryz.underlying22 MY rfl rfl (show Bw 2 2 from rfl) (by omega) (show 2*1=2 from rfl) BT) ?_;go_step;with_reducible exact zq9.out):p:=h ⟨k⟩
theorem kg(n:Nat)(k:q)(h:As q→OI n p:=by intro zq9;refine Kd BZ (V.slice Tryz.underlying42 JJ rfl (by (first|exact Lo.none|exact Lo.some rfl BJ)) (by (first|exact Up.none|exact Up.some rfl BJ)) (by omega) (by omega)) ?_;go_step;with_reducible exact zq9.out):p:=h ⟨k⟩
theorem lB{T q:Nat→World→Prop}(k:∀g w,T g w→q g w)(h:IG T q→p:=by intro zq9;refine AU (o:=⟨some _,_,_,_,_,_⟩) hS 88 1 _ rfl 35 1 24 WR _ _ (by (repeat (first|exact AX.nil|(apply AX.agg;(rfl);(rfl))|(apply AX.one;exact CK;(rfl);(rfl))))) (by rfl) (by decide) (by decide) ?_;intro g9 w9 h9;refine ⟨fun _ _=>h9.sub AV,?_⟩;refine AI ?_;go_step;with_reducible exact zq9.out g9 w9 h9):p:=h ⟨k⟩
theorem lC(n:Nat)(L:List Nat)(k:q)(h:As q→LM n L p:=by intro zq9;apply CB Ai AA AA AA B5 AA (hS.sub AV);(case hfr=>intro w hS;((refine Ad ?_;apply AZ hS 168 _ rfl _ _ rfl (AK rfl) _;(case hp=>exact AM);(case hc=>rfl);refine AB ?_;go_step));refine wpList_nil ?_;exact ⟨rfl,rfl⟩);(case hd=>rfl);with_reducible exact zq9.out):p:=h ⟨k⟩
theorem lD(n:Nat)(L:List Nat)(k:q)(h:As q→LM n L p:=by intro zq9;apply CB Ai AA AA AA B5 AA (hS.sub AV);(case hfr=>intro w hS;((refine Ad ?_;apply AZ hS 22 _ rfl _ _ rfl (AK rfl) _;(case hp=>exact AM);(case hc=>rfl);refine AB ?_;go_step));refine wpList_nil ?_;exact ⟨rfl,rfl⟩);(case hd=>rfl);with_reducible exact zq9.out):p:=h ⟨k⟩
theorem lE(n:Nat)(L:List Nat)(k:q)(h:As q→LM n L p:=by intro zq9;apply CB Ai AA AA AA B5 AA (hS.sub AV);(case hfr=>intro w hS;((refine Ad ?_;apply AZ hS 30 _ rfl _ _ rfl (AK rfl) _;(case hp=>exact AM);(case hc=>rfl);refine AB ?_;go_step));refine wpList_nil ?_;exact ⟨rfl,rfl⟩);(case hd=>rfl);with_reducible exact zq9.out):p:=h ⟨k⟩
theorem lF(n:Nat)(L:List Nat)(k:q)(h:As q→LM n L p:=by intro zq9;apply CB Ai AA AA AA B5 AA (hS.sub AV);(case hfr=>intro w hS;((refine Ad ?_;apply Bh hS 3 _ rfl _ _ rfl (AK rfl) _ _;(case hp=>exact AM);(case hi=>omega);refine AB ?_;go_step));refine wpList_nil ?_;exact ⟨rfl,rfl⟩);(case hd=>rfl);with_reducible exact zq9.out):p:=h ⟨k⟩
theorem lG(n:Nat)(L:List Nat)(k:q)(h:As q→LM n L p:=by intro zq9;apply CB Ai AA AA AA B5 AA (hS.sub AV);(case hfr=>intro w hS;((refine Ad ?_;apply Ov hS 30 _ rfl _ _ rfl (AK rfl) _ _ _ _ _ _;(case hp=>exact AM);(case inst=>infer_instance);(case he=>with_reducible assumption);(case hq=>exact rfl);(case hj=>omega);(case hv=>exact rfl);refine AB ?_;go_step));refine wpList_nil ?_;exact ⟨rfl,rfl⟩);(case hd=>rfl);with_reducible exact zq9.out):p:=h ⟨k⟩
theorem lH(n:Nat)(L:List Nat)(k:q)(h:As q→LM n L p:=by intro zq9;apply CB Ai AA AA AA B5 AA (hS.sub AV);(case hfr=>intro w hS;((refine Ad ?_;apply Tp hS 3 _ rfl _ _ rfl (AK rfl) _ _ _ _ _ _;(case hp=>exact AM);(case inst=>infer_instance);(case he=>with_reducible assumption);(case hq=>exact rfl);(case hj=>omega);(case hv=>exact rfl);refine AB ?_;go_step));refine wpList_nil ?_;exact ⟨rfl,rfl⟩);(case hd=>rfl);with_reducible exact zq9.out):p:=h ⟨k⟩
theorem lP(n:Nat)(L:List Nat)(k:q)(h:As q→LM n L p:=by intro zq9;apply CB Ai AA AA AA B5 AA (hS.sub AV);(case hfr=>intro w hS;((refine Ad ?_;apply DK hS 32 _ rfl _ _ rfl 17 (AN rfl) _;(case hp=>exact AM);(case hi=>(repeat (first|(apply Hn.head;(repeat (first|exact Bx.nil|(apply Bx.ints;(case hn=>exact D6);(case h=>omega);(case hm=>rfl))|apply Bx.val)))|(apply Hn.skipI;(case hn=>exact D6);(case h=>omega);(case ho=>rfl))|apply Hn.skipV)));refine AB ?_;go_step));refine wpList_nil ?_;exact ⟨rfl,rfl⟩);(case hd=>rfl);with_reducible exact zq9.out):p:=h ⟨k⟩
theorem lI(n:Nat)(L:List Nat)(k:q)(h:As q→LM n L p:=by intro zq9;apply CB Ai AA AA AA B5 AA (hS.sub AV);(case hfr=>intro w hS;((refine Ad ?_;apply DK hS 37 _ rfl _ _ rfl 103 (AN rfl) _;(case hp=>exact AM);(case hi=>(repeat (first|(apply Hn.head;(repeat (first|exact Bx.nil|(apply Bx.ints;(case hn=>exact D6);(case h=>omega);(case hm=>rfl))|apply Bx.val)))|(apply Hn.skipI;(case hn=>exact D6);(case h=>omega);(case ho=>rfl))|apply Hn.skipV)));refine AB ?_;go_step));refine wpList_nil ?_;exact ⟨rfl,rfl⟩);(case hd=>rfl);with_reducible exact zq9.out):p:=h ⟨k⟩
theorem lJ(n:Nat)(L:List Nat)(k:q)(h:As q→LM n L p:=by intro zq9;apply CB Ai AA AA AA B5 AA (hS.sub AV);(case hfr=>intro w hS;((refine Ad ?_;apply Ey hS 3 _ rfl _ _ rfl (AK rfl) _;(case hp=>exact AM);(case hi=>(repeat (first|exact Ki.head|(apply Ki.skipI;(case hn=>exact D6);(case h=>omega);(case ho=>rfl))|apply Ki.skipV)));refine AB ?_;go_step));refine wpList_nil ?_;exact ⟨rfl,rfl⟩);(case hd=>rfl);with_reducible exact zq9.out):p:=h ⟨k⟩
theorem lK(n:Nat)(L:List Nat)(k:q)(h:As q→LM n L p:=by intro zq9;apply CB Ai AA AA AA B5 AA (hS.sub AV);(case hfr=>intro w hS;((refine Ad ?_;apply Ey hS 35 _ rfl _ _ rfl (AK rfl) _;(case hp=>exact AM);(case hi=>(repeat (first|exact Ki.head|(apply Ki.skipI;(case hn=>exact D6);(case h=>omega);(case ho=>rfl))|apply Ki.skipV)));refine AB ?_;go_step));refine wpList_nil ?_;exact ⟨rfl,rfl⟩);(case hd=>rfl);with_reducible exact zq9.out):p:=h ⟨k⟩
end
end Go.Proofs.YtohacgmhmbijmaaGreatDoor
namespace Go.Proofs.YtohacgmhmbijmaaGreatDoor
attribute [local irreducible] Region.wanted
open Go.RowKit
set_option linter.unusedVariables false
set_option maxRecDepth 100000
set_option maxHeartbeats 8000000
theorem Cu(n m:Int)(w:World)(hm:0<m)(hm2:m≤9223372036854775807):
 Calls Tryz.prog 28 #[.int .i64 n, .int .i64 m] w fun e w'=>e= .returned (.int .i64 (n%m))∧w=w':=by
 have h0:=KI n m hm
 have h1:=KJ n m hm
 have hb:n.tmod m≤m:=by have:=Int.tmod_lt_of_pos n hm;omega
 by_cases h:n.tmod m<0
 ·have H:Hid (n.tmod m+m=n%m):=h0 h
  clear h0 h1
  have hb2: -m<n.tmod m:=by have:=Int.lt_tmod_of_pos n hm;omega
  go_enter Tryz.func28,Tryz.ntmps28
  go_wp2
  go_ret
  exact ⟨GY H.out,rfl⟩
 have H:Hid (n.tmod m=n%m):=h1 (by omega)
 clear h0 h1
 have h3:0≤n.tmod m:=by omega
 clear h
 go_enter Tryz.func28,Tryz.ntmps28
 go_wp2
 go_ret
 exact ⟨GY H.out,rfl⟩
theorem Oe(n d:Int)(w:World)(h0:0≤n)(h1:n≤2305843009213693951)(h2:1≤d)(h3:d≤1000000000):
 Calls Tryz.prog 64 #[.int .i64 n, .int .i64 d] w fun e w'=>e= .returned (.int .i64 (FI n d))∧w=w':=by
 have H:Hid ((2*n+d)/(2*d)=FI n d):=by unfold Hid FI;rw [if_neg (by omega)]
 have hn:¬n<0:=by omega
 go_enter Tryz.func64,Tryz.ntmps64
 go_wp2_with fail
 go_ret
 exact ⟨GY H.out,rfl⟩
theorem H5(n d:Int)(w:World)(h0: -2305843009213693951≤n)(h1:n≤2305843009213693951)(h2:1≤d)(h3:d≤1000000000):
 Calls Tryz.prog 64 #[.int .i64 n, .int .i64 d] w fun e w'=>e= .returned (.int .i64 (FI n d))∧w=w':=by
 by_cases hn:n<0
 ·have hb:=Mv (-n) d 2305843009213693951 (by omega) (by omega) h2
  have H:Hid (-FI (-n) d=FI n d):=by have:=Ph n d h2;unfold Hid;omega
  obtain ⟨hb1,hb2⟩:=hb
  go_enter Tryz.func64,Tryz.ntmps64
  go_wp2_with (go_at_call 64;refine (Oe (-n) d _ (by omega) (by omega) h2 h3).mono ?_;rintro e w' ⟨rfl,rfl⟩)
  go_ret
  exact ⟨GY H.out,rfl⟩
 exact Oe n d w (by omega) h1 h2 h3
theorem Ok(a1 a2 a3 a4 b1 b2 b3 b4 c1 c2 c3 c4 r g b:Int)(w:World)
 (hr:0≤r∧r≤255) (hg:0≤g∧g≤255) (hb:0≤b∧b≤255)
 (ha1: -200000000≤a1∧a1≤200000000) (ha2: -200000000≤a2∧a2≤200000000) (ha3: -200000000≤a3∧a3≤200000000) (ha4: -200000000≤a4∧a4≤200000000)
 (hb1: -200000000≤b1∧b1≤200000000) (hb2: -200000000≤b2∧b2≤200000000) (hb3: -200000000≤b3∧b3≤200000000) (hb4: -200000000≤b4∧b4≤200000000)
 (hc1: -200000000≤c1∧c1≤200000000) (hc2: -200000000≤c2∧c2≤200000000) (hc3: -200000000≤c3∧c3≤200000000) (hc4: -200000000≤c4∧c4≤200000000):
 Calls Tryz.prog 56 #[.agg #[.int .i64 a1, .int .i64 a2, .int .i64 a3, .int .i64 a4, .int .i64 b1, .int .i64 b2, .int .i64 b3, .int .i64 b4, .int .i64 c1, .int .i64 c2, .int .i64 c3, .int .i64 c4], .agg #[.int .i64 r, .int .i64 g, .int .i64 b]] w
  fun e w'=>e= .returned (.tuple #[.int .i64 (IL (FI (a4+a1*r+a2*g+a3*b) 65536)), .int .i64 (IL (FI (b4+b1*r+b2*g+b3*b) 65536)), .int .i64 (IL (FI (c4+c1*r+c2*g+c3*b) 65536)), .int .i64 0])∧Ah w w':=by
 have ⟨pa1,qa1⟩:=Dv a1 r 200000000 255 ha1 hr
 have ⟨pa2,qa2⟩:=Dv a2 g 200000000 255 ha2 hg
 have ⟨pa3,qa3⟩:=Dv a3 b 200000000 255 ha3 hb
 have ⟨pb1,qb1⟩:=Dv b1 r 200000000 255 hb1 hr
 have ⟨pb2,qb2⟩:=Dv b2 g 200000000 255 hb2 hg
 have ⟨pb3,qb3⟩:=Dv b3 b 200000000 255 hb3 hb
 have ⟨pc1,qc1⟩:=Dv c1 r 200000000 255 hc1 hr
 have ⟨pc2,qc2⟩:=Dv c2 g 200000000 255 hc2 hg
 have ⟨pc3,qc3⟩:=Dv c3 b 200000000 255 hc3 hb
 simp only [Int.reduceMul,Int.reduceNeg] at pa1 pa2 pa3 pb1 pb2 pb3 pc1 pc2 pc3 qa1 qa2 qa3 qb1 qb2 qb3 qc1 qc2 qc3
 obtain ⟨hr1,hr2⟩:=hr
 obtain ⟨hg1,hg2⟩:=hg
 obtain ⟨hb1',hb2'⟩:=hb
 obtain ⟨ha41,ha42⟩:=ha4
 obtain ⟨hb41,hb42⟩:=hb4
 obtain ⟨hc41,hc42⟩:=hc4
 clear ha1 ha2 ha3 hb1 hb2 hb3 hc1 hc2 hc3
 go_enter Tryz.func56,Tryz.ntmps56
 go_wp2_with (first|(with_reducible refine wp_loop_rounds 4 ?_)|(with_reducible rw [rounds_succ])|(go_at_call 64;refine (H5 _ _ _ (by omega) (by omega) (by omega) (by omega)).mono ?_;rintro e w' ⟨rfl,rfl⟩))
 go_quiet (fail)
 go_wp2
 refine bodyPost_ret (GX rfl _ _ _) rfl ?_
 exact ⟨rfl,by repeat (first|exact Ah.refl _|apply Ah.drew|apply Ah.drewN|apply Ah.alloc|refine Ah.setCell ?_ (by simp;omega) _)⟩
def Rq(r g b:Int):Int:=IL (FI (19595*r+38470*g+7471*b) 65536)
def Ro(r g b:Int):Int:=IL (FI (8388608+ -11059*r+ -21709*g+32768*b) 65536)
def Rp(r g b:Int):Int:=IL (FI (8388608+32768*r+ -27439*g+ -5329*b) 65536)
def Fb(y _u v:Int):Int:=IL (FI (65536*y+91881*v-11760768) 65536)
def Fa(y u v:Int):Int:=IL (FI (65536*y+ -22554*u+ -46802*v+8877568) 65536)
def FZ(y u _v:Int):Int:=IL (FI (65536*y+116130*u-14864640) 65536)
theorem kR(r g b:Int):0≤Rq r g b∧Rq r g b≤255:=Hb _
theorem kP(r g b:Int):0≤Ro r g b∧Ro r g b≤255:=Hb _
theorem kQ(r g b:Int):0≤Rp r g b∧Rp r g b≤255:=Hb _
theorem Ta(r g b:Int)(w:World)(hr:0≤r∧r≤255)(hg:0≤g∧g≤255)(hb:0≤b∧b≤255):
 Calls Tryz.prog 30 #[.int .i64 r, .int .i64 g, .int .i64 b] w fun e w'=>e= .returned (.tuple #[.int .i64 (Rq r g b), .int .i64 (Ro r g b), .int .i64 (Rp r g b), .int .i64 0])∧Ah w w':=by
 go_enter Tryz.func30,Tryz.ntmps30
 go_wp2_with (go_at_call 56;refine (Ok 19595 38470 7471 0 (-11059) (-21709) 32768 8388608 32768 (-27439) (-5329) 8388608 r g b _ hr hg hb (by omega) (by omega) (by omega) (by omega) (by omega) (by omega) (by omega) (by omega) (by omega) (by omega) (by omega) (by omega)).mono ?_;rintro e w' ⟨rfl,hgr⟩)
 refine bodyPost_ret (GX rfl _ _ _) rfl ?_
 refine ⟨Z3 ?_,?_⟩
 ·simp only [Rq,Ro,Rp];rfl
 exact (by repeat (first|exact Ah.refl _|apply Ah.drew|apply Ah.drewN|apply Ah.alloc):Ah w _).trans hgr
theorem Pw(r g b:Int)(w:World)(hr:0≤r∧r≤255)(hg:0≤g∧g≤255)(hb:0≤b∧b≤255):
 Calls Tryz.prog 96 #[.int .i64 r, .int .i64 g, .int .i64 b] w fun e w'=>e= .returned (.tuple #[.int .i64 (Fb r g b), .int .i64 (Fa r g b), .int .i64 (FZ r g b), .int .i64 0])∧Ah w w':=by
 go_enter Tryz.func96,Tryz.ntmps96
 go_wp2_with (go_at_call 56;refine (Ok 65536 0 91881 (-11760768) 65536 (-22554) (-46802) 8877568 65536 116130 0 (-14864640) r g b _ hr hg hb (by omega) (by omega) (by omega) (by omega) (by omega) (by omega) (by omega) (by omega) (by omega) (by omega) (by omega) (by omega)).mono ?_;rintro e w' ⟨rfl,hgr⟩)
 refine bodyPost_ret (GX rfl _ _ _) rfl ?_
 refine ⟨Z3 ?_,?_⟩
 ·have e1:Fb r g b=IL (FI (-11760768+65536*r+91881*b) 65536):=by unfold Fb;congr 2;omega
  have e2:Fa r g b=IL (FI (8877568+65536*r+ -22554*g+ -46802*b) 65536):=by unfold Fa;congr 2;omega
  have e3:FZ r g b=IL (FI (-14864640+65536*r+116130*g) 65536):=by unfold FZ;congr 2;omega
  rw [e1,e2,e3];rfl
 exact (by repeat (first|exact Ah.refl _|apply Ah.drew|apply Ah.drewN|apply Ah.alloc):Ah w _).trans hgr
def Du(p:Int→Bool)(xs:List Int):Int:=match xs.findIdx? p with|some i=>(i:Int)|none=> -1
theorem Nz(p:Int→Bool)(xs:List Int)(i:Nat)(h:i<xs.length)(hp:p (AF xs i)=true)(hpre:∀j,j<i→p (AF xs j)=false):Du p xs=i:=by
 have:xs.findIdx? p=some i:=by
  rw [List.findIdx?_eq_some_iff_getElem]
  refine ⟨h,by simpa [AF,List.getD,List.getElem?_eq_getElem h] using hp,fun j hj=>?_⟩
  have:=hpre j hj
  simpa [AF,List.getD,List.getElem?_eq_getElem (show j<xs.length by omega)] using this
 simp [Du,this]
theorem Ny(p:Int→Bool)(xs:List Int)(hpre:∀j,j<xs.length→p (AF xs j)=false):Du p xs= -1:=by
 have:xs.findIdx? p=none:=by
  rw [List.findIdx?_eq_none_iff]
  intro x hx
  obtain ⟨j,hj,rfl⟩:=List.getElem_of_mem hx
  have:=hpre j hj
  simpa [AF,List.getD,List.getElem?_eq_getElem hj] using this
 simp [Du,this]
theorem PE(p:Int→Bool)(xs:List Int):decide (0≤Du p xs)=xs.any p:=by
 unfold Du
 rw [Bool.eq_iff_iff,decide_eq_true_eq,List.any_eq_true]
 cases h:xs.findIdx? p with
 | none=>
   rw [List.findIdx?_eq_none_iff] at h
   simp only [Int.reduceNeg]
   constructor
   ·intro h';omega
   rintro ⟨x,hx,hp⟩;rw [h x hx] at hp;cases hp
 | some i=>
   rw [List.findIdx?_eq_some_iff_getElem] at h
   obtain ⟨hi,hp,_⟩:=h
   exact ⟨fun _=>⟨_,List.getElem_mem hi,hp⟩,fun _=>by dsimp only;omega⟩
theorem Qs(p:Int→Bool)(xs:List Int): -1≤Du p xs:=by
 unfold Du;split<;>omega
theorem N4(w:World)(v:Value)(xs:List Int)(hs:QI w v xs)(K:Nat)(caps:Array Value)(p:Int→Bool)(hk:∀(args:Array Value)(w:World),(callFunc K args).run Tryz.prog w= .ok (.enter K args) w)
 (hf:∀n,Calls Tryz.prog K (#[.int .i64 n]++caps) w fun e w'=>e= .returned (.bool (p n))∧w=w'):
 Calls Tryz.prog 114 #[v, .func (.func K) #[] caps] w fun e w'=>e= .returned (.int .i64 (Du p xs))∧w=w':=by
 obtain ⟨a,c,rfl,hc1,hc2,ha⟩:=hs.open
 have HF:=AD hf
 clear hf
 go_enter Tryz.func114,Tryz.ntmps114
 go_wp2_with fail
 go_loopg [8] xs.length (fun gk xv wr=>∃(i:Nat),gk+i=xs.length∧xv= .int .i64 i∧(∀j,j<i→p (AF xs j)=false)∧wr=w)
 case atStart=>exact ⟨0,rfl,rfl,fun j hj=>by omega,rfl⟩
 case round=>
  obtain ⟨i,hi,rfl,hpre,rfl⟩:=hrel
  have hi':i≤xs.length:=by omega
  have HP:=AD hpre
  clear hpre
  by_cases hlt:i<xs.length
  ·obtain ⟨ba,oa,rfl,hca⟩:=ha i hlt
   have h1:=hca i hlt
   clear ha hca
   have HM:Hid (gk-1+(i+1)=xs.length):=by unfold Hid;omega
   have HG:Hid (gk-1<gk):=by unfold Hid;omega
   clear hi
   go_wp2_with fail
   refine (HF.out (AF xs i)).mono ?_
   rintro e w' ⟨rfl,rfl⟩
   by_cases hp:p (AF xs i)=true
   ·have HX:=AD (Nz p xs i hlt hp HP.out)
    rw [hp]
    clear hp
    go_wp2_with fail
    go_ret
    exact ⟨GY HX.out.symm,rfl⟩
   have hp':p (AF xs i)=false:=by simpa using hp
   have HX:Hid (∀j,j<i+1→p (AF xs j)=false):=fun j hj=>by
    by_cases hji:j=i
    ·subst hji;exact hp'
    exact HP.out j (by omega)
   rw [hp']
   clear hp hp'
   go_wp2_with fail
   go_roundg (gk-1)
   case measure=>exact HG.out
   case rel=>exact ⟨i+1,HM.out,by go_num,HX.out,rfl⟩
  have HX:=AD (Ny p xs (fun j hj=>HP.out j (by omega)))
  clear ha
  go_wp2_with fail
  go_ret
  exact ⟨GY HX.out.symm,rfl⟩
theorem BH(w:World)(v:Value)(xs:List Int)(hs:QI w v xs)(K:Nat)(caps:Array Value)(p:Int→Bool)(hk:∀(args:Array Value)(w:World),(callFunc K args).run Tryz.prog w= .ok (.enter K args) w)
 (hf:∀n,Calls Tryz.prog K (#[.int .i64 n]++caps) w fun e w'=>e= .returned (.bool (p n))∧w=w'):
 Calls Tryz.prog 76 #[v, .func (.func K) #[] caps] w fun e w'=>e= .returned (.bool (xs.any p))∧w=w':=by
 have HA:=AD (PE p xs)
 have hb:=Qs p xs
 have HF:=AD (N4 w v xs hs K caps p hk hf)
 clear hf hs
 go_enter Tryz.func76,Tryz.ntmps76
 go_wp2_with (go_at_call 114;refine HF.out.mono ?_;rintro e w' ⟨rfl,rfl⟩)
 go_ret
 exact ⟨DF HA.out,rfl⟩
def By(l:List Int)(lo hi:Int):Bool:= !l.any fun n=>decide (n<lo)||decide (hi<n)
theorem Aw(l:List Int)(lo hi:Int):By l lo hi=true↔∀i,i<l.length→lo≤AF l i∧AF l i≤hi:=by
 unfold By
 rw [Bool.not_eq_true',List.any_eq_false]
 constructor
 ·intro h i hi
  have:=h l[i] (List.getElem_mem hi)
  simp only [Bool.or_eq_true,decide_eq_true_eq,not_or] at this
  simp only [AF,List.getD,List.getElem?_eq_getElem hi,Option.getD_some]
  omega
 intro h x hx
 obtain ⟨j,hj,rfl⟩:=List.getElem_of_mem hx
 have:=h j hj
 simp only [AF,List.getD,List.getElem?_eq_getElem hj,Option.getD_some] at this
 simp only [Bool.or_eq_true,decide_eq_true_eq,not_or]
 omega
end Go.Proofs.YtohacgmhmbijmaaGreatDoor
namespace Go.Proofs.YtohacgmhmbijmaaGreatDoor
open Go.RowKit
set_option linter.unusedVariables false
set_option maxRecDepth 100000
set_option maxHeartbeats 8000000
theorem XR(n lo hi:Int)(p q:Addr)(w:World)(hp:w.cell? p=some (.int .i64 lo))(hq:w.cell? q=some (.int .i64 hi)):
 Calls Tryz.prog 98 #[.int .i64 n, .pointer (some p), .pointer (some q)] w fun e w'=>e= .returned (.bool (decide (n<lo)||decide (hi<n)))∧w=w':=by
 by_cases h:n<lo
 ·have h2:decide (n<lo)=true:=by simpa using h
  rw [h2]
  go_enter Tryz.func98,Tryz.ntmps98
  go_wp2_with fail
  go_ret
  exact ⟨rfl,rfl⟩
 have h2:decide (n<lo)=false:=by simpa using h
 rw [h2,Bool.false_or]
 have h3:lo≤n:=by omega
 clear h
 go_enter Tryz.func98,Tryz.ntmps98
 go_wp2_with fail
 go_ret
 exact ⟨rfl,rfl⟩
theorem Fj(w:World)(l:List Int)(hl:l.length=64)(lo hi:Int):Calls Tryz.prog 63 #[.agg (iv l), .int .i64 lo, .int .i64 hi] w fun e w'=>e= .returned (.bool (By l lo hi))∧Ah w w':=by
 have hmf:∀(fn:Fn)(first cap:Array Value)(w:World),(Instr.makeFunc fn first cap).run Tryz.prog w= .ok (.func fn first cap) w:=fun _ _ _ _=>rfl
 have HL:=AD hl
 clear hl
 go_enter Tryz.func63,Tryz.ntmps63
 go_wp2_with (refine wpList_box_iv rfl 26 _ rfl l rfl ?_;intro w1 hR hE hz)
 have hR2:=(hR.alloc (.cells #[.int .i64 lo] 3)).alloc (.cells #[.int .i64 hi] 3)
 have hE2:=(hE.alloc (.cells #[.int .i64 lo] 3)).alloc (.cells #[.int .i64 hi] 3)
 have hp:((w1.alloc (.cells #[.int .i64 lo] 3)).alloc (.cells #[.int .i64 hi] 3)).cell? ⟨w.heap.size+1,0,none⟩=some (.int .i64 lo):=by rw [←hz];simp [go_sem]
 have hq:((w1.alloc (.cells #[.int .i64 lo] 3)).alloc (.cells #[.int .i64 hi] 3)).cell? ⟨w.heap.size+1+1,0,none⟩=some (.int .i64 hi):=by rw [←hz];simp [go_sem]
 refine (BH _ _ l (QI.of_row hR2 HL.out (by unfold maxLen;omega)) 98 #[.pointer (some ⟨w.heap.size+1,0,none⟩), .pointer (some ⟨w.heap.size+1+1,0,none⟩)] (fun n=>decide (n<lo)||decide (hi<n)) Tryz.call98 (fun n=>XR n lo hi _ _ _ hp hq)).mono ?_
 rintro e w' ⟨rfl,rfl⟩
 clear hp hq hR2
 go_wp2_with fail
 go_ret
 exact ⟨rfl,hE2⟩
def Ej(q:List Int):Bool:=By q 1 255
theorem Be(w:World)(q:List Int)(hq:q.length=64):Calls Tryz.prog 36 #[.agg (iv q)] w fun e w'=>e= .returned (.int .i64 (if Ej q then 0 else 1))∧Ah w w':=by
 have HL:=AD hq
 have HI:=AD (show (Tryz.prog.info? 26).map (·.size)=some q.length by rw [hq];kernel_rfl)
 clear hq
 cases hk:Ej q
 all_goals
  have HK:=AD hk
  clear hk
  go_enter Tryz.func36,Tryz.ntmps36
  go_wp2_with (first
   | (refine wpList_box_iv rfl 26 _ rfl q rfl ?_;intro w1 hR hE hz)
   | (refine wpList_load_iv rfl 26 _ rfl w.heap.size rfl q _ hR Tryz.underlying26 rfl HI.out ?_)
   | (go_at_call 63;refine (Fj _ q HL.out 1 255).mono ?_;rintro e w' ⟨rfl,hE2⟩;rw [show By q 1 255=_ from HK.out];replace hE:=hE.trans hE2;clear hE2))
  go_ret
  exact ⟨rfl,hE⟩
theorem Iu(n m:Int)(w:World)(h0:0≤m)(h1:m≤9223372036854775807):Calls Tryz.prog 83 #[.int .i64 n, .int .i64 m] w fun e w'=>e= .returned (.int .i64 (min (max n (-m)) m))∧w=w':=by
 go_enter Tryz.func83,Tryz.ntmps83
 go_wp2_with fail
 go_ret
 exact ⟨rfl,rfl⟩
theorem BX{P:Program}{fn:Func}{p u:Tmp}{ty:TypeId}(h:fn.results=#[.cell p ty, .tmp u])(tmps:Array Value)(w:World)(g:Nat)(l:List Int)(d:TypeDesc)
 (hp:tmps.getD p undef= .pointer (some ⟨g,0,none⟩)) (hr:Dy w g l) (hu:P.underlying ty=some d) (hd:d.isRow=true) (hi:(P.info? ty).map (·.size)=some l.length):
 (results fn tmps).run P w= .ok (.tuple #[.agg (iv l),tmps.getD u undef]) w:=by
 have hp':tmps[p]?.getD undef= .pointer (some ⟨g,0,none⟩):=by simpa using hp
 have hl:=run_loadVar_mid (P:=P) w g 0 ty (l.map (Value.int .i64)) d hr.range hu hd (by rw [hi,List.length_map])
 simp [results,h,hp',asAddr,hl,iv]
def Cg(g:Int→Int→Int)(b q:List Int):List Int:=List.zipWith g b q
theorem Nb(g:Int→Int→Int)(b q:List Int)(hb:b.length=64)(hq:q.length=64):(Cg g b q).length=64:=by simp [Cg,hb,hq]
theorem R8(g:Int→Int→Int)(b q:List Int)(hb:b.length=64)(hq:q.length=64)(i:Nat)(hi:i<64):AF (Cg g b q) i=g (AF b i) (AF q i):=by
 simp [AF,Cg,List.getD,List.getElem?_zipWith,List.getElem?_eq_getElem (show i<b.length by omega),List.getElem?_eq_getElem (show i<q.length by omega)]
def Gh(m b:List Int)(i:Nat):List Int:=m.take i++b.drop i
theorem Me(m b:List Int):Gh m b 0=b:=by simp [Gh]
theorem OW(m b:List Int)(h:m.length=b.length):Gh m b b.length=m:=by simp [Gh,←h]
theorem Wm(m b:List Int)(h:m.length=b.length)(i:Nat)(hi:i≤b.length):(Gh m b i).length=b.length:=by simp [Gh];omega
theorem OX(m b:List Int)(h:m.length=b.length)(i:Nat)(hi:i<b.length):(Gh m b i).set i (AF m i)=Gh m b (i+1):=by
 unfold Gh
 have e1:(m.take i).length=i:=by simp;omega
 rw [List.set_append_right _ _ (by omega),e1,Nat.sub_self,List.drop_eq_getElem_cons hi,List.set_cons_zero,List.take_add_one,List.getElem?_eq_getElem (by omega),List.append_assoc]
 simp [AF,List.getD,List.getElem?_eq_getElem (show i<m.length by omega)]
theorem RR(w:World)(b q:List Int)(hb:b.length=64)(hq:q.length=64)(most:Int)(hm0:0≤most)(hm1:most≤1000000)(K:Nat)(g:Int→Int→Int)
 (hk:∀(args:Array Value)(w:World),(callFunc K args).run Tryz.prog w= .ok (.enter K args) w)
 (hf:∀(n d:Int)(w:World),-most≤n→n≤most→1≤d→d≤255→Calls Tryz.prog K #[.int .i64 n, .int .i64 d] w fun e w'=>e= .returned (.int .i64 (g n d))∧w=w')
 (hQ:Ej q=true) (hB:By b (-most) most=true):
 Calls Tryz.prog 81 #[.agg (iv b), .agg (iv q), .int .i64 most, .func (.func K) #[] #[]] w fun e w'=>e= .returned (.tuple #[.agg (iv (Cg g b q)), .int .i64 0])∧Ah w w':=by
 have HLb:=AD hb
 have HLq:=AD hq
 have HIb:=AD (show (Tryz.prog.info? 26).map (·.size)=some b.length by rw [hb];kernel_rfl)
 have HIq:=AD (show (Tryz.prog.info? 26).map (·.size)=some q.length by rw [hq];kernel_rfl)
 have HQ:=AD hQ
 have HB:=AD hB
 have HF:=AD hf
 have HZ:=AD (Nb g b q hb hq)
 clear hb hq hQ hB hf
 go_enter Tryz.func81,Tryz.ntmps81
 go_wp2_with (first
  | (refine wpList_box_iv rfl 26 _ rfl b rfl ?_;intro w1 hR1 hE1 hz1)
  | (refine wpList_box_iv rfl 26 _ rfl q rfl ?_;intro w2 hR2 hE2 hz2;replace hR1:=hR1.ext hE2;rw [hz1] at hR2 hz2;replace hE1:=hE1.trans hE2;clear hE2)
  | (refine wpList_alloc_iv rfl 26 rfl (List.replicate 64 0) (fun w=>Tryz.zeroValue26 w) ?_;intro w3 hR3 hE3 hz3;replace hR1:=hR1.ext hE3;replace hR2:=hR2.ext hE3;rw [hz2] at hR3 hz3;replace hE1:=hE1.trans hE3;clear hE3)
  | (refine wpList_load_iv rfl 26 _ rfl (w.heap.size+1) rfl q _ hR2 Tryz.underlying26 rfl HIq.out ?_)
  | (refine wpList_load_iv rfl 26 _ rfl w.heap.size rfl b _ hR1 Tryz.underlying26 rfl HIb.out ?_)
  | (go_at_call 36;refine (Be _ q HLq.out).mono ?_;rintro e w' ⟨rfl,hE⟩;rw [HQ.out];replace hR1:=hR1.ext hE;replace hR2:=hR2.ext hE;replace hR3:=hR3.ext hE;replace hE1:=hE1.trans hE;clear hE))
 refine (Fj _ b HLb.out (-most) most).mono ?_
 rintro e w4 ⟨rfl,hE⟩
 rw [HB.out]
 replace hR1:=hR1.ext hE
 replace hR2:=hR2.ext hE
 replace hR3:=hR3.ext hE
 replace hE1:=hE1.trans hE
 clear hE
 go_wp2_with (first
  | (refine wpList_load_iv rfl 26 _ rfl w.heap.size rfl b _ hR1 Tryz.underlying26 rfl HIb.out ?_))
 go_loopg [27] 64 (fun gk xv wr=>∃(i:Nat),gk+i=64∧xv= .int .i64 i∧Dy wr w.heap.size (Gh (Cg g b q) b i)∧Dy wr (w.heap.size+1) q∧Dy wr (w.heap.size+1+1) (List.replicate 64 0)∧Ah w wr)
 case atStart=>exact ⟨0,rfl,rfl,by rw [Me];exact hR1,hR2,hR3,hE1⟩
 case round=>
  clear hR1 hR2 hR3 hE1
  obtain ⟨i,hi,rfl,hR1,hR2,hR3,hE1⟩:=hrel
  by_cases hlt:i<64
  ·have hbi:=GT b i (by rw [HLb.out];exact hlt)
   have hqi:=hR2.cell i (by rw [HLq.out];exact hlt)
   have hzb:(Cg g b q).length=b.length:=by rw [HZ.out,HLb.out]
   have hcell:=hR1.cell i (by rw [Wm _ _ hzb i (by rw [HLb.out];omega),HLb.out];exact hlt)
   have hfree:=hR1.free i
   have h1:=hR1.set i (AF (Cg g b q) i)
   rw [OX _ _ hzb i (by rw [HLb.out];exact hlt),R8 g b q HLb.out HLq.out i hlt] at h1
   have HR1:=AD h1
   have HR2:=AD (hR2.setOther ⟨w.heap.size,i,none⟩ (.int .i64 (g (AF b i) (AF q i))) (by simp))
   have HR3:=AD (hR3.setOther ⟨w.heap.size,i,none⟩ (.int .i64 (g (AF b i) (AF q i))) (by simp;omega))
   have HE:=AD (hE1.setCell (a:=⟨w.heap.size,i,none⟩) (Nat.le_refl _) (.int .i64 (g (AF b i) (AF q i))))
   have HM:Hid (gk-1+(i+1)=64):=by unfold Hid;omega
   have HG:Hid (gk-1<gk):=by unfold Hid;omega
   have hbb:=(Aw _ _ _).1 HB.out i (by rw [HLb.out];exact hlt)
   have hqq:=(Aw _ _ _).1 HQ.out i (by rw [HLq.out];exact hlt)
   obtain ⟨hbb1,hbb2⟩:=hbb
   obtain ⟨hqq1,hqq2⟩:=hqq
   clear hi h1 hzb hR1 hR2 hR3 hE1
   go_wp2_with fail
   refine (HF.out (AF b i) (AF q i) _ hbb1 hbb2 hqq1 hqq2).mono ?_
   rintro e w' ⟨rfl,rfl⟩
   go_wp2_with fail
   go_roundg (gk-1)
   case measure=>exact HG.out
   case rel=>exact ⟨i+1,HM.out,by go_num,HR1.out,HR2.out,HR3.out,HE.out⟩
  obtain rfl:i=64:=by omega
  have h64:=OW (Cg g b q) b (by rw [HZ.out,HLb.out])
  rw [HLb.out] at h64
  rw [h64] at hR1
  have HIz:=AD (show (Tryz.prog.info? 26).map (·.size)=some (Cg g b q).length by rw [HZ.out];kernel_rfl)
  have HL:=AD (show (List.replicate 64 (0:Int)).length=(Cg g b q).length by rw [HZ.out];rfl)
  clear h64 hR2
  have hR4:=hR3.setRow (Cg g b q)
  have hE4:=hE1.setRow (g:=w.heap.size+1+1) (by omega) (iv (Cg g b q))
  go_wp2_with (first
   | (refine wpList_load_iv rfl 26 _ rfl w.heap.size rfl (Cg g b q) _ hR1 Tryz.underlying26 rfl HIz.out ?_)
   | (refine wpList_store_iv rfl 26 _ _ rfl (w.heap.size+1+1) rfl (Cg g b q) (List.replicate 64 0) rfl hR3 HIz.out HL.out ?_))
  refine bodyPost_ret (BX rfl _ _ (w.heap.size+1+1) (Cg g b q) _ rfl hR4 Tryz.underlying26 rfl HIz.out) rfl ?_
  exact ⟨rfl,hE4⟩
def Ce:List Int:=List.replicate 64 0
theorem Ob(w:World)(b q:List Int)(hb:b.length=64)(hq:q.length=64)(most:Int)(hm0:0≤most)(hm1:most≤1000000)(K:Nat)
 (hQ:(Ej q&&By b (-most) most)=false):
 Calls Tryz.prog 81 #[.agg (iv b), .agg (iv q), .int .i64 most, .func (.func K) #[] #[]] w fun e w'=>e= .returned (.tuple #[.agg (iv Ce), .int .i64 1])∧Ah w w':=by
 have HLb:=AD hb
 have HLq:=AD hq
 have HIb:=AD (show (Tryz.prog.info? 26).map (·.size)=some b.length by rw [hb];kernel_rfl)
 have HIq:=AD (show (Tryz.prog.info? 26).map (·.size)=some q.length by rw [hq];kernel_rfl)
 have HIz:=AD (show (Tryz.prog.info? 26).map (·.size)=some Ce.length by kernel_rfl)
 clear hb hq
 cases hk:Ej q
 ·have HQ:=AD hk
  clear hQ hk
  go_enter Tryz.func81,Tryz.ntmps81
  go_wp2_with (first
   | (refine wpList_box_iv rfl 26 _ rfl b rfl ?_;intro w1 hR1 hE1 hz1)
   | (refine wpList_box_iv rfl 26 _ rfl q rfl ?_;intro w2 hR2 hE2 hz2;replace hR1:=hR1.ext hE2;rw [hz1] at hR2 hz2;replace hE1:=hE1.trans hE2;clear hE2)
   | (refine wpList_alloc_iv rfl 26 rfl Ce (fun w=>Tryz.zeroValue26 w) ?_;intro w3 hR3 hE3 hz3;replace hR1:=hR1.ext hE3;replace hR2:=hR2.ext hE3;rw [hz2] at hR3 hz3;replace hE1:=hE1.trans hE3;clear hE3)
   | (refine wpList_load_iv rfl 26 _ rfl (w.heap.size+1) rfl q _ hR2 Tryz.underlying26 rfl HIq.out ?_)
   | (go_at_call 36;refine (Be _ q HLq.out).mono ?_;rintro e w' ⟨rfl,hE⟩;rw [HQ.out];replace hR3:=hR3.ext hE;replace hE1:=hE1.trans hE;clear hE)
   | (refine wpList_store_iv rfl 26 _ _ rfl (w.heap.size+1+1) rfl Ce Ce rfl hR3 HIz.out rfl ?_;replace hR3:=hR3.setRow Ce;replace hE1:=hE1.setRow (g:=w.heap.size+1+1) (by omega) (iv Ce)))
  refine bodyPost_ret (BX rfl _ _ (w.heap.size+1+1) Ce _ rfl hR3 Tryz.underlying26 rfl HIz.out) rfl ?_
  exact ⟨rfl,hE1⟩
 rw [hk,Bool.true_and] at hQ
 have HQ:=AD hk
 have HB:=AD hQ
 clear hQ hk
 go_enter Tryz.func81,Tryz.ntmps81
 go_wp2_with (first
  | (refine wpList_box_iv rfl 26 _ rfl b rfl ?_;intro w1 hR1 hE1 hz1)
  | (refine wpList_box_iv rfl 26 _ rfl q rfl ?_;intro w2 hR2 hE2 hz2;replace hR1:=hR1.ext hE2;rw [hz1] at hR2 hz2;replace hE1:=hE1.trans hE2;clear hE2)
  | (refine wpList_alloc_iv rfl 26 rfl Ce (fun w=>Tryz.zeroValue26 w) ?_;intro w3 hR3 hE3 hz3;replace hR1:=hR1.ext hE3;replace hR2:=hR2.ext hE3;rw [hz2] at hR3 hz3;replace hE1:=hE1.trans hE3;clear hE3)
  | (refine wpList_load_iv rfl 26 _ rfl (w.heap.size+1) rfl q _ hR2 Tryz.underlying26 rfl HIq.out ?_)
  | (refine wpList_load_iv rfl 26 _ rfl w.heap.size rfl b _ hR1 Tryz.underlying26 rfl HIb.out ?_)
  | (go_at_call 36;refine (Be _ q HLq.out).mono ?_;rintro e w' ⟨rfl,hE⟩;rw [HQ.out];replace hR1:=hR1.ext hE;replace hR3:=hR3.ext hE;replace hE1:=hE1.trans hE;clear hE)
  | (go_at_call 63;refine (Fj _ b HLb.out (-most) most).mono ?_;rintro e w' ⟨rfl,hE⟩;rw [HB.out];replace hR3:=hR3.ext hE;replace hE1:=hE1.trans hE;clear hE)
  | (refine wpList_store_iv rfl 26 _ _ rfl (w.heap.size+1+1) rfl Ce Ce rfl hR3 HIz.out rfl ?_;replace hR3:=hR3.setRow Ce;replace hE1:=hE1.setRow (g:=w.heap.size+1+1) (by omega) (iv Ce)))
 refine bodyPost_ret (BX rfl _ _ (w.heap.size+1+1) Ce _ rfl hR3 Tryz.underlying26 rfl HIz.out) rfl ?_
 exact ⟨rfl,hE1⟩
def dn(n d:Int):Int:=min (max (FI n d) (-2047)) 2047
def SI(n d:Int):Int:=min (max (n*d) (-40000)) 40000
def Bc(b q:List Int):List Int:=if Ej q&&By b (-40000) 40000 then Cg dn b q else Ce
def OP(b q:List Int):Int:=if Ej q&&By b (-40000) 40000 then 0 else 1
def It(b q:List Int):List Int:=if Ej q&&By b (-2047) 2047 then Cg SI b q else Ce
def jQ(b q:List Int):Int:=if Ej q&&By b (-2047) 2047 then 0 else 1
theorem Fx(b q:List Int)(hb:b.length=64)(hq:q.length=64):(Bc b q).length=64:=by
 unfold Bc;split
 ·exact Nb _ _ _ hb hq
 rfl
theorem Jq(b q:List Int)(hb:b.length=64)(hq:q.length=64):(It b q).length=64:=by
 unfold It;split
 ·exact Nb _ _ _ hb hq
 rfl
theorem dJ(n d:Int)(w:World)(h0: -40000≤n)(h1:n≤40000)(h2:1≤d)(h3:d≤255):
 Calls Tryz.prog 82 #[.int .i64 n, .int .i64 d] w fun e w'=>e= .returned (.int .i64 (dn n d))∧w=w':=by
 go_enter Tryz.func82,Tryz.ntmps82
 go_wp2_with (first
  | (go_at_call 64;refine (H5 _ _ _ (by omega) (by omega) (by omega) (by omega)).mono ?_;rintro e w' ⟨rfl,rfl⟩)
  | (go_at_call 83;refine (Iu _ _ _ (by omega) (by omega)).mono ?_;rintro e w' ⟨rfl,rfl⟩))
 go_ret
 exact ⟨rfl,rfl⟩
theorem WP(w:World)(b q:List Int)(hb:b.length=64)(hq:q.length=64):
 Calls Tryz.prog 81 #[.agg (iv b), .agg (iv q), .int .i64 40000, .func (.func 82) #[] #[]] w fun e w'=>e= .returned (.tuple #[.agg (iv (Bc b q)), .int .i64 (OP b q)])∧Ah w w':=by
 cases h:Ej q&&By b (-40000) 40000
 ·rw [show Bc b q=Ce by simp [Bc,h],show OP b q=1 by simp [OP,h]]
  exact Ob w b q hb hq 40000 (by omega) (by omega) _ h
 rw [show Bc b q=Cg dn b q by simp [Bc,h],show OP b q=0 by simp [OP,h]]
 rw [Bool.and_eq_true] at h
 exact RR w b q hb hq 40000 (by omega) (by omega) 82 dn Tryz.call82 dJ h.1 h.2
theorem Yk(w:World)(b q:List Int)(hb:b.length=64)(hq:q.length=64):
 Calls Tryz.prog 48 #[.agg (iv b), .agg (iv q)] w fun e w'=>e= .returned (.tuple #[.agg (iv (Bc b q)), .int .i64 (OP b q)])∧Ah w w':=by
 have HC:=AD (fun w=>WP w b q hb hq)
 have HIb:=AD (show (Tryz.prog.info? 26).map (·.size)=some b.length by rw [hb];kernel_rfl)
 have HIq:=AD (show (Tryz.prog.info? 26).map (·.size)=some q.length by rw [hq];kernel_rfl)
 have HIr:=AD (show (Tryz.prog.info? 26).map (·.size)=some (Bc b q).length by rw [Fx b q hb hq];kernel_rfl)
 have HL:=AD (show Ce.length=(Bc b q).length by rw [Fx b q hb hq];rfl)
 clear hb hq
 go_enter Tryz.func48,Tryz.ntmps48
 go_wp2_with (first
  | (refine wpList_box_iv rfl 26 _ rfl b rfl ?_;intro w1 hR1 hE1 hz1)
  | (refine wpList_box_iv rfl 26 _ rfl q rfl ?_;intro w2 hR2 hE2 hz2;replace hR1:=hR1.ext hE2;rw [hz1] at hR2 hz2;replace hE1:=hE1.trans hE2;clear hE2)
  | (refine wpList_alloc_iv rfl 26 rfl Ce (fun w=>Tryz.zeroValue26 w) ?_;intro w3 hR3 hE3 hz3;replace hR1:=hR1.ext hE3;replace hR2:=hR2.ext hE3;rw [hz2] at hR3 hz3;replace hE1:=hE1.trans hE3;clear hE3)
  | (refine wpList_load_iv rfl 26 _ rfl (w.heap.size+1) rfl q _ hR2 Tryz.underlying26 rfl HIq.out ?_)
  | (refine wpList_load_iv rfl 26 _ rfl w.heap.size rfl b _ hR1 Tryz.underlying26 rfl HIb.out ?_)
  | (go_at_call 81;refine (HC.out _).mono ?_;rintro e w' ⟨rfl,hE⟩;replace hR3:=hR3.ext hE;replace hE1:=hE1.trans hE;clear hE)
  | (refine wpList_store_iv rfl 26 _ _ rfl (w.heap.size+1+1) rfl (Bc b q) Ce rfl hR3 HIr.out HL.out ?_;replace hR3:=hR3.setRow (Bc b q);replace hE1:=hE1.setRow (g:=w.heap.size+1+1) (by omega) (iv (Bc b q))))
 refine bodyPost_ret (BX rfl _ _ (w.heap.size+1+1) (Bc b q) _ rfl hR3 Tryz.underlying26 rfl HIr.out) rfl ?_
 exact ⟨rfl,hE1⟩
theorem kS(n d:Int)(w:World)(h0: -2047≤n)(h1:n≤2047)(h2:1≤d)(h3:d≤255):
 Calls Tryz.prog 126 #[.int .i64 n, .int .i64 d] w fun e w'=>e= .returned (.int .i64 (SI n d))∧w=w':=by
 have ⟨p1,p2⟩:=Dv n d 2047 255 ⟨h0,h1⟩ ⟨by omega,h3⟩
 simp only [Int.reduceMul,Int.reduceNeg] at p1 p2
 go_enter Tryz.func126,Tryz.ntmps126
 go_wp2_with (go_at_call 83;refine (Iu _ _ _ (by omega) (by omega)).mono ?_;rintro e w' ⟨rfl,rfl⟩)
 go_ret
 exact ⟨rfl,rfl⟩
theorem eY(w:World)(b q:List Int)(hb:b.length=64)(hq:q.length=64):
 Calls Tryz.prog 81 #[.agg (iv b), .agg (iv q), .int .i64 2047, .func (.func 126) #[] #[]] w fun e w'=>e= .returned (.tuple #[.agg (iv (It b q)), .int .i64 (jQ b q)])∧Ah w w':=by
 cases h:Ej q&&By b (-2047) 2047
 ·rw [show It b q=Ce by simp [It,h],show jQ b q=1 by simp [jQ,h]]
  exact Ob w b q hb hq 2047 (by omega) (by omega) _ h
 rw [show It b q=Cg SI b q by simp [It,h],show jQ b q=0 by simp [jQ,h]]
 rw [Bool.and_eq_true] at h
 exact RR w b q hb hq 2047 (by omega) (by omega) 126 SI Tryz.call126 kS h.1 h.2
theorem iz(w:World)(b q:List Int)(hb:b.length=64)(hq:q.length=64):
 Calls Tryz.prog 93 #[.agg (iv b), .agg (iv q)] w fun e w'=>e= .returned (.tuple #[.agg (iv (It b q)), .int .i64 (jQ b q)])∧Ah w w':=by
 have HC:=AD (fun w=>eY w b q hb hq)
 have HIb:=AD (show (Tryz.prog.info? 26).map (·.size)=some b.length by rw [hb];kernel_rfl)
 have HIq:=AD (show (Tryz.prog.info? 26).map (·.size)=some q.length by rw [hq];kernel_rfl)
 have HIr:=AD (show (Tryz.prog.info? 26).map (·.size)=some (It b q).length by rw [Jq b q hb hq];kernel_rfl)
 have HL:=AD (show Ce.length=(It b q).length by rw [Jq b q hb hq];rfl)
 clear hb hq
 go_enter Tryz.func93,Tryz.ntmps93
 go_wp2_with (first
  | (refine wpList_box_iv rfl 26 _ rfl b rfl ?_;intro w1 hR1 hE1 hz1)
  | (refine wpList_box_iv rfl 26 _ rfl q rfl ?_;intro w2 hR2 hE2 hz2;replace hR1:=hR1.ext hE2;rw [hz1] at hR2 hz2;replace hE1:=hE1.trans hE2;clear hE2)
  | (refine wpList_alloc_iv rfl 26 rfl Ce (fun w=>Tryz.zeroValue26 w) ?_;intro w3 hR3 hE3 hz3;replace hR1:=hR1.ext hE3;replace hR2:=hR2.ext hE3;rw [hz2] at hR3 hz3;replace hE1:=hE1.trans hE3;clear hE3)
  | (refine wpList_load_iv rfl 26 _ rfl (w.heap.size+1) rfl q _ hR2 Tryz.underlying26 rfl HIq.out ?_)
  | (refine wpList_load_iv rfl 26 _ rfl w.heap.size rfl b _ hR1 Tryz.underlying26 rfl HIb.out ?_)
  | (go_at_call 81;refine (HC.out _).mono ?_;rintro e w' ⟨rfl,hE⟩;replace hR3:=hR3.ext hE;replace hE1:=hE1.trans hE;clear hE)
  | (refine wpList_store_iv rfl 26 _ _ rfl (w.heap.size+1+1) rfl (It b q) Ce rfl hR3 HIr.out HL.out ?_;replace hR3:=hR3.setRow (It b q);replace hE1:=hE1.setRow (g:=w.heap.size+1+1) (by omega) (iv (It b q))))
 refine bodyPost_ret (BX rfl _ _ (w.heap.size+1+1) (It b q) _ rfl hR3 Tryz.underlying26 rfl HIr.out) rfl ?_
 exact ⟨rfl,hE1⟩
end Go.Proofs.YtohacgmhmbijmaaGreatDoor
namespace Go.Proofs.YtohacgmhmbijmaaGreatDoor
attribute [local irreducible] Region.wanted
open Go.RowKit
set_option linter.unusedVariables false
set_option maxRecDepth 100000
set_option maxHeartbeats 8000000
def BY(l:List Int)(s j:Nat):List Int:=(l.drop (j*s)).take s
theorem Db(l:List Int)(s j i:Nat)(h:i<s):AF (BY l s j) i=AF l (j*s+i):=by
 unfold BY;rw [RJ _ _ _ h,RG]
theorem Br(l:List Int)(s j n:Nat)(h:l.length=n*s)(hj:j<n):(BY l s j).length=s:=by
 have:j*s+s≤n*s:=by have:=Nat.mul_le_mul_right s hj;rw [Nat.succ_mul] at this;exact this
 simp [BY];omega
theorem Mg(l:List Int)(i:Nat)(z:Int)(h:i<l.length):AF (l.set i z) i=z:=by simp [AF,List.getD,h]
theorem TG(l:List Int)(i j:Nat)(z:Int)(h:i≠j):AF (l.set i z) j=AF l j:=by simp [AF,List.getD,h]
theorem Bj(l:List Int)(i j:Nat)(z:Int)(h:i<l.length):AF (l.set i z) j=if i=j then z else AF l j:=by
 split
 ·rename_i e;subst e;exact Mg l i z h
 rename_i e;exact TG l i j z e
theorem G5(l m:List Int)(i:Nat)(h:i<l.length):AF (l++m) i=AF l i:=by simp [AF,List.getD,List.getElem?_append_left h]
theorem Mf(l m:List Int)(i:Nat)(h:l.length≤i):AF (l++m) i=AF m (i-l.length):=by simp [AF,List.getD,List.getElem?_append_right h]
theorem JR(l:List Int)(f:Int→Int)(i:Nat)(h:i<l.length):AF (l.map f) i=f (AF l i):=by simp [AF,List.getD,h]
theorem Da(l:List Int)(i:Nat)(h:i<l.length):l[i]? =some (AF l i):=by simp [AF,List.getD,h]
theorem Bp(l:List Int)(i:Nat)(h:l.length≤i):AF l i=0:=by simp [AF,List.getD,List.getElem?_eq_none h]
theorem Bz{l m:List Int}(h:l.length=m.length)(k:∀i,i<l.length→AF l i=AF m i):l=m:=by
 apply List.ext_getElem h
 intro i h1 h2
 have:=k i h1
 simpa [AF,List.getD,List.getElem?_eq_getElem h1,List.getElem?_eq_getElem h2] using this
theorem EJ(n i:Nat):AF (List.replicate n 0) i=0:=by unfold AF;rw [List.getD_eq_getElem?_getD,List.getElem?_replicate];split<;>rfl
theorem BS(n:Nat)(z:Int)(i:Nat)(h:i<n):AF (List.replicate n z) i=z:=by simp [AF,List.getD,h]
def aW(n:Nat)(F:Nat→Int):List Int:=(List.range n).map F
theorem Bb(n:Nat)(F:Nat→Int):(aW n F).length=n:=by simp [aW]
theorem Cm(n:Nat)(F:Nat→Int)(i:Nat)(h:i<n):AF (aW n F) i=F i:=by simp [aW,AF,List.getD,h]
theorem Ir{n:Nat}{F:Nat→Int}{l:List Int}(h:l.length=n)(k:∀i,i<n→AF l i=F i):l=aW n F:=Bz (by rw [h,Bb]) fun i hi=>by rw [k i (by omega),Cm n F i (by omega)]
section
variable{P:Program}{W w:World}{rs rs':List Au}{Q:Exit→Act→World→Prop}{K:Act→World→Prop}{o:Oper}{a:Act}
theorem St.ownLen{e:TypeId}{s n c:Nat}{ad:Option Addr}{xs:List Value}(hS:St W w rs)(hp:AW (Go.Proofs.YtohacgmhmbijmaaGreatDoor.own e s ad n c xs) rs rs'):xs.length=n*s:=(hS.own hp).1
theorem Oa{e:TypeId}{s n c g off m:Nat}{xs:List Value}(hS:St W w rs)(hp:AW (own e s (some ⟨g,0,none⟩) n c xs) rs rs'):w.rangeAt g off ((xs.drop off).take m):=fun j v hv=>by
 rw [List.getElem?_take] at hv
 split at hv
 ·rw [List.getElem?_drop] at hv;exact G6 hS hp hv
 cases hv
theorem Iv(hS:St W w rs)(ty:TypeId)(x:Operand)(ho:o.op= .load ty x)(g off:Nat)(hx:a.eval x= .pointer (some ⟨g,off,none⟩))(h1:Nd P ty)(e:TypeId)(s n c:Nat)(l:List Int)(hp:AW (own e s (some ⟨g,0,none⟩) n c (l.map (Value.int .i64))) rs rs')
 (hi:off<n*s) (h:K (a.put o.dst (.int .i64 (AF l off))) w):o.wp P a w K Q:=by
 have hl:=hS.ownLen hp
 rw [List.length_map] at hl
 exact Al hS ty x ho g off hx h1 e s n c _ hp _ (by rw [List.getElem?_map,Da l off (by omega)];rfl) h
theorem Ox(hS:St W w rs)(ty:TypeId)(x:Operand)(ho:o.op= .load ty x)(g off:Nat)(hx:a.eval x= .pointer (some ⟨g,off,none⟩))(m:Nat)(h1:Fi P ty m)(e:TypeId)(s n c:Nat)(l:List Int)(hp:AW (own e s (some ⟨g,0,none⟩) n c (l.map (Value.int .i64))) rs rs')
 (hi:off+m≤n*s) (h:K (a.put o.dst (.agg (iv ((l.drop off).take m)))) w):o.wp P a w K Q:=by
 have hl:=hS.ownLen hp
 rw [List.length_map] at hl
 refine FN ty x ho g off hx m h1 (((l.drop off).take m).map (Value.int .i64)) (by simp;omega) ?_ h
 have:=Oa (off:=off) (m:=m) hS hp
 rwa [←List.map_drop,←List.map_take] at this
theorem Iw(hS:St W w rs)(ty:TypeId)(x:Operand)(ho:o.op= .load ty x)(g off:Nat)(hx:a.eval x= .pointer (some ⟨g,off,none⟩))(m:Nat)(h1:Fi P ty m)(e:TypeId)(s n c:Nat)(l:List Int)(hp:AW (own e s (some ⟨g,0,none⟩) n c (l.map (Value.int .i64))) rs rs')
 (hi:off+m≤n*s) (l':List Int) (hl':(l.drop off).take m=l') (h:K (a.put o.dst (.agg (iv l'))) w):o.wp P a w K Q:=
 Ox hS ty x ho g off hx m h1 e s n c l hp hi (by rw [hl'];exact h)
theorem Ws{e:TypeId}{s n c g off:Nat}{xs:List Value}(hS:St W w rs)(hp:AW (own e s (some ⟨g,0,none⟩) n c xs) rs rs')(v:Value)(hi:off<n*s):
 w.frozen? ⟨g,off,none⟩=false∧St W (w.setCell ⟨g,off,none⟩ v) (own e s (some ⟨g,0,none⟩) n c (xs.set off v)::rs'):=by
 have hown:=hS.own hp
 refine ⟨?_,?_⟩
 ·rcases hown.2 with ⟨h1,h2⟩|⟨g',cap,cur,h1,_,hg,_⟩
  ·cases h1
  cases h1;exact frozen_of_row w g off cur e hg
 refine St.change (rs1:=[own e s (some ⟨g,0,none⟩) n c (xs.set off v)]) (hS.pull hp) fun f1 h1 _ _=>?_
 obtain ⟨rfl,h1⟩:=h1
 refine ⟨[g],⟨[g],[],rfl,⟨rfl,by simpa using h1.1,?_⟩,rfl⟩,by simp,fun b hb=> .inl (by simpa [Value.ownBlock] using hb),E4.setCell w ⟨g,off,none⟩ v⟩
 rcases h1.2 with ⟨h2,h3⟩|⟨g',cap,cur,h2,hb,hg,hn,hc,hsz,htake⟩
 ·cases h2
 cases h2
 refine .inr ⟨g,c,cur.setIfInBounds off v,rfl,hb,heap_setCell_same w g off cur e _ hg,hn,hc,by simpa using hsz,?_⟩
 rw [Array.toList_setIfInBounds,List.take_set,htake]
theorem NW(hS:St W w rs)(ty:TypeId)(x y:Operand)(ho:o.op= .store ty x y)(g off:Nat)(hx:a.eval x= .pointer (some ⟨g,off,none⟩))(h1:Nd P ty)(e:TypeId)(s n c:Nat)(xs:List Value)(hp:AW (own e s (some ⟨g,0,none⟩) n c xs) rs rs')
 (v:Value) (hy:D0 (a.eval y) v) (hv:v.oneCell'=true) (hi:off<n*s) (hd:o.dst=none) (h:∀w',St W w' (own e s (some ⟨g,0,none⟩) n c (xs.set off v)::rs')→K a w'):o.wp P a w K Q:=by
 obtain ⟨hf,hS'⟩:=Ws hS hp v hi
 have hl:=hS.ownLen hp
 exact Kf ty x y ho _ hx h1 v (xs[off]'(by omega)) hy.eq hv (G6 hS hp (by simp [hl,hi])) hf hd (h _ hS')
theorem K7(hS:St W w rs)(ty:TypeId)(x y:Operand)(ho:o.op= .store ty x y)(g off:Nat)(hx:a.eval x= .pointer (some ⟨g,off,none⟩))(h1:Nd P ty)(e:TypeId)(s n c:Nat)(l:List Int)(hp:AW (own e s (some ⟨g,0,none⟩) n c (l.map (Value.int .i64))) rs rs')
 (z:Int) (hy:a.eval y= .int .i64 z) (hi:off<n*s) (hd:o.dst=none) (h:∀w',St W w' (own e s (some ⟨g,0,none⟩) n c ((l.set off z).map (Value.int .i64))::rs')→K a w'):o.wp P a w K Q:=
 NW hS ty x y ho g off hx h1 e s n c _ hp (.int .i64 z) (.int hy) rfl hi hd (by rw [List.map_set] at h;exact h)
theorem EN(hS:St W w rs)(ty:TypeId)(x:Operand)(ho:o.op= .load ty x)(b off:Nat)(hx:a.eval x= .pointer (some ⟨b,off,none⟩))(s:Nat)(h1:Fi P ty s)(l:List Int)(hl:Ae l s)(hr:W.rangeAt b off (l.map (Value.int .i64)))
 (h:K (a.put o.dst (.agg (iv l))) w):o.wp P a w K Q:=
 Dm hS ty x ho b off hx s h1 (l.map (Value.int .i64)) hr (by rw [List.length_map];exact hl) h
end
section
variable{P:Program}{ops:Array Oper}{Q:Exit→Act→World→Prop}{rest:List Oper}{a:Act}{W w:World}{rs:List Au}{d:Option Tmp}{x y:Operand}{t ty:TypeId}{pos:String}{af:Array Edge}{g:Option (Nat×Bool)}{k:IntKind}
theorem NX{ad:Option Addr}{n c j s:Nat}{l:List Int}{e:TypeId}{i:Int}(hv:Sl W s (.slice ad n c) n (l.map (Value.int .i64)))(ht:P.underlying t=some (.slice e))(hs:(P.info? e).map (·.size)=some s)(hx:a.eval x= .slice ad n c)(hy:a.eval y= .int k i)(hj:Bw i j)(hn:j<n)
 (hw:Region.wanted ⟨d, .indexAddr t x y,ty,pos,af,g⟩ (yielded ops a.tmps)=true)
 (h:∀b o,Ae (BY l s j) s→W.rangeAt b o ((BY l s j).map (Value.int .i64))→(Oper.mk d (.move (.const (.pointer (some ⟨b,o,none⟩)))) ty pos af g).wp P a w (wpList P ops Q rest) Q):wpList P ops Q (⟨d, .indexAddr t x y,ty,pos,af,g⟩::rest) a w:=
 Iz hv ht hs hx hy hj hn hw fun b o hr=>h b o (Br l s j n (by have:=hv.1;simpa using this) hn) (by unfold BY;rw [List.map_take,List.map_drop];exact hr)
end
inductive Lo(a:Act):Option Operand→Nat→Prop
 | none:Lo a none 0
 | some {x:Operand} {k:IntKind} {i:Int} {j:Nat} (h:a.eval x= .int k i) (hj:Bw i j):Lo a (some x) j
inductive Up(a:Act)(n:Nat):Option Operand→Nat→Prop
 | none:Up a n none n
 | some {x:Operand} {k:IntKind} {i:Int} {j:Nat} (h:a.eval x= .int k i) (hj:Bw i j):Up a n (some x) j
section
variable{P:Program}{W w:World}{a:Act}{x:Operand}{t ty:TypeId}
theorem V.build{ps:List (Nat×Operand)}{vs:List (Nat×Value)}{v:Value}(hvs:ps.map (fun x=>(x.1,a.eval x.2))=vs)(hr:∀w,(Instr.build t vs.toArray).run P w= .ok v w):D3 P (.build t ps.toArray) ty a v:=fun d pos af g w=>by
 have e:(ps.toArray).map (fun (x:Nat×Operand)=>(x.1,a.eval x.2))=vs.toArray:=by rw [←hvs];simp
 have e2:execOp a.eval ⟨d, .build t ps.toArray,ty,pos,af,g⟩=(do pure (.value (←Instr.build t ((ps.toArray).map fun (x:Nat×Operand)=>(x.1,a.eval x.2))))):=rfl
 rw [e2,e]
 simp only [Sem.run_bind,hr,Result.andThen_ok,Sem.run_pure]
def cutAt(ad:Option Addr)(c l s:Nat):Option Addr:=if c=l then ad else ad.map (·.add (l*s))
theorem V.slice{ad:Option Addr}{n c l h s:Nat}{e:TypeId}{lo hi:Option Operand}(ht:P.underlying t=some (.slice e))(hs:(P.info? e).map (·.size)=some s)(hx:a.eval x= .slice ad n c)(hl:Lo a lo l)(hh:Up a n hi h)(h1:l≤h)(h2:h≤c):
 D3 P (.slice t x lo hi none) ty a (.slice (cutAt ad c l s) (h-l) (c-l)):=fun d pos af g w=>by
 have e0:P.elem t=e:=by simp [Program.elem,ht]
 have ht':P.underlying t=some (.slice (P.elem t)):=by rw [e0];exact ht
 have fin:∀{lv hv:Option Value},lo.map a.eval=lv→hi.map a.eval=hv→(Instr.slice t (.slice ad n c) lv hv none).run P w=((sizeOf (P.elem t)).run P w).andThen (fun s w=> .ok (sliced ad l h c s) w)→
  (execOp a.eval ⟨d, .slice t x lo hi none,ty,pos,af,g⟩).run P w= .ok (.value (.slice (cutAt ad c l s) (h-l) (c-l))) w:=by
  intro lv hv e1 e2 hr
  rw [e0,Bk w hs,Result.andThen_ok] at hr
  simp only [execOp,hx,e1,e2,Option.map_none,Sem.run_bind,run_sliceAt_slice w t _ lv hv none ht',hr,Result.andThen_ok,Sem.run_pure,sliced,cutAt]
 cases hl with
 | none=>cases hh with
   | none=>exact fin rfl rfl (run_slice_all w t ad n c ht')
   | @some y k2 i2 _ hy hj=>
     unfold Bw at hj
     subst hj
     have:=run_slice_h w t ad n c ht' k2 (h:Int) (by omega) (by omega)
     rw [Int.toNat_natCast] at this
     exact fin rfl (by rw [Option.map_some,hy]) this
 | @some y1 k1 i1 _ hy1 hj1=>
   unfold Bw at hj1
   subst hj1
   cases hh with
   | none=>
     have:=run_slice_l w t ad n c ht' k1 (l:Int) (by omega) (by omega)
     rw [Int.toNat_natCast] at this
     exact fin (by rw [Option.map_some,hy1]) rfl this
   | @some y k2 i2 _ hy hj=>
     unfold Bw at hj
     subst hj
     have:=run_slice_lh w t ad n c ht' k1 k2 (l:Int) (h:Int) (by omega) (by omega) (by omega)
     rw [Int.toNat_natCast,Int.toNat_natCast] at this
     exact fin (by rw [Option.map_some,hy1]) (by rw [Option.map_some,hy]) this
theorem Sl.cutAt{s n c:Nat}{ad:Option Addr}{cs:List Value}(hv:Sl w s (.slice ad n c) n cs)(l h:Nat)(h1:l≤h)(h2:h≤n):Sl w s (.slice (cutAt ad c l s) (h-l) (c-l)) (h-l) ((cs.drop (l*s)).take ((h-l)*s)):=by
 obtain ⟨hlen,a',c',e,hnc,hcm,hor⟩:=hv
 cases e
 have hhs:h*s≤n*s:=Nat.mul_le_mul_right s h2
 have hls:l*s≤h*s:=Nat.mul_le_mul_right s h1
 have hsub:(h-l)*s=h*s-l*s:=Nat.sub_mul h l s
 refine ⟨by simp;omega,_,_,rfl,by omega,by omega,?_⟩
 by_cases hz:h-l=0
 ·exact .inl hz
 rcases hor with h0|⟨b,off,rfl,hc⟩
 ·omega
 refine .inr ⟨b,off+l*s,?_,fun k hk=>?_⟩
 ·unfold Go.Proofs.YtohacgmhmbijmaaGreatDoor.cutAt
  rw [if_neg (by omega)]
  simp only [Option.map_some,Addr.add_mid]
 rw [Nat.add_assoc,hc (l*s+k) (by omega),List.getElem?_take,if_pos hk,List.getElem?_drop]
end
structure IO(P:Program)(t e:TypeId)(k:IntKind)(s b:Nat):Prop where
 ht:P.underlying t=some (.slice e)
 ex:∃i z,P.info? e=some i∧i.zero=some z∧i.size=s∧i.bytes=b∧z.cells=Array.replicate s (.int k 0)
 pos:0<s
theorem IO.mk'{P:Program}{t e:TypeId}{k:IntKind}{s b:Nat}(z:Value)(ht:P.underlying t=some (.slice e))(hi:(P.info? e).map (fun i=>(i.zero,i.size,i.bytes))=some (some z,s,b))(hz:z.cells=Array.replicate s (.int k 0))(hp:0<s):IO P t e k s b:=by
 obtain ⟨i,h1,h2,h3,h4⟩:=info_parts hi
 exact ⟨ht,⟨i,z,h1,h2,h3,h4,hz⟩,hp⟩
theorem TC(k:IntKind)(s m:Nat)(hs:0<s):(madeCells (Array.replicate s (Value.int k 0)) m).toList=(List.replicate m (0:Int)).map (Value.int k):=by
 apply List.ext_getElem?
 intro i
 by_cases hi:i<m
 ·have:i%s<s:=Nat.mod_lt i hs
  simp [madeCells,hi,this]
 simp [madeCells,hi]
section
variable{P:Program}{W w:World}{rs rs':List Au}{Q:Exit→Act→World→Prop}{K:Act→World→Prop}{o:Oper}{a:Act}
theorem St.grown{W w w':World}{rs:List Au}{r:Au}{f:List Nat}(hS:St W w rs)(hg:w.grownBy w' none)(hr:r.holds w' f)(hn:f.Nodup)(hf:∀b∈f,w.heap.size≤b):St W w' (r::rs):=by
 have hE:Ah w w':=⟨hg.os,hg.tape,hg.output,hg.size,fun k hk=>hg.block k hk (by simp)⟩
 exact hS.call1 ⟨hE,f,hn,hf,f,[],by simp,hr,rfl⟩
theorem Lp(hS:St W w rs)(t:TypeId)(x y:Operand)(ho:o.op= .makeSlice t x y)(e:TypeId)(k:IntKind)(s b:Nat)(el:IO P t e k s b)(kx ky:IntKind)(n m:Nat)(i j:Int)(hx:a.eval x= .int kx i)(hy:a.eval y= .int ky j)(hi:Bw i n)(hj:Bw j m)(hnm:n=m)(hb:b*n≤281474976710656)(h63:n≤maxLen)
 (h:∀g w',St W w' (own e s (some ⟨g,0,none⟩) n n ((List.replicate (n*s) (0:Int)).map (Value.int k))::rs)→K (a.put o.dst (.slice (some ⟨g,0,none⟩) n n)) w'):o.wp P a w K Q:=by
 obtain ⟨ht,⟨info,z,h1,h2,h3,h4,h5⟩,hp⟩:=el
 subst hnm
 unfold Bw at hi hj
 subst hi;subst hj
 obtain ⟨w',hr,ho',hg⟩:=run_make_full (P:=P) w 0 t e info z s ht h1 h2 h3 kx ky n (by rw [h4];exact hb) h63 (Nat.zero_le _)
 rw [h5,TC k s (n*s) hp] at ho'
 unfold Oper.wp execOp
 simp only [ho,hx,hy,Sem.run_bind,hr,Result.andThen_ok,Sem.run_pure]
 exact h _ _ (St.grown (f:=[w.heap.size]) hS hg ⟨rfl,ho'⟩ (by simp) (by simp))
end
section
variable{P:Program}{W w:World}{a:Act}{x:Operand}{t ty:TypeId}
theorem V.sliceA{b off N l h s q m c:Nat}{e:TypeId}{lo hi:Option Operand}(ht:P.underlying t=some (.array N e))(hs:(P.info? e).map (·.size)=some s)(hx:a.eval x= .pointer (some ⟨b,off,none⟩))(hl:Lo a lo l)(hh:Up a N hi h)(h1:l≤h)(h2:h≤N)(h3:l<N)(hq:off+l*s=q)(hm:h-l=m)(hc:N-l=c):
 D3 P (.slice t x lo hi none) ty a (.slice (some ⟨b,q,none⟩) m c):=fun d pos af g w=>by
 subst hm;subst hc
 have e0:P.elem t=e:=by simp [Program.elem,ht]
 have e1:P.arrayLen t=N:=by simp [Program.arrayLen,ht]
 have ht':P.underlying t=some (.array (P.arrayLen t) (P.elem t)):=by rw [e0,e1];exact ht
 have fin:∀{lv hv:Option Value},lo.map a.eval=lv→hi.map a.eval=hv→(Instr.sliceAt t (.pointer (some ⟨b,off,none⟩)) lv hv none).run P w=((sizeOf (P.elem t)).run P w).andThen (fun s w=> .ok (slicedAt ⟨b,off,none⟩ l h N s) w)→
  (execOp a.eval ⟨d, .slice t x lo hi none,ty,pos,af,g⟩).run P w= .ok (.value (.slice (some ⟨b,q,none⟩) (h-l) (N-l))) w:=by
  intro lv hv e1 e2 hr
  rw [e0,Bk w hs,Result.andThen_ok] at hr
  have e3:slicedAt (⟨b,off,none⟩:Addr) l h N s= .slice (some ⟨b,q,none⟩) (h-l) (N-l):=by
   unfold slicedAt
   rw [if_neg (by omega)]
   simp only [Addr.add_mid,hq]
  simp only [execOp,hx,e1,e2,Option.map_none,Sem.run_bind,hr,Result.andThen_ok,Sem.run_pure,e3]
 cases hl with
 | none=>cases hh with
   | none=>exact fin rfl rfl (by have:=run_sliceAt_array_all (P:=P) w t ⟨b,off,none⟩ ht';rwa [e1] at this)
   | @some y k2 i2 _ hy hj=>
     unfold Bw at hj
     subst hj
     have:=run_sliceAt_array_h (P:=P) w t ⟨b,off,none⟩ ht' k2 (h:Int) (by omega) (by omega)
     rw [Int.toNat_natCast,e1] at this
     exact fin rfl (by rw [Option.map_some,hy]) this
 | @some y1 k1 i1 _ hy1 hj1=>
   unfold Bw at hj1
   subst hj1
   cases hh with
   | none=>
     have:=run_sliceAt_array_l (P:=P) w t ⟨b,off,none⟩ ht' k1 (l:Int) (by omega) (by omega)
     rw [Int.toNat_natCast,e1] at this
     exact fin (by rw [Option.map_some,hy1]) rfl this
   | @some y k2 i2 _ hy hj=>
     unfold Bw at hj
     subst hj
     have:=run_sliceAt_array_lh (P:=P) w t ⟨b,off,none⟩ ht' k1 k2 (l:Int) (h:Int) (by omega) (by omega) (by omega)
     rw [Int.toNat_natCast,Int.toNat_natCast,e1] at this
     exact fin (by rw [Option.map_some,hy1]) (by rw [Option.map_some,hy]) this
structure Xi(P:Program)(t:TypeId)(n:Nat):Prop where
 guard:P.eqGuardType P.depth t=false
 eq:∀(l m:List Int)(w:World),l.length=n→m.length=n→(Op.equal t (.agg (iv l)) (.agg (iv m))).run P w= .ok (decide (l=m)) w
theorem Xi.array{e:TypeId}{n:Nat}(hg:P.eqGuardType P.depth t=false)(ht:P.underlying t=some (.array n e))(he:P.underlying e=some (.int .i64))(hs:(P.info? e).map (·.size)=some 1):Xi P t n:=
 ⟨hg,fun l m w hl hm=>by
  have:=G9 w (Op.maxDepth-2) t e n ht he (fun w=>Bk w hs) l m hl hm
  rw [show (l==m)=decide (l=m) by rw [Bool.eq_iff_iff];simp] at this
  exact this⟩
theorem V.neqA{y:Operand}{u:TypeId}{l m:List Int}{n:Nat}(ht:Xi P t n)(hx:a.eval x= .agg (iv l))(hy:a.eval y= .agg (iv m))(hl:Ae l n)(hm:Ae m n):D3 P (.binOp .neq t x y u) ty a (.bool (decide (l≠m))):=fun d pos af g w=>by
 have e:=ht.eq l m w hl hm
 have e1:(eqGuard .neq t x y (.agg (iv l)) (.agg (iv m))).run P w= .ok () w:=by
  unfold eqGuard
  have hp:∀w:World,(program:Sem Program).run P w= .ok P w:=fun w=>rfl
  simp [Sem.run_bind,ht.guard,hp]
 have e2:(binOp .neq t (.agg (iv l)) (.agg (iv m))).run P w= .ok (.bool (decide (l≠m))) w:=by
  have:binOp .neq t (.agg (iv l)) (.agg (iv m))=(do pure (.bool (!(←Op.equal t (.agg (iv l)) (.agg (iv m)))))):=rfl
  rw [this]
  simp only [Sem.run_bind,e,Result.andThen_ok,Sem.run_pure,ne_eq,decide_not]
 simp only [execOp,hx,hy,Sem.run_bind,e1,Result.andThen_ok,e2,Sem.run_pure]
theorem V.shrB{yk k:IntKind}{y:Operand}{u:TypeId}{m n:Int}{j N:Nat}(hx:a.eval x= .int k m)(hy:a.eval y= .int yk n)(hj:Bw n j)(h:j≤N)(hk:k.bits=N):D3 P (.binOp .shr t x y u) ty a (.int k (m/2^j)):=fun d pos af g w=>by
 unfold Bw at hj
 subst hk
 have e:m.fdiv (2^j)=m/2^j:=Int.fdiv_eq_ediv_of_nonneg _ (Int.pow_nonneg (by omega))
 have h0:¬n<0:=by omega
 have hm:Min.min n.toNat k.bits=j:=by omega
 simp only [execOp,hx,hy,binOp_shr,Op.shift,eqGuard,if_neg h0,hm,e];rfl
end
section
variable{W w:World}{rs rs':List Au}
theorem St.isl{g n:Nat}{l:List Int}(hS:St W w rs)(p:AW (Go.Proofs.YtohacgmhmbijmaaGreatDoor.arr g n l) rs rs')(hn:n≤9223372036854775807):QI w (.slice (some ⟨g,0,none⟩) n n) l:=
 QI.of_row (hS.arr p).1 (hS.arr p).2 (by unfold maxLen;omega)
end
theorem D7(k:IntKind)(l:List Int)(a:Int):l.map (Value.int k)++[Value.int k a]=(l++[a]).map (Value.int k):=by simp
theorem D8(k:IntKind)(l:List Int)(a b:Int):l.map (Value.int k)++[Value.int k a,Value.int k b]=(l++[a,b]).map (Value.int k):=by simp
theorem D9(k:IntKind)(l:List Int)(a b c:Int):l.map (Value.int k)++[Value.int k a,Value.int k b,Value.int k c]=(l++[a,b,c]).map (Value.int k):=by simp
theorem EA(k:IntKind)(l:List Int)(a b c d:Int):l.map (Value.int k)++[Value.int k a,Value.int k b,Value.int k c,Value.int k d]=(l++[a,b,c,d]).map (Value.int k):=by simp
theorem EB(k:IntKind)(l m:List Int):l.map (Value.int k)++m.map (Value.int k)=(l++m).map (Value.int k):=by simp
theorem Cx{l:List Value}(h:l.all (·.oneCell')=true):∀u∈l,u.oneCell'=true:=List.all_eq_true.1 h
theorem CS(k:IntKind)(l:List Int):∀u∈l.map (Value.int k),u.oneCell'=true:=fun u hu=>by
 obtain ⟨x,_,rfl⟩:=List.mem_map.1 hu;rfl
theorem St.nilk{W w:World}{rs:List Au}(h:St W w rs)(e:TypeId)(s:Nat)(k:IntKind):St W w (Go.Proofs.YtohacgmhmbijmaaGreatDoor.own e s none 0 0 (([]:List Int).map (Value.int k))::rs):=h.nil e s
def En(l m:List Int):Nat→Nat→Bool
 | _,0=>true
 | k,n+1=>(AF l k==AF m k)&&En l m (k+1) n
theorem Km(l m:List Int):∀n k,En l m k n=true↔∀i,i<n→AF l (k+i)=AF m (k+i)
 | 0,k=>by simp [En]
 | n+1,k=>by
   rw [En,Bool.and_eq_true,Km l m n (k+1)]
   constructor
   ·intro ⟨h1,h2⟩ i hi
    cases i with
    | zero=>simpa using h1
    | succ i=>have:=h2 i (by omega);rwa [show k+(i+1)=k+1+i by omega]
   intro h
   refine ⟨by simpa using h 0 (by omega),fun i hi=>?_⟩
   have:=h (i+1) (by omega)
   rwa [show k+1+i=k+(i+1) by omega]
theorem Xi.struct{P:Program}{t:TypeId}{fs:Array Field}{n:Nat}(hg:P.eqGuardType P.depth t=false)(ht:P.underlying t=some (.struct fs))(hsi:P.stoodInHeld t=false)(hn:fs.toList.length=n)
 (hf:∀(i:Nat)(f:Field),fs.toList[i]? =some f→f.name≠ "_" ∧f.offset=i∧P.underlying f.type=some (.int .i64)):Xi P t n:=
 ⟨hg,fun l m w hl hm=>by
  have he:(Op.equal t (.agg (iv l)) (.agg (iv m))).run P w= .ok (En l m 0 n) w:=by
   unfold Op.equal
   rw [show Op.maxDepth=(Op.maxDepth-2)+1+1 from rfl,Op.equalIn]
   have hp:(program:Sem Program).run P w= .ok P w:=rfl
   simp only [Sem.run_bind,run_underlying ht,Result.andThen_ok,hp,hsi,Bool.false_eq_true,if_false]
   rw [←Array.forIn_toList]
   have hlen:fs.toList.length=n:=hn
   have hf':∀(i:Nat)(f:Field),fs.toList[i]? =some f→f.name≠ "_" ∧f.offset=0+i∧P.underlying f.type=some (.int .i64):=fun i f h=>by rw [Nat.zero_add];exact hf i f h
   have hk:0+fs.toList.length=n:=by omega
   rw [show En l m 0 n=En l m 0 fs.toList.length by rw [hlen]]
   generalize fs.toList=L at hf' hk
   generalize 0=k at hf' hk⊢
   clear hlen hf hn
   induction L generalizing k with
   | nil=>simp [En]
   | cons f L ih=>
     obtain ⟨h1,h2,h3⟩:=hf' 0 f rfl
     rw [Nat.add_zero] at h2
     simp only [List.length_cons] at hk
     have px:(part f.type (iv l) f.offset).run P w= .ok (.int .i64 (AF l k)) w:=by
      rw [F7,h2,GT l k (by omega)]
      simp [isAgg,run_underlying h3]
     have py:(part f.type (iv m) f.offset).run P w= .ok (.int .i64 (AF m k)) w:=by
      rw [F7,h2,GT m k (by omega)]
      simp [isAgg,run_underlying h3]
     have pe:(Op.equalIn (Op.maxDepth-2+1) f.type (.int .i64 (AF l k)) (.int .i64 (AF m k))).run P w= .ok (AF l k==AF m k) w:=
      run_equalIn_int w _ f.type .i64 .i64 _ _ h3
     simp only [List.forIn_cons,Sem.run_bind,h1,ne_eq,not_false_eq_true,if_true,px,py,pe,Result.andThen_ok,En,List.length_cons]
     cases hb:(AF l k==AF m k)
     ·simp
     simp only [Bool.not_true,Bool.false_eq_true,if_false,Sem.run_pure,Result.andThen_ok,Bool.true_and]
     exact ih (k+1) (fun i f h=>by have:=hf' (i+1) f (by simpa using h);rwa [show k+(i+1)=k+1+i by omega] at this) (by omega)
  rw [he]
  congr 1
  rw [Bool.eq_iff_iff,Km,decide_eq_true_eq]
  constructor
  ·intro h;exact Bz (by omega) fun i hi=>by have:=h i (by omega);rwa [Nat.zero_add] at this
  intro h i _;rw [h]⟩
theorem St.allocOwn{W w:World}{rs:List Au}(h:St W w rs)(e:TypeId)(s n:Nat)(cs:List Value)(hl:cs.length=n*s)(hn:n≤maxLen):St W (w.alloc (.cells cs.toArray e)) (Go.Proofs.YtohacgmhmbijmaaGreatDoor.own e s (some ⟨w.heap.size,0,none⟩) n n cs::rs):=by
 have ht:cs.toArray.toList.take (n*s)=cs:=by rw [←hl];simp
 obtain ⟨h1,f,h2,h3,h4⟩:=h
 refine ⟨h1.alloc _,w.heap.size::f,List.nodup_cons.2 ⟨fun hm=>by have:=h4.lt _ hm;omega,h2⟩,fun b hb=>?_,[w.heap.size],f,rfl,⟨rfl,hl, .inr ⟨w.heap.size,n,cs.toArray,rfl,Nat.zero_le _,heap_alloc_new w _,Nat.le_refl _,hn,by simpa using hl,ht⟩⟩,h4.loc fun b hb=>?_⟩
 ·rcases List.mem_cons.1 hb with h|h
  ·rw [h];exact h1.sz
  exact h3 b h
 exact heap_alloc_old w _ (h4.lt b hb)
section
variable{P:Program}{W w:World}{rs rs':List Au}{Q:Exit→Act→World→Prop}{K:Act→World→Prop}{o:Oper}{a:Act}
theorem Dx(hS:St W w rs)(t:TypeId)(n:Nat)(ps:List (Nat×Operand))(ho:o.op= .buildSlice t n ps.toArray)(e:TypeId)(s b:Nat)(el:CU P t e s b)(vs cs:List Value)(hvs:AX a s 0 ps vs cs)(hn:vs.length=n)(hn0:0<n)(hns:n*s≤2^24)
 (h:∀g w',St W w' (own e s (some ⟨g,0,none⟩) n n cs::rs)→K (a.put o.dst (.slice (some ⟨g,0,none⟩) n n)) w'):o.wp P a w K Q:=by
 obtain ⟨ht,⟨i,z,hi,hz,rfl,hb,hzs⟩,hp⟩:=el
 obtain ⟨h1,h2,hcs,hsz⟩:=hvs.vals
 have hns':0<n*i.size:=Nat.mul_pos hn0 hp
 have hnm:n≤maxLen:=by
  have:n*1≤n*i.size:=Nat.mul_le_mul_left _ hp
  unfold maxLen;omega
 have hcl:∀us:List Value,(∀v∈us,v.cells.size=i.size)→(us.flatMap (·.cells.toList)).length=us.length*i.size:=by
  intro us
  induction us with
  | nil=>intro _;simp
  | cons u us ih=>
    intro hu
    have h1:=hu u (by simp)
    rw [List.flatMap_cons,List.length_append,ih fun v hv=>hu v (by simp [hv]),List.length_cons,Nat.add_mul,Nat.one_mul,Array.length_toList,h1,Nat.add_comm]
 have hcl':cs.length=n*i.size:=by rw [←hcs,hcl vs hsz,hn]
 refine Go.wp_buildSlice t e n ps.toArray ho (cs.toArray) i z ht hi hz (by omega) (by omega) ?_ (h _ _ (hS.allocOwn e i.size n cs hcl' hnm))
 have h3:=MS i.size vs 0 [] (((List.range (n*i.size)).map (fun j=>z.cells[j%z.cells.size]!))) (by simp) (by simp [hn]) hsz
 simp only [List.nil_append] at h3
 rw [←hcs]
 have e1:(Array.map (fun x:Nat×Operand=>(x.1,a.eval x.2)) ps.toArray).toList=(vs.zipIdx 0).map fun x=>(x.2,x.1):=by
  rw [←h1];simp
 rw [e1]
 rw [←h3]
 congr 1
 apply Array.ext_getElem?
 intro j
 simp only [Array.getElem?_map,Array.getElem?_range,List.getElem?_toArray,List.getElem?_map]
 by_cases hj:j<n*i.size
 ·simp [hj]
 simp [hj]
end
end Go.Proofs.YtohacgmhmbijmaaGreatDoor
namespace Go.Proofs.YtohacgmhmbijmaaGreatDoor
attribute [local irreducible] Region.wanted
set_option linter.unusedVariables false
set_option maxRecDepth 100000
set_option maxHeartbeats 8000000
theorem fJ:Xi Tryz.prog 26 64:=Xi.array AA Tryz.underlying26 Tryz.underlying3 Ef
theorem kh:Xi Tryz.prog 154 3:=Xi.struct AA Tryz.underlying154 AA rfl (fun i f h=>by
 match i,h with
 | 0,h=>cases h;exact ⟨by decide,rfl,Tryz.underlying3⟩
 | 1,h=>cases h;exact ⟨by decide,rfl,Tryz.underlying3⟩
 | 2,h=>cases h;exact ⟨by decide,rfl,Tryz.underlying3⟩
 | i+3,h=>cases h)
theorem iJ:Xi Tryz.prog 155 3:=Xi.struct AA Tryz.underlying155 AA rfl (fun i f h=>by
 match i,h with
 | 0,h=>cases h;exact ⟨by decide,rfl,Tryz.underlying3⟩
 | 1,h=>cases h;exact ⟨by decide,rfl,Tryz.underlying3⟩
 | 2,h=>cases h;exact ⟨by decide,rfl,Tryz.underlying3⟩
 | i+3,h=>cases h)
theorem Yp:IO Tryz.prog 30 3 .i64 1 8:=IO.mk' (.int .i64 0) Tryz.underlying30 AA AA (by decide)
theorem j8:IO Tryz.prog 35 5 .u8 1 1:=IO.mk' (.int .u8 0) Tryz.underlying35 AA AA (by decide)
theorem j9:IO Tryz.prog 42 26 .i64 64 512:=IO.mk' (.agg #[.int .i64 0, .int .i64 0, .int .i64 0, .int .i64 0, .int .i64 0, .int .i64 0, .int .i64 0, .int .i64 0, .int .i64 0, .int .i64 0, .int .i64 0, .int .i64 0, .int .i64 0, .int .i64 0, .int .i64 0, .int .i64 0, .int .i64 0, .int .i64 0, .int .i64 0, .int .i64 0, .int .i64 0, .int .i64 0, .int .i64 0, .int .i64 0, .int .i64 0, .int .i64 0, .int .i64 0, .int .i64 0, .int .i64 0, .int .i64 0, .int .i64 0, .int .i64 0, .int .i64 0, .int .i64 0, .int .i64 0, .int .i64 0, .int .i64 0, .int .i64 0, .int .i64 0, .int .i64 0, .int .i64 0, .int .i64 0, .int .i64 0, .int .i64 0, .int .i64 0, .int .i64 0, .int .i64 0, .int .i64 0, .int .i64 0, .int .i64 0, .int .i64 0, .int .i64 0, .int .i64 0, .int .i64 0, .int .i64 0, .int .i64 0, .int .i64 0, .int .i64 0, .int .i64 0, .int .i64 0, .int .i64 0, .int .i64 0, .int .i64 0, .int .i64 0]) Tryz.underlying42 AA AA (by decide)
end Go.Proofs.YtohacgmhmbijmaaGreatDoor
namespace Go.Proofs.YtohacgmhmbijmaaGreatDoor
attribute [local irreducible] Region.wanted
open Go.RowKit
set_option linter.unusedVariables false
set_option maxRecDepth 100000
set_option maxHeartbeats 8000000
section
variable{P:Program}{W w:World}{rs rs':List Au}{tmps:Array Value}
def TP(tmps:Array Value):ResultVar→Sem Value
 | .tmp t=>pure (tmps.getD t undef)
 | .cell a t=>do loadVar t (←asAddr (tmps.getD a undef))
def AC(P:Program)(tmps:Array Value)(w:World)(r:ResultVar)(v:Value):Prop:=(TP tmps r).run P w= .ok v w
theorem AC.tmp{t:Tmp}{v:Value}(h:tmps.getD t undef=v):AC P tmps w (.tmp t) v:=by
 show (pure (tmps.getD t undef):Sem Value).run P w= .ok v w
 rw [h];rfl
theorem AC.row{p g n:Nat}{ty:TypeId}{cs:List Value}(hp:tmps.getD p undef= .pointer (some ⟨g,0,none⟩))(h1:Fi P ty n)(hn:cs.length=n)(hc:w.rangeAt g 0 cs):AC P tmps w (.cell p ty) (.agg cs.toArray):=by
 show (do loadVar ty (←asAddr (tmps.getD p undef)):Sem Value).run P w= .ok (.agg cs.toArray) w
 rw [hp]
 obtain ⟨hr,hs⟩:=h1
 cases hu:P.underlying ty with
 | none=>rw [hu] at hr;cases hr
 | some d=>
   rw [hu,Option.map_some,Option.some.injEq] at hr
   exact run_loadVar_mid (P:=P) w g 0 ty cs d hc hu hr (by rw [hs,hn])
theorem AC.arr{p g n:Nat}{ty:TypeId}{l:List Int}(hS:St W w rs)(hp:tmps.getD p undef= .pointer (some ⟨g,0,none⟩))(h1:Fi P ty n)(pl:AW (Go.Proofs.YtohacgmhmbijmaaGreatDoor.arr g n l) rs rs'):AC P tmps w (.cell p ty) (.agg (iv l)):=by
 obtain ⟨hr,hn⟩:=hS.arr pl
 exact AC.row (cs:=l.map (Value.int .i64)) hp h1 (by simpa using hn) hr.range
theorem AC.blk{p g n:Nat}{ty:TypeId}{cs:List Value}(hS:St W w rs)(hp:tmps.getD p undef= .pointer (some ⟨g,0,none⟩))(h1:Fi P ty n)(pl:AW (Go.Proofs.YtohacgmhmbijmaaGreatDoor.blk g cs) rs rs')(hn:cs.length=n):AC P tmps w (.cell p ty) (.agg cs.toArray):=
 AC.row hp h1 hn (hS.blk pl).1.range
inductive E3(P:Program)(tmps:Array Value)(w:World):List ResultVar→List Value→Prop
 | nil:E3 P tmps w [] []
 | cons {r:ResultVar} {v:Value} {rs:List ResultVar} {vs:List Value} (h:AC P tmps w r v) (t:E3 P tmps w rs vs):E3 P tmps w (r::rs) (v::vs)
theorem E3.run{rs:List ResultVar}{vs:List Value}(h:E3 P tmps w rs vs):(rs.mapM (TP tmps)).run P w= .ok vs w:=by
 induction h with
 | nil=>rfl
 | @cons r v rs vs h t ih=>
   rw [List.mapM_cons]
   have h':=h
   unfold AC at h'
   simp only [Sem.run_bind]
   rw [h',Result.andThen_ok,ih,Result.andThen_ok]
   rfl
theorem In{fn:Func}{xs:List ResultVar}{vs:List Value}(hr:fn.results=xs.toArray)(h:E3 P tmps w xs vs):
 (results fn tmps).run P w= .ok (if h:vs.toArray.size=1 then vs.toArray[0] else .tuple vs.toArray) w:=by
 have e:results fn tmps=(do
  let vs ←fn.results.mapM (TP tmps)
  pure (if h:vs.size=1 then vs[0] else .tuple vs)):=by
  unfold results
  congr 1
 have h2:=h.run
 rw [e,hr,List.mapM_toArray,Sem.run_bind,Sem.run_map,h2]
 rfl
theorem AO{fn:Func}{R:Ending→World→Prop}{a:Act}{xs:List ResultVar}{vs:List Value}(hr:fn.results=xs.toArray)(h:E3 P a.tmps w xs vs)(hl:vs.length≠1)(hd:a.defers=[])(hR:R (.returned (.tuple vs.toArray)) w):bodyPost P fn R .ret a w:=by
 refine bodyPost_ret (v:= .tuple vs.toArray) ?_ hd hR
 rw [In hr h,dif_neg (by simpa using hl)]
theorem BK{fn:Func}{R:Ending→World→Prop}{a:Act}{x:ResultVar}{v:Value}(hr:fn.results=#[x])(h:AC P a.tmps w x v)(hd:a.defers=[])(hR:R (.returned v) w):bodyPost P fn R .ret a w:=by
 refine bodyPost_ret (v:=v) ?_ hd hR
 rw [In (xs:=[x]) hr (E3.cons h E3.nil)]
 rfl
end
section
variable{P:Program}{w:World}{Q:Exit→Act→World→Prop}{K:Act→World→Prop}{o:Oper}{a:Act}
theorem BQ{f:FuncId}{x:Operand}{xs:List Operand}{ats:Array TypeId}{caps:Array Value}(ho:o.op= .call {callee:= .value x,args:=xs.toArray,argTypes:=ats})(hx:a.eval x= .func (.func f) #[] caps)
 (hcall:∀(args:Array Value)(w:World),(callFunc f args).run P w= .ok (.enter f args) w)
 {R:Ending→World→Prop} (hc:Calls P f ((xs.map a.eval).toArray++caps) w R) (h:∀e w',R e w'→∃v,e= .returned v∧K (a.put o.dst v) w'):o.wp P a w K Q:=by
 have e1:(execOp a.eval o).run P w=(callFunc f ((xs.map a.eval).toArray++caps)).run P w:=by
  unfold execOp
  rw [ho]
  have e2:(#[]++(xs.toArray).map a.eval++caps:Array Value)=(xs.map a.eval).toArray++caps:=by simp
  rw [←e2]
  simp only [resolve,hx]
  rfl
 unfold Oper.wp
 rw [e1,hcall,Oper.upon_enter]
 refine hc.mono fun e w' hR=>?_
 obtain ⟨v,rfl,h2⟩:=h e w' hR
 exact h2
theorem CO{m:String}{x:Operand}{xs:List Operand}{ats:Array TypeId}(ho:o.op= .call {callee:= .invoke x m,args:=xs.toArray,argTypes:=ats})(v:Value)(hx:a.eval x=v)(vs:List Value)(hvs:xs.map a.eval=vs)(f:FuncId)(args:Array Value)
 (hcall:∀(w:World),(invoke (.fn (.method m) #[]) (v::vs).toArray).run P w= .ok (.enter f args) w)
 {R:Ending→World→Prop} (hc:Calls P f args w R) (h:∀e w',R e w'→∃v,e= .returned v∧K (a.put o.dst v) w'):o.wp P a w K Q:=by
 have e1:(execOp a.eval o).run P w=(invoke (.fn (.method m) #[]) (v::vs).toArray).run P w:=by
  unfold execOp
  rw [ho]
  have e2:(#[a.eval x]++(xs.toArray).map a.eval:Array Value)=(v::vs).toArray:=by simp [hx,hvs]
  rw [←e2]
  simp only [resolve]
  rfl
 unfold Oper.wp
 rw [e1,hcall,Oper.upon_enter]
 refine hc.mono fun e w' hR=>?_
 obtain ⟨v,rfl,h2⟩:=h e w' hR
 exact h2
end
theorem Fu(m0:Int)(m1:Int)(m2:Int)(m3:Int)(m4:Int)(m5:Int)(m6:Int)(m7:Int)(m8:Int)(w:World):(Instr.build 203 #[(0, .int .i64 m0),(1, .int .i64 m1),(2, .int .i64 m2),(3, .int .i64 m3),(4, .int .i64 m4),(5, .int .i64 m5),(6, .int .i64 m6),(7, .int .i64 m7),(8, .int .i64 m8)]).run Tryz.prog w= .ok (.agg #[.int .i64 m0, .int .i64 m1, .int .i64 m2, .int .i64 m3, .int .i64 m4, .int .i64 m5, .int .i64 m6, .int .i64 m7, .int .i64 m8]) w:=by kernel_rfl
theorem YR(w:World):(Instr.build 26 #[]).run Tryz.prog w= .ok (.agg (iv ((List.replicate 64 0)))) w:=by kernel_rfl
def tq(k:Int):Int:=AF [4096,4017,3784,3406,2896,2276,1567,799,0] k.toNat
def Oo(k:Int):Int:=if 16<k then (if 8<32-k then-tq (16-(32-k)) else tq (32-k)) else if 8<k then-tq (16-k) else tq k
def At(u x:Int):Int:=if u=0 then 2896 else Oo (u*(2*x+1)%32)
theorem Rs(k:Int): -4096≤tq k∧tq k≤4096:=by
 unfold tq
 have:∀l:List Int,(∀x∈l,-4096≤x∧x≤4096)→∀i,-4096≤AF l i∧AF l i≤4096:=fun l hl i=>by
  by_cases hi:i<l.length
  ·have:=hl _ (List.getElem_mem hi)
   simpa [AF,List.getD,hi] using this
  rw [Bp l i (by omega)];omega
 exact this _ (by decide) _
theorem aZ(k:Int): -4096≤Oo k∧Oo k≤4096:=by
 have h1:=Rs (16-(32-k))
 have h2:=Rs (32-k)
 have h3:=Rs (16-k)
 have h4:=Rs k
 unfold Oo
 split
 ·split<;>omega
 split<;>omega
theorem LS(u x:Int): -4096≤At u x∧At u x≤4096:=by
 unfold At
 split
 ·omega
 exact aZ _
theorem Rt(w0:World)(k:Int)(h:0≤k∧k≤8):Calls Tryz.prog 117 #[.int .i64 k] w0 fun e w=>e= .returned (.int .i64 (tq k))∧Ah w0 w:=by
 have hS:=St.start w0
 obtain rfl|rfl|rfl|rfl|rfl|rfl|rfl|rfl|rfl:k=0∨k=1∨k=2∨k=3∨k=4∨k=5∨k=6∨k=7∨k=8:=by omega
 all_goals
  go_enter Tryz.func117,Tryz.ntmps117
  repeat' (first
   | refine X0 ?_|refine gP 4 ?_|refine II ?_|(refine AQ 19 ?_);(refine Aq AA (V.indexAr Tryz.underlying203 Ef rfl rfl BJ (by omega) (Nat.mul_one _) BT) ?_;go_step)|refine fk 3 ?_;clear hS;intro g3 w hS|refine fu ?_;clear hS;intro w hS|refine E6 ?_|refine AG ?_;go_step|fail)
  go_ret
  exact ⟨rfl,hS.1⟩
theorem Ru(w0:World)(k:Int)(h:0≤k∧k≤16):Calls Tryz.prog 117 #[.int .i64 k] w0 fun e w=>e= .returned (.int .i64 (if 8<k then-tq (16-k) else tq k))∧Ah w0 w:=by
 by_cases h8:8<k
 ·rw [if_pos h8]
  have hS:=St.start w0
  have hb:=Rs (16-k)
  go_enter Tryz.func117,Tryz.ntmps117
  repeat' (first
   | (refine Am 117 ?_);refine An AA Tryz.call117 (Rt _ (16-k) (by omega)) (Fq hS ?_);clear hS;intro w hS;go_step|refine X0 ?_|refine gP 4 ?_|refine II ?_|refine cV ?_|(with_reducible refine Ak _ (.unOp .neg _ _) ?_);(refine Aq AA (V.neg rfl (by omega)) ?_;go_step)|refine fk 3 ?_;clear hS;intro g3 w hS|refine fu ?_;clear hS;intro w hS|refine AG ?_;go_step|fail)
  go_ret
  exact ⟨rfl,hS.1⟩
 rw [if_neg h8]
 exact Rt w0 k (by omega)
theorem ae(w0:World)(k:Int)(h:0≤k∧k≤31):Calls Tryz.prog 117 #[.int .i64 k] w0 fun e w=>e= .returned (.int .i64 (Oo k))∧Ah w0 w:=by
 unfold Oo
 by_cases h16:16<k
 ·rw [if_pos h16]
  have hS:=St.start w0
  obtain ⟨tv,hV⟩:∃tv,(if 8<32-k then-tq (16-(32-k)) else tq (32-k))=tv:=⟨_,rfl⟩
  have HV:=AD hV
  rw [hV]
  clear hV
  go_enter Tryz.func117,Tryz.ntmps117
  repeat' (first
   | (refine Am 117 ?_);refine An AA Tryz.call117 (Ru _ (32-k) (by omega)) ?_;rintro e w ⟨rfl,hE⟩;replace hS:=hS.ext hE;clear hE;rw [HV.out];refine Ab ?_;go_step|refine X0 ?_|refine gP 4 ?_|refine II ?_|refine cV ?_|refine fk 3 ?_;clear hS;intro g3 w hS|refine fu ?_;clear hS;intro w hS|refine AG ?_;go_step|fail)
  go_ret
  exact ⟨rfl,hS.1⟩
 rw [if_neg h16]
 exact Ru w0 k (by omega)
theorem OL(w0:World)(u x:Int)(hu:0≤u∧u≤7)(hx:0≤x∧x≤7):Calls Tryz.prog 80 #[.int .i64 u, .int .i64 x] w0 fun e w=>e= .returned (.int .i64 (At u x))∧Ah w0 w:=by
 have hS:=St.start w0
 unfold At
 by_cases h0:u=0
 ·subst h0
  rw [if_pos rfl]
  go_enter Tryz.func80,Tryz.ntmps80
  repeat' (first
   | refine X0 ?_|refine XY ?_|refine AG ?_;go_step|fail)
  go_ret
  exact ⟨rfl,hS.1⟩
 rw [if_neg h0]
 obtain ⟨k0,k1⟩:=Dv u (2*x+1) 7 15 (by omega) (by omega)
 have k2:0≤u*(2*x+1):=Int.mul_nonneg (by omega) (by omega)
 obtain ⟨p,hp⟩:∃p,u*(2*x+1)=p:=⟨_,rfl⟩
 rw [hp] at k0 k1 k2⊢
 go_enter Tryz.func80,Tryz.ntmps80
 repeat' (first
  | (refine AQ 11 ?_);(refine Af (.int _ (p)) (V.as (V.mulI rfl rfl (by omega)) (by omega)) (by kernel_rfl) ?_;go_step)|(refine Am 117 ?_);refine An AA Tryz.call117 (ae _ (p%32) (by omega)) (Fq hS ?_);clear hS;intro w hS;go_step|refine X0 ?_|refine XY ?_|refine Xn ?_|refine X6 ?_|(with_reducible refine Ak _ (.binOp .rem _ _ _ _) ?_);(refine Aq AA (V.rem rfl rfl (by omega) (by omega)) ?_;go_step)|refine AG ?_;go_step|fail)
 go_ret
 exact ⟨rfl,hS.1⟩
end Go.Proofs.YtohacgmhmbijmaaGreatDoor
