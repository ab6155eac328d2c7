/- What the laws RescueHurt need, part 3. -/
import Derived.Test.YtohacgmhmbijmaaGreatDoorBaseHZ1
import Derived.Test.YtohacgmhmbijmaaGreatDoorBaseHZ2
import Derived.Test.YtohacgmhmbijmaaGreatDoorProg
namespace Go.Proofs.YtohacgmhmbijmaaGreatDoor
open Go.RowKit
set_option linter.unusedVariables false
set_option maxRecDepth 100000
set_option maxHeartbeats 8000000
section
variable{P:Program}{Q:Exit→Act→World→Prop}{md:Region.Mode}{D:List Nat}{S:World→Prop}{l:List Oper}{fuel:Nat}{listed:Array Bool}{a:Act}{w:World}
 {d:Option Tmp} {op:Op} {ty:TypeId} {pos:String} {af:Array Edge} {g:Option (Nat×Bool)}
theorem BV(i:Nat)(v:Value)(hi:G0 ⟨d,op,ty,pos,af,g⟩ i l)(hs:Region.noSelect l.toArray=true)(hf:Region.free md l.toArray listed i=true)(hr:(Region.ready md l.toArray listed).contains i=true)
 (hQ:∀v c a w,Q (.panic c) (a.put d v) w→Q (.panic c) a w) (hv:DW P op ty a v) (hw:Region.wanted ⟨d,op,ty,pos,af,g⟩ (yielded l.toArray a.tmps)=true)
 (h:(Oper.mk d (.move (.const v)) ty pos af g).wp P a w (Ab P md l.toArray Q D S fuel (listed.setIfInBounds i true)) Q):Ab P md l.toArray Q D S (fuel+1) listed a w:=
 BI i hi hs hf hr hQ (fun w=>Ag v hv hw (Ih v _ (show wpList P l.toArray _ [] _ _ from wpList_nil ⟨rfl,rfl⟩))) (by cases d<;>rfl) h
theorem aA(i:Nat)(x:Operand)(hi:G0 ⟨d, .move x,ty,pos,af,g⟩ i l)(hs:Region.noSelect l.toArray=true)(hf:Region.free md l.toArray listed i=true)(hr:(Region.ready md l.toArray listed).contains i=true)
 (hQ:∀v c a w,Q (.panic c) (a.put d v) w→Q (.panic c) a w) (hw:Region.wanted ⟨d, .move x,ty,pos,af,g⟩ (yielded l.toArray a.tmps)=true)
 (h:(Oper.mk d (.move x) ty pos af g).wp P a w (Ab P md l.toArray Q D S fuel (listed.setIfInBounds i true)) Q):Ab P md l.toArray Q D S (fuel+1) listed a w:=
 BI i hi hs hf hr hQ (a1:=a.put d (a.eval x)) (fun w=>Ag _ (fun _ _ _ _ _=>rfl) hw (Ih _ _ (show wpList P l.toArray _ [] _ _ from wpList_nil ⟨rfl,rfl⟩))) (by cases d<;>rfl) h
theorem Z8(i:Nat)(x:Operand)(hi:G0 ⟨d, .assign x,ty,pos,af,g⟩ i l)(hs:Region.noSelect l.toArray=true)(hf:Region.free md l.toArray listed i=true)(hr:(Region.ready md l.toArray listed).contains i=true)
 (hQ:∀v c a w,Q (.panic c) (a.put d v) w→Q (.panic c) a w) (hw:Region.wanted ⟨d, .assign x,ty,pos,af,g⟩ (yielded l.toArray a.tmps)=true)
 (h:(Oper.mk d (.move x) ty pos af g).wp P a w (Ab P md l.toArray Q D S fuel (listed.setIfInBounds i true)) Q):Ab P md l.toArray Q D S (fuel+1) listed a w:=
 BI i hi hs hf hr hQ (a1:=a.put d (a.eval x)) (fun w=>Ag _ (fun _ _ _ _ _=>rfl) hw (Ih _ _ (show wpList P l.toArray _ [] _ _ from wpList_nil ⟨rfl,rfl⟩))) (by cases d<;>rfl) h
theorem Ph(i:Nat)(b:Bool){c x y:Operand}(hi:G0 ⟨d, .pick c x y,ty,pos,af,g⟩ i l)(hs:Region.noSelect l.toArray=true)(hf:Region.free md l.toArray listed i=true)(hr:(Region.ready md l.toArray listed).contains i=true)
 (hQ:∀v c a w,Q (.panic c) (a.put d v) w→Q (.panic c) a w) (hc:a.eval c= .bool b) (hw:Region.wanted ⟨d, .pick c x y,ty,pos,af,g⟩ (yielded l.toArray a.tmps)=true)
 (h:(Oper.mk d (.move (bif b then x else y)) ty pos af g).wp P a w (Ab P md l.toArray Q D S fuel (listed.setIfInBounds i true)) Q):Ab P md l.toArray Q D S (fuel+1) listed a w:=
 BI i hi hs hf hr hQ (a1:=a.put d (a.eval (bif b then x else y))) (fun w=>Ag _ (fun _ _ _ _ w=>by simp only [execOp,hc,asBool,Sem.run_bind,Sem.run_pure,Result.andThen_ok];cases b<;>rfl) hw (Ih _ _ (show wpList P l.toArray _ [] _ _ from wpList_nil ⟨rfl,rfl⟩))) (by cases d<;>rfl) h
theorem BS(i:Nat){c x y:Operand}(hi:G0 ⟨d, .pick c x y,ty,pos,af,g⟩ i l)(hs:Region.noSelect l.toArray=true)(hf:Region.free md l.toArray listed i=true)(hr:(Region.ready md l.toArray listed).contains i=true)
 (hQ:∀v c a w,Q (.panic c) (a.put d v) w→Q (.panic c) a w) (hc:a.eval c= .bool true) (hw:Region.wanted ⟨d, .pick c x y,ty,pos,af,g⟩ (yielded l.toArray a.tmps)=true)
 (h:(Oper.mk d (.move x) ty pos af g).wp P a w (Ab P md l.toArray Q D S fuel (listed.setIfInBounds i true)) Q):Ab P md l.toArray Q D S (fuel+1) listed a w:=Ph i true hi hs hf hr hQ hc hw h
theorem CF(i:Nat){c x y:Operand}(hi:G0 ⟨d, .pick c x y,ty,pos,af,g⟩ i l)(hs:Region.noSelect l.toArray=true)(hf:Region.free md l.toArray listed i=true)(hr:(Region.ready md l.toArray listed).contains i=true)
 (hQ:∀v c a w,Q (.panic c) (a.put d v) w→Q (.panic c) a w) (hc:a.eval c= .bool false) (hw:Region.wanted ⟨d, .pick c x y,ty,pos,af,g⟩ (yielded l.toArray a.tmps)=true)
 (h:(Oper.mk d (.move y) ty pos af g).wp P a w (Ab P md l.toArray Q D S fuel (listed.setIfInBounds i true)) Q):Ab P md l.toArray Q D S (fuel+1) listed a w:=Ph i false hi hs hf hr hQ hc hw h
theorem Z9(i:Nat)(b:Bool)(hi:G0 ⟨d,op,ty,pos,af,g⟩ i l)(hs:Region.noSelect l.toArray=true)(hf:Region.free md l.toArray listed i=true)(hr:(Region.ready md l.toArray listed).contains i=true)
 (hQ:∀v c a w,Q (.panic c) (a.put d v) w→Q (.panic c) a w) (hv:DW P op ty a (.bool b)) (hw:Region.wanted ⟨d,op,ty,pos,af,g⟩ (yielded l.toArray a.tmps)=true)
 (ht:b=true→(Oper.mk d (.move (.const (.bool true))) ty pos af g).wp P a w (Ab P md l.toArray Q D S fuel (listed.setIfInBounds i true)) Q)
 (hn:b=false→(Oper.mk d (.move (.const (.bool false))) ty pos af g).wp P a w (Ab P md l.toArray Q D S fuel (listed.setIfInBounds i true)) Q):Ab P md l.toArray Q D S (fuel+1) listed a w:=by
 cases b
 ·exact BV i _ hi hs hf hr hQ hv hw (hn rfl)
 exact BV i _ hi hs hf hr hQ hv hw (ht rfl)
theorem Me(i:Nat)(p:Prop)[Decidable p](hi:G0 ⟨d,op,ty,pos,af,g⟩ i l)(hs:Region.noSelect l.toArray=true)(hf:Region.free md l.toArray listed i=true)(hr:(Region.ready md l.toArray listed).contains i=true)
 (hQ:∀v c a w,Q (.panic c) (a.put d v) w→Q (.panic c) a w) (hv:DW P op ty a (.bool (decide p))) (hw:Region.wanted ⟨d,op,ty,pos,af,g⟩ (yielded l.toArray a.tmps)=true)
 (ht:p→(Oper.mk d (.move (.const (.bool true))) ty pos af g).wp P a w (Ab P md l.toArray Q D S fuel (listed.setIfInBounds i true)) Q)
 (hn:¬p→(Oper.mk d (.move (.const (.bool false))) ty pos af g).wp P a w (Ab P md l.toArray Q D S fuel (listed.setIfInBounds i true)) Q):Ab P md l.toArray Q D S (fuel+1) listed a w:=
 Z9 i _ hi hs hf hr hQ hv hw (fun h=>ht (of_decide_eq_true h)) (fun h=>hn (of_decide_eq_false h))
theorem aB(i:Nat)(hi:G0 ⟨d,op,ty,pos,af,g⟩ i l)(hs:Region.noSelect l.toArray=true)(hf:Region.free md l.toArray listed i=true)(hr:(Region.ready md l.toArray listed).contains i=true)
 (hQ:∀v c a w,Q (.panic c) (a.put d v) w→Q (.panic c) a w) (hw:Region.wanted ⟨d,op,ty,pos,af,g⟩ (yielded l.toArray a.tmps)=false)
 (h:(Oper.mk d (.move (.const undef)) ty pos af g).wp P a w (Ab P md l.toArray Q D S fuel (listed.setIfInBounds i true)) Q):Ab P md l.toArray Q D S (fuel+1) listed a w:=
 BI i hi hs hf hr hQ (a1:=a.put d undef) (fun w=>wpList_skip hw (wpList_nil ⟨rfl,rfl⟩)) (by cases d<;>rfl) h
end
section
variable{P:Program}{Q:Exit→Act→World→Prop}{a:Act}{W w:World}{c:Code}
theorem Ww{F:Nat→Nat→Act}(rs:Nat→Nat→List Ar)(h:c.wp P (fun e a w=>e= .normal∧∃g g',a=F g g'∧St W w (rs g g')) a w)(k:∀g g' w,St W w (rs g g')→Q .normal (F g g') w):c.wp P Q a w:=
 Code.wp_mono (fun e a w ⟨he,g,g',ha,hS⟩=>by subst he;subst ha;exact k g g' w hS) h
end
end Go.Proofs.YtohacgmhmbijmaaGreatDoor
/- Short Ef for regions that draw their order. -/
namespace Go.Proofs.YtohacgmhmbijmaaGreatDoor
open Go.RowKit
set_option linter.unusedVariables false
set_option maxRecDepth 100000
set_option maxHeartbeats 8000000
structure XX(md:Region.Mode)(l:List Oper)(listed:Array Bool)(Q:Exit→Act→World→Prop)(a:Act)(d:Option Tmp)(op:Op)(ty:TypeId)(pos:String)(af:Array Edge)(g:Option (Nat×Bool))(i:Nat)(b:Bool):Prop where
 hi:G0 ⟨d,op,ty,pos,af,g⟩ i l
 hs:Region.noSelect l.toArray=true
 hf:Region.free md l.toArray listed i=true
 hr:(Region.ready md l.toArray listed).contains i=true
 hQ:∀v c a w,Q (.panic c) (a.put d v) w→Q (.panic c) a w
 hw:Region.wanted ⟨d,op,ty,pos,af,g⟩ (yielded l.toArray a.tmps)=b
section
variable{P:Program}{Q:Exit→Act→World→Prop}{md:Region.Mode}{D:List Nat}{S:World→Prop}{l:List Oper}{fuel:Nat}{listed:Array Bool}{a:Act}{w:World}{d:Option Tmp}{op:Op}{ty:TypeId}{pos:String}{af:Array Edge}{g:Option (Nat×Bool)}{x:Operand}{i:Nat}{b:Bool}
theorem BN(hi:G0 ⟨d,op,ty,pos,af,g⟩ i l:=by (repeat (first|with_reducible exact G0.head|apply G0.tail)))(hs:Region.noSelect l.toArray=true:=by kernel_rfl)(hf:Region.free md l.toArray listed i=true:=by kernel_rfl)(hr:(Region.ready md l.toArray listed).contains i=true:=by kernel_rfl)
 (hQ:∀v c a w,Q (.panic c) (a.put d v) w→Q (.panic c) a w:=by first|exact fun _ _ _ _ h=>h|exact fun _ _ _ _ h=>nomatch h.1) (hw:Region.wanted ⟨d,op,ty,pos,af,g⟩ (yielded l.toArray a.tmps)=b:=by kernel_rfl):XX md l listed Q a d op ty pos af g i b:=⟨hi,hs,hf,hr,hQ,hw⟩
theorem BZ(i:Nat){v:Value}(t:XX md l listed Q a d op ty pos af g i true)(hv:DW P op ty a v)(h:(Oper.mk d (.move (.const v)) ty pos af g).wp P a w (Ab P md l.toArray Q D S fuel (listed.setIfInBounds i true)) Q):Ab P md l.toArray Q D S (fuel+1) listed a w:=BV i v t.1 t.2 t.3 t.4 t.5 hv t.6 h
theorem fg(i:Nat)(t:XX md l listed Q a d (.move x) ty pos af g i true)(h:(Oper.mk d (.move x) ty pos af g).wp P a w (Ab P md l.toArray Q D S fuel (listed.setIfInBounds i true)) Q):Ab P md l.toArray Q D S (fuel+1) listed a w:=aA i x t.1 t.2 t.3 t.4 t.5 t.6 h
theorem fZ(i:Nat)(t:XX md l listed Q a d (.assign x) ty pos af g i true)(h:(Oper.mk d (.move x) ty pos af g).wp P a w (Ab P md l.toArray Q D S fuel (listed.setIfInBounds i true)) Q):Ab P md l.toArray Q D S (fuel+1) listed a w:=Z8 i x t.1 t.2 t.3 t.4 t.5 t.6 h
theorem fh(i:Nat)(t:XX md l listed Q a d op ty pos af g i false)(h:(Oper.mk d (.move (.const undef)) ty pos af g).wp P a w (Ab P md l.toArray Q D S fuel (listed.setIfInBounds i true)) Q):Ab P md l.toArray Q D S (fuel+1) listed a w:=aB i t.1 t.2 t.3 t.4 t.5 t.6 h
theorem Av(i:Nat){o:Oper}(h:o.wp P a w (fun a' w'=>(i∉D→S w→S w')∧Ab P md l.toArray Q D S fuel (listed.setIfInBounds i true) a' w') Q)(hi:G0 o i l:=by (repeat (first|with_reducible exact G0.head|apply G0.tail)))(hw:Region.wanted o (yielded l.toArray a.tmps)=true:=by kernel_rfl)
 (hr:Region.ready md l.toArray listed=[i]:=by kernel_rfl):Ab P md l.toArray Q D S (fuel+1) listed a w:=YP i hi hw hr h
theorem ef{A:Prop}{d:Tmp}{v:Value}(h:(Oper.mk (some d) (.move (.const v)) 0 "" #[] none).wp P a w (Ab P md l.toArray Q D S fuel listed) Q)(h1:A:=by exact fun _ h=>h):A∧Ab P md l.toArray Q D S fuel listed (a.put (some d) v) w:=⟨h1,h⟩
def Mv(_:Nat)(p:Prop):Prop:=p
def Jq(_:Nat)(_:List Nat)(p:Prop):Prop:=p
theorem Jp{v:Value}(t:XX md l listed Q a d op ty pos af g i true)(hv:DW P op ty a v)(h:(Oper.mk d (.move (.const v)) ty pos af g).wp P a w (Ab P md l.toArray Q D S fuel (listed.setIfInBounds i true)) Q):Mv i (Ab P md l.toArray Q D S (fuel+1) listed a w):=BV i v t.1 t.2 t.3 t.4 t.5 hv t.6 h
theorem fG(t:XX md l listed Q a d (.move x) ty pos af g i true)(h:(Oper.mk d (.move x) ty pos af g).wp P a w (Ab P md l.toArray Q D S fuel (listed.setIfInBounds i true)) Q):Mv i (Ab P md l.toArray Q D S (fuel+1) listed a w):=aA i x t.1 t.2 t.3 t.4 t.5 t.6 h
theorem fF(t:XX md l listed Q a d (.assign x) ty pos af g i true)(h:(Oper.mk d (.move x) ty pos af g).wp P a w (Ab P md l.toArray Q D S fuel (listed.setIfInBounds i true)) Q):Mv i (Ab P md l.toArray Q D S (fuel+1) listed a w):=Z8 i x t.1 t.2 t.3 t.4 t.5 t.6 h
theorem fH(t:XX md l listed Q a d op ty pos af g i false)(h:(Oper.mk d (.move (.const undef)) ty pos af g).wp P a w (Ab P md l.toArray Q D S fuel (listed.setIfInBounds i true)) Q):Mv i (Ab P md l.toArray Q D S (fuel+1) listed a w):=aB i t.1 t.2 t.3 t.4 t.5 t.6 h
end
section
variable{P:Program}{Q:Exit→Act→World→Prop}{md:Region.Mode}{D:List Nat}{S:World→Prop}{i:Nat}{E:List Nat}{l:List Oper}{oi:Oper}{a1:Act}{fuel:Nat}{listed:Array Bool}{a:Act}{w:World}
theorem Bp(hi:G0 oi i l)(hs:Region.noSelect l.toArray=true)(hf:Region.free md l.toArray listed i=true)(hr:(Region.ready md l.toArray listed).contains i=true)(hQ:∀v c a w,Q (.panic c) (a.put oi.dst v) w→Q (.panic c) a w)(hE:N5 md l.toArray listed i E D=true)(hSw:S w)(hfr:∀w,S w→wpList P l.toArray (FreeOne (fun w'=>w'=w) a1) [oi] a w)(hd:a1.defers=a.defers)(h:Ab P md l.toArray Q D S fuel (listed.setIfInBounds i true) a1 w):Jq i E (Ab P md l.toArray Q D S (fuel+1) listed a w):=Ct i hi hs hf hr hQ E hE hSw hfr hd h
theorem fE(hi:G0 oi i l)(hs:Region.noSelect l.toArray=true)(hf:Region.free md l.toArray listed i=true)(hr:(Region.ready md l.toArray listed).contains i=true)(hQ:∀v c a w,Q (.panic c) (a.put oi.dst v) w→Q (.panic c) a w)(hfr:∀w,wpList P l.toArray (FreeOne (fun w'=>w'=w) a1) [oi] a w)(hd:a1.defers=a.defers)(h:Ab P md l.toArray Q D S fuel (listed.setIfInBounds i true) a1 w):Mv i (Ab P md l.toArray Q D S (fuel+1) listed a w):=BI i hi hs hf hr hQ hfr hd h
end
section
variable{p q:Prop}
theorem AZ(n:Nat)(k:q)(h:Au q→Mv n p:=by intro zq9;(first|(refine fG BN ?_;go_step)|(refine fF BN ?_;go_step));with_reducible exact zq9.out):p:=h ⟨k⟩
theorem BT(n:Nat)(k:q)(h:Au q→Mv n p:=by intro zq9;refine fH BN ?_;go_step;with_reducible exact zq9.out):p:=h ⟨k⟩
theorem Y0{T q:World→Prop}(k:∀w,T w→q w)(h:JK T q→p:=by intro zq9;(refine Bv hS 30 _ _ rfl _ _ rfl (AH rfl) _ _ AL _ CI (by rfl) XP rfl ?_);intro w9 h9;refine ⟨fun _ h=>h,?_⟩;with_reducible exact zq9.out w9 h9):p:=h ⟨k⟩
theorem Y1{T q:Nat→World→Prop}(k:∀g w,T g w→q g w)(h:G7 T q→p:=by intro zq9;refine KD (o:=⟨some _,_,_,_,_,_⟩) hS 30 _ _ rfl _ _ _ _ VI _ _ _ _ _ _ rfl rfl A9 A9 (by omega) (by omega) (by unfold maxLen;omega) ?_;intro g9 w9 h9;refine ef ?_;go_step;with_reducible exact zq9.out g9 w9 h9):p:=h ⟨k⟩
theorem Y2(n:Nat)(k:q)(h:Au q→Mv n p:=by intro zq9;refine Jp BN (V.extract rfl rfl) ?_;go_step;with_reducible exact zq9.out):p:=h ⟨k⟩
theorem Y3{T q:Nat→World→Prop}(k:∀g w,T g w→q g w)(h:G7 T q→p:=by intro zq9;refine B4 (o:=⟨some _,_,_,_,_,_⟩) hS 30 rfl (.slice none 0 0) [.slice none 0 0] (fun w=>Tryz.zeroValue30 w) rfl ?_;intro g9 w9 h9;refine ef ?_;go_step;with_reducible exact zq9.out g9 w9 h9):p:=h ⟨k⟩
theorem Y4(n:Nat)(k:q)(h:Au q→Mv n p:=by intro zq9;refine Jp BN (V.indexSl Tryz.underlying160 Qh rfl rfl A9 (by omega) rfl A7) ?_;go_step;with_reducible exact zq9.out):p:=h ⟨k⟩
theorem Y5(n:Nat)(L:List Nat)(k:q)(h:Au q→Jq n L p:=by intro zq9;apply Bp Aj AA AA AA Be AA (hS.sub AV);(case hfr=>intro w hS;((refine Ad ?_;apply AX hS 3 _ rfl _ _ rfl (AH rfl) _;(case hp=>exact AL);(case hc=>rfl);refine AB ?_;go_step));refine wpList_nil ?_;exact ⟨rfl,rfl⟩);(case hd=>rfl);with_reducible exact zq9.out):p:=h ⟨k⟩
theorem Y6(n:Nat)(L:List Nat)(k:q)(h:Au q→Jq n L p:=by intro zq9;apply Bp Aj AA AA AA Be AA (hS.sub AV);(case hfr=>intro w hS;((refine Ad ?_;apply Pu hS 159 _ rfl _ _ rfl 2 (AO rfl) _ _ _ _ _;(case hp=>exact AL);(case inst=>infer_instance);(case he=>with_reducible assumption);(case hq=>exact rfl);(case hj=>omega);refine AB ?_;go_step));refine wpList_nil ?_;exact ⟨rfl,rfl⟩);(case hd=>rfl);with_reducible exact zq9.out):p:=h ⟨k⟩
theorem Y7(n:Nat)(k:q)(h:Au q→Mv n p:=by intro zq9;refine Jp BN (V.indexSl Tryz.underlying30 ET rfl rfl A9 (by omega) (Nat.mul_one _) A7) ?_;go_step;with_reducible exact zq9.out):p:=h ⟨k⟩
theorem Y8(n:Nat)(L:List Nat)(k:q)(h:Au q→Jq n L p:=by intro zq9;apply Bp Aj AA AA AA Be AA (hS.sub AV);(case hfr=>intro w hS;((refine Ad ?_;apply Aa hS 3 _ rfl _ rfl (AH rfl) _;(case hc=>with_reducible assumption);refine AB ?_;go_step));refine wpList_nil ?_;exact ⟨rfl,rfl⟩);(case hd=>rfl);with_reducible exact zq9.out):p:=h ⟨k⟩
theorem Y9(n:Nat)(k:q)(h:Au q→Mv n p:=by intro zq9;refine Jp BN (V.addI rfl rfl (by omega)) ?_;go_step;with_reducible exact zq9.out):p:=h ⟨k⟩
theorem Zr{T q:World→Prop}(k:∀w,T w→q w)(h:JK T q→p:=by intro zq9;(apply UO hS 159 _ _ rfl _ _ rfl 2 (AO rfl) _ _ _ _ _;(case hp=>exact AL);(case inst=>infer_instance);(case he=>with_reducible assumption);(case hone=>with_reducible assumption);(case hq=>exact rfl);(case hj=>omega);(case hy=>exact rfl);(case hd=>exact rfl));intro w9 h9;refine ⟨fun h=>absurd (by decide) h,?_⟩;with_reducible exact zq9.out w9 h9):p:=h ⟨k⟩
theorem Zs(n:Nat)(L:List Nat)(k:q)(h:Au q→Jq n L p:=by intro zq9;apply Bp Aj AA AA AA Be AA (hS.sub AV);(case hfr=>intro w hS;((refine Ad ?_;apply DG hS 34 _ rfl _ _ rfl 34 (AO rfl) _;(case hp=>exact AL);(case hi=>(repeat (first|(apply Gt.head;(repeat (first|exact Bx.nil|(apply Bx.ints;(case hn=>exact EC);(case h=>omega);(case hm=>rfl))|apply Bx.val)))|(apply Gt.skipI;(case hn=>exact EC);(case h=>omega);(case ho=>rfl))|apply Gt.skipV)));refine AB ?_;go_step));refine wpList_nil ?_;exact ⟨rfl,rfl⟩);(case hd=>rfl);with_reducible exact zq9.out):p:=h ⟨k⟩
theorem Zt(n:Nat)(k:q)(h:Au q→Mv n p:=by intro zq9;refine Jp BN (V.mulI rfl rfl (by omega)) ?_;go_step;with_reducible exact zq9.out):p:=h ⟨k⟩
theorem bY{T q:Nat→World→Prop}(k:∀g w,T g w→q g w)(h:G7 T q→p:=by intro zq9;refine Gn (o:=⟨some _,_,_,_,_,_⟩) hS 37 rfl _ cY ?_;intro g9 w9 h9;refine ⟨fun _ _=>h9.sub AV,?_⟩;refine AI ?_;go_step;with_reducible exact zq9.out g9 w9 h9):p:=h ⟨k⟩
theorem bZ{T q:World→Prop}(k:∀w,T w→q w)(h:JK T q→p:=by intro zq9;(refine Fb hS 37 _ _ rfl _ rfl 103 (AO rfl) _ _ AL (by rfl) (by (repeat (first|exact Bx.nil|(apply Bx.ints;(case hn=>exact EC);(case h=>omega);(case hm=>rfl))|apply Bx.val))) (by (repeat (first|exact Bx.nil|(apply Bx.ints;(case hn=>exact EC);(case h=>omega);(case hm=>rfl))|apply Bx.val))) (by rfl) rfl ?_);intro w9 h9;refine ⟨fun h=>absurd (by decide) h,?_⟩;with_reducible exact zq9.out w9 h9):p:=h ⟨k⟩
theorem be(n:Nat)(k:q)(h:Au q→Mv n p:=by intro zq9;refine Jp BN (V.fieldAddr VP rfl A7) ?_;go_step;with_reducible exact zq9.out):p:=h ⟨k⟩
theorem bf(n:Nat)(k:q)(h:Au q→Mv n p:=by intro zq9;refine Jp BN (V.quo rfl rfl (by omega) (by omega)) ?_;go_step;with_reducible exact zq9.out):p:=h ⟨k⟩
theorem dF{T q:World→Prop}(k:∀w,T w→q w)(h:JK T q→p:=by intro zq9;(refine Ji hS 3 _ _ rfl _ _ rfl (AH rfl) _ _ _ _ _ AL _ (by rfl) (by omega) rfl ?_);intro w9 h9;refine ⟨fun h=>absurd (by decide) h,?_⟩;with_reducible exact zq9.out w9 h9):p:=h ⟨k⟩
theorem dG(n:Nat)(L:List Nat)(k:q)(h:Au q→Jq n L p:=by intro zq9;apply Bp Aj AA AA AA Be AA (hS.sub AV);(case hfr=>intro w hS;((refine Ad ?_;apply AX hS 133 _ rfl _ _ rfl (AH rfl) _;(case hp=>exact AL);(case hc=>rfl);refine AB ?_;go_step));refine wpList_nil ?_;exact ⟨rfl,rfl⟩);(case hd=>rfl);with_reducible exact zq9.out):p:=h ⟨k⟩
theorem dH(n:Nat)(L:List Nat)(k:q)(h:Au q→Jq n L p:=by intro zq9;apply Bp Aj AA AA AA Be AA (hS.sub AV);(case hfr=>intro w hS;((refine Ad ?_;apply Aa hS 30 _ rfl _ rfl (AH rfl) _;(case hc=>with_reducible assumption);refine AB ?_;go_step));refine wpList_nil ?_;exact ⟨rfl,rfl⟩);(case hd=>rfl);with_reducible exact zq9.out):p:=h ⟨k⟩
theorem dI(n:Nat)(k:q)(h:Au q→Mv n p:=by intro zq9;refine Jp BN (V.fieldAddr Qd rfl A7) ?_;go_step;with_reducible exact zq9.out):p:=h ⟨k⟩
theorem dw(n:Nat)(L:List Nat)(k:q)(h:Au q→Jq n L p:=by intro zq9;apply Bp Aj AA AA AA Be AA (hS.sub AV);(case hfr=>intro w hS;((refine Ad ?_;apply Hv hS 3 _ rfl _ _ rfl (AH rfl) _ _ _ _ _;(case hp=>exact AL);(case hi=>omega);refine AB ?_;go_step));refine wpList_nil ?_;exact ⟨rfl,rfl⟩);(case hd=>rfl);with_reducible exact zq9.out):p:=h ⟨k⟩
theorem dx(n:Nat)(L:List Nat)(k:q)(h:Au q→Jq n L p:=by intro zq9;apply Bp Aj AA AA AA Be AA (hS.sub AV);(case hfr=>intro w hS;((refine Ad ?_;apply FG hS 35 _ rfl _ _ rfl (AH rfl) _;(case hp=>exact AL);(case hi=>(repeat (first|exact KE.head|(apply KE.skipI;(case hn=>exact EC);(case h=>omega);(case ho=>rfl))|apply KE.skipV)));refine AB ?_;go_step));refine wpList_nil ?_;exact ⟨rfl,rfl⟩);(case hd=>rfl);with_reducible exact zq9.out):p:=h ⟨k⟩
theorem eZ(n:Nat)(L:List Nat)(k:q)(h:Au q→Jq n L p:=by intro zq9;apply Bp Aj AA AA AA Be AA (hS.sub AV);(case hfr=>intro w hS;((refine Ad ?_;apply AX hS 137 _ rfl _ _ rfl (AH rfl) _;(case hp=>exact AL);(case hc=>rfl);refine AB ?_;go_step));refine wpList_nil ?_;exact ⟨rfl,rfl⟩);(case hd=>rfl);with_reducible exact zq9.out):p:=h ⟨k⟩
theorem fO(n:Nat)(L:List Nat)(k:q)(h:Au q→Jq n L p:=by intro zq9;apply Bp Aj AA AA AA Be AA (hS.sub AV);(case hfr=>intro w hS;((refine Ad ?_;apply DG hS 32 _ rfl _ _ rfl 17 (AO rfl) _;(case hp=>exact AL);(case hi=>(repeat (first|(apply Gt.head;(repeat (first|exact Bx.nil|(apply Bx.ints;(case hn=>exact EC);(case h=>omega);(case hm=>rfl))|apply Bx.val)))|(apply Gt.skipI;(case hn=>exact EC);(case h=>omega);(case ho=>rfl))|apply Gt.skipV)));refine AB ?_;go_step));refine wpList_nil ?_;exact ⟨rfl,rfl⟩);(case hd=>rfl);with_reducible exact zq9.out):p:=h ⟨k⟩
theorem ea(n:Nat)(L:List Nat)(k:q)(h:Au q→Jq n L p:=by intro zq9;apply Bp Aj AA AA AA Be AA (hS.sub AV);(case hfr=>intro w hS;((refine Ad ?_;apply DG hS 37 _ rfl _ _ rfl 103 (AO rfl) _;(case hp=>exact AL);(case hi=>(repeat (first|(apply Gt.head;(repeat (first|exact Bx.nil|(apply Bx.ints;(case hn=>exact EC);(case h=>omega);(case hm=>rfl))|apply Bx.val)))|(apply Gt.skipI;(case hn=>exact EC);(case h=>omega);(case ho=>rfl))|apply Gt.skipV)));refine AB ?_;go_step));refine wpList_nil ?_;exact ⟨rfl,rfl⟩);(case hd=>rfl);with_reducible exact zq9.out):p:=h ⟨k⟩
theorem eb(n:Nat)(L:List Nat)(k:q)(h:Au q→Jq n L p:=by intro zq9;apply Bp Aj AA AA AA Be AA (hS.sub AV);(case hfr=>intro w hS;((refine Ad ?_;apply FG hS 3 _ rfl _ _ rfl (AH rfl) _;(case hp=>exact AL);(case hi=>(repeat (first|exact KE.head|(apply KE.skipI;(case hn=>exact EC);(case h=>omega);(case ho=>rfl))|apply KE.skipV)));refine AB ?_;go_step));refine wpList_nil ?_;exact ⟨rfl,rfl⟩);(case hd=>rfl);with_reducible exact zq9.out):p:=h ⟨k⟩
theorem ec(n:Nat)(k:q)(h:Au q→Mv n p:=by intro zq9;refine Jp BN (V.indexAr Tryz.underlying26 ET rfl rfl A9 (by omega) (Nat.mul_one _) A7) ?_;go_step;with_reducible exact zq9.out):p:=h ⟨k⟩
theorem ed(n:Nat)(k:q)(h:Au q→Mv n p:=by intro zq9;refine Jp BN (V.slice Tryz.underlying35 Ve rfl (by (first|exact Lo.none|exact Lo.some rfl A9)) (by (first|exact Up.none|exact Up.some rfl A9)) (by omega) (by omega)) ?_;go_step;with_reducible exact zq9.out):p:=h ⟨k⟩
theorem eh{T q:Nat→World→Prop}(k:∀g w,T g w→q g w)(h:G7 T q→p:=by intro zq9;refine AU (o:=⟨some _,_,_,_,_,_⟩) hS 30 1 _ rfl 3 1 8 M9 _ _ (by (repeat (first|exact AW.nil|(apply AW.agg;(rfl);(rfl))|(apply AW.one;exact CI;(rfl);(rfl))))) (by rfl) (by decide) (by decide) ?_;intro g9 w9 h9;refine ⟨fun h=>absurd (by decide) h,?_⟩;refine AI ?_;go_step;with_reducible exact zq9.out g9 w9 h9):p:=h ⟨k⟩
theorem ek(n:Nat)(L:List Nat)(k:q)(h:Au q→Jq n L p:=by intro zq9;apply Bp Aj AA AA AA Be AA (hS.sub AV);(case hfr=>intro w hS;((refine Ad ?_;apply Ah hS 30 _ rfl _ _ rfl (AH rfl) _ _ _ _ _;(case hp=>exact AL);(case hv=>with_reducible assumption);refine AB ?_;go_step));refine wpList_nil ?_;exact ⟨rfl,rfl⟩);(case hd=>rfl);with_reducible exact zq9.out):p:=h ⟨k⟩
theorem eo(n:Nat)(L:List Nat)(k:q)(h:Au q→Jq n L p:=by intro zq9;apply Bp Aj AA AA AA Be AA (hS.sub AV);(case hfr=>intro w hS;((refine Ad ?_;apply Dz hS 107 _ rfl _ rfl 2 (AO rfl) _;(case hp=>exact AL);(case hn=>rfl);refine AB ?_;go_step));refine wpList_nil ?_;exact ⟨rfl,rfl⟩);(case hd=>rfl);with_reducible exact zq9.out):p:=h ⟨k⟩
theorem ep(n:Nat)(k:q)(h:Au q→Mv n p:=by intro zq9;refine Jp BN (V.indexSl Tryz.underlying22 Ff rfl rfl (show Bk 0 0 from rfl) (by omega) (show 0*1=0 from rfl) A7) ?_;go_step;with_reducible exact zq9.out):p:=h ⟨k⟩
theorem eu(n:Nat)(k:q)(h:Au q→Mv n p:=by intro zq9;refine Jp BN (V.slice Tryz.underlying42 JY rfl (by (first|exact Lo.none|exact Lo.some rfl A9)) (by (first|exact Up.none|exact Up.some rfl A9)) (by omega) (by omega)) ?_;go_step;with_reducible exact zq9.out):p:=h ⟨k⟩
theorem fP{T q:Nat→World→Prop}(k:∀g w,T g w→q g w)(h:G7 T q→p:=by intro zq9;refine AU (o:=⟨some _,_,_,_,_,_⟩) hS 88 1 _ rfl 35 1 24 TW _ _ (by (repeat (first|exact AW.nil|(apply AW.agg;(rfl);(rfl))|(apply AW.one;exact CI;(rfl);(rfl))))) (by rfl) (by decide) (by decide) ?_;intro g9 w9 h9;refine ⟨fun _ _=>h9.sub AV,?_⟩;refine AI ?_;go_step;with_reducible exact zq9.out g9 w9 h9):p:=h ⟨k⟩
theorem fQ(n:Nat)(L:List Nat)(k:q)(h:Au q→Jq n L p:=by intro zq9;apply Bp Aj AA AA AA Be AA (hS.sub AV);(case hfr=>intro w hS;((refine Ad ?_;apply AX hS 168 _ rfl _ _ rfl (AH rfl) _;(case hp=>exact AL);(case hc=>rfl);refine AB ?_;go_step));refine wpList_nil ?_;exact ⟨rfl,rfl⟩);(case hd=>rfl);with_reducible exact zq9.out):p:=h ⟨k⟩
theorem fR(n:Nat)(L:List Nat)(k:q)(h:Au q→Jq n L p:=by intro zq9;apply Bp Aj AA AA AA Be AA (hS.sub AV);(case hfr=>intro w hS;((refine Ad ?_;apply AX hS 22 _ rfl _ _ rfl (AH rfl) _;(case hp=>exact AL);(case hc=>rfl);refine AB ?_;go_step));refine wpList_nil ?_;exact ⟨rfl,rfl⟩);(case hd=>rfl);with_reducible exact zq9.out):p:=h ⟨k⟩
theorem fS(n:Nat)(L:List Nat)(k:q)(h:Au q→Jq n L p:=by intro zq9;apply Bp Aj AA AA AA Be AA (hS.sub AV);(case hfr=>intro w hS;((refine Ad ?_;apply AX hS 30 _ rfl _ _ rfl (AH rfl) _;(case hp=>exact AL);(case hc=>rfl);refine AB ?_;go_step));refine wpList_nil ?_;exact ⟨rfl,rfl⟩);(case hd=>rfl);with_reducible exact zq9.out):p:=h ⟨k⟩
theorem fT(n:Nat)(L:List Nat)(k:q)(h:Au q→Jq n L p:=by intro zq9;apply Bp Aj AA AA AA Be AA (hS.sub AV);(case hfr=>intro w hS;((refine Ad ?_;apply BW hS 3 _ rfl _ _ rfl (AH rfl) _ _;(case hp=>exact AL);(case hi=>omega);refine AB ?_;go_step));refine wpList_nil ?_;exact ⟨rfl,rfl⟩);(case hd=>rfl);with_reducible exact zq9.out):p:=h ⟨k⟩
theorem fU(n:Nat)(L:List Nat)(k:q)(h:Au q→Jq n L p:=by intro zq9;apply Bp Aj AA AA AA Be AA (hS.sub AV);(case hfr=>intro w hS;((refine Ad ?_;apply Mo hS 30 _ rfl _ _ rfl (AH rfl) _ _ _ _ _ _;(case hp=>exact AL);(case inst=>infer_instance);(case he=>with_reducible assumption);(case hq=>exact rfl);(case hj=>omega);(case hv=>exact rfl);refine AB ?_;go_step));refine wpList_nil ?_;exact ⟨rfl,rfl⟩);(case hd=>rfl);with_reducible exact zq9.out):p:=h ⟨k⟩
theorem fV(n:Nat)(L:List Nat)(k:q)(h:Au q→Jq n L p:=by intro zq9;apply Bp Aj AA AA AA Be AA (hS.sub AV);(case hfr=>intro w hS;((refine Ad ?_;apply RL hS 3 _ rfl _ _ rfl (AH rfl) _ _ _ _ _ _;(case hp=>exact AL);(case inst=>infer_instance);(case he=>with_reducible assumption);(case hq=>exact rfl);(case hj=>omega);(case hv=>exact rfl);refine AB ?_;go_step));refine wpList_nil ?_;exact ⟨rfl,rfl⟩);(case hd=>rfl);with_reducible exact zq9.out):p:=h ⟨k⟩
theorem fW(n:Nat)(L:List Nat)(k:q)(h:Au q→Jq n L p:=by intro zq9;apply Bp Aj AA AA AA Be AA (hS.sub AV);(case hfr=>intro w hS;((refine Ad ?_;apply Ah hS 35 _ rfl _ _ rfl (AH rfl) _ _ _ _ _;(case hp=>exact AL);(case hv=>with_reducible assumption);refine AB ?_;go_step));refine wpList_nil ?_;exact ⟨rfl,rfl⟩);(case hd=>rfl);with_reducible exact zq9.out):p:=h ⟨k⟩
theorem fX(n:Nat)(L:List Nat)(k:q)(h:Au q→Jq n L p:=by intro zq9;apply Bp Aj AA AA AA Be AA (hS.sub AV);(case hfr=>intro w hS;((refine Ad ?_;apply Ij hS 26 _ rfl _ rfl 64 (AO rfl) _;(case hp=>exact AL);refine AB ?_;go_step));refine wpList_nil ?_;exact ⟨rfl,rfl⟩);(case hd=>rfl);with_reducible exact zq9.out):p:=h ⟨k⟩
theorem fY(n:Nat)(L:List Nat)(k:q)(h:Au q→Jq n L p:=by intro zq9;apply Bp Aj AA AA AA Be AA (hS.sub AV);(case hfr=>intro w hS;((refine Ad ?_;apply Aa hS 22 _ rfl _ rfl (AH rfl) _;(case hc=>with_reducible assumption);refine AB ?_;go_step));refine wpList_nil ?_;exact ⟨rfl,rfl⟩);(case hd=>rfl);with_reducible exact zq9.out):p:=h ⟨k⟩
end
end Go.Proofs.YtohacgmhmbijmaaGreatDoor
namespace Go.Proofs.YtohacgmhmbijmaaGreatDoor
attribute [local irreducible] Region.wanted
open Go.RowKit
set_option linter.unusedVariables false
set_option maxRecDepth 100000
set_option maxHeartbeats 8000000
theorem PQ(n m:Int)(w:World)(hm:0<m)(hm2:m≤9223372036854775807):
 Calls Tryz.prog 28 #[.int .i64 n, .int .i64 m] w fun e w'=>e= .returned (.int .i64 (n%m))∧w=w':=by
 have h0:=Iz n m hm
 have h1:=I0 n m hm
 have hb:n.tmod m≤m:=by have:=Int.tmod_lt_of_pos n hm;omega
 by_cases h:n.tmod m<0
 ·have H:Hid (n.tmod m+m=n%m):=h0 h
  clear h0 h1
  have hb2: -m<n.tmod m:=by have:=Int.lt_tmod_of_pos n hm;omega
  go_enter Tryz.func28,Tryz.ntmps28
  go_wp2
  go_ret
  exact ⟨FX H.out,rfl⟩
 have H:Hid (n.tmod m=n%m):=h1 (by omega)
 clear h0 h1
 have h3:0≤n.tmod m:=by omega
 clear h
 go_enter Tryz.func28,Tryz.ntmps28
 go_wp2
 go_ret
 exact ⟨FX H.out,rfl⟩
theorem MX(n d:Int)(w:World)(h0:0≤n)(h1:n≤2305843009213693951)(h2:1≤d)(h3:d≤1000000000):
 Calls Tryz.prog 64 #[.int .i64 n, .int .i64 d] w fun e w'=>e= .returned (.int .i64 (I9 n d))∧w=w':=by
 have H:Hid ((2*n+d)/(2*d)=I9 n d):=by unfold Hid I9;rw [if_neg (by omega)]
 have hn:¬n<0:=by omega
 go_enter Tryz.func64,Tryz.ntmps64
 go_wp2_with fail
 go_ret
 exact ⟨FX H.out,rfl⟩
theorem JA(n d:Int)(w:World)(h0: -2305843009213693951≤n)(h1:n≤2305843009213693951)(h2:1≤d)(h3:d≤1000000000):
 Calls Tryz.prog 64 #[.int .i64 n, .int .i64 d] w fun e w'=>e= .returned (.int .i64 (I9 n d))∧w=w':=by
 by_cases hn:n<0
 ·have hb:=Q1 (-n) d 2305843009213693951 (by omega) (by omega) h2
  have H:Hid (-I9 (-n) d=I9 n d):=by have:=ZC n d h2;unfold Hid;omega
  obtain ⟨hb1,hb2⟩:=hb
  go_enter Tryz.func64,Tryz.ntmps64
  go_wp2_with (go_at_call 64;refine (MX (-n) d _ (by omega) (by omega) h2 h3).mono ?_;rintro e w' ⟨rfl,rfl⟩)
  go_ret
  exact ⟨FX H.out,rfl⟩
 exact MX n d w (by omega) h1 h2 h3
theorem Mf(a1 a2 a3 a4 b1 b2 b3 b4 c1 c2 c3 c4 r g b:Int)(w:World)
 (hr:0≤r∧r≤255) (hg:0≤g∧g≤255) (hb:0≤b∧b≤255)
 (ha1: -200000000≤a1∧a1≤200000000) (ha2: -200000000≤a2∧a2≤200000000) (ha3: -200000000≤a3∧a3≤200000000) (ha4: -200000000≤a4∧a4≤200000000)
 (hb1: -200000000≤b1∧b1≤200000000) (hb2: -200000000≤b2∧b2≤200000000) (hb3: -200000000≤b3∧b3≤200000000) (hb4: -200000000≤b4∧b4≤200000000)
 (hc1: -200000000≤c1∧c1≤200000000) (hc2: -200000000≤c2∧c2≤200000000) (hc3: -200000000≤c3∧c3≤200000000) (hc4: -200000000≤c4∧c4≤200000000):
 Calls Tryz.prog 56 #[.agg #[.int .i64 a1, .int .i64 a2, .int .i64 a3, .int .i64 a4, .int .i64 b1, .int .i64 b2, .int .i64 b3, .int .i64 b4, .int .i64 c1, .int .i64 c2, .int .i64 c3, .int .i64 c4], .agg #[.int .i64 r, .int .i64 g, .int .i64 b]] w
  fun e w'=>e= .returned (.tuple #[.int .i64 (Hn (I9 (a4+a1*r+a2*g+a3*b) 65536)), .int .i64 (Hn (I9 (b4+b1*r+b2*g+b3*b) 65536)), .int .i64 (Hn (I9 (c4+c1*r+c2*g+c3*b) 65536)), .int .i64 0])∧Ai w w':=by
 have ⟨pa1,qa1⟩:=ED a1 r 200000000 255 ha1 hr
 have ⟨pa2,qa2⟩:=ED a2 g 200000000 255 ha2 hg
 have ⟨pa3,qa3⟩:=ED a3 b 200000000 255 ha3 hb
 have ⟨pb1,qb1⟩:=ED b1 r 200000000 255 hb1 hr
 have ⟨pb2,qb2⟩:=ED b2 g 200000000 255 hb2 hg
 have ⟨pb3,qb3⟩:=ED b3 b 200000000 255 hb3 hb
 have ⟨pc1,qc1⟩:=ED c1 r 200000000 255 hc1 hr
 have ⟨pc2,qc2⟩:=ED c2 g 200000000 255 hc2 hg
 have ⟨pc3,qc3⟩:=ED c3 b 200000000 255 hc3 hb
 simp only [Int.reduceMul,Int.reduceNeg] at pa1 pa2 pa3 pb1 pb2 pb3 pc1 pc2 pc3 qa1 qa2 qa3 qb1 qb2 qb3 qc1 qc2 qc3
 obtain ⟨hr1,hr2⟩:=hr
 obtain ⟨hg1,hg2⟩:=hg
 obtain ⟨hb1',hb2'⟩:=hb
 obtain ⟨ha41,ha42⟩:=ha4
 obtain ⟨hb41,hb42⟩:=hb4
 obtain ⟨hc41,hc42⟩:=hc4
 clear ha1 ha2 ha3 hb1 hb2 hb3 hc1 hc2 hc3
 go_enter Tryz.func56,Tryz.ntmps56
 go_wp2_with (first|(with_reducible refine wp_loop_rounds 4 ?_)|(with_reducible rw [rounds_succ])|(go_at_call 64;refine (JA _ _ _ (by omega) (by omega) (by omega) (by omega)).mono ?_;rintro e w' ⟨rfl,rfl⟩))
 go_quiet (fail)
 go_wp2
 refine bodyPost_ret (FW rfl _ _ _) rfl ?_
 exact ⟨rfl,by repeat (first|exact Ai.refl _|apply Ai.drew|apply Ai.drewN|apply Ai.alloc|refine Ai.setCell ?_ (by simp;omega) _)⟩
def UE(r g b:Int):Int:=Hn (I9 (19595*r+38470*g+7471*b) 65536)
def UC(r g b:Int):Int:=Hn (I9 (8388608+ -11059*r+ -21709*g+32768*b) 65536)
def UD(r g b:Int):Int:=Hn (I9 (8388608+32768*r+ -27439*g+ -5329*b) 65536)
def JU(y _u v:Int):Int:=Hn (I9 (65536*y+91881*v-11760768) 65536)
def JT(y u v:Int):Int:=Hn (I9 (65536*y+ -22554*u+ -46802*v+8877568) 65536)
def JS(y u _v:Int):Int:=Hn (I9 (65536*y+116130*u-14864640) 65536)
theorem eT(r g b:Int):0≤UE r g b∧UE r g b≤255:=GA _
theorem eR(r g b:Int):0≤UC r g b∧UC r g b≤255:=GA _
theorem eS(r g b:Int):0≤UD r g b∧UD r g b≤255:=GA _
theorem RA(r g b:Int)(w:World)(hr:0≤r∧r≤255)(hg:0≤g∧g≤255)(hb:0≤b∧b≤255):
 Calls Tryz.prog 30 #[.int .i64 r, .int .i64 g, .int .i64 b] w fun e w'=>e= .returned (.tuple #[.int .i64 (UE r g b), .int .i64 (UC r g b), .int .i64 (UD r g b), .int .i64 0])∧Ai w w':=by
 go_enter Tryz.func30,Tryz.ntmps30
 go_wp2_with (go_at_call 56;refine (Mf 19595 38470 7471 0 (-11059) (-21709) 32768 8388608 32768 (-27439) (-5329) 8388608 r g b _ hr hg hb (by omega) (by omega) (by omega) (by omega) (by omega) (by omega) (by omega) (by omega) (by omega) (by omega) (by omega) (by omega)).mono ?_;rintro e w' ⟨rfl,hgr⟩)
 refine bodyPost_ret (FW rfl _ _ _) rfl ?_
 refine ⟨WJ ?_,?_⟩
 ·simp only [UE,UC,UD];rfl
 exact (by repeat (first|exact Ai.refl _|apply Ai.drew|apply Ai.drewN|apply Ai.alloc):Ai w _).trans hgr
theorem Ns(r g b:Int)(w:World)(hr:0≤r∧r≤255)(hg:0≤g∧g≤255)(hb:0≤b∧b≤255):
 Calls Tryz.prog 96 #[.int .i64 r, .int .i64 g, .int .i64 b] w fun e w'=>e= .returned (.tuple #[.int .i64 (JU r g b), .int .i64 (JT r g b), .int .i64 (JS r g b), .int .i64 0])∧Ai w w':=by
 go_enter Tryz.func96,Tryz.ntmps96
 go_wp2_with (go_at_call 56;refine (Mf 65536 0 91881 (-11760768) 65536 (-22554) (-46802) 8877568 65536 116130 0 (-14864640) r g b _ hr hg hb (by omega) (by omega) (by omega) (by omega) (by omega) (by omega) (by omega) (by omega) (by omega) (by omega) (by omega) (by omega)).mono ?_;rintro e w' ⟨rfl,hgr⟩)
 refine bodyPost_ret (FW rfl _ _ _) rfl ?_
 refine ⟨WJ ?_,?_⟩
 ·have e1:JU r g b=Hn (I9 (-11760768+65536*r+91881*b) 65536):=by unfold JU;congr 2;omega
  have e2:JT r g b=Hn (I9 (8877568+65536*r+ -22554*g+ -46802*b) 65536):=by unfold JT;congr 2;omega
  have e3:JS r g b=Hn (I9 (-14864640+65536*r+116130*g) 65536):=by unfold JS;congr 2;omega
  rw [e1,e2,e3];rfl
 exact (by repeat (first|exact Ai.refl _|apply Ai.drew|apply Ai.drewN|apply Ai.alloc):Ai w _).trans hgr
def DK(p:Int→Bool)(xs:List Int):Int:=match xs.findIdx? p with|some i=>(i:Int)|none=> -1
theorem Lt(p:Int→Bool)(xs:List Int)(i:Nat)(h:i<xs.length)(hp:p (AJ xs i)=true)(hpre:∀j,j<i→p (AJ xs j)=false):DK p xs=i:=by
 have:xs.findIdx? p=some i:=by
  rw [List.findIdx?_eq_some_iff_getElem]
  refine ⟨h,by simpa [AJ,List.getD,List.getElem?_eq_getElem h] using hp,fun j hj=>?_⟩
  have:=hpre j hj
  simpa [AJ,List.getD,List.getElem?_eq_getElem (show j<xs.length by omega)] using this
 simp [DK,this]
theorem Ls(p:Int→Bool)(xs:List Int)(hpre:∀j,j<xs.length→p (AJ xs j)=false):DK p xs= -1:=by
 have:xs.findIdx? p=none:=by
  rw [List.findIdx?_eq_none_iff]
  intro x hx
  obtain ⟨j,hj,rfl⟩:=List.getElem_of_mem hx
  have:=hpre j hj
  simpa [AJ,List.getD,List.getElem?_eq_getElem hj] using this
 simp [DK,this]
theorem NE(p:Int→Bool)(xs:List Int):decide (0≤DK p xs)=xs.any p:=by
 unfold DK
 rw [Bool.eq_iff_iff,decide_eq_true_eq,List.any_eq_true]
 cases h:xs.findIdx? p with
 | none=>
   rw [List.findIdx?_eq_none_iff] at h
   simp only [Int.reduceNeg]
   constructor
   ·intro h';omega
   rintro ⟨x,hx,hp⟩;rw [h x hx] at hp;cases hp
 | some i=>
   rw [List.findIdx?_eq_some_iff_getElem] at h
   obtain ⟨hi,hp,_⟩:=h
   exact ⟨fun _=>⟨_,List.getElem_mem hi,hp⟩,fun _=>by dsimp only;omega⟩
theorem Oq(p:Int→Bool)(xs:List Int): -1≤DK p xs:=by
 unfold DK;split<;>omega
theorem Lw(w:World)(v:Value)(xs:List Int)(hs:OG w v xs)(K:Nat)(caps:Array Value)(p:Int→Bool)(hk:∀(args:Array Value)(w:World),(callFunc K args).run Tryz.prog w= .ok (.enter K args) w)
 (hf:∀n,Calls Tryz.prog K (#[.int .i64 n]++caps) w fun e w'=>e= .returned (.bool (p n))∧w=w'):
 Calls Tryz.prog 114 #[v, .func (.func K) #[] caps] w fun e w'=>e= .returned (.int .i64 (DK p xs))∧w=w':=by
 obtain ⟨a,c,rfl,hc1,hc2,ha⟩:=hs.open
 have HF:=AD hf
 clear hf
 go_enter Tryz.func114,Tryz.ntmps114
 go_wp2_with fail
 go_loopg [8] xs.length (fun gk xv wr=>∃(i:Nat),gk+i=xs.length∧xv= .int .i64 i∧(∀j,j<i→p (AJ xs j)=false)∧wr=w)
 case atStart=>exact ⟨0,rfl,rfl,fun j hj=>by omega,rfl⟩
 case round=>
  obtain ⟨i,hi,rfl,hpre,rfl⟩:=hrel
  have hi':i≤xs.length:=by omega
  have HP:=AD hpre
  clear hpre
  by_cases hlt:i<xs.length
  ·obtain ⟨ba,oa,rfl,hca⟩:=ha i hlt
   have h1:=hca i hlt
   clear ha hca
   have HM:Hid (gk-1+(i+1)=xs.length):=by unfold Hid;omega
   have HG:Hid (gk-1<gk):=by unfold Hid;omega
   clear hi
   go_wp2_with fail
   refine (HF.out (AJ xs i)).mono ?_
   rintro e w' ⟨rfl,rfl⟩
   by_cases hp:p (AJ xs i)=true
   ·have HX:=AD (Lt p xs i hlt hp HP.out)
    rw [hp]
    clear hp
    go_wp2_with fail
    go_ret
    exact ⟨FX HX.out.symm,rfl⟩
   have hp':p (AJ xs i)=false:=by simpa using hp
   have HX:Hid (∀j,j<i+1→p (AJ xs j)=false):=fun j hj=>by
    by_cases hji:j=i
    ·subst hji;exact hp'
    exact HP.out j (by omega)
   rw [hp']
   clear hp hp'
   go_wp2_with fail
   go_roundg (gk-1)
   case measure=>exact HG.out
   case rel=>exact ⟨i+1,HM.out,by go_num,HX.out,rfl⟩
  have HX:=AD (Ls p xs (fun j hj=>HP.out j (by omega)))
  clear ha
  go_wp2_with fail
  go_ret
  exact ⟨FX HX.out.symm,rfl⟩
theorem BC(w:World)(v:Value)(xs:List Int)(hs:OG w v xs)(K:Nat)(caps:Array Value)(p:Int→Bool)(hk:∀(args:Array Value)(w:World),(callFunc K args).run Tryz.prog w= .ok (.enter K args) w)
 (hf:∀n,Calls Tryz.prog K (#[.int .i64 n]++caps) w fun e w'=>e= .returned (.bool (p n))∧w=w'):
 Calls Tryz.prog 76 #[v, .func (.func K) #[] caps] w fun e w'=>e= .returned (.bool (xs.any p))∧w=w':=by
 have HA:=AD (NE p xs)
 have hb:=Oq p xs
 have HF:=AD (Lw w v xs hs K caps p hk hf)
 clear hf hs
 go_enter Tryz.func76,Tryz.ntmps76
 go_wp2_with (go_at_call 114;refine HF.out.mono ?_;rintro e w' ⟨rfl,rfl⟩)
 go_ret
 exact ⟨DR HA.out,rfl⟩
def Bt(l:List Int)(lo hi:Int):Bool:= !l.any fun n=>decide (n<lo)||decide (hi<n)
theorem BF(l:List Int)(lo hi:Int):Bt l lo hi=true↔∀i,i<l.length→lo≤AJ l i∧AJ l i≤hi:=by
 unfold Bt
 rw [Bool.not_eq_true',List.any_eq_false]
 constructor
 ·intro h i hi
  have:=h l[i] (List.getElem_mem hi)
  simp only [Bool.or_eq_true,decide_eq_true_eq,not_or] at this
  simp only [AJ,List.getD,List.getElem?_eq_getElem hi,Option.getD_some]
  omega
 intro h x hx
 obtain ⟨j,hj,rfl⟩:=List.getElem_of_mem hx
 have:=h j hj
 simp only [AJ,List.getD,List.getElem?_eq_getElem hj,Option.getD_some] at this
 simp only [Bool.or_eq_true,decide_eq_true_eq,not_or]
 omega
end Go.Proofs.YtohacgmhmbijmaaGreatDoor
namespace Go.Proofs.YtohacgmhmbijmaaGreatDoor
open Go.RowKit
set_option linter.unusedVariables false
set_option maxRecDepth 100000
set_option maxHeartbeats 8000000
theorem UL(n lo hi:Int)(p q:Addr)(w:World)(hp:w.cell? p=some (.int .i64 lo))(hq:w.cell? q=some (.int .i64 hi)):
 Calls Tryz.prog 98 #[.int .i64 n, .pointer (some p), .pointer (some q)] w fun e w'=>e= .returned (.bool (decide (n<lo)||decide (hi<n)))∧w=w':=by
 by_cases h:n<lo
 ·have h2:decide (n<lo)=true:=by simpa using h
  rw [h2]
  go_enter Tryz.func98,Tryz.ntmps98
  go_wp2_with fail
  go_ret
  exact ⟨rfl,rfl⟩
 have h2:decide (n<lo)=false:=by simpa using h
 rw [h2,Bool.false_or]
 have h3:lo≤n:=by omega
 clear h
 go_enter Tryz.func98,Tryz.ntmps98
 go_wp2_with fail
 go_ret
 exact ⟨rfl,rfl⟩
theorem Ez(w:World)(l:List Int)(hl:l.length=64)(lo hi:Int):Calls Tryz.prog 63 #[.agg (iv l), .int .i64 lo, .int .i64 hi] w fun e w'=>e= .returned (.bool (Bt l lo hi))∧Ai w w':=by
 have hmf:∀(fn:Fn)(first cap:Array Value)(w:World),(Instr.makeFunc fn first cap).run Tryz.prog w= .ok (.func fn first cap) w:=fun _ _ _ _=>rfl
 have HL:=AD hl
 clear hl
 go_enter Tryz.func63,Tryz.ntmps63
 go_wp2_with (refine wpList_box_iv rfl 26 _ rfl l rfl ?_;intro w1 hR hE hz)
 have hR2:=(hR.alloc (.cells #[.int .i64 lo] 3)).alloc (.cells #[.int .i64 hi] 3)
 have hE2:=(hE.alloc (.cells #[.int .i64 lo] 3)).alloc (.cells #[.int .i64 hi] 3)
 have hp:((w1.alloc (.cells #[.int .i64 lo] 3)).alloc (.cells #[.int .i64 hi] 3)).cell? ⟨w.heap.size+1,0,none⟩=some (.int .i64 lo):=by rw [←hz];simp [go_sem]
 have hq:((w1.alloc (.cells #[.int .i64 lo] 3)).alloc (.cells #[.int .i64 hi] 3)).cell? ⟨w.heap.size+1+1,0,none⟩=some (.int .i64 hi):=by rw [←hz];simp [go_sem]
 refine (BC _ _ l (OG.of_row hR2 HL.out (by unfold maxLen;omega)) 98 #[.pointer (some ⟨w.heap.size+1,0,none⟩), .pointer (some ⟨w.heap.size+1+1,0,none⟩)] (fun n=>decide (n<lo)||decide (hi<n)) Tryz.call98 (fun n=>UL n lo hi _ _ _ hp hq)).mono ?_
 rintro e w' ⟨rfl,rfl⟩
 clear hp hq hR2
 go_wp2_with fail
 go_ret
 exact ⟨rfl,hE2⟩
def H4(q:List Int):Bool:=Bt q 1 255
theorem C5(w:World)(q:List Int)(hq:q.length=64):Calls Tryz.prog 36 #[.agg (iv q)] w fun e w'=>e= .returned (.int .i64 (if H4 q then 0 else 1))∧Ai w w':=by
 have HL:=AD hq
 have HI:=AD (show (Tryz.prog.info? 26).map (·.size)=some q.length by rw [hq];kernel_rfl)
 clear hq
 cases hk:H4 q
 all_goals
  have HK:=AD hk
  clear hk
  go_enter Tryz.func36,Tryz.ntmps36
  go_wp2_with (first
   | (refine wpList_box_iv rfl 26 _ rfl q rfl ?_;intro w1 hR hE hz)
   | (refine wpList_load_iv rfl 26 _ rfl w.heap.size rfl q _ hR Tryz.underlying26 rfl HI.out ?_)
   | (go_at_call 63;refine (Ez _ q HL.out 1 255).mono ?_;rintro e w' ⟨rfl,hE2⟩;rw [show Bt q 1 255=_ from HK.out];replace hE:=hE.trans hE2;clear hE2))
  go_ret
  exact ⟨rfl,hE⟩
theorem Hu(n m:Int)(w:World)(h0:0≤m)(h1:m≤9223372036854775807):Calls Tryz.prog 83 #[.int .i64 n, .int .i64 m] w fun e w'=>e= .returned (.int .i64 (min (max n (-m)) m))∧w=w':=by
 go_enter Tryz.func83,Tryz.ntmps83
 go_wp2_with fail
 go_ret
 exact ⟨rfl,rfl⟩
theorem Cf{P:Program}{fn:Func}{p u:Tmp}{ty:TypeId}(h:fn.results=#[.cell p ty, .tmp u])(tmps:Array Value)(w:World)(g:Nat)(l:List Int)(d:TypeDesc)
 (hp:tmps.getD p undef= .pointer (some ⟨g,0,none⟩)) (hr:DU w g l) (hu:P.underlying ty=some d) (hd:d.isRow=true) (hi:(P.info? ty).map (·.size)=some l.length):
 (results fn tmps).run P w= .ok (.tuple #[.agg (iv l),tmps.getD u undef]) w:=by
 have hp':tmps[p]?.getD undef= .pointer (some ⟨g,0,none⟩):=by simpa using hp
 have hl:=run_loadVar_mid (P:=P) w g 0 ty (l.map (Value.int .i64)) d hr.range hu hd (by rw [hi,List.length_map])
 simp [results,h,hp',asAddr,hl,iv]
def EG(g:Int→Int→Int)(b q:List Int):List Int:=List.zipWith g b q
theorem Lb(g:Int→Int→Int)(b q:List Int)(hb:b.length=64)(hq:q.length=64):(EG g b q).length=64:=by simp [EG,hb,hq]
theorem Px(g:Int→Int→Int)(b q:List Int)(hb:b.length=64)(hq:q.length=64)(i:Nat)(hi:i<64):AJ (EG g b q) i=g (AJ b i) (AJ q i):=by
 simp [AJ,EG,List.getD,List.getElem?_zipWith,List.getElem?_eq_getElem (show i<b.length by omega),List.getElem?_eq_getElem (show i<q.length by omega)]
def Gx(m b:List Int)(i:Nat):List Int:=m.take i++b.drop i
theorem Qp(m b:List Int):Gx m b 0=b:=by simp [Gx]
theorem Tk(m b:List Int)(h:m.length=b.length):Gx m b b.length=m:=by simp [Gx,←h]
theorem Tl(m b:List Int)(h:m.length=b.length)(i:Nat)(hi:i≤b.length):(Gx m b i).length=b.length:=by simp [Gx];omega
theorem Tm(m b:List Int)(h:m.length=b.length)(i:Nat)(hi:i<b.length):(Gx m b i).set i (AJ m i)=Gx m b (i+1):=by
 unfold Gx
 have e1:(m.take i).length=i:=by simp;omega
 rw [List.set_append_right _ _ (by omega),e1,Nat.sub_self,List.drop_eq_getElem_cons hi,List.set_cons_zero,List.take_add_one,List.getElem?_eq_getElem (by omega),List.append_assoc]
 simp [AJ,List.getD,List.getElem?_eq_getElem (show i<m.length by omega)]
theorem PO(w:World)(b q:List Int)(hb:b.length=64)(hq:q.length=64)(most:Int)(hm0:0≤most)(hm1:most≤1000000)(K:Nat)(g:Int→Int→Int)
 (hk:∀(args:Array Value)(w:World),(callFunc K args).run Tryz.prog w= .ok (.enter K args) w)
 (hf:∀(n d:Int)(w:World),-most≤n→n≤most→1≤d→d≤255→Calls Tryz.prog K #[.int .i64 n, .int .i64 d] w fun e w'=>e= .returned (.int .i64 (g n d))∧w=w')
 (hQ:H4 q=true) (hB:Bt b (-most) most=true):
 Calls Tryz.prog 81 #[.agg (iv b), .agg (iv q), .int .i64 most, .func (.func K) #[] #[]] w fun e w'=>e= .returned (.tuple #[.agg (iv (EG g b q)), .int .i64 0])∧Ai w w':=by
 have HLb:=AD hb
 have HLq:=AD hq
 have HIb:=AD (show (Tryz.prog.info? 26).map (·.size)=some b.length by rw [hb];kernel_rfl)
 have HIq:=AD (show (Tryz.prog.info? 26).map (·.size)=some q.length by rw [hq];kernel_rfl)
 have HQ:=AD hQ
 have HB:=AD hB
 have HF:=AD hf
 have HZ:=AD (Lb g b q hb hq)
 clear hb hq hQ hB hf
 go_enter Tryz.func81,Tryz.ntmps81
 go_wp2_with (first
  | (refine wpList_box_iv rfl 26 _ rfl b rfl ?_;intro w1 hR1 hE1 hz1)
  | (refine wpList_box_iv rfl 26 _ rfl q rfl ?_;intro w2 hR2 hE2 hz2;replace hR1:=hR1.ext hE2;rw [hz1] at hR2 hz2;replace hE1:=hE1.trans hE2;clear hE2)
  | (refine wpList_alloc_iv rfl 26 rfl (List.replicate 64 0) (fun w=>Tryz.zeroValue26 w) ?_;intro w3 hR3 hE3 hz3;replace hR1:=hR1.ext hE3;replace hR2:=hR2.ext hE3;rw [hz2] at hR3 hz3;replace hE1:=hE1.trans hE3;clear hE3)
  | (refine wpList_load_iv rfl 26 _ rfl (w.heap.size+1) rfl q _ hR2 Tryz.underlying26 rfl HIq.out ?_)
  | (refine wpList_load_iv rfl 26 _ rfl w.heap.size rfl b _ hR1 Tryz.underlying26 rfl HIb.out ?_)
  | (go_at_call 36;refine (C5 _ q HLq.out).mono ?_;rintro e w' ⟨rfl,hE⟩;rw [HQ.out];replace hR1:=hR1.ext hE;replace hR2:=hR2.ext hE;replace hR3:=hR3.ext hE;replace hE1:=hE1.trans hE;clear hE))
 refine (Ez _ b HLb.out (-most) most).mono ?_
 rintro e w4 ⟨rfl,hE⟩
 rw [HB.out]
 replace hR1:=hR1.ext hE
 replace hR2:=hR2.ext hE
 replace hR3:=hR3.ext hE
 replace hE1:=hE1.trans hE
 clear hE
 go_wp2_with (first
  | (refine wpList_load_iv rfl 26 _ rfl w.heap.size rfl b _ hR1 Tryz.underlying26 rfl HIb.out ?_))
 go_loopg [27] 64 (fun gk xv wr=>∃(i:Nat),gk+i=64∧xv= .int .i64 i∧DU wr w.heap.size (Gx (EG g b q) b i)∧DU wr (w.heap.size+1) q∧DU wr (w.heap.size+1+1) (List.replicate 64 0)∧Ai w wr)
 case atStart=>exact ⟨0,rfl,rfl,by rw [Qp];exact hR1,hR2,hR3,hE1⟩
 case round=>
  clear hR1 hR2 hR3 hE1
  obtain ⟨i,hi,rfl,hR1,hR2,hR3,hE1⟩:=hrel
  by_cases hlt:i<64
  ·have hbi:=Fz b i (by rw [HLb.out];exact hlt)
   have hqi:=hR2.cell i (by rw [HLq.out];exact hlt)
   have hzb:(EG g b q).length=b.length:=by rw [HZ.out,HLb.out]
   have hcell:=hR1.cell i (by rw [Tl _ _ hzb i (by rw [HLb.out];omega),HLb.out];exact hlt)
   have hfree:=hR1.free i
   have h1:=hR1.set i (AJ (EG g b q) i)
   rw [Tm _ _ hzb i (by rw [HLb.out];exact hlt),Px g b q HLb.out HLq.out i hlt] at h1
   have HR1:=AD h1
   have HR2:=AD (hR2.setOther ⟨w.heap.size,i,none⟩ (.int .i64 (g (AJ b i) (AJ q i))) (by simp))
   have HR3:=AD (hR3.setOther ⟨w.heap.size,i,none⟩ (.int .i64 (g (AJ b i) (AJ q i))) (by simp;omega))
   have HE:=AD (hE1.setCell (a:=⟨w.heap.size,i,none⟩) (Nat.le_refl _) (.int .i64 (g (AJ b i) (AJ q i))))
   have HM:Hid (gk-1+(i+1)=64):=by unfold Hid;omega
   have HG:Hid (gk-1<gk):=by unfold Hid;omega
   have hbb:=(BF _ _ _).1 HB.out i (by rw [HLb.out];exact hlt)
   have hqq:=(BF _ _ _).1 HQ.out i (by rw [HLq.out];exact hlt)
   obtain ⟨hbb1,hbb2⟩:=hbb
   obtain ⟨hqq1,hqq2⟩:=hqq
   clear hi h1 hzb hR1 hR2 hR3 hE1
   go_wp2_with fail
   refine (HF.out (AJ b i) (AJ q i) _ hbb1 hbb2 hqq1 hqq2).mono ?_
   rintro e w' ⟨rfl,rfl⟩
   go_wp2_with fail
   go_roundg (gk-1)
   case measure=>exact HG.out
   case rel=>exact ⟨i+1,HM.out,by go_num,HR1.out,HR2.out,HR3.out,HE.out⟩
  obtain rfl:i=64:=by omega
  have h64:=Tk (EG g b q) b (by rw [HZ.out,HLb.out])
  rw [HLb.out] at h64
  rw [h64] at hR1
  have HIz:=AD (show (Tryz.prog.info? 26).map (·.size)=some (EG g b q).length by rw [HZ.out];kernel_rfl)
  have HL:=AD (show (List.replicate 64 (0:Int)).length=(EG g b q).length by rw [HZ.out];rfl)
  clear h64 hR2
  have hR4:=hR3.setRow (EG g b q)
  have hE4:=hE1.setRow (g:=w.heap.size+1+1) (by omega) (iv (EG g b q))
  go_wp2_with (first
   | (refine wpList_load_iv rfl 26 _ rfl w.heap.size rfl (EG g b q) _ hR1 Tryz.underlying26 rfl HIz.out ?_)
   | (refine wpList_store_iv rfl 26 _ _ rfl (w.heap.size+1+1) rfl (EG g b q) (List.replicate 64 0) rfl hR3 HIz.out HL.out ?_))
  refine bodyPost_ret (Cf rfl _ _ (w.heap.size+1+1) (EG g b q) _ rfl hR4 Tryz.underlying26 rfl HIz.out) rfl ?_
  exact ⟨rfl,hE4⟩
def CX:List Int:=List.replicate 64 0
theorem MU(w:World)(b q:List Int)(hb:b.length=64)(hq:q.length=64)(most:Int)(hm0:0≤most)(hm1:most≤1000000)(K:Nat)
 (hQ:(H4 q&&Bt b (-most) most)=false):
 Calls Tryz.prog 81 #[.agg (iv b), .agg (iv q), .int .i64 most, .func (.func K) #[] #[]] w fun e w'=>e= .returned (.tuple #[.agg (iv CX), .int .i64 1])∧Ai w w':=by
 have HLb:=AD hb
 have HLq:=AD hq
 have HIb:=AD (show (Tryz.prog.info? 26).map (·.size)=some b.length by rw [hb];kernel_rfl)
 have HIq:=AD (show (Tryz.prog.info? 26).map (·.size)=some q.length by rw [hq];kernel_rfl)
 have HIz:=AD (show (Tryz.prog.info? 26).map (·.size)=some CX.length by kernel_rfl)
 clear hb hq
 cases hk:H4 q
 ·have HQ:=AD hk
  clear hQ hk
  go_enter Tryz.func81,Tryz.ntmps81
  go_wp2_with (first
   | (refine wpList_box_iv rfl 26 _ rfl b rfl ?_;intro w1 hR1 hE1 hz1)
   | (refine wpList_box_iv rfl 26 _ rfl q rfl ?_;intro w2 hR2 hE2 hz2;replace hR1:=hR1.ext hE2;rw [hz1] at hR2 hz2;replace hE1:=hE1.trans hE2;clear hE2)
   | (refine wpList_alloc_iv rfl 26 rfl CX (fun w=>Tryz.zeroValue26 w) ?_;intro w3 hR3 hE3 hz3;replace hR1:=hR1.ext hE3;replace hR2:=hR2.ext hE3;rw [hz2] at hR3 hz3;replace hE1:=hE1.trans hE3;clear hE3)
   | (refine wpList_load_iv rfl 26 _ rfl (w.heap.size+1) rfl q _ hR2 Tryz.underlying26 rfl HIq.out ?_)
   | (go_at_call 36;refine (C5 _ q HLq.out).mono ?_;rintro e w' ⟨rfl,hE⟩;rw [HQ.out];replace hR3:=hR3.ext hE;replace hE1:=hE1.trans hE;clear hE)
   | (refine wpList_store_iv rfl 26 _ _ rfl (w.heap.size+1+1) rfl CX CX rfl hR3 HIz.out rfl ?_;replace hR3:=hR3.setRow CX;replace hE1:=hE1.setRow (g:=w.heap.size+1+1) (by omega) (iv CX)))
  refine bodyPost_ret (Cf rfl _ _ (w.heap.size+1+1) CX _ rfl hR3 Tryz.underlying26 rfl HIz.out) rfl ?_
  exact ⟨rfl,hE1⟩
 rw [hk,Bool.true_and] at hQ
 have HQ:=AD hk
 have HB:=AD hQ
 clear hQ hk
 go_enter Tryz.func81,Tryz.ntmps81
 go_wp2_with (first
  | (refine wpList_box_iv rfl 26 _ rfl b rfl ?_;intro w1 hR1 hE1 hz1)
  | (refine wpList_box_iv rfl 26 _ rfl q rfl ?_;intro w2 hR2 hE2 hz2;replace hR1:=hR1.ext hE2;rw [hz1] at hR2 hz2;replace hE1:=hE1.trans hE2;clear hE2)
  | (refine wpList_alloc_iv rfl 26 rfl CX (fun w=>Tryz.zeroValue26 w) ?_;intro w3 hR3 hE3 hz3;replace hR1:=hR1.ext hE3;replace hR2:=hR2.ext hE3;rw [hz2] at hR3 hz3;replace hE1:=hE1.trans hE3;clear hE3)
  | (refine wpList_load_iv rfl 26 _ rfl (w.heap.size+1) rfl q _ hR2 Tryz.underlying26 rfl HIq.out ?_)
  | (refine wpList_load_iv rfl 26 _ rfl w.heap.size rfl b _ hR1 Tryz.underlying26 rfl HIb.out ?_)
  | (go_at_call 36;refine (C5 _ q HLq.out).mono ?_;rintro e w' ⟨rfl,hE⟩;rw [HQ.out];replace hR1:=hR1.ext hE;replace hR3:=hR3.ext hE;replace hE1:=hE1.trans hE;clear hE)
  | (go_at_call 63;refine (Ez _ b HLb.out (-most) most).mono ?_;rintro e w' ⟨rfl,hE⟩;rw [HB.out];replace hR3:=hR3.ext hE;replace hE1:=hE1.trans hE;clear hE)
  | (refine wpList_store_iv rfl 26 _ _ rfl (w.heap.size+1+1) rfl CX CX rfl hR3 HIz.out rfl ?_;replace hR3:=hR3.setRow CX;replace hE1:=hE1.setRow (g:=w.heap.size+1+1) (by omega) (iv CX)))
 refine bodyPost_ret (Cf rfl _ _ (w.heap.size+1+1) CX _ rfl hR3 Tryz.underlying26 rfl HIz.out) rfl ?_
 exact ⟨rfl,hE1⟩
def dn(n d:Int):Int:=min (max (I9 n d) (-2047)) 2047
def dN(n d:Int):Int:=min (max (n*d) (-40000)) 40000
def Du(b q:List Int):List Int:=if H4 q&&Bt b (-40000) 40000 then EG dn b q else CX
def MK(b q:List Int):Int:=if H4 q&&Bt b (-40000) 40000 then 0 else 1
def OD(b q:List Int):List Int:=if H4 q&&Bt b (-2047) 2047 then EG dN b q else CX
def dM(b q:List Int):Int:=if H4 q&&Bt b (-2047) 2047 then 0 else 1
theorem GS(b q:List Int)(hb:b.length=64)(hq:q.length=64):(Du b q).length=64:=by
 unfold Du;split
 ·exact Lb _ _ _ hb hq
 rfl
theorem N4(b q:List Int)(hb:b.length=64)(hq:q.length=64):(OD b q).length=64:=by
 unfold OD;split
 ·exact Lb _ _ _ hb hq
 rfl
theorem YT(n d:Int)(w:World)(h0: -40000≤n)(h1:n≤40000)(h2:1≤d)(h3:d≤255):
 Calls Tryz.prog 82 #[.int .i64 n, .int .i64 d] w fun e w'=>e= .returned (.int .i64 (dn n d))∧w=w':=by
 go_enter Tryz.func82,Tryz.ntmps82
 go_wp2_with (first
  | (go_at_call 64;refine (JA _ _ _ (by omega) (by omega) (by omega) (by omega)).mono ?_;rintro e w' ⟨rfl,rfl⟩)
  | (go_at_call 83;refine (Hu _ _ _ (by omega) (by omega)).mono ?_;rintro e w' ⟨rfl,rfl⟩))
 go_ret
 exact ⟨rfl,rfl⟩
theorem TV(w:World)(b q:List Int)(hb:b.length=64)(hq:q.length=64):
 Calls Tryz.prog 81 #[.agg (iv b), .agg (iv q), .int .i64 40000, .func (.func 82) #[] #[]] w fun e w'=>e= .returned (.tuple #[.agg (iv (Du b q)), .int .i64 (MK b q)])∧Ai w w':=by
 cases h:H4 q&&Bt b (-40000) 40000
 ·rw [show Du b q=CX by simp [Du,h],show MK b q=1 by simp [MK,h]]
  exact MU w b q hb hq 40000 (by omega) (by omega) _ h
 rw [show Du b q=EG dn b q by simp [Du,h],show MK b q=0 by simp [MK,h]]
 rw [Bool.and_eq_true] at h
 exact PO w b q hb hq 40000 (by omega) (by omega) 82 dn Tryz.call82 YT h.1 h.2
theorem VE(w:World)(b q:List Int)(hb:b.length=64)(hq:q.length=64):
 Calls Tryz.prog 48 #[.agg (iv b), .agg (iv q)] w fun e w'=>e= .returned (.tuple #[.agg (iv (Du b q)), .int .i64 (MK b q)])∧Ai w w':=by
 have HC:=AD (fun w=>TV w b q hb hq)
 have HIb:=AD (show (Tryz.prog.info? 26).map (·.size)=some b.length by rw [hb];kernel_rfl)
 have HIq:=AD (show (Tryz.prog.info? 26).map (·.size)=some q.length by rw [hq];kernel_rfl)
 have HIr:=AD (show (Tryz.prog.info? 26).map (·.size)=some (Du b q).length by rw [GS b q hb hq];kernel_rfl)
 have HL:=AD (show CX.length=(Du b q).length by rw [GS b q hb hq];rfl)
 clear hb hq
 go_enter Tryz.func48,Tryz.ntmps48
 go_wp2_with (first
  | (refine wpList_box_iv rfl 26 _ rfl b rfl ?_;intro w1 hR1 hE1 hz1)
  | (refine wpList_box_iv rfl 26 _ rfl q rfl ?_;intro w2 hR2 hE2 hz2;replace hR1:=hR1.ext hE2;rw [hz1] at hR2 hz2;replace hE1:=hE1.trans hE2;clear hE2)
  | (refine wpList_alloc_iv rfl 26 rfl CX (fun w=>Tryz.zeroValue26 w) ?_;intro w3 hR3 hE3 hz3;replace hR1:=hR1.ext hE3;replace hR2:=hR2.ext hE3;rw [hz2] at hR3 hz3;replace hE1:=hE1.trans hE3;clear hE3)
  | (refine wpList_load_iv rfl 26 _ rfl (w.heap.size+1) rfl q _ hR2 Tryz.underlying26 rfl HIq.out ?_)
  | (refine wpList_load_iv rfl 26 _ rfl w.heap.size rfl b _ hR1 Tryz.underlying26 rfl HIb.out ?_)
  | (go_at_call 81;refine (HC.out _).mono ?_;rintro e w' ⟨rfl,hE⟩;replace hR3:=hR3.ext hE;replace hE1:=hE1.trans hE;clear hE)
  | (refine wpList_store_iv rfl 26 _ _ rfl (w.heap.size+1+1) rfl (Du b q) CX rfl hR3 HIr.out HL.out ?_;replace hR3:=hR3.setRow (Du b q);replace hE1:=hE1.setRow (g:=w.heap.size+1+1) (by omega) (iv (Du b q))))
 refine bodyPost_ret (Cf rfl _ _ (w.heap.size+1+1) (Du b q) _ rfl hR3 Tryz.underlying26 rfl HIr.out) rfl ?_
 exact ⟨rfl,hE1⟩
theorem eU(n d:Int)(w:World)(h0: -2047≤n)(h1:n≤2047)(h2:1≤d)(h3:d≤255):
 Calls Tryz.prog 126 #[.int .i64 n, .int .i64 d] w fun e w'=>e= .returned (.int .i64 (dN n d))∧w=w':=by
 have ⟨p1,p2⟩:=ED n d 2047 255 ⟨h0,h1⟩ ⟨by omega,h3⟩
 simp only [Int.reduceMul,Int.reduceNeg] at p1 p2
 go_enter Tryz.func126,Tryz.ntmps126
 go_wp2_with (go_at_call 83;refine (Hu _ _ _ (by omega) (by omega)).mono ?_;rintro e w' ⟨rfl,rfl⟩)
 go_ret
 exact ⟨rfl,rfl⟩
theorem Zd(w:World)(b q:List Int)(hb:b.length=64)(hq:q.length=64):
 Calls Tryz.prog 81 #[.agg (iv b), .agg (iv q), .int .i64 2047, .func (.func 126) #[] #[]] w fun e w'=>e= .returned (.tuple #[.agg (iv (OD b q)), .int .i64 (dM b q)])∧Ai w w':=by
 cases h:H4 q&&Bt b (-2047) 2047
 ·rw [show OD b q=CX by simp [OD,h],show dM b q=1 by simp [dM,h]]
  exact MU w b q hb hq 2047 (by omega) (by omega) _ h
 rw [show OD b q=EG dN b q by simp [OD,h],show dM b q=0 by simp [dM,h]]
 rw [Bool.and_eq_true] at h
 exact PO w b q hb hq 2047 (by omega) (by omega) 126 dN Tryz.call126 eU h.1 h.2
theorem cQ(w:World)(b q:List Int)(hb:b.length=64)(hq:q.length=64):
 Calls Tryz.prog 93 #[.agg (iv b), .agg (iv q)] w fun e w'=>e= .returned (.tuple #[.agg (iv (OD b q)), .int .i64 (dM b q)])∧Ai w w':=by
 have HC:=AD (fun w=>Zd w b q hb hq)
 have HIb:=AD (show (Tryz.prog.info? 26).map (·.size)=some b.length by rw [hb];kernel_rfl)
 have HIq:=AD (show (Tryz.prog.info? 26).map (·.size)=some q.length by rw [hq];kernel_rfl)
 have HIr:=AD (show (Tryz.prog.info? 26).map (·.size)=some (OD b q).length by rw [N4 b q hb hq];kernel_rfl)
 have HL:=AD (show CX.length=(OD b q).length by rw [N4 b q hb hq];rfl)
 clear hb hq
 go_enter Tryz.func93,Tryz.ntmps93
 go_wp2_with (first
  | (refine wpList_box_iv rfl 26 _ rfl b rfl ?_;intro w1 hR1 hE1 hz1)
  | (refine wpList_box_iv rfl 26 _ rfl q rfl ?_;intro w2 hR2 hE2 hz2;replace hR1:=hR1.ext hE2;rw [hz1] at hR2 hz2;replace hE1:=hE1.trans hE2;clear hE2)
  | (refine wpList_alloc_iv rfl 26 rfl CX (fun w=>Tryz.zeroValue26 w) ?_;intro w3 hR3 hE3 hz3;replace hR1:=hR1.ext hE3;replace hR2:=hR2.ext hE3;rw [hz2] at hR3 hz3;replace hE1:=hE1.trans hE3;clear hE3)
  | (refine wpList_load_iv rfl 26 _ rfl (w.heap.size+1) rfl q _ hR2 Tryz.underlying26 rfl HIq.out ?_)
  | (refine wpList_load_iv rfl 26 _ rfl w.heap.size rfl b _ hR1 Tryz.underlying26 rfl HIb.out ?_)
  | (go_at_call 81;refine (HC.out _).mono ?_;rintro e w' ⟨rfl,hE⟩;replace hR3:=hR3.ext hE;replace hE1:=hE1.trans hE;clear hE)
  | (refine wpList_store_iv rfl 26 _ _ rfl (w.heap.size+1+1) rfl (OD b q) CX rfl hR3 HIr.out HL.out ?_;replace hR3:=hR3.setRow (OD b q);replace hE1:=hE1.setRow (g:=w.heap.size+1+1) (by omega) (iv (OD b q))))
 refine bodyPost_ret (Cf rfl _ _ (w.heap.size+1+1) (OD b q) _ rfl hR3 Tryz.underlying26 rfl HIr.out) rfl ?_
 exact ⟨rfl,hE1⟩
end Go.Proofs.YtohacgmhmbijmaaGreatDoor
namespace Go.Proofs.YtohacgmhmbijmaaGreatDoor
attribute [local irreducible] Region.wanted
open Go.RowKit
set_option linter.unusedVariables false
set_option maxRecDepth 100000
set_option maxHeartbeats 8000000
def Bi(l:List Int)(s j:Nat):List Int:=(l.drop (j*s)).take s
theorem Et(l:List Int)(s j i:Nat)(h:i<s):AJ (Bi l s j) i=AJ l (j*s+i):=by
 unfold Bi;rw [PG _ _ _ h,PF]
theorem CP(l:List Int)(s j n:Nat)(h:l.length=n*s)(hj:j<n):(Bi l s j).length=s:=by
 have:j*s+s≤n*s:=by have:=Nat.mul_le_mul_right s hj;rw [Nat.succ_mul] at this;exact this
 simp [Bi];omega
theorem Qt(l:List Int)(i:Nat)(z:Int)(h:i<l.length):AJ (l.set i z) i=z:=by simp [AJ,List.getD,h]
theorem Qu(l:List Int)(i j:Nat)(z:Int)(h:i≠j):AJ (l.set i z) j=AJ l j:=by simp [AJ,List.getD,h]
theorem CN(l:List Int)(i j:Nat)(z:Int)(h:i<l.length):AJ (l.set i z) j=if i=j then z else AJ l j:=by
 split
 ·rename_i e;subst e;exact Qt l i z h
 rename_i e;exact Qu l i j z e
theorem F6(l m:List Int)(i:Nat)(h:i<l.length):AJ (l++m) i=AJ l i:=by simp [AJ,List.getD,List.getElem?_append_left h]
theorem Kp(l m:List Int)(i:Nat)(h:l.length≤i):AJ (l++m) i=AJ m (i-l.length):=by simp [AJ,List.getD,List.getElem?_append_right h]
theorem SF(l:List Int)(f:Int→Int)(i:Nat)(h:i<l.length):AJ (l.map f) i=f (AJ l i):=by simp [AJ,List.getD,h]
theorem Cw(l:List Int)(i:Nat)(h:i<l.length):l[i]? =some (AJ l i):=by simp [AJ,List.getD,h]
theorem NV(l:List Int)(i:Nat)(h:l.length≤i):AJ l i=0:=by simp [AJ,List.getD,List.getElem?_eq_none h]
theorem EV{l m:List Int}(h:l.length=m.length)(k:∀i,i<l.length→AJ l i=AJ m i):l=m:=by
 apply List.ext_getElem h
 intro i h1 h2
 have:=k i h1
 simpa [AJ,List.getD,List.getElem?_eq_getElem h1,List.getElem?_eq_getElem h2] using this
theorem EH(n i:Nat):AJ (List.replicate n 0) i=0:=by unfold AJ;rw [List.getD_eq_getElem?_getD,List.getElem?_replicate];split<;>rfl
theorem Ga(n:Nat)(z:Int)(i:Nat)(h:i<n):AJ (List.replicate n z) i=z:=by simp [AJ,List.getD,h]
def Wl(n:Nat)(F:Nat→Int):List Int:=(List.range n).map F
theorem DS(n:Nat)(F:Nat→Int):(Wl n F).length=n:=by simp [Wl]
theorem Gb(n:Nat)(F:Nat→Int)(i:Nat)(h:i<n):AJ (Wl n F) i=F i:=by simp [Wl,AJ,List.getD,h]
theorem Hs{n:Nat}{F:Nat→Int}{l:List Int}(h:l.length=n)(k:∀i,i<n→AJ l i=F i):l=Wl n F:=EV (by rw [h,DS]) fun i hi=>by rw [k i (by omega),Gb n F i (by omega)]
section
variable{P:Program}{W w:World}{rs rs':List Ar}{Q:Exit→Act→World→Prop}{K:Act→World→Prop}{o:Oper}{a:Act}
theorem St.ownLen{e:TypeId}{s n c:Nat}{ad:Option Addr}{xs:List Value}(hS:St W w rs)(hp:AT (Go.Proofs.YtohacgmhmbijmaaGreatDoor.own e s ad n c xs) rs rs'):xs.length=n*s:=(hS.own hp).1
theorem MT{e:TypeId}{s n c g off m:Nat}{xs:List Value}(hS:St W w rs)(hp:AT (own e s (some ⟨g,0,none⟩) n c xs) rs rs'):w.rangeAt g off ((xs.drop off).take m):=fun j v hv=>by
 rw [List.getElem?_take] at hv
 split at hv
 ·rw [List.getElem?_drop] at hv;exact F7 hS hp hv
 cases hv
theorem Hv(hS:St W w rs)(ty:TypeId)(x:Operand)(ho:o.op= .load ty x)(g off:Nat)(hx:a.eval x= .pointer (some ⟨g,off,none⟩))(h1:Lj P ty)(e:TypeId)(s n c:Nat)(l:List Int)(hp:AT (own e s (some ⟨g,0,none⟩) n c (l.map (Value.int .i64))) rs rs')
 (hi:off<n*s) (h:K (a.put o.dst (.int .i64 (AJ l off))) w):o.wp P a w K Q:=by
 have hl:=hS.ownLen hp
 rw [List.length_map] at hl
 exact Ah hS ty x ho g off hx h1 e s n c _ hp _ (by rw [List.getElem?_map,Cw l off (by omega)];rfl) h
theorem Mp(hS:St W w rs)(ty:TypeId)(x:Operand)(ho:o.op= .load ty x)(g off:Nat)(hx:a.eval x= .pointer (some ⟨g,off,none⟩))(m:Nat)(h1:Ey P ty m)(e:TypeId)(s n c:Nat)(l:List Int)(hp:AT (own e s (some ⟨g,0,none⟩) n c (l.map (Value.int .i64))) rs rs')
 (hi:off+m≤n*s) (h:K (a.put o.dst (.agg (iv ((l.drop off).take m)))) w):o.wp P a w K Q:=by
 have hl:=hS.ownLen hp
 rw [List.length_map] at hl
 refine Eh ty x ho g off hx m h1 (((l.drop off).take m).map (Value.int .i64)) (by simp;omega) ?_ h
 have:=MT (off:=off) (m:=m) hS hp
 rwa [←List.map_drop,←List.map_take] at this
theorem Hw(hS:St W w rs)(ty:TypeId)(x:Operand)(ho:o.op= .load ty x)(g off:Nat)(hx:a.eval x= .pointer (some ⟨g,off,none⟩))(m:Nat)(h1:Ey P ty m)(e:TypeId)(s n c:Nat)(l:List Int)(hp:AT (own e s (some ⟨g,0,none⟩) n c (l.map (Value.int .i64))) rs rs')
 (hi:off+m≤n*s) (l':List Int) (hl':(l.drop off).take m=l') (h:K (a.put o.dst (.agg (iv l'))) w):o.wp P a w K Q:=
 Mp hS ty x ho g off hx m h1 e s n c l hp hi (by rw [hl'];exact h)
theorem Ts{e:TypeId}{s n c g off:Nat}{xs:List Value}(hS:St W w rs)(hp:AT (own e s (some ⟨g,0,none⟩) n c xs) rs rs')(v:Value)(hi:off<n*s):
 w.frozen? ⟨g,off,none⟩=false∧St W (w.setCell ⟨g,off,none⟩ v) (own e s (some ⟨g,0,none⟩) n c (xs.set off v)::rs'):=by
 have hown:=hS.own hp
 refine ⟨?_,?_⟩
 ·rcases hown.2 with ⟨h1,h2⟩|⟨g',cap,cur,h1,_,hg,_⟩
  ·cases h1
  cases h1;exact frozen_of_row w g off cur e hg
 refine St.change (rs1:=[own e s (some ⟨g,0,none⟩) n c (xs.set off v)]) (hS.pull hp) fun f1 h1 _ _=>?_
 obtain ⟨rfl,h1⟩:=h1
 refine ⟨[g],⟨[g],[],rfl,⟨rfl,by simpa using h1.1,?_⟩,rfl⟩,by simp,fun b hb=> .inl (by simpa [Value.ownBlock] using hb),Ek.setCell w ⟨g,off,none⟩ v⟩
 rcases h1.2 with ⟨h2,h3⟩|⟨g',cap,cur,h2,hb,hg,hn,hc,hsz,htake⟩
 ·cases h2
 cases h2
 refine .inr ⟨g,c,cur.setIfInBounds off v,rfl,hb,heap_setCell_same w g off cur e _ hg,hn,hc,by simpa using hsz,?_⟩
 rw [Array.toList_setIfInBounds,List.take_set,htake]
theorem LV(hS:St W w rs)(ty:TypeId)(x y:Operand)(ho:o.op= .store ty x y)(g off:Nat)(hx:a.eval x= .pointer (some ⟨g,off,none⟩))(h1:Lj P ty)(e:TypeId)(s n c:Nat)(xs:List Value)(hp:AT (own e s (some ⟨g,0,none⟩) n c xs) rs rs')
 (v:Value) (hy:DV (a.eval y) v) (hv:v.oneCell'=true) (hi:off<n*s) (hd:o.dst=none) (h:∀w',St W w' (own e s (some ⟨g,0,none⟩) n c (xs.set off v)::rs')→K a w'):o.wp P a w K Q:=by
 obtain ⟨hf,hS'⟩:=Ts hS hp v hi
 have hl:=hS.ownLen hp
 exact JH ty x y ho _ hx h1 v (xs[off]'(by omega)) hy.eq hv (F7 hS hp (by simp [hl,hi])) hf hd (h _ hS')
theorem Ji(hS:St W w rs)(ty:TypeId)(x y:Operand)(ho:o.op= .store ty x y)(g off:Nat)(hx:a.eval x= .pointer (some ⟨g,off,none⟩))(h1:Lj P ty)(e:TypeId)(s n c:Nat)(l:List Int)(hp:AT (own e s (some ⟨g,0,none⟩) n c (l.map (Value.int .i64))) rs rs')
 (z:Int) (hy:a.eval y= .int .i64 z) (hi:off<n*s) (hd:o.dst=none) (h:∀w',St W w' (own e s (some ⟨g,0,none⟩) n c ((l.set off z).map (Value.int .i64))::rs')→K a w'):o.wp P a w K Q:=
 LV hS ty x y ho g off hx h1 e s n c _ hp (.int .i64 z) (.int hy) rfl hi hd (by rw [List.map_set] at h;exact h)
theorem EK(hS:St W w rs)(ty:TypeId)(x:Operand)(ho:o.op= .load ty x)(b off:Nat)(hx:a.eval x= .pointer (some ⟨b,off,none⟩))(s:Nat)(h1:Ey P ty s)(l:List Int)(hl:Al l s)(hr:W.rangeAt b off (l.map (Value.int .i64)))
 (h:K (a.put o.dst (.agg (iv l))) w):o.wp P a w K Q:=
 Mr hS ty x ho b off hx s h1 (l.map (Value.int .i64)) hr (by rw [List.length_map];exact hl) h
end
section
variable{P:Program}{ops:Array Oper}{Q:Exit→Act→World→Prop}{rest:List Oper}{a:Act}{W w:World}{rs:List Ar}{d:Option Tmp}{x y:Operand}{t ty:TypeId}{pos:String}{af:Array Edge}{g:Option (Nat×Bool)}{k:IntKind}
theorem LX{ad:Option Addr}{n c j s:Nat}{l:List Int}{e:TypeId}{i:Int}(hv:Sl W s (.slice ad n c) n (l.map (Value.int .i64)))(ht:P.underlying t=some (.slice e))(hs:(P.info? e).map (·.size)=some s)(hx:a.eval x= .slice ad n c)(hy:a.eval y= .int k i)(hj:Bk i j)(hn:j<n)
 (hw:Region.wanted ⟨d, .indexAddr t x y,ty,pos,af,g⟩ (yielded ops a.tmps)=true)
 (h:∀b o,Al (Bi l s j) s→W.rangeAt b o ((Bi l s j).map (Value.int .i64))→(Oper.mk d (.move (.const (.pointer (some ⟨b,o,none⟩)))) ty pos af g).wp P a w (wpList P ops Q rest) Q):wpList P ops Q (⟨d, .indexAddr t x y,ty,pos,af,g⟩::rest) a w:=
 LY hv ht hs hx hy hj hn hw fun b o hr=>h b o (CP l s j n (by have:=hv.1;simpa using this) hn) (by unfold Bi;rw [List.map_take,List.map_drop];exact hr)
end
inductive Lo(a:Act):Option Operand→Nat→Prop
 | none:Lo a none 0
 | some {x:Operand} {k:IntKind} {i:Int} {j:Nat} (h:a.eval x= .int k i) (hj:Bk i j):Lo a (some x) j
inductive Up(a:Act)(n:Nat):Option Operand→Nat→Prop
 | none:Up a n none n
 | some {x:Operand} {k:IntKind} {i:Int} {j:Nat} (h:a.eval x= .int k i) (hj:Bk i j):Up a n (some x) j
section
variable{P:Program}{W w:World}{a:Act}{x:Operand}{t ty:TypeId}
theorem V.build{ps:List (Nat×Operand)}{vs:List (Nat×Value)}{v:Value}(hvs:ps.map (fun x=>(x.1,a.eval x.2))=vs)(hr:∀w,(Instr.build t vs.toArray).run P w= .ok v w):DW P (.build t ps.toArray) ty a v:=fun d pos af g w=>by
 have e:(ps.toArray).map (fun (x:Nat×Operand)=>(x.1,a.eval x.2))=vs.toArray:=by rw [←hvs];simp
 have e2:execOp a.eval ⟨d, .build t ps.toArray,ty,pos,af,g⟩=(do pure (.value (←Instr.build t ((ps.toArray).map fun (x:Nat×Operand)=>(x.1,a.eval x.2))))):=rfl
 rw [e2,e]
 simp only [Sem.run_bind,hr,Result.andThen_ok,Sem.run_pure]
def cutAt(ad:Option Addr)(c l s:Nat):Option Addr:=if c=l then ad else ad.map (·.add (l*s))
theorem V.slice{ad:Option Addr}{n c l h s:Nat}{e:TypeId}{lo hi:Option Operand}(ht:P.underlying t=some (.slice e))(hs:(P.info? e).map (·.size)=some s)(hx:a.eval x= .slice ad n c)(hl:Lo a lo l)(hh:Up a n hi h)(h1:l≤h)(h2:h≤c):
 DW P (.slice t x lo hi none) ty a (.slice (cutAt ad c l s) (h-l) (c-l)):=fun d pos af g w=>by
 have e0:P.elem t=e:=by simp [Program.elem,ht]
 have ht':P.underlying t=some (.slice (P.elem t)):=by rw [e0];exact ht
 have fin:∀{lv hv:Option Value},lo.map a.eval=lv→hi.map a.eval=hv→(Instr.slice t (.slice ad n c) lv hv none).run P w=((sizeOf (P.elem t)).run P w).andThen (fun s w=> .ok (sliced ad l h c s) w)→
  (execOp a.eval ⟨d, .slice t x lo hi none,ty,pos,af,g⟩).run P w= .ok (.value (.slice (cutAt ad c l s) (h-l) (c-l))) w:=by
  intro lv hv e1 e2 hr
  rw [e0,Bo w hs,Result.andThen_ok] at hr
  simp only [execOp,hx,e1,e2,Option.map_none,Sem.run_bind,run_sliceAt_slice w t _ lv hv none ht',hr,Result.andThen_ok,Sem.run_pure,sliced,cutAt]
 cases hl with
 | none=>cases hh with
   | none=>exact fin rfl rfl (run_slice_all w t ad n c ht')
   | @some y k2 i2 _ hy hj=>
     unfold Bk at hj
     subst hj
     have:=run_slice_h w t ad n c ht' k2 (h:Int) (by omega) (by omega)
     rw [Int.toNat_natCast] at this
     exact fin rfl (by rw [Option.map_some,hy]) this
 | @some y1 k1 i1 _ hy1 hj1=>
   unfold Bk at hj1
   subst hj1
   cases hh with
   | none=>
     have:=run_slice_l w t ad n c ht' k1 (l:Int) (by omega) (by omega)
     rw [Int.toNat_natCast] at this
     exact fin (by rw [Option.map_some,hy1]) rfl this
   | @some y k2 i2 _ hy hj=>
     unfold Bk at hj
     subst hj
     have:=run_slice_lh w t ad n c ht' k1 k2 (l:Int) (h:Int) (by omega) (by omega) (by omega)
     rw [Int.toNat_natCast,Int.toNat_natCast] at this
     exact fin (by rw [Option.map_some,hy1]) (by rw [Option.map_some,hy]) this
theorem Sl.cutAt{s n c:Nat}{ad:Option Addr}{cs:List Value}(hv:Sl w s (.slice ad n c) n cs)(l h:Nat)(h1:l≤h)(h2:h≤n):Sl w s (.slice (cutAt ad c l s) (h-l) (c-l)) (h-l) ((cs.drop (l*s)).take ((h-l)*s)):=by
 obtain ⟨hlen,a',c',e,hnc,hcm,hor⟩:=hv
 cases e
 have hhs:h*s≤n*s:=Nat.mul_le_mul_right s h2
 have hls:l*s≤h*s:=Nat.mul_le_mul_right s h1
 have hsub:(h-l)*s=h*s-l*s:=Nat.sub_mul h l s
 refine ⟨by simp;omega,_,_,rfl,by omega,by omega,?_⟩
 by_cases hz:h-l=0
 ·exact .inl hz
 rcases hor with h0|⟨b,off,rfl,hc⟩
 ·omega
 refine .inr ⟨b,off+l*s,?_,fun k hk=>?_⟩
 ·unfold Go.Proofs.YtohacgmhmbijmaaGreatDoor.cutAt
  rw [if_neg (by omega)]
  simp only [Option.map_some,Addr.add_mid]
 rw [Nat.add_assoc,hc (l*s+k) (by omega),List.getElem?_take,if_pos hk,List.getElem?_drop]
end
structure Gu(P:Program)(t e:TypeId)(k:IntKind)(s b:Nat):Prop where
 ht:P.underlying t=some (.slice e)
 ex:∃i z,P.info? e=some i∧i.zero=some z∧i.size=s∧i.bytes=b∧z.cells=Array.replicate s (.int k 0)
 pos:0<s
theorem Gu.mk'{P:Program}{t e:TypeId}{k:IntKind}{s b:Nat}(z:Value)(ht:P.underlying t=some (.slice e))(hi:(P.info? e).map (fun i=>(i.zero,i.size,i.bytes))=some (some z,s,b))(hz:z.cells=Array.replicate s (.int k 0))(hp:0<s):Gu P t e k s b:=by
 obtain ⟨i,h1,h2,h3,h4⟩:=info_parts hi
 exact ⟨ht,⟨i,z,h1,h2,h3,h4,hz⟩,hp⟩
theorem Qo(k:IntKind)(s m:Nat)(hs:0<s):(madeCells (Array.replicate s (Value.int k 0)) m).toList=(List.replicate m (0:Int)).map (Value.int k):=by
 apply List.ext_getElem?
 intro i
 by_cases hi:i<m
 ·have:i%s<s:=Nat.mod_lt i hs
  simp [madeCells,hi,this]
 simp [madeCells,hi]
section
variable{P:Program}{W w:World}{rs rs':List Ar}{Q:Exit→Act→World→Prop}{K:Act→World→Prop}{o:Oper}{a:Act}
theorem St.grown{W w w':World}{rs:List Ar}{r:Ar}{f:List Nat}(hS:St W w rs)(hg:w.grownBy w' none)(hr:r.holds w' f)(hn:f.Nodup)(hf:∀b∈f,w.heap.size≤b):St W w' (r::rs):=by
 have hE:Ai w w':=⟨hg.os,hg.tape,hg.output,hg.size,fun k hk=>hg.block k hk (by simp)⟩
 exact hS.call1 ⟨hE,f,hn,hf,f,[],by simp,hr,rfl⟩
theorem KD(hS:St W w rs)(t:TypeId)(x y:Operand)(ho:o.op= .makeSlice t x y)(e:TypeId)(k:IntKind)(s b:Nat)(el:Gu P t e k s b)(kx ky:IntKind)(n m:Nat)(i j:Int)(hx:a.eval x= .int kx i)(hy:a.eval y= .int ky j)(hi:Bk i n)(hj:Bk j m)(hnm:n=m)(hb:b*n≤281474976710656)(h63:n≤maxLen)
 (h:∀g w',St W w' (own e s (some ⟨g,0,none⟩) n n ((List.replicate (n*s) (0:Int)).map (Value.int k))::rs)→K (a.put o.dst (.slice (some ⟨g,0,none⟩) n n)) w'):o.wp P a w K Q:=by
 obtain ⟨ht,⟨info,z,h1,h2,h3,h4,h5⟩,hp⟩:=el
 subst hnm
 unfold Bk at hi hj
 subst hi;subst hj
 obtain ⟨w',hr,ho',hg⟩:=run_make_full (P:=P) w 0 t e info z s ht h1 h2 h3 kx ky n (by rw [h4];exact hb) h63 (Nat.zero_le _)
 rw [h5,Qo k s (n*s) hp] at ho'
 unfold Oper.wp execOp
 simp only [ho,hx,hy,Sem.run_bind,hr,Result.andThen_ok,Sem.run_pure]
 exact h _ _ (St.grown (f:=[w.heap.size]) hS hg ⟨rfl,ho'⟩ (by simp) (by simp))
end
section
variable{P:Program}{W w:World}{a:Act}{x:Operand}{t ty:TypeId}
theorem V.sliceA{b off N l h s q m c:Nat}{e:TypeId}{lo hi:Option Operand}(ht:P.underlying t=some (.array N e))(hs:(P.info? e).map (·.size)=some s)(hx:a.eval x= .pointer (some ⟨b,off,none⟩))(hl:Lo a lo l)(hh:Up a N hi h)(h1:l≤h)(h2:h≤N)(h3:l<N)(hq:off+l*s=q)(hm:h-l=m)(hc:N-l=c):
 DW P (.slice t x lo hi none) ty a (.slice (some ⟨b,q,none⟩) m c):=fun d pos af g w=>by
 subst hm;subst hc
 have e0:P.elem t=e:=by simp [Program.elem,ht]
 have e1:P.arrayLen t=N:=by simp [Program.arrayLen,ht]
 have ht':P.underlying t=some (.array (P.arrayLen t) (P.elem t)):=by rw [e0,e1];exact ht
 have fin:∀{lv hv:Option Value},lo.map a.eval=lv→hi.map a.eval=hv→(Instr.sliceAt t (.pointer (some ⟨b,off,none⟩)) lv hv none).run P w=((sizeOf (P.elem t)).run P w).andThen (fun s w=> .ok (slicedAt ⟨b,off,none⟩ l h N s) w)→
  (execOp a.eval ⟨d, .slice t x lo hi none,ty,pos,af,g⟩).run P w= .ok (.value (.slice (some ⟨b,q,none⟩) (h-l) (N-l))) w:=by
  intro lv hv e1 e2 hr
  rw [e0,Bo w hs,Result.andThen_ok] at hr
  have e3:slicedAt (⟨b,off,none⟩:Addr) l h N s= .slice (some ⟨b,q,none⟩) (h-l) (N-l):=by
   unfold slicedAt
   rw [if_neg (by omega)]
   simp only [Addr.add_mid,hq]
  simp only [execOp,hx,e1,e2,Option.map_none,Sem.run_bind,hr,Result.andThen_ok,Sem.run_pure,e3]
 cases hl with
 | none=>cases hh with
   | none=>exact fin rfl rfl (by have:=run_sliceAt_array_all (P:=P) w t ⟨b,off,none⟩ ht';rwa [e1] at this)
   | @some y k2 i2 _ hy hj=>
     unfold Bk at hj
     subst hj
     have:=run_sliceAt_array_h (P:=P) w t ⟨b,off,none⟩ ht' k2 (h:Int) (by omega) (by omega)
     rw [Int.toNat_natCast,e1] at this
     exact fin rfl (by rw [Option.map_some,hy]) this
 | @some y1 k1 i1 _ hy1 hj1=>
   unfold Bk at hj1
   subst hj1
   cases hh with
   | none=>
     have:=run_sliceAt_array_l (P:=P) w t ⟨b,off,none⟩ ht' k1 (l:Int) (by omega) (by omega)
     rw [Int.toNat_natCast,e1] at this
     exact fin (by rw [Option.map_some,hy1]) rfl this
   | @some y k2 i2 _ hy hj=>
     unfold Bk at hj
     subst hj
     have:=run_sliceAt_array_lh (P:=P) w t ⟨b,off,none⟩ ht' k1 k2 (l:Int) (h:Int) (by omega) (by omega) (by omega)
     rw [Int.toNat_natCast,Int.toNat_natCast,e1] at this
     exact fin (by rw [Option.map_some,hy1]) (by rw [Option.map_some,hy]) this
structure aI(P:Program)(t:TypeId)(n:Nat):Prop where
 guard:P.eqGuardType P.depth t=false
 eq:∀(l m:List Int)(w:World),l.length=n→m.length=n→(Op.equal t (.agg (iv l)) (.agg (iv m))).run P w= .ok (decide (l=m)) w
theorem V.neqA{y:Operand}{u:TypeId}{l m:List Int}{n:Nat}(ht:aI P t n)(hx:a.eval x= .agg (iv l))(hy:a.eval y= .agg (iv m))(hl:Al l n)(hm:Al m n):DW P (.binOp .neq t x y u) ty a (.bool (decide (l≠m))):=fun d pos af g w=>by
 have e:=ht.eq l m w hl hm
 have e1:(eqGuard .neq t x y (.agg (iv l)) (.agg (iv m))).run P w= .ok () w:=by
  unfold eqGuard
  have hp:∀w:World,(program:Sem Program).run P w= .ok P w:=fun w=>rfl
  simp [Sem.run_bind,ht.guard,hp]
 have e2:(binOp .neq t (.agg (iv l)) (.agg (iv m))).run P w= .ok (.bool (decide (l≠m))) w:=by
  have:binOp .neq t (.agg (iv l)) (.agg (iv m))=(do pure (.bool (!(←Op.equal t (.agg (iv l)) (.agg (iv m)))))):=rfl
  rw [this]
  simp only [Sem.run_bind,e,Result.andThen_ok,Sem.run_pure,ne_eq,decide_not]
 simp only [execOp,hx,hy,Sem.run_bind,e1,Result.andThen_ok,e2,Sem.run_pure]
theorem V.shrB{yk k:IntKind}{y:Operand}{u:TypeId}{m n:Int}{j N:Nat}(hx:a.eval x= .int k m)(hy:a.eval y= .int yk n)(hj:Bk n j)(h:j≤N)(hk:k.bits=N):DW P (.binOp .shr t x y u) ty a (.int k (m/2^j)):=fun d pos af g w=>by
 unfold Bk at hj
 subst hk
 have e:m.fdiv (2^j)=m/2^j:=Int.fdiv_eq_ediv_of_nonneg _ (Int.pow_nonneg (by omega))
 have h0:¬n<0:=by omega
 have hm:Min.min n.toNat k.bits=j:=by omega
 simp only [execOp,hx,hy,binOp_shr,Op.shift,eqGuard,if_neg h0,hm,e];rfl
end
section
variable{W w:World}{rs rs':List Ar}
theorem St.isl{g n:Nat}{l:List Int}(hS:St W w rs)(p:AT (Go.Proofs.YtohacgmhmbijmaaGreatDoor.arr g n l) rs rs')(hn:n≤9223372036854775807):OG w (.slice (some ⟨g,0,none⟩) n n) l:=
 OG.of_row (hS.arr p).1 (hS.arr p).2 (by unfold maxLen;omega)
end
theorem DM(k:IntKind)(l:List Int)(a:Int):l.map (Value.int k)++[Value.int k a]=(l++[a]).map (Value.int k):=by simp
theorem DN(k:IntKind)(l:List Int)(a b:Int):l.map (Value.int k)++[Value.int k a,Value.int k b]=(l++[a,b]).map (Value.int k):=by simp
theorem DO(k:IntKind)(l:List Int)(a b c:Int):l.map (Value.int k)++[Value.int k a,Value.int k b,Value.int k c]=(l++[a,b,c]).map (Value.int k):=by simp
theorem DP(k:IntKind)(l:List Int)(a b c d:Int):l.map (Value.int k)++[Value.int k a,Value.int k b,Value.int k c,Value.int k d]=(l++[a,b,c,d]).map (Value.int k):=by simp
theorem DQ(k:IntKind)(l m:List Int):l.map (Value.int k)++m.map (Value.int k)=(l++m).map (Value.int k):=by simp
theorem CO{l:List Value}(h:l.all (·.oneCell')=true):∀u∈l,u.oneCell'=true:=List.all_eq_true.1 h
theorem Bu(k:IntKind)(l:List Int):∀u∈l.map (Value.int k),u.oneCell'=true:=fun u hu=>by
 obtain ⟨x,_,rfl⟩:=List.mem_map.1 hu;rfl
theorem St.nilk{W w:World}{rs:List Ar}(h:St W w rs)(e:TypeId)(s:Nat)(k:IntKind):St W w (Go.Proofs.YtohacgmhmbijmaaGreatDoor.own e s none 0 0 (([]:List Int).map (Value.int k))::rs):=h.nil e s
def D8(l m:List Int):Nat→Nat→Bool
 | _,0=>true
 | k,n+1=>(AJ l k==AJ m k)&&D8 l m (k+1) n
theorem JL(l m:List Int):∀n k,D8 l m k n=true↔∀i,i<n→AJ l (k+i)=AJ m (k+i)
 | 0,k=>by simp [D8]
 | n+1,k=>by
   rw [D8,Bool.and_eq_true,JL l m n (k+1)]
   constructor
   ·intro ⟨h1,h2⟩ i hi
    cases i with
    | zero=>simpa using h1
    | succ i=>have:=h2 i (by omega);rwa [show k+(i+1)=k+1+i by omega]
   intro h
   refine ⟨by simpa using h 0 (by omega),fun i hi=>?_⟩
   have:=h (i+1) (by omega)
   rwa [show k+1+i=k+(i+1) by omega]
theorem aI.struct{P:Program}{t:TypeId}{fs:Array Field}{n:Nat}(hg:P.eqGuardType P.depth t=false)(ht:P.underlying t=some (.struct fs))(hsi:P.stoodInHeld t=false)(hn:fs.toList.length=n)
 (hf:∀(i:Nat)(f:Field),fs.toList[i]? =some f→f.name≠ "_" ∧f.offset=i∧P.underlying f.type=some (.int .i64)):aI P t n:=
 ⟨hg,fun l m w hl hm=>by
  have he:(Op.equal t (.agg (iv l)) (.agg (iv m))).run P w= .ok (D8 l m 0 n) w:=by
   unfold Op.equal
   rw [show Op.maxDepth=(Op.maxDepth-2)+1+1 from rfl,Op.equalIn]
   have hp:(program:Sem Program).run P w= .ok P w:=rfl
   simp only [Sem.run_bind,run_underlying ht,Result.andThen_ok,hp,hsi,Bool.false_eq_true,if_false]
   rw [←Array.forIn_toList]
   have hlen:fs.toList.length=n:=hn
   have hf':∀(i:Nat)(f:Field),fs.toList[i]? =some f→f.name≠ "_" ∧f.offset=0+i∧P.underlying f.type=some (.int .i64):=fun i f h=>by rw [Nat.zero_add];exact hf i f h
   have hk:0+fs.toList.length=n:=by omega
   rw [show D8 l m 0 n=D8 l m 0 fs.toList.length by rw [hlen]]
   generalize fs.toList=L at hf' hk
   generalize 0=k at hf' hk⊢
   clear hlen hf hn
   induction L generalizing k with
   | nil=>simp [D8]
   | cons f L ih=>
     obtain ⟨h1,h2,h3⟩:=hf' 0 f rfl
     rw [Nat.add_zero] at h2
     simp only [List.length_cons] at hk
     have px:(part f.type (iv l) f.offset).run P w= .ok (.int .i64 (AJ l k)) w:=by
      rw [FC,h2,Fz l k (by omega)]
      simp [isAgg,run_underlying h3]
     have py:(part f.type (iv m) f.offset).run P w= .ok (.int .i64 (AJ m k)) w:=by
      rw [FC,h2,Fz m k (by omega)]
      simp [isAgg,run_underlying h3]
     have pe:(Op.equalIn (Op.maxDepth-2+1) f.type (.int .i64 (AJ l k)) (.int .i64 (AJ m k))).run P w= .ok (AJ l k==AJ m k) w:=
      run_equalIn_int w _ f.type .i64 .i64 _ _ h3
     simp only [List.forIn_cons,Sem.run_bind,h1,ne_eq,not_false_eq_true,if_true,px,py,pe,Result.andThen_ok,D8,List.length_cons]
     cases hb:(AJ l k==AJ m k)
     ·simp
     simp only [Bool.not_true,Bool.false_eq_true,if_false,Sem.run_pure,Result.andThen_ok,Bool.true_and]
     exact ih (k+1) (fun i f h=>by have:=hf' (i+1) f (by simpa using h);rwa [show k+(i+1)=k+1+i by omega] at this) (by omega)
  rw [he]
  congr 1
  rw [Bool.eq_iff_iff,JL,decide_eq_true_eq]
  constructor
  ·intro h;exact EV (by omega) fun i hi=>by have:=h i (by omega);rwa [Nat.zero_add] at this
  intro h i _;rw [h]⟩
theorem St.allocOwn{W w:World}{rs:List Ar}(h:St W w rs)(e:TypeId)(s n:Nat)(cs:List Value)(hl:cs.length=n*s)(hn:n≤maxLen):St W (w.alloc (.cells cs.toArray e)) (Go.Proofs.YtohacgmhmbijmaaGreatDoor.own e s (some ⟨w.heap.size,0,none⟩) n n cs::rs):=by
 have ht:cs.toArray.toList.take (n*s)=cs:=by rw [←hl];simp
 obtain ⟨h1,f,h2,h3,h4⟩:=h
 refine ⟨h1.alloc _,w.heap.size::f,List.nodup_cons.2 ⟨fun hm=>by have:=h4.lt _ hm;omega,h2⟩,fun b hb=>?_,[w.heap.size],f,rfl,⟨rfl,hl, .inr ⟨w.heap.size,n,cs.toArray,rfl,Nat.zero_le _,heap_alloc_new w _,Nat.le_refl _,hn,by simpa using hl,ht⟩⟩,h4.loc fun b hb=>?_⟩
 ·rcases List.mem_cons.1 hb with h|h
  ·rw [h];exact h1.sz
  exact h3 b h
 exact heap_alloc_old w _ (h4.lt b hb)
section
variable{P:Program}{W w:World}{rs rs':List Ar}{Q:Exit→Act→World→Prop}{K:Act→World→Prop}{o:Oper}{a:Act}
theorem DT(hS:St W w rs)(t:TypeId)(n:Nat)(ps:List (Nat×Operand))(ho:o.op= .buildSlice t n ps.toArray)(e:TypeId)(s b:Nat)(el:CA P t e s b)(vs cs:List Value)(hvs:AW a s 0 ps vs cs)(hn:vs.length=n)(hn0:0<n)(hns:n*s≤2^24)
 (h:∀g w',St W w' (own e s (some ⟨g,0,none⟩) n n cs::rs)→K (a.put o.dst (.slice (some ⟨g,0,none⟩) n n)) w'):o.wp P a w K Q:=by
 obtain ⟨ht,⟨i,z,hi,hz,rfl,hb,hzs⟩,hp⟩:=el
 obtain ⟨h1,h2,hcs,hsz⟩:=hvs.vals
 have hns':0<n*i.size:=Nat.mul_pos hn0 hp
 have hnm:n≤maxLen:=by
  have:n*1≤n*i.size:=Nat.mul_le_mul_left _ hp
  unfold maxLen;omega
 have hcl:∀us:List Value,(∀v∈us,v.cells.size=i.size)→(us.flatMap (·.cells.toList)).length=us.length*i.size:=by
  intro us
  induction us with
  | nil=>intro _;simp
  | cons u us ih=>
    intro hu
    have h1:=hu u (by simp)
    rw [List.flatMap_cons,List.length_append,ih fun v hv=>hu v (by simp [hv]),List.length_cons,Nat.add_mul,Nat.one_mul,Array.length_toList,h1,Nat.add_comm]
 have hcl':cs.length=n*i.size:=by rw [←hcs,hcl vs hsz,hn]
 refine Go.wp_buildSlice t e n ps.toArray ho (cs.toArray) i z ht hi hz (by omega) (by omega) ?_ (h _ _ (hS.allocOwn e i.size n cs hcl' hnm))
 have h3:=Kb i.size vs 0 [] (((List.range (n*i.size)).map (fun j=>z.cells[j%z.cells.size]!))) (by simp) (by simp [hn]) hsz
 simp only [List.nil_append] at h3
 rw [←hcs]
 have e1:(Array.map (fun x:Nat×Operand=>(x.1,a.eval x.2)) ps.toArray).toList=(vs.zipIdx 0).map fun x=>(x.2,x.1):=by
  rw [←h1];simp
 rw [e1]
 rw [←h3]
 congr 1
 apply Array.ext_getElem?
 intro j
 simp only [Array.getElem?_map,Array.getElem?_range,List.getElem?_toArray,List.getElem?_map]
 by_cases hj:j<n*i.size
 ·simp [hj]
 simp [hj]
end
end Go.Proofs.YtohacgmhmbijmaaGreatDoor
namespace Go.Proofs.YtohacgmhmbijmaaGreatDoor
attribute [local irreducible] Region.wanted
set_option linter.unusedVariables false
set_option maxRecDepth 100000
set_option maxHeartbeats 8000000
theorem ew:aI Tryz.prog 154 3:=aI.struct AA Tryz.underlying154 AA rfl (fun i f h=>by
 match i,h with
 | 0,h=>cases h;exact ⟨by decide,rfl,Tryz.underlying3⟩
 | 1,h=>cases h;exact ⟨by decide,rfl,Tryz.underlying3⟩
 | 2,h=>cases h;exact ⟨by decide,rfl,Tryz.underlying3⟩
 | i+3,h=>cases h)
theorem bw:aI Tryz.prog 155 3:=aI.struct AA Tryz.underlying155 AA rfl (fun i f h=>by
 match i,h with
 | 0,h=>cases h;exact ⟨by decide,rfl,Tryz.underlying3⟩
 | 1,h=>cases h;exact ⟨by decide,rfl,Tryz.underlying3⟩
 | 2,h=>cases h;exact ⟨by decide,rfl,Tryz.underlying3⟩
 | i+3,h=>cases h)
theorem VI:Gu Tryz.prog 30 3 .i64 1 8:=Gu.mk' (.int .i64 0) Tryz.underlying30 AA AA (by decide)
theorem eA:Gu Tryz.prog 35 5 .u8 1 1:=Gu.mk' (.int .u8 0) Tryz.underlying35 AA AA (by decide)
theorem eB:Gu Tryz.prog 42 26 .i64 64 512:=Gu.mk' (.agg #[.int .i64 0, .int .i64 0, .int .i64 0, .int .i64 0, .int .i64 0, .int .i64 0, .int .i64 0, .int .i64 0, .int .i64 0, .int .i64 0, .int .i64 0, .int .i64 0, .int .i64 0, .int .i64 0, .int .i64 0, .int .i64 0, .int .i64 0, .int .i64 0, .int .i64 0, .int .i64 0, .int .i64 0, .int .i64 0, .int .i64 0, .int .i64 0, .int .i64 0, .int .i64 0, .int .i64 0, .int .i64 0, .int .i64 0, .int .i64 0, .int .i64 0, .int .i64 0, .int .i64 0, .int .i64 0, .int .i64 0, .int .i64 0, .int .i64 0, .int .i64 0, .int .i64 0, .int .i64 0, .int .i64 0, .int .i64 0, .int .i64 0, .int .i64 0, .int .i64 0, .int .i64 0, .int .i64 0, .int .i64 0, .int .i64 0, .int .i64 0, .int .i64 0, .int .i64 0, .int .i64 0, .int .i64 0, .int .i64 0, .int .i64 0, .int .i64 0, .int .i64 0, .int .i64 0, .int .i64 0, .int .i64 0, .int .i64 0, .int .i64 0, .int .i64 0]) Tryz.underlying42 AA AA (by decide)
end Go.Proofs.YtohacgmhmbijmaaGreatDoor
namespace Go.Proofs.YtohacgmhmbijmaaGreatDoor
attribute [local irreducible] Region.wanted
open Go.RowKit
set_option linter.unusedVariables false
set_option maxRecDepth 100000
set_option maxHeartbeats 8000000
section
variable{P:Program}{W w:World}{rs rs':List Ar}{tmps:Array Value}
def Qz(tmps:Array Value):ResultVar→Sem Value
 | .tmp t=>pure (tmps.getD t undef)
 | .cell a t=>do loadVar t (←asAddr (tmps.getD a undef))
def AC(P:Program)(tmps:Array Value)(w:World)(r:ResultVar)(v:Value):Prop:=(Qz tmps r).run P w= .ok v w
theorem AC.tmp{t:Tmp}{v:Value}(h:tmps.getD t undef=v):AC P tmps w (.tmp t) v:=by
 show (pure (tmps.getD t undef):Sem Value).run P w= .ok v w
 rw [h];rfl
theorem AC.row{p g n:Nat}{ty:TypeId}{cs:List Value}(hp:tmps.getD p undef= .pointer (some ⟨g,0,none⟩))(h1:Ey P ty n)(hn:cs.length=n)(hc:w.rangeAt g 0 cs):AC P tmps w (.cell p ty) (.agg cs.toArray):=by
 show (do loadVar ty (←asAddr (tmps.getD p undef)):Sem Value).run P w= .ok (.agg cs.toArray) w
 rw [hp]
 obtain ⟨hr,hs⟩:=h1
 cases hu:P.underlying ty with
 | none=>rw [hu] at hr;cases hr
 | some d=>
   rw [hu,Option.map_some,Option.some.injEq] at hr
   exact run_loadVar_mid (P:=P) w g 0 ty cs d hc hu hr (by rw [hs,hn])
theorem AC.arr{p g n:Nat}{ty:TypeId}{l:List Int}(hS:St W w rs)(hp:tmps.getD p undef= .pointer (some ⟨g,0,none⟩))(h1:Ey P ty n)(pl:AT (Go.Proofs.YtohacgmhmbijmaaGreatDoor.arr g n l) rs rs'):AC P tmps w (.cell p ty) (.agg (iv l)):=by
 obtain ⟨hr,hn⟩:=hS.arr pl
 exact AC.row (cs:=l.map (Value.int .i64)) hp h1 (by simpa using hn) hr.range
theorem AC.blk{p g n:Nat}{ty:TypeId}{cs:List Value}(hS:St W w rs)(hp:tmps.getD p undef= .pointer (some ⟨g,0,none⟩))(h1:Ey P ty n)(pl:AT (Go.Proofs.YtohacgmhmbijmaaGreatDoor.blk g cs) rs rs')(hn:cs.length=n):AC P tmps w (.cell p ty) (.agg cs.toArray):=
 AC.row hp h1 hn (hS.blk pl).1.range
inductive EM(P:Program)(tmps:Array Value)(w:World):List ResultVar→List Value→Prop
 | nil:EM P tmps w [] []
 | cons {r:ResultVar} {v:Value} {rs:List ResultVar} {vs:List Value} (h:AC P tmps w r v) (t:EM P tmps w rs vs):EM P tmps w (r::rs) (v::vs)
theorem EM.run{rs:List ResultVar}{vs:List Value}(h:EM P tmps w rs vs):(rs.mapM (Qz tmps)).run P w= .ok vs w:=by
 induction h with
 | nil=>rfl
 | @cons r v rs vs h t ih=>
   rw [List.mapM_cons]
   have h':=h
   unfold AC at h'
   simp only [Sem.run_bind]
   rw [h',Result.andThen_ok,ih,Result.andThen_ok]
   rfl
theorem Hm{fn:Func}{xs:List ResultVar}{vs:List Value}(hr:fn.results=xs.toArray)(h:EM P tmps w xs vs):
 (results fn tmps).run P w= .ok (if h:vs.toArray.size=1 then vs.toArray[0] else .tuple vs.toArray) w:=by
 have e:results fn tmps=(do
  let vs ←fn.results.mapM (Qz tmps)
  pure (if h:vs.size=1 then vs[0] else .tuple vs)):=by
  unfold results
  congr 1
 have h2:=h.run
 rw [e,hr,List.mapM_toArray,Sem.run_bind,Sem.run_map,h2]
 rfl
theorem AK{fn:Func}{R:Ending→World→Prop}{a:Act}{xs:List ResultVar}{vs:List Value}(hr:fn.results=xs.toArray)(h:EM P a.tmps w xs vs)(hl:vs.length≠1)(hd:a.defers=[])(hR:R (.returned (.tuple vs.toArray)) w):bodyPost P fn R .ret a w:=by
 refine bodyPost_ret (v:= .tuple vs.toArray) ?_ hd hR
 rw [Hm hr h,dif_neg (by simpa using hl)]
theorem BQ{fn:Func}{R:Ending→World→Prop}{a:Act}{x:ResultVar}{v:Value}(hr:fn.results=#[x])(h:AC P a.tmps w x v)(hd:a.defers=[])(hR:R (.returned v) w):bodyPost P fn R .ret a w:=by
 refine bodyPost_ret (v:=v) ?_ hd hR
 rw [Hm (xs:=[x]) hr (EM.cons h EM.nil)]
 rfl
end
section
variable{P:Program}{w:World}{Q:Exit→Act→World→Prop}{K:Act→World→Prop}{o:Oper}{a:Act}
theorem BJ{f:FuncId}{x:Operand}{xs:List Operand}{ats:Array TypeId}{caps:Array Value}(ho:o.op= .call {callee:= .value x,args:=xs.toArray,argTypes:=ats})(hx:a.eval x= .func (.func f) #[] caps)
 (hcall:∀(args:Array Value)(w:World),(callFunc f args).run P w= .ok (.enter f args) w)
 {R:Ending→World→Prop} (hc:Calls P f ((xs.map a.eval).toArray++caps) w R) (h:∀e w',R e w'→∃v,e= .returned v∧K (a.put o.dst v) w'):o.wp P a w K Q:=by
 have e1:(execOp a.eval o).run P w=(callFunc f ((xs.map a.eval).toArray++caps)).run P w:=by
  unfold execOp
  rw [ho]
  have e2:(#[]++(xs.toArray).map a.eval++caps:Array Value)=(xs.map a.eval).toArray++caps:=by simp
  rw [←e2]
  simp only [resolve,hx]
  rfl
 unfold Oper.wp
 rw [e1,hcall,Oper.upon_enter]
 refine hc.mono fun e w' hR=>?_
 obtain ⟨v,rfl,h2⟩:=h e w' hR
 exact h2
theorem B5{m:String}{x:Operand}{xs:List Operand}{ats:Array TypeId}(ho:o.op= .call {callee:= .invoke x m,args:=xs.toArray,argTypes:=ats})(v:Value)(hx:a.eval x=v)(vs:List Value)(hvs:xs.map a.eval=vs)(f:FuncId)(args:Array Value)
 (hcall:∀(w:World),(invoke (.fn (.method m) #[]) (v::vs).toArray).run P w= .ok (.enter f args) w)
 {R:Ending→World→Prop} (hc:Calls P f args w R) (h:∀e w',R e w'→∃v,e= .returned v∧K (a.put o.dst v) w'):o.wp P a w K Q:=by
 have e1:(execOp a.eval o).run P w=(invoke (.fn (.method m) #[]) (v::vs).toArray).run P w:=by
  unfold execOp
  rw [ho]
  have e2:(#[a.eval x]++(xs.toArray).map a.eval:Array Value)=(v::vs).toArray:=by simp [hx,hvs]
  rw [←e2]
  simp only [resolve]
  rfl
 unfold Oper.wp
 rw [e1,hcall,Oper.upon_enter]
 refine hc.mono fun e w' hR=>?_
 obtain ⟨v,rfl,h2⟩:=h e w' hR
 exact h2
end
theorem E9(m0:Int)(m1:Int)(m2:Int)(m3:Int)(m4:Int)(m5:Int)(m6:Int)(m7:Int)(m8:Int)(w:World):(Instr.build 203 #[(0, .int .i64 m0),(1, .int .i64 m1),(2, .int .i64 m2),(3, .int .i64 m3),(4, .int .i64 m4),(5, .int .i64 m5),(6, .int .i64 m6),(7, .int .i64 m7),(8, .int .i64 m8)]).run Tryz.prog w= .ok (.agg #[.int .i64 m0, .int .i64 m1, .int .i64 m2, .int .i64 m3, .int .i64 m4, .int .i64 m5, .int .i64 m6, .int .i64 m7, .int .i64 m8]) w:=by kernel_rfl
theorem Zu(w:World):(Instr.build 26 #[]).run Tryz.prog w= .ok (.agg (iv ((List.replicate 64 0)))) w:=by kernel_rfl
def tq(k:Int):Int:=AJ [4096,4017,3784,3406,2896,2276,1567,799,0] k.toNat
def Mj(k:Int):Int:=if 16<k then (if 8<32-k then-tq (16-(32-k)) else tq (32-k)) else if 8<k then-tq (16-k) else tq k
def Lm(u x:Int):Int:=if u=0 then 2896 else Mj (u*(2*x+1)%32)
theorem Pn(k:Int): -4096≤tq k∧tq k≤4096:=by
 unfold tq
 have:∀l:List Int,(∀x∈l,-4096≤x∧x≤4096)→∀i,-4096≤AJ l i∧AJ l i≤4096:=fun l hl i=>by
  by_cases hi:i<l.length
  ·have:=hl _ (List.getElem_mem hi)
   simpa [AJ,List.getD,hi] using this
  rw [NV l i (by omega)];omega
 exact this _ (by decide) _
theorem Wo(k:Int): -4096≤Mj k∧Mj k≤4096:=by
 have h1:=Pn (16-(32-k))
 have h2:=Pn (32-k)
 have h3:=Pn (16-k)
 have h4:=Pn k
 unfold Mj
 split
 ·split<;>omega
 split<;>omega
theorem Ra(u x:Int): -4096≤Lm u x∧Lm u x≤4096:=by
 unfold Lm
 split
 ·omega
 exact Wo _
theorem Po(w0:World)(k:Int)(h:0≤k∧k≤8):Calls Tryz.prog 117 #[.int .i64 k] w0 fun e w=>e= .returned (.int .i64 (tq k))∧Ai w0 w:=by
 have hS:=St.start w0
 obtain rfl|rfl|rfl|rfl|rfl|rfl|rfl|rfl|rfl:k=0∨k=1∨k=2∨k=3∨k=4∨k=5∨k=6∨k=7∨k=8:=by omega
 all_goals
  go_enter Tryz.func117,Tryz.ntmps117
  repeat' (first
   | refine X0 ?_|refine bF 4 ?_|refine H3 ?_|(refine AQ 19 ?_);(refine An AA (V.indexAr Tryz.underlying203 ET rfl rfl A9 (by omega) (Nat.mul_one _) A7) ?_;go_step)|refine aM 3 ?_;clear hS;intro g3 w hS|refine aQ ?_;clear hS;intro w hS|refine X9 ?_|refine AG ?_;go_step|fail)
  go_ret
  exact ⟨rfl,hS.1⟩
theorem Pp(w0:World)(k:Int)(h:0≤k∧k≤16):Calls Tryz.prog 117 #[.int .i64 k] w0 fun e w=>e= .returned (.int .i64 (if 8<k then-tq (16-k) else tq k))∧Ai w0 w:=by
 by_cases h8:8<k
 ·rw [if_pos h8]
  have hS:=St.start w0
  have hb:=Pn (16-k)
  go_enter Tryz.func117,Tryz.ntmps117
  repeat' (first
   | (refine As 117 ?_);refine At AA Tryz.call117 (Po _ (16-k) (by omega)) (Fp hS ?_);clear hS;intro w hS;go_step|refine X0 ?_|refine bF 4 ?_|refine H3 ?_|refine YE ?_|(with_reducible refine Ak _ (.unOp .neg _ _) ?_);(refine An AA (V.neg rfl (by omega)) ?_;go_step)|refine aM 3 ?_;clear hS;intro g3 w hS|refine aQ ?_;clear hS;intro w hS|refine AG ?_;go_step|fail)
  go_ret
  exact ⟨rfl,hS.1⟩
 rw [if_neg h8]
 exact Po w0 k (by omega)
theorem Wp(w0:World)(k:Int)(h:0≤k∧k≤31):Calls Tryz.prog 117 #[.int .i64 k] w0 fun e w=>e= .returned (.int .i64 (Mj k))∧Ai w0 w:=by
 unfold Mj
 by_cases h16:16<k
 ·rw [if_pos h16]
  have hS:=St.start w0
  obtain ⟨tv,hV⟩:∃tv,(if 8<32-k then-tq (16-(32-k)) else tq (32-k))=tv:=⟨_,rfl⟩
  have HV:=AD hV
  rw [hV]
  clear hV
  go_enter Tryz.func117,Tryz.ntmps117
  repeat' (first
   | (refine As 117 ?_);refine At AA Tryz.call117 (Pp _ (32-k) (by omega)) ?_;rintro e w ⟨rfl,hE⟩;replace hS:=hS.ext hE;clear hE;rw [HV.out];refine Ac ?_;go_step|refine X0 ?_|refine bF 4 ?_|refine H3 ?_|refine YE ?_|refine aM 3 ?_;clear hS;intro g3 w hS|refine aQ ?_;clear hS;intro w hS|refine AG ?_;go_step|fail)
  go_ret
  exact ⟨rfl,hS.1⟩
 rw [if_neg h16]
 exact Pp w0 k (by omega)
theorem MG(w0:World)(u x:Int)(hu:0≤u∧u≤7)(hx:0≤x∧x≤7):Calls Tryz.prog 80 #[.int .i64 u, .int .i64 x] w0 fun e w=>e= .returned (.int .i64 (Lm u x))∧Ai w0 w:=by
 have hS:=St.start w0
 unfold Lm
 by_cases h0:u=0
 ·subst h0
  rw [if_pos rfl]
  go_enter Tryz.func80,Tryz.ntmps80
  repeat' (first
   | refine X0 ?_|refine XB ?_|refine AG ?_;go_step|fail)
  go_ret
  exact ⟨rfl,hS.1⟩
 rw [if_neg h0]
 obtain ⟨k0,k1⟩:=ED u (2*x+1) 7 15 (by omega) (by omega)
 have k2:0≤u*(2*x+1):=Int.mul_nonneg (by omega) (by omega)
 obtain ⟨p,hp⟩:∃p,u*(2*x+1)=p:=⟨_,rfl⟩
 rw [hp] at k0 k1 k2⊢
 go_enter Tryz.func80,Tryz.ntmps80
 repeat' (first
  | (refine AQ 11 ?_);(refine Ag (.int _ (p)) (V.as (V.mulI rfl rfl (by omega)) (by omega)) (by kernel_rfl) ?_;go_step)|(refine As 117 ?_);refine At AA Tryz.call117 (Wp _ (p%32) (by omega)) (Fp hS ?_);clear hS;intro w hS;go_step|refine X0 ?_|refine XB ?_|refine Uh ?_|refine X7 ?_|(with_reducible refine Ak _ (.binOp .rem _ _ _ _) ?_);(refine An AA (V.rem rfl rfl (by omega) (by omega)) ?_;go_step)|refine AG ?_;go_step|fail)
 go_ret
 exact ⟨rfl,hS.1⟩
end Go.Proofs.YtohacgmhmbijmaaGreatDoor
