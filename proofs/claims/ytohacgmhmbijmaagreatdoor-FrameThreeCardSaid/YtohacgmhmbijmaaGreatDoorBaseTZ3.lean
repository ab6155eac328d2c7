/- What the laws FrameThree need, part 3. -/
import Derived.Test.YtohacgmhmbijmaaGreatDoorBaseTZ1
import Derived.Test.YtohacgmhmbijmaaGreatDoorBaseTZ2
import Derived.Test.YtohacgmhmbijmaaGreatDoorProg
namespace Go.Proofs.YtohacgmhmbijmaaGreatDoor
open Go.RowKit
set_option linter.unusedVariables false
set_option maxRecDepth 100000
set_option maxHeartbeats 8000000
section
variable{P:Program}{Q:Exit→Act→World→Prop}{md:Region.Mode}{D:List Nat}{S:World→Prop}{l:List Oper}{fuel:Nat}{listed:Array Bool}{a:Act}{w:World}
 {d:Option Tmp} {op:Op} {ty:TypeId} {pos:String} {af:Array Edge} {g:Option (Nat×Bool)}
theorem Bo(i:Nat)(v:Value)(hi:GV ⟨d,op,ty,pos,af,g⟩ i l)(hs:Region.noSelect l.toArray=true)(hf:Region.free md l.toArray listed i=true)(hr:(Region.ready md l.toArray listed).contains i=true)
 (hQ:∀v c a w,Q (.panic c) (a.put d v) w→Q (.panic c) a w) (hv:DK P op ty a v) (hw:Region.wanted ⟨d,op,ty,pos,af,g⟩ (yielded l.toArray a.tmps)=true)
 (h:(Oper.mk d (.move (.const v)) ty pos af g).wp P a w (AZ P md l.toArray Q D S fuel (listed.setIfInBounds i true)) Q):AZ P md l.toArray Q D S (fuel+1) listed a w:=
 BP i hi hs hf hr hQ (fun w=>Ak v hv hw (H5 v _ (show wpList P l.toArray _ [] _ _ from wpList_nil ⟨rfl,rfl⟩))) (by cases d<;>rfl) h
theorem Yd(i:Nat)(x:Operand)(hi:GV ⟨d, .move x,ty,pos,af,g⟩ i l)(hs:Region.noSelect l.toArray=true)(hf:Region.free md l.toArray listed i=true)(hr:(Region.ready md l.toArray listed).contains i=true)
 (hQ:∀v c a w,Q (.panic c) (a.put d v) w→Q (.panic c) a w) (hw:Region.wanted ⟨d, .move x,ty,pos,af,g⟩ (yielded l.toArray a.tmps)=true)
 (h:(Oper.mk d (.move x) ty pos af g).wp P a w (AZ P md l.toArray Q D S fuel (listed.setIfInBounds i true)) Q):AZ P md l.toArray Q D S (fuel+1) listed a w:=
 BP i hi hs hf hr hQ (a1:=a.put d (a.eval x)) (fun w=>Ak _ (fun _ _ _ _ _=>rfl) hw (H5 _ _ (show wpList P l.toArray _ [] _ _ from wpList_nil ⟨rfl,rfl⟩))) (by cases d<;>rfl) h
theorem Yb(i:Nat)(x:Operand)(hi:GV ⟨d, .assign x,ty,pos,af,g⟩ i l)(hs:Region.noSelect l.toArray=true)(hf:Region.free md l.toArray listed i=true)(hr:(Region.ready md l.toArray listed).contains i=true)
 (hQ:∀v c a w,Q (.panic c) (a.put d v) w→Q (.panic c) a w) (hw:Region.wanted ⟨d, .assign x,ty,pos,af,g⟩ (yielded l.toArray a.tmps)=true)
 (h:(Oper.mk d (.move x) ty pos af g).wp P a w (AZ P md l.toArray Q D S fuel (listed.setIfInBounds i true)) Q):AZ P md l.toArray Q D S (fuel+1) listed a w:=
 BP i hi hs hf hr hQ (a1:=a.put d (a.eval x)) (fun w=>Ak _ (fun _ _ _ _ _=>rfl) hw (H5 _ _ (show wpList P l.toArray _ [] _ _ from wpList_nil ⟨rfl,rfl⟩))) (by cases d<;>rfl) h
theorem On(i:Nat)(b:Bool){c x y:Operand}(hi:GV ⟨d, .pick c x y,ty,pos,af,g⟩ i l)(hs:Region.noSelect l.toArray=true)(hf:Region.free md l.toArray listed i=true)(hr:(Region.ready md l.toArray listed).contains i=true)
 (hQ:∀v c a w,Q (.panic c) (a.put d v) w→Q (.panic c) a w) (hc:a.eval c= .bool b) (hw:Region.wanted ⟨d, .pick c x y,ty,pos,af,g⟩ (yielded l.toArray a.tmps)=true)
 (h:(Oper.mk d (.move (bif b then x else y)) ty pos af g).wp P a w (AZ P md l.toArray Q D S fuel (listed.setIfInBounds i true)) Q):AZ P md l.toArray Q D S (fuel+1) listed a w:=
 BP i hi hs hf hr hQ (a1:=a.put d (a.eval (bif b then x else y))) (fun w=>Ak _ (fun _ _ _ _ w=>by simp only [execOp,hc,asBool,Sem.run_bind,Sem.run_pure,Result.andThen_ok];cases b<;>rfl) hw (H5 _ _ (show wpList P l.toArray _ [] _ _ from wpList_nil ⟨rfl,rfl⟩))) (by cases d<;>rfl) h
theorem Sp(i:Nat){c x y:Operand}(hi:GV ⟨d, .pick c x y,ty,pos,af,g⟩ i l)(hs:Region.noSelect l.toArray=true)(hf:Region.free md l.toArray listed i=true)(hr:(Region.ready md l.toArray listed).contains i=true)
 (hQ:∀v c a w,Q (.panic c) (a.put d v) w→Q (.panic c) a w) (hc:a.eval c= .bool true) (hw:Region.wanted ⟨d, .pick c x y,ty,pos,af,g⟩ (yielded l.toArray a.tmps)=true)
 (h:(Oper.mk d (.move x) ty pos af g).wp P a w (AZ P md l.toArray Q D S fuel (listed.setIfInBounds i true)) Q):AZ P md l.toArray Q D S (fuel+1) listed a w:=On i true hi hs hf hr hQ hc hw h
theorem Lt(i:Nat){c x y:Operand}(hi:GV ⟨d, .pick c x y,ty,pos,af,g⟩ i l)(hs:Region.noSelect l.toArray=true)(hf:Region.free md l.toArray listed i=true)(hr:(Region.ready md l.toArray listed).contains i=true)
 (hQ:∀v c a w,Q (.panic c) (a.put d v) w→Q (.panic c) a w) (hc:a.eval c= .bool false) (hw:Region.wanted ⟨d, .pick c x y,ty,pos,af,g⟩ (yielded l.toArray a.tmps)=true)
 (h:(Oper.mk d (.move y) ty pos af g).wp P a w (AZ P md l.toArray Q D S fuel (listed.setIfInBounds i true)) Q):AZ P md l.toArray Q D S (fuel+1) listed a w:=On i false hi hs hf hr hQ hc hw h
theorem cM(i:Nat)(b:Bool)(hi:GV ⟨d,op,ty,pos,af,g⟩ i l)(hs:Region.noSelect l.toArray=true)(hf:Region.free md l.toArray listed i=true)(hr:(Region.ready md l.toArray listed).contains i=true)
 (hQ:∀v c a w,Q (.panic c) (a.put d v) w→Q (.panic c) a w) (hv:DK P op ty a (.bool b)) (hw:Region.wanted ⟨d,op,ty,pos,af,g⟩ (yielded l.toArray a.tmps)=true)
 (ht:b=true→(Oper.mk d (.move (.const (.bool true))) ty pos af g).wp P a w (AZ P md l.toArray Q D S fuel (listed.setIfInBounds i true)) Q)
 (hn:b=false→(Oper.mk d (.move (.const (.bool false))) ty pos af g).wp P a w (AZ P md l.toArray Q D S fuel (listed.setIfInBounds i true)) Q):AZ P md l.toArray Q D S (fuel+1) listed a w:=by
 cases b
 ·exact Bo i _ hi hs hf hr hQ hv hw (hn rfl)
 exact Bo i _ hi hs hf hr hQ hv hw (ht rfl)
theorem Yc(i:Nat)(p:Prop)[Decidable p](hi:GV ⟨d,op,ty,pos,af,g⟩ i l)(hs:Region.noSelect l.toArray=true)(hf:Region.free md l.toArray listed i=true)(hr:(Region.ready md l.toArray listed).contains i=true)
 (hQ:∀v c a w,Q (.panic c) (a.put d v) w→Q (.panic c) a w) (hv:DK P op ty a (.bool (decide p))) (hw:Region.wanted ⟨d,op,ty,pos,af,g⟩ (yielded l.toArray a.tmps)=true)
 (ht:p→(Oper.mk d (.move (.const (.bool true))) ty pos af g).wp P a w (AZ P md l.toArray Q D S fuel (listed.setIfInBounds i true)) Q)
 (hn:¬p→(Oper.mk d (.move (.const (.bool false))) ty pos af g).wp P a w (AZ P md l.toArray Q D S fuel (listed.setIfInBounds i true)) Q):AZ P md l.toArray Q D S (fuel+1) listed a w:=
 cM i _ hi hs hf hr hQ hv hw (fun h=>ht (of_decide_eq_true h)) (fun h=>hn (of_decide_eq_false h))
theorem Ye(i:Nat)(hi:GV ⟨d,op,ty,pos,af,g⟩ i l)(hs:Region.noSelect l.toArray=true)(hf:Region.free md l.toArray listed i=true)(hr:(Region.ready md l.toArray listed).contains i=true)
 (hQ:∀v c a w,Q (.panic c) (a.put d v) w→Q (.panic c) a w) (hw:Region.wanted ⟨d,op,ty,pos,af,g⟩ (yielded l.toArray a.tmps)=false)
 (h:(Oper.mk d (.move (.const undef)) ty pos af g).wp P a w (AZ P md l.toArray Q D S fuel (listed.setIfInBounds i true)) Q):AZ P md l.toArray Q D S (fuel+1) listed a w:=
 BP i hi hs hf hr hQ (a1:=a.put d undef) (fun w=>wpList_skip hw (wpList_nil ⟨rfl,rfl⟩)) (by cases d<;>rfl) h
end
section
variable{P:Program}{Q:Exit→Act→World→Prop}{a:Act}{W w:World}{c:Code}
theorem VU{F:Nat→Nat→Act}(rs:Nat→Nat→List Au)(h:c.wp P (fun e a w=>e= .normal∧∃g g',a=F g g'∧St W w (rs g g')) a w)(k:∀g g' w,St W w (rs g g')→Q .normal (F g g') w):c.wp P Q a w:=
 Code.wp_mono (fun e a w ⟨he,g,g',ha,hS⟩=>by subst he;subst ha;exact k g g' w hS) h
end
end Go.Proofs.YtohacgmhmbijmaaGreatDoor
/- Short EV for regions that draw their order. -/
namespace Go.Proofs.YtohacgmhmbijmaaGreatDoor
open Go.RowKit
set_option linter.unusedVariables false
set_option maxRecDepth 100000
set_option maxHeartbeats 8000000
structure Vy(md:Region.Mode)(l:List Oper)(listed:Array Bool)(Q:Exit→Act→World→Prop)(a:Act)(d:Option Tmp)(op:Op)(ty:TypeId)(pos:String)(af:Array Edge)(g:Option (Nat×Bool))(i:Nat)(b:Bool):Prop where
 hi:GV ⟨d,op,ty,pos,af,g⟩ i l
 hs:Region.noSelect l.toArray=true
 hf:Region.free md l.toArray listed i=true
 hr:(Region.ready md l.toArray listed).contains i=true
 hQ:∀v c a w,Q (.panic c) (a.put d v) w→Q (.panic c) a w
 hw:Region.wanted ⟨d,op,ty,pos,af,g⟩ (yielded l.toArray a.tmps)=b
section
variable{P:Program}{Q:Exit→Act→World→Prop}{md:Region.Mode}{D:List Nat}{S:World→Prop}{l:List Oper}{fuel:Nat}{listed:Array Bool}{a:Act}{w:World}{d:Option Tmp}{op:Op}{ty:TypeId}{pos:String}{af:Array Edge}{g:Option (Nat×Bool)}{x:Operand}{i:Nat}{b:Bool}
theorem BU(hi:GV ⟨d,op,ty,pos,af,g⟩ i l:=by (repeat (first|with_reducible exact GV.head|apply GV.tail)))(hs:Region.noSelect l.toArray=true:=by kernel_rfl)(hf:Region.free md l.toArray listed i=true:=by kernel_rfl)(hr:(Region.ready md l.toArray listed).contains i=true:=by kernel_rfl)
 (hQ:∀v c a w,Q (.panic c) (a.put d v) w→Q (.panic c) a w:=by first|exact fun _ _ _ _ h=>h|exact fun _ _ _ _ h=>nomatch h.1) (hw:Region.wanted ⟨d,op,ty,pos,af,g⟩ (yielded l.toArray a.tmps)=b:=by kernel_rfl):Vy md l listed Q a d op ty pos af g i b:=⟨hi,hs,hf,hr,hQ,hw⟩
theorem Bf(i:Nat){v:Value}(t:Vy md l listed Q a d op ty pos af g i true)(hv:DK P op ty a v)(h:(Oper.mk d (.move (.const v)) ty pos af g).wp P a w (AZ P md l.toArray Q D S fuel (listed.setIfInBounds i true)) Q):AZ P md l.toArray Q D S (fuel+1) listed a w:=Bo i v t.1 t.2 t.3 t.4 t.5 hv t.6 h
theorem dd(i:Nat)(t:Vy md l listed Q a d (.move x) ty pos af g i true)(h:(Oper.mk d (.move x) ty pos af g).wp P a w (AZ P md l.toArray Q D S fuel (listed.setIfInBounds i true)) Q):AZ P md l.toArray Q D S (fuel+1) listed a w:=Yd i x t.1 t.2 t.3 t.4 t.5 t.6 h
theorem dW(i:Nat)(t:Vy md l listed Q a d (.assign x) ty pos af g i true)(h:(Oper.mk d (.move x) ty pos af g).wp P a w (AZ P md l.toArray Q D S fuel (listed.setIfInBounds i true)) Q):AZ P md l.toArray Q D S (fuel+1) listed a w:=Yb i x t.1 t.2 t.3 t.4 t.5 t.6 h
theorem de(i:Nat)(t:Vy md l listed Q a d op ty pos af g i false)(h:(Oper.mk d (.move (.const undef)) ty pos af g).wp P a w (AZ P md l.toArray Q D S fuel (listed.setIfInBounds i true)) Q):AZ P md l.toArray Q D S (fuel+1) listed a w:=Ye i t.1 t.2 t.3 t.4 t.5 t.6 h
theorem Aa(i:Nat){o:Oper}(h:o.wp P a w (fun a' w'=>(i∉D→S w→S w')∧AZ P md l.toArray Q D S fuel (listed.setIfInBounds i true) a' w') Q)(hi:GV o i l:=by (repeat (first|with_reducible exact GV.head|apply GV.tail)))(hw:Region.wanted o (yielded l.toArray a.tmps)=true:=by kernel_rfl)
 (hr:Region.ready md l.toArray listed=[i]:=by kernel_rfl):AZ P md l.toArray Q D S (fuel+1) listed a w:=Wi i hi hw hr h
theorem cY{A:Prop}{d:Tmp}{v:Value}(h:(Oper.mk (some d) (.move (.const v)) 0 "" #[] none).wp P a w (AZ P md l.toArray Q D S fuel listed) Q)(h1:A:=by exact fun _ h=>h):A∧AZ P md l.toArray Q D S fuel listed (a.put (some d) v) w:=⟨h1,h⟩
def NK(_:Nat)(p:Prop):Prop:=p
def K0(_:Nat)(_:List Nat)(p:Prop):Prop:=p
theorem Kh{v:Value}(t:Vy md l listed Q a d op ty pos af g i true)(hv:DK P op ty a v)(h:(Oper.mk d (.move (.const v)) ty pos af g).wp P a w (AZ P md l.toArray Q D S fuel (listed.setIfInBounds i true)) Q):NK i (AZ P md l.toArray Q D S (fuel+1) listed a w):=Bo i v t.1 t.2 t.3 t.4 t.5 hv t.6 h
theorem dH(t:Vy md l listed Q a d (.move x) ty pos af g i true)(h:(Oper.mk d (.move x) ty pos af g).wp P a w (AZ P md l.toArray Q D S fuel (listed.setIfInBounds i true)) Q):NK i (AZ P md l.toArray Q D S (fuel+1) listed a w):=Yd i x t.1 t.2 t.3 t.4 t.5 t.6 h
theorem dG(t:Vy md l listed Q a d (.assign x) ty pos af g i true)(h:(Oper.mk d (.move x) ty pos af g).wp P a w (AZ P md l.toArray Q D S fuel (listed.setIfInBounds i true)) Q):NK i (AZ P md l.toArray Q D S (fuel+1) listed a w):=Yb i x t.1 t.2 t.3 t.4 t.5 t.6 h
theorem dI(t:Vy md l listed Q a d op ty pos af g i false)(h:(Oper.mk d (.move (.const undef)) ty pos af g).wp P a w (AZ P md l.toArray Q D S fuel (listed.setIfInBounds i true)) Q):NK i (AZ P md l.toArray Q D S (fuel+1) listed a w):=Ye i t.1 t.2 t.3 t.4 t.5 t.6 h
end
section
variable{P:Program}{Q:Exit→Act→World→Prop}{md:Region.Mode}{D:List Nat}{S:World→Prop}{i:Nat}{E:List Nat}{l:List Oper}{oi:Oper}{a1:Act}{fuel:Nat}{listed:Array Bool}{a:Act}{w:World}
theorem B9(hi:GV oi i l)(hs:Region.noSelect l.toArray=true)(hf:Region.free md l.toArray listed i=true)(hr:(Region.ready md l.toArray listed).contains i=true)(hQ:∀v c a w,Q (.panic c) (a.put oi.dst v) w→Q (.panic c) a w)(hE:NF md l.toArray listed i E D=true)(hSw:S w)(hfr:∀w,S w→wpList P l.toArray (FreeOne (fun w'=>w'=w) a1) [oi] a w)(hd:a1.defers=a.defers)(h:AZ P md l.toArray Q D S fuel (listed.setIfInBounds i true) a1 w):K0 i E (AZ P md l.toArray Q D S (fuel+1) listed a w):=Cb i hi hs hf hr hQ E hE hSw hfr hd h
theorem dF(hi:GV oi i l)(hs:Region.noSelect l.toArray=true)(hf:Region.free md l.toArray listed i=true)(hr:(Region.ready md l.toArray listed).contains i=true)(hQ:∀v c a w,Q (.panic c) (a.put oi.dst v) w→Q (.panic c) a w)(hfr:∀w,wpList P l.toArray (FreeOne (fun w'=>w'=w) a1) [oi] a w)(hd:a1.defers=a.defers)(h:AZ P md l.toArray Q D S fuel (listed.setIfInBounds i true) a1 w):NK i (AZ P md l.toArray Q D S (fuel+1) listed a w):=BP i hi hs hf hr hQ hfr hd h
end
section
variable{p q:Prop}
theorem Ab(n:Nat)(k:q)(h:A6 q→NK n p:=by intro zq9;(first|(refine dH BU ?_;go_step)|(refine dG BU ?_;go_step));with_reducible exact zq9.out):p:=h ⟨k⟩
theorem JJ(n:Nat)(k:q)(h:A6 q→NK n p:=by intro zq9;refine dI BU ?_;go_step;with_reducible exact zq9.out):p:=h ⟨k⟩
theorem Y0{T q:World→Prop}(k:∀w,T w→q w)(h:In T q→p:=by intro zq9;(refine Bl hS 30 _ _ rfl _ _ rfl (AH rfl) _ _ AJ _ CG (by rfl) Uq rfl ?_);intro w9 h9;refine ⟨fun _ h=>h,?_⟩;with_reducible exact zq9.out w9 h9):p:=h ⟨k⟩
theorem Y1{T q:World→Prop}(k:∀w,T w→q w)(h:In T q→p:=by intro zq9;(refine Bl hS 30 _ _ rfl _ _ rfl (AH rfl) _ _ AJ _ CG (by rfl) Uq rfl ?_);intro w9 h9;refine ⟨fun h=>absurd (by decide) h,?_⟩;with_reducible exact zq9.out w9 h9):p:=h ⟨k⟩
theorem Y2{T q:Nat→World→Prop}(k:∀g w,T g w→q g w)(h:GM T q→p:=by intro zq9;refine Jc (o:=⟨some _,_,_,_,_,_⟩) hS 30 _ _ rfl _ _ _ _ Tv _ _ _ _ _ _ rfl rfl BI BI (by omega) (by omega) (by unfold maxLen;omega) ?_;intro g9 w9 h9;refine cY ?_;go_step;with_reducible exact zq9.out g9 w9 h9):p:=h ⟨k⟩
theorem Y3{T q:Nat→World→Prop}(k:∀g w,T g w→q g w)(h:GM T q→p:=by intro zq9;refine B3 (o:=⟨some _,_,_,_,_,_⟩) hS 30 rfl (.slice none 0 0) [.slice none 0 0] (fun w=>Tryz.zeroValue30 w) rfl ?_;intro g9 w9 h9;refine cY ?_;go_step;with_reducible exact zq9.out g9 w9 h9):p:=h ⟨k⟩
theorem Y4(n:Nat)(k:q)(h:A6 q→NK n p:=by intro zq9;refine Kh BU (V.extract rfl rfl) ?_;go_step;with_reducible exact zq9.out):p:=h ⟨k⟩
theorem Y5(n:Nat)(k:q)(h:A6 q→NK n p:=by intro zq9;refine Kh BU (V.indexSl Tryz.underlying160 Pn rfl rfl BI (by omega) rfl BO) ?_;go_step;with_reducible exact zq9.out):p:=h ⟨k⟩
theorem Y6{T q:Nat→World→Prop}(k:∀g w,T g w→q g w)(h:GM T q→p:=by intro zq9;refine AU (o:=⟨some _,_,_,_,_,_⟩) hS 30 1 _ rfl 3 1 8 Bj _ _ (by (repeat (first|exact AX.nil|(apply AX.agg;(rfl);(rfl))|(apply AX.one;exact CG;(rfl);(rfl))))) (by rfl) (by decide) (by decide) ?_;intro g9 w9 h9;refine ⟨fun _ _=>h9.sub AV,?_⟩;refine AF ?_;go_step;with_reducible exact zq9.out g9 w9 h9):p:=h ⟨k⟩
theorem Y7(n:Nat)(L:List Nat)(k:q)(h:A6 q→K0 n L p:=by intro zq9;apply B9 Am AA AA AA Ch AA (hS.sub AV);(case hfr=>intro w hS;((refine Ag ?_;apply AY hS 3 _ rfl _ _ rfl (AH rfl) _;(case hp=>exact AJ);(case hc=>rfl);refine AB ?_;go_step));refine wpList_nil ?_;exact ⟨rfl,rfl⟩);(case hd=>rfl);with_reducible exact zq9.out):p:=h ⟨k⟩
theorem Y8(n:Nat)(k:q)(h:A6 q→NK n p:=by intro zq9;refine Kh BU (V.indexSl Tryz.underlying22 I0 rfl rfl (show Bq 0 0 from rfl) (by omega) (show 0*1=0 from rfl) BO) ?_;go_step;with_reducible exact zq9.out):p:=h ⟨k⟩
theorem Y9(n:Nat)(k:q)(h:A6 q→NK n p:=by intro zq9;refine Kh BU (V.indexSl Tryz.underlying22 I0 rfl rfl (show Bq 1 1 from rfl) (by omega) (show 1*1=1 from rfl) BO) ?_;go_step;with_reducible exact zq9.out):p:=h ⟨k⟩
theorem MF(n:Nat)(k:q)(h:A6 q→NK n p:=by intro zq9;refine Kh BU (V.indexSl Tryz.underlying22 I0 rfl rfl (show Bq 2 2 from rfl) (by omega) (show 2*1=2 from rfl) BO) ?_;go_step;with_reducible exact zq9.out):p:=h ⟨k⟩
theorem NM(n:Nat)(L:List Nat)(k:q)(h:A6 q→K0 n L p:=by intro zq9;apply B9 Am AA AA AA Ch AA (hS.sub AV);(case hfr=>intro w hS;((refine Ag ?_;apply O1 hS 159 _ rfl _ _ rfl 2 (AP rfl) _ _ _ _ _;(case hp=>exact AJ);(case inst=>infer_instance);(case he=>with_reducible assumption);(case hq=>exact rfl);(case hj=>omega);refine AB ?_;go_step));refine wpList_nil ?_;exact ⟨rfl,rfl⟩);(case hd=>rfl);with_reducible exact zq9.out):p:=h ⟨k⟩
theorem O7(n:Nat)(k:q)(h:A6 q→NK n p:=by intro zq9;refine Kh BU (V.indexSl Tryz.underlying30 EL rfl rfl BI (by omega) (Nat.mul_one _) BO) ?_;go_step;with_reducible exact zq9.out):p:=h ⟨k⟩
theorem Vm(n:Nat)(k:q)(h:A6 q→NK n p:=by intro zq9;refine Kh BU (V.addI rfl rfl (by omega)) ?_;go_step;with_reducible exact zq9.out):p:=h ⟨k⟩
theorem WZ(n:Nat)(L:List Nat)(k:q)(h:A6 q→K0 n L p:=by intro zq9;apply B9 Am AA AA AA Ch AA (hS.sub AV);(case hfr=>intro w hS;((refine Ag ?_;apply Aj hS 3 _ rfl _ rfl (AH rfl) _;(case hc=>with_reducible assumption);refine AB ?_;go_step));refine wpList_nil ?_;exact ⟨rfl,rfl⟩);(case hd=>rfl);with_reducible exact zq9.out):p:=h ⟨k⟩
theorem YK{T q:World→Prop}(k:∀w,T w→q w)(h:In T q→p:=by intro zq9;(apply S7 hS 159 _ _ rfl _ _ rfl 2 (AP rfl) _ _ _ _ _;(case hp=>exact AJ);(case inst=>infer_instance);(case he=>with_reducible assumption);(case hone=>with_reducible assumption);(case hq=>exact rfl);(case hj=>omega);(case hy=>exact rfl);(case hd=>exact rfl));intro w9 h9;refine ⟨fun h=>absurd (by decide) h,?_⟩;with_reducible exact zq9.out w9 h9):p:=h ⟨k⟩
theorem YL(n:Nat)(L:List Nat)(k:q)(h:A6 q→K0 n L p:=by intro zq9;apply B9 Am AA AA AA Ch AA (hS.sub AV);(case hfr=>intro w hS;((refine Ag ?_;apply Aj hS 30 _ rfl _ rfl (AH rfl) _;(case hc=>with_reducible assumption);refine AB ?_;go_step));refine wpList_nil ?_;exact ⟨rfl,rfl⟩);(case hd=>rfl);with_reducible exact zq9.out):p:=h ⟨k⟩
theorem YM(n:Nat)(k:q)(h:A6 q→NK n p:=by intro zq9;refine Kh BU (V.mulI rfl rfl (by omega)) ?_;go_step;with_reducible exact zq9.out):p:=h ⟨k⟩
theorem Zi{T q:Nat→World→Prop}(k:∀g w,T g w→q g w)(h:GM T q→p:=by intro zq9;refine GF (o:=⟨some _,_,_,_,_,_⟩) hS 37 rfl _ aQ ?_;intro g9 w9 h9;refine ⟨fun _ _=>h9.sub AV,?_⟩;refine AF ?_;go_step;with_reducible exact zq9.out g9 w9 h9):p:=h ⟨k⟩
theorem Zj{T q:World→Prop}(k:∀w,T w→q w)(h:In T q→p:=by intro zq9;(refine FE hS 37 _ _ rfl _ rfl 103 (AP rfl) _ _ AJ (by rfl) (by (repeat (first|exact CH.nil|(apply CH.ints;(case hn=>exact EJ);(case h=>omega);(case hm=>rfl))|apply CH.val))) (by (repeat (first|exact CH.nil|(apply CH.ints;(case hn=>exact EJ);(case h=>omega);(case hm=>rfl))|apply CH.val))) (by rfl) rfl ?_);intro w9 h9;refine ⟨fun h=>absurd (by decide) h,?_⟩;with_reducible exact zq9.out w9 h9):p:=h ⟨k⟩
theorem ar{T q:World→Prop}(k:∀w,T w→q w)(h:In T q→p:=by intro zq9;(refine JA hS 3 _ _ rfl _ _ rfl (AH rfl) _ _ _ _ _ AJ _ (by rfl) (by omega) rfl ?_);intro w9 h9;refine ⟨fun h=>absurd (by decide) h,?_⟩;with_reducible exact zq9.out w9 h9):p:=h ⟨k⟩
theorem au(n:Nat)(L:List Nat)(k:q)(h:A6 q→K0 n L p:=by intro zq9;apply B9 Am AA AA AA Ch AA (hS.sub AV);(case hfr=>intro w hS;((refine Ag ?_;apply AY hS 133 _ rfl _ _ rfl (AH rfl) _;(case hp=>exact AJ);(case hc=>rfl);refine AB ?_;go_step));refine wpList_nil ?_;exact ⟨rfl,rfl⟩);(case hd=>rfl);with_reducible exact zq9.out):p:=h ⟨k⟩
theorem bp(n:Nat)(L:List Nat)(k:q)(h:A6 q→K0 n L p:=by intro zq9;apply B9 Am AA AA AA Ch AA (hS.sub AV);(case hfr=>intro w hS;((refine Ag ?_;apply AY hS 22 _ rfl _ _ rfl (AH rfl) _;(case hp=>exact AJ);(case hc=>rfl);refine AB ?_;go_step));refine wpList_nil ?_;exact ⟨rfl,rfl⟩);(case hd=>rfl);with_reducible exact zq9.out):p:=h ⟨k⟩
theorem bq(n:Nat)(L:List Nat)(k:q)(h:A6 q→K0 n L p:=by intro zq9;apply B9 Am AA AA AA Ch AA (hS.sub AV);(case hfr=>intro w hS;((refine Ag ?_;apply AY hS 30 _ rfl _ _ rfl (AH rfl) _;(case hp=>exact AJ);(case hc=>rfl);refine AB ?_;go_step));refine wpList_nil ?_;exact ⟨rfl,rfl⟩);(case hd=>rfl);with_reducible exact zq9.out):p:=h ⟨k⟩
theorem br(n:Nat)(L:List Nat)(k:q)(h:A6 q→K0 n L p:=by intro zq9;apply B9 Am AA AA AA Ch AA (hS.sub AV);(case hfr=>intro w hS;((refine Ag ?_;apply C8 hS 34 _ rfl _ _ rfl 34 (AP rfl) _;(case hp=>exact AJ);(case hi=>(repeat (first|(apply GK.head;(repeat (first|exact CH.nil|(apply CH.ints;(case hn=>exact EJ);(case h=>omega);(case hm=>rfl))|apply CH.val)))|(apply GK.skipI;(case hn=>exact EJ);(case h=>omega);(case ho=>rfl))|apply GK.skipV)));refine AB ?_;go_step));refine wpList_nil ?_;exact ⟨rfl,rfl⟩);(case hd=>rfl);with_reducible exact zq9.out):p:=h ⟨k⟩
theorem cT(n:Nat)(L:List Nat)(k:q)(h:A6 q→K0 n L p:=by intro zq9;apply B9 Am AA AA AA Ch AA (hS.sub AV);(case hfr=>intro w hS;((refine Ag ?_;apply AY hS 137 _ rfl _ _ rfl (AH rfl) _;(case hp=>exact AJ);(case hc=>rfl);refine AB ?_;go_step));refine wpList_nil ?_;exact ⟨rfl,rfl⟩);(case hd=>rfl);with_reducible exact zq9.out):p:=h ⟨k⟩
theorem cU(n:Nat)(L:List Nat)(k:q)(h:A6 q→K0 n L p:=by intro zq9;apply B9 Am AA AA AA Ch AA (hS.sub AV);(case hfr=>intro w hS;((refine Ag ?_;apply Gs hS 3 _ rfl _ _ rfl (AH rfl) _ _ _ _ _;(case hp=>exact AJ);(case hi=>omega);refine AB ?_;go_step));refine wpList_nil ?_;exact ⟨rfl,rfl⟩);(case hd=>rfl);with_reducible exact zq9.out):p:=h ⟨k⟩
theorem cV(n:Nat)(k:q)(h:A6 q→NK n p:=by intro zq9;refine Kh BU (V.indexAr Tryz.underlying26 EL rfl rfl BI (by omega) (Nat.mul_one _) BO) ?_;go_step;with_reducible exact zq9.out):p:=h ⟨k⟩
theorem cW(n:Nat)(k:q)(h:A6 q→NK n p:=by intro zq9;refine Kh BU (V.slice Tryz.underlying35 UF rfl (by (first|exact Lo.none|exact Lo.some rfl BI)) (by (first|exact Up.none|exact Up.some rfl BI)) (by omega) (by omega)) ?_;go_step;with_reducible exact zq9.out):p:=h ⟨k⟩
theorem cg{T q:Nat→World→Prop}(k:∀g w,T g w→q g w)(h:GM T q→p:=by intro zq9;refine AU (o:=⟨some _,_,_,_,_,_⟩) hS 30 1 _ rfl 3 1 8 Bj _ _ (by (repeat (first|exact AX.nil|(apply AX.agg;(rfl);(rfl))|(apply AX.one;exact CG;(rfl);(rfl))))) (by rfl) (by decide) (by decide) ?_;intro g9 w9 h9;refine ⟨fun h=>absurd (by decide) h,?_⟩;refine AF ?_;go_step;with_reducible exact zq9.out g9 w9 h9):p:=h ⟨k⟩
theorem ch(n:Nat)(L:List Nat)(k:q)(h:A6 q→K0 n L p:=by intro zq9;apply B9 Am AA AA AA Ch AA (hS.sub AV);(case hfr=>intro w hS;((refine Ag ?_;apply Ai hS 30 _ rfl _ _ rfl (AH rfl) _ _ _ _ _;(case hp=>exact AJ);(case hv=>with_reducible assumption);refine AB ?_;go_step));refine wpList_nil ?_;exact ⟨rfl,rfl⟩);(case hd=>rfl);with_reducible exact zq9.out):p:=h ⟨k⟩
theorem cr(n:Nat)(L:List Nat)(k:q)(h:A6 q→K0 n L p:=by intro zq9;apply B9 Am AA AA AA Ch AA (hS.sub AV);(case hfr=>intro w hS;((refine Ag ?_;apply H7 hS 26 _ rfl _ rfl 64 (AP rfl) _;(case hp=>exact AJ);refine AB ?_;go_step));refine wpList_nil ?_;exact ⟨rfl,rfl⟩);(case hd=>rfl);with_reducible exact zq9.out):p:=h ⟨k⟩
theorem ct(n:Nat)(L:List Nat)(k:q)(h:A6 q→K0 n L p:=by intro zq9;apply B9 Am AA AA AA Ch AA (hS.sub AV);(case hfr=>intro w hS;((refine Ag ?_;apply Di hS 107 _ rfl _ rfl 2 (AP rfl) _;(case hp=>exact AJ);(case hn=>rfl);refine AB ?_;go_step));refine wpList_nil ?_;exact ⟨rfl,rfl⟩);(case hd=>rfl);with_reducible exact zq9.out):p:=h ⟨k⟩
theorem cu(n:Nat)(k:q)(h:A6 q→NK n p:=by intro zq9;refine Kh BU (V.slice Tryz.underlying42 Hc rfl (by (first|exact Lo.none|exact Lo.some rfl BI)) (by (first|exact Up.none|exact Up.some rfl BI)) (by omega) (by omega)) ?_;go_step;with_reducible exact zq9.out):p:=h ⟨k⟩
theorem dO{T q:Nat→World→Prop}(k:∀g w,T g w→q g w)(h:GM T q→p:=by intro zq9;refine AU (o:=⟨some _,_,_,_,_,_⟩) hS 88 1 _ rfl 35 1 24 SA _ _ (by (repeat (first|exact AX.nil|(apply AX.agg;(rfl);(rfl))|(apply AX.one;exact CG;(rfl);(rfl))))) (by rfl) (by decide) (by decide) ?_;intro g9 w9 h9;refine ⟨fun _ _=>h9.sub AV,?_⟩;refine AF ?_;go_step;with_reducible exact zq9.out g9 w9 h9):p:=h ⟨k⟩
theorem dP(n:Nat)(L:List Nat)(k:q)(h:A6 q→K0 n L p:=by intro zq9;apply B9 Am AA AA AA Ch AA (hS.sub AV);(case hfr=>intro w hS;((refine Ag ?_;apply AY hS 168 _ rfl _ _ rfl (AH rfl) _;(case hp=>exact AJ);(case hc=>rfl);refine AB ?_;go_step));refine wpList_nil ?_;exact ⟨rfl,rfl⟩);(case hd=>rfl);with_reducible exact zq9.out):p:=h ⟨k⟩
theorem dQ(n:Nat)(L:List Nat)(k:q)(h:A6 q→K0 n L p:=by intro zq9;apply B9 Am AA AA AA Ch AA (hS.sub AV);(case hfr=>intro w hS;((refine Ag ?_;apply BX hS 3 _ rfl _ _ rfl (AH rfl) _ _;(case hp=>exact AJ);(case hi=>omega);refine AB ?_;go_step));refine wpList_nil ?_;exact ⟨rfl,rfl⟩);(case hd=>rfl);with_reducible exact zq9.out):p:=h ⟨k⟩
theorem dR(n:Nat)(L:List Nat)(k:q)(h:A6 q→K0 n L p:=by intro zq9;apply B9 Am AA AA AA Ch AA (hS.sub AV);(case hfr=>intro w hS;((refine Ag ?_;apply L6 hS 30 _ rfl _ _ rfl (AH rfl) _ _ _ _ _ _;(case hp=>exact AJ);(case inst=>infer_instance);(case he=>with_reducible assumption);(case hq=>exact rfl);(case hj=>omega);(case hv=>exact rfl);refine AB ?_;go_step));refine wpList_nil ?_;exact ⟨rfl,rfl⟩);(case hd=>rfl);with_reducible exact zq9.out):p:=h ⟨k⟩
theorem dS(n:Nat)(L:List Nat)(k:q)(h:A6 q→K0 n L p:=by intro zq9;apply B9 Am AA AA AA Ch AA (hS.sub AV);(case hfr=>intro w hS;((refine Ag ?_;apply QK hS 3 _ rfl _ _ rfl (AH rfl) _ _ _ _ _ _;(case hp=>exact AJ);(case inst=>infer_instance);(case he=>with_reducible assumption);(case hq=>exact rfl);(case hj=>omega);(case hv=>exact rfl);refine AB ?_;go_step));refine wpList_nil ?_;exact ⟨rfl,rfl⟩);(case hd=>rfl);with_reducible exact zq9.out):p:=h ⟨k⟩
theorem da(n:Nat)(L:List Nat)(k:q)(h:A6 q→K0 n L p:=by intro zq9;apply B9 Am AA AA AA Ch AA (hS.sub AV);(case hfr=>intro w hS;((refine Ag ?_;apply C8 hS 32 _ rfl _ _ rfl 17 (AP rfl) _;(case hp=>exact AJ);(case hi=>(repeat (first|(apply GK.head;(repeat (first|exact CH.nil|(apply CH.ints;(case hn=>exact EJ);(case h=>omega);(case hm=>rfl))|apply CH.val)))|(apply GK.skipI;(case hn=>exact EJ);(case h=>omega);(case ho=>rfl))|apply GK.skipV)));refine AB ?_;go_step));refine wpList_nil ?_;exact ⟨rfl,rfl⟩);(case hd=>rfl);with_reducible exact zq9.out):p:=h ⟨k⟩
theorem dT(n:Nat)(L:List Nat)(k:q)(h:A6 q→K0 n L p:=by intro zq9;apply B9 Am AA AA AA Ch AA (hS.sub AV);(case hfr=>intro w hS;((refine Ag ?_;apply C8 hS 37 _ rfl _ _ rfl 103 (AP rfl) _;(case hp=>exact AJ);(case hi=>(repeat (first|(apply GK.head;(repeat (first|exact CH.nil|(apply CH.ints;(case hn=>exact EJ);(case h=>omega);(case hm=>rfl))|apply CH.val)))|(apply GK.skipI;(case hn=>exact EJ);(case h=>omega);(case ho=>rfl))|apply GK.skipV)));refine AB ?_;go_step));refine wpList_nil ?_;exact ⟨rfl,rfl⟩);(case hd=>rfl);with_reducible exact zq9.out):p:=h ⟨k⟩
theorem dU(n:Nat)(L:List Nat)(k:q)(h:A6 q→K0 n L p:=by intro zq9;apply B9 Am AA AA AA Ch AA (hS.sub AV);(case hfr=>intro w hS;((refine Ag ?_;apply Ep hS 3 _ rfl _ _ rfl (AH rfl) _;(case hp=>exact AJ);(case hi=>(repeat (first|exact Jd.head|(apply Jd.skipI;(case hn=>exact EJ);(case h=>omega);(case ho=>rfl))|apply Jd.skipV)));refine AB ?_;go_step));refine wpList_nil ?_;exact ⟨rfl,rfl⟩);(case hd=>rfl);with_reducible exact zq9.out):p:=h ⟨k⟩
theorem dV(n:Nat)(L:List Nat)(k:q)(h:A6 q→K0 n L p:=by intro zq9;apply B9 Am AA AA AA Ch AA (hS.sub AV);(case hfr=>intro w hS;((refine Ag ?_;apply Ep hS 35 _ rfl _ _ rfl (AH rfl) _;(case hp=>exact AJ);(case hi=>(repeat (first|exact Jd.head|(apply Jd.skipI;(case hn=>exact EJ);(case h=>omega);(case ho=>rfl))|apply Jd.skipV)));refine AB ?_;go_step));refine wpList_nil ?_;exact ⟨rfl,rfl⟩);(case hd=>rfl);with_reducible exact zq9.out):p:=h ⟨k⟩
end
end Go.Proofs.YtohacgmhmbijmaaGreatDoor
namespace Go.Proofs.YtohacgmhmbijmaaGreatDoor
attribute [local irreducible] Region.wanted
open Go.RowKit
set_option linter.unusedVariables false
set_option maxRecDepth 100000
set_option maxHeartbeats 8000000
theorem Ln(n d:Int)(w:World)(h0:0≤n)(h1:n≤2305843009213693951)(h2:1≤d)(h3:d≤1000000000):
 Calls Tryz.prog 64 #[.int .i64 n, .int .i64 d] w fun e w'=>e= .returned (.int .i64 (Id n d))∧w=w':=by
 have H:Hid ((2*n+d)/(2*d)=Id n d):=by unfold Hid Id;rw [if_neg (by omega)]
 have hn:¬n<0:=by omega
 go_enter Tryz.func64,Tryz.ntmps64
 go_wp2_with fail
 go_ret
 exact ⟨Hq H.out,rfl⟩
theorem Ie(n d:Int)(w:World)(h0: -2305843009213693951≤n)(h1:n≤2305843009213693951)(h2:1≤d)(h3:d≤1000000000):
 Calls Tryz.prog 64 #[.int .i64 n, .int .i64 d] w fun e w'=>e= .returned (.int .i64 (Id n d))∧w=w':=by
 by_cases hn:n<0
 ·have hb:=P4 (-n) d 2305843009213693951 (by omega) (by omega) h2
  have H:Hid (-Id (-n) d=Id n d):=by have:=XR n d h2;unfold Hid;omega
  obtain ⟨hb1,hb2⟩:=hb
  go_enter Tryz.func64,Tryz.ntmps64
  go_wp2_with (go_at_call 64;refine (Ln (-n) d _ (by omega) (by omega) h2 h3).mono ?_;rintro e w' ⟨rfl,rfl⟩)
  go_ret
  exact ⟨Hq H.out,rfl⟩
 exact Ln n d w (by omega) h1 h2 h3
theorem Lu(a1 a2 a3 a4 b1 b2 b3 b4 c1 c2 c3 c4 r g b:Int)(w:World)
 (hr:0≤r∧r≤255) (hg:0≤g∧g≤255) (hb:0≤b∧b≤255)
 (ha1: -200000000≤a1∧a1≤200000000) (ha2: -200000000≤a2∧a2≤200000000) (ha3: -200000000≤a3∧a3≤200000000) (ha4: -200000000≤a4∧a4≤200000000)
 (hb1: -200000000≤b1∧b1≤200000000) (hb2: -200000000≤b2∧b2≤200000000) (hb3: -200000000≤b3∧b3≤200000000) (hb4: -200000000≤b4∧b4≤200000000)
 (hc1: -200000000≤c1∧c1≤200000000) (hc2: -200000000≤c2∧c2≤200000000) (hc3: -200000000≤c3∧c3≤200000000) (hc4: -200000000≤c4∧c4≤200000000):
 Calls Tryz.prog 56 #[.agg #[.int .i64 a1, .int .i64 a2, .int .i64 a3, .int .i64 a4, .int .i64 b1, .int .i64 b2, .int .i64 b3, .int .i64 b4, .int .i64 c1, .int .i64 c2, .int .i64 c3, .int .i64 c4], .agg #[.int .i64 r, .int .i64 g, .int .i64 b]] w
  fun e w'=>e= .returned (.tuple #[.int .i64 (Gk (Id (a4+a1*r+a2*g+a3*b) 65536)), .int .i64 (Gk (Id (b4+b1*r+b2*g+b3*b) 65536)), .int .i64 (Gk (Id (c4+c1*r+c2*g+c3*b) 65536)), .int .i64 0])∧Al w w':=by
 have ⟨pa1,qa1⟩:=Ds a1 r 200000000 255 ha1 hr
 have ⟨pa2,qa2⟩:=Ds a2 g 200000000 255 ha2 hg
 have ⟨pa3,qa3⟩:=Ds a3 b 200000000 255 ha3 hb
 have ⟨pb1,qb1⟩:=Ds b1 r 200000000 255 hb1 hr
 have ⟨pb2,qb2⟩:=Ds b2 g 200000000 255 hb2 hg
 have ⟨pb3,qb3⟩:=Ds b3 b 200000000 255 hb3 hb
 have ⟨pc1,qc1⟩:=Ds c1 r 200000000 255 hc1 hr
 have ⟨pc2,qc2⟩:=Ds c2 g 200000000 255 hc2 hg
 have ⟨pc3,qc3⟩:=Ds c3 b 200000000 255 hc3 hb
 simp only [Int.reduceMul,Int.reduceNeg] at pa1 pa2 pa3 pb1 pb2 pb3 pc1 pc2 pc3 qa1 qa2 qa3 qb1 qb2 qb3 qc1 qc2 qc3
 obtain ⟨hr1,hr2⟩:=hr
 obtain ⟨hg1,hg2⟩:=hg
 obtain ⟨hb1',hb2'⟩:=hb
 obtain ⟨ha41,ha42⟩:=ha4
 obtain ⟨hb41,hb42⟩:=hb4
 obtain ⟨hc41,hc42⟩:=hc4
 clear ha1 ha2 ha3 hb1 hb2 hb3 hc1 hc2 hc3
 go_enter Tryz.func56,Tryz.ntmps56
 go_wp2_with (first|(with_reducible refine wp_loop_rounds 4 ?_)|(with_reducible rw [rounds_succ])|(go_at_call 64;refine (Ie _ _ _ (by omega) (by omega) (by omega) (by omega)).mono ?_;rintro e w' ⟨rfl,rfl⟩))
 go_quiet (fail)
 go_wp2
 refine bodyPost_ret (FA rfl _ _ _) rfl ?_
 exact ⟨rfl,by repeat (first|exact Al.refl _|apply Al.drew|apply Al.drewN|apply Al.alloc|refine Al.setCell ?_ (by simp;omega) _)⟩
def NP(r g b:Int):Int:=Gk (Id (19595*r+38470*g+7471*b) 65536)
def NN(r g b:Int):Int:=Gk (Id (8388608+ -11059*r+ -21709*g+32768*b) 65536)
def NO(r g b:Int):Int:=Gk (Id (8388608+32768*r+ -27439*g+ -5329*b) 65536)
def Iw(y _u v:Int):Int:=Gk (Id (65536*y+91881*v-11760768) 65536)
def Iv(y u v:Int):Int:=Gk (Id (65536*y+ -22554*u+ -46802*v+8877568) 65536)
def Iu(y u _v:Int):Int:=Gk (Id (65536*y+116130*u-14864640) 65536)
theorem Yi(r g b:Int):0≤NP r g b∧NP r g b≤255:=Fh _
theorem Yg(r g b:Int):0≤NN r g b∧NN r g b≤255:=Fh _
theorem Yh(r g b:Int):0≤NO r g b∧NO r g b≤255:=Fh _
theorem QB(r g b:Int)(w:World)(hr:0≤r∧r≤255)(hg:0≤g∧g≤255)(hb:0≤b∧b≤255):
 Calls Tryz.prog 30 #[.int .i64 r, .int .i64 g, .int .i64 b] w fun e w'=>e= .returned (.tuple #[.int .i64 (NP r g b), .int .i64 (NN r g b), .int .i64 (NO r g b), .int .i64 0])∧Al w w':=by
 go_enter Tryz.func30,Tryz.ntmps30
 go_wp2_with (go_at_call 56;refine (Lu 19595 38470 7471 0 (-11059) (-21709) 32768 8388608 32768 (-27439) (-5329) 8388608 r g b _ hr hg hb (by omega) (by omega) (by omega) (by omega) (by omega) (by omega) (by omega) (by omega) (by omega) (by omega) (by omega) (by omega)).mono ?_;rintro e w' ⟨rfl,hgr⟩)
 refine bodyPost_ret (FA rfl _ _ _) rfl ?_
 refine ⟨Um ?_,?_⟩
 ·simp only [NP,NN,NO];rfl
 exact (by repeat (first|exact Al.refl _|apply Al.drew|apply Al.drewN|apply Al.alloc):Al w _).trans hgr
theorem Mx(r g b:Int)(w:World)(hr:0≤r∧r≤255)(hg:0≤g∧g≤255)(hb:0≤b∧b≤255):
 Calls Tryz.prog 96 #[.int .i64 r, .int .i64 g, .int .i64 b] w fun e w'=>e= .returned (.tuple #[.int .i64 (Iw r g b), .int .i64 (Iv r g b), .int .i64 (Iu r g b), .int .i64 0])∧Al w w':=by
 go_enter Tryz.func96,Tryz.ntmps96
 go_wp2_with (go_at_call 56;refine (Lu 65536 0 91881 (-11760768) 65536 (-22554) (-46802) 8877568 65536 116130 0 (-14864640) r g b _ hr hg hb (by omega) (by omega) (by omega) (by omega) (by omega) (by omega) (by omega) (by omega) (by omega) (by omega) (by omega) (by omega)).mono ?_;rintro e w' ⟨rfl,hgr⟩)
 refine bodyPost_ret (FA rfl _ _ _) rfl ?_
 refine ⟨Um ?_,?_⟩
 ·have e1:Iw r g b=Gk (Id (-11760768+65536*r+91881*b) 65536):=by unfold Iw;congr 2;omega
  have e2:Iv r g b=Gk (Id (8877568+65536*r+ -22554*g+ -46802*b) 65536):=by unfold Iv;congr 2;omega
  have e3:Iu r g b=Gk (Id (-14864640+65536*r+116130*g) 65536):=by unfold Iu;congr 2;omega
  rw [e1,e2,e3];rfl
 exact (by repeat (first|exact Al.refl _|apply Al.drew|apply Al.drewN|apply Al.alloc):Al w _).trans hgr
def DC(p:Int→Bool)(xs:List Int):Int:=match xs.findIdx? p with|some i=>(i:Int)|none=> -1
theorem LB(p:Int→Bool)(xs:List Int)(i:Nat)(h:i<xs.length)(hp:p (AK xs i)=true)(hpre:∀j,j<i→p (AK xs j)=false):DC p xs=i:=by
 have:xs.findIdx? p=some i:=by
  rw [List.findIdx?_eq_some_iff_getElem]
  refine ⟨h,by simpa [AK,List.getD,List.getElem?_eq_getElem h] using hp,fun j hj=>?_⟩
  have:=hpre j hj
  simpa [AK,List.getD,List.getElem?_eq_getElem (show j<xs.length by omega)] using this
 simp [DC,this]
theorem LA(p:Int→Bool)(xs:List Int)(hpre:∀j,j<xs.length→p (AK xs j)=false):DC p xs= -1:=by
 have:xs.findIdx? p=none:=by
  rw [List.findIdx?_eq_none_iff]
  intro x hx
  obtain ⟨j,hj,rfl⟩:=List.getElem_of_mem hx
  have:=hpre j hj
  simpa [AK,List.getD,List.getElem?_eq_getElem hj] using this
 simp [DC,this]
theorem MP(p:Int→Bool)(xs:List Int):decide (0≤DC p xs)=xs.any p:=by
 unfold DC
 rw [Bool.eq_iff_iff,decide_eq_true_eq,List.any_eq_true]
 cases h:xs.findIdx? p with
 | none=>
   rw [List.findIdx?_eq_none_iff] at h
   simp only [Int.reduceNeg]
   constructor
   ·intro h';omega
   rintro ⟨x,hx,hp⟩;rw [h x hx] at hp;cases hp
 | some i=>
   rw [List.findIdx?_eq_some_iff_getElem] at h
   obtain ⟨hi,hp,_⟩:=h
   exact ⟨fun _=>⟨_,List.getElem_mem hi,hp⟩,fun _=>by dsimp only;omega⟩
theorem N7(p:Int→Bool)(xs:List Int): -1≤DC p xs:=by
 unfold DC;split<;>omega
theorem LE(w:World)(v:Value)(xs:List Int)(hs:NU w v xs)(K:Nat)(caps:Array Value)(p:Int→Bool)(hk:∀(args:Array Value)(w:World),(callFunc K args).run Tryz.prog w= .ok (.enter K args) w)
 (hf:∀n,Calls Tryz.prog K (#[.int .i64 n]++caps) w fun e w'=>e= .returned (.bool (p n))∧w=w'):
 Calls Tryz.prog 114 #[v, .func (.func K) #[] caps] w fun e w'=>e= .returned (.int .i64 (DC p xs))∧w=w':=by
 obtain ⟨a,c,rfl,hc1,hc2,ha⟩:=hs.open
 have HF:=AD hf
 clear hf
 go_enter Tryz.func114,Tryz.ntmps114
 go_wp2_with fail
 go_loopg [8] xs.length (fun gk xv wr=>∃(i:Nat),gk+i=xs.length∧xv= .int .i64 i∧(∀j,j<i→p (AK xs j)=false)∧wr=w)
 case atStart=>exact ⟨0,rfl,rfl,fun j hj=>by omega,rfl⟩
 case round=>
  obtain ⟨i,hi,rfl,hpre,rfl⟩:=hrel
  have hi':i≤xs.length:=by omega
  have HP:=AD hpre
  clear hpre
  by_cases hlt:i<xs.length
  ·obtain ⟨ba,oa,rfl,hca⟩:=ha i hlt
   have h1:=hca i hlt
   clear ha hca
   have HM:Hid (gk-1+(i+1)=xs.length):=by unfold Hid;omega
   have HG:Hid (gk-1<gk):=by unfold Hid;omega
   clear hi
   go_wp2_with fail
   refine (HF.out (AK xs i)).mono ?_
   rintro e w' ⟨rfl,rfl⟩
   by_cases hp:p (AK xs i)=true
   ·have HX:=AD (LB p xs i hlt hp HP.out)
    rw [hp]
    clear hp
    go_wp2_with fail
    go_ret
    exact ⟨Hq HX.out.symm,rfl⟩
   have hp':p (AK xs i)=false:=by simpa using hp
   have HX:Hid (∀j,j<i+1→p (AK xs j)=false):=fun j hj=>by
    by_cases hji:j=i
    ·subst hji;exact hp'
    exact HP.out j (by omega)
   rw [hp']
   clear hp hp'
   go_wp2_with fail
   go_roundg (gk-1)
   case measure=>exact HG.out
   case rel=>exact ⟨i+1,HM.out,by go_num,HX.out,rfl⟩
  have HX:=AD (LA p xs (fun j hj=>HP.out j (by omega)))
  clear ha
  go_wp2_with fail
  go_ret
  exact ⟨Hq HX.out.symm,rfl⟩
theorem BG(w:World)(v:Value)(xs:List Int)(hs:NU w v xs)(K:Nat)(caps:Array Value)(p:Int→Bool)(hk:∀(args:Array Value)(w:World),(callFunc K args).run Tryz.prog w= .ok (.enter K args) w)
 (hf:∀n,Calls Tryz.prog K (#[.int .i64 n]++caps) w fun e w'=>e= .returned (.bool (p n))∧w=w'):
 Calls Tryz.prog 76 #[v, .func (.func K) #[] caps] w fun e w'=>e= .returned (.bool (xs.any p))∧w=w':=by
 have HA:=AD (MP p xs)
 have hb:=N7 p xs
 have HF:=AD (LE w v xs hs K caps p hk hf)
 clear hf hs
 go_enter Tryz.func76,Tryz.ntmps76
 go_wp2_with (go_at_call 114;refine HF.out.mono ?_;rintro e w' ⟨rfl,rfl⟩)
 go_ret
 exact ⟨DD HA.out,rfl⟩
def Bx(l:List Int)(lo hi:Int):Bool:= !l.any fun n=>decide (n<lo)||decide (hi<n)
theorem BL(l:List Int)(lo hi:Int):Bx l lo hi=true↔∀i,i<l.length→lo≤AK l i∧AK l i≤hi:=by
 unfold Bx
 rw [Bool.not_eq_true',List.any_eq_false]
 constructor
 ·intro h i hi
  have:=h l[i] (List.getElem_mem hi)
  simp only [Bool.or_eq_true,decide_eq_true_eq,not_or] at this
  simp only [AK,List.getD,List.getElem?_eq_getElem hi,Option.getD_some]
  omega
 intro h x hx
 obtain ⟨j,hj,rfl⟩:=List.getElem_of_mem hx
 have:=h j hj
 simp only [AK,List.getD,List.getElem?_eq_getElem hj,Option.getD_some] at this
 simp only [Bool.or_eq_true,decide_eq_true_eq,not_or]
 omega
end Go.Proofs.YtohacgmhmbijmaaGreatDoor
namespace Go.Proofs.YtohacgmhmbijmaaGreatDoor
open Go.RowKit
set_option linter.unusedVariables false
set_option maxRecDepth 100000
set_option maxHeartbeats 8000000
theorem Sy(n lo hi:Int)(p q:Addr)(w:World)(hp:w.cell? p=some (.int .i64 lo))(hq:w.cell? q=some (.int .i64 hi)):
 Calls Tryz.prog 98 #[.int .i64 n, .pointer (some p), .pointer (some q)] w fun e w'=>e= .returned (.bool (decide (n<lo)||decide (hi<n)))∧w=w':=by
 by_cases h:n<lo
 ·have h2:decide (n<lo)=true:=by simpa using h
  rw [h2]
  go_enter Tryz.func98,Tryz.ntmps98
  go_wp2_with fail
  go_ret
  exact ⟨rfl,rfl⟩
 have h2:decide (n<lo)=false:=by simpa using h
 rw [h2,Bool.false_or]
 have h3:lo≤n:=by omega
 clear h
 go_enter Tryz.func98,Tryz.ntmps98
 go_wp2_with fail
 go_ret
 exact ⟨rfl,rfl⟩
theorem EX(w:World)(l:List Int)(hl:l.length=64)(lo hi:Int):Calls Tryz.prog 63 #[.agg (iv l), .int .i64 lo, .int .i64 hi] w fun e w'=>e= .returned (.bool (Bx l lo hi))∧Al w w':=by
 have hmf:∀(fn:Fn)(first cap:Array Value)(w:World),(Instr.makeFunc fn first cap).run Tryz.prog w= .ok (.func fn first cap) w:=fun _ _ _ _=>rfl
 have HL:=AD hl
 clear hl
 go_enter Tryz.func63,Tryz.ntmps63
 go_wp2_with (refine wpList_box_iv rfl 26 _ rfl l rfl ?_;intro w1 hR hE hz)
 have hR2:=(hR.alloc (.cells #[.int .i64 lo] 3)).alloc (.cells #[.int .i64 hi] 3)
 have hE2:=(hE.alloc (.cells #[.int .i64 lo] 3)).alloc (.cells #[.int .i64 hi] 3)
 have hp:((w1.alloc (.cells #[.int .i64 lo] 3)).alloc (.cells #[.int .i64 hi] 3)).cell? ⟨w.heap.size+1,0,none⟩=some (.int .i64 lo):=by rw [←hz];simp [go_sem]
 have hq:((w1.alloc (.cells #[.int .i64 lo] 3)).alloc (.cells #[.int .i64 hi] 3)).cell? ⟨w.heap.size+1+1,0,none⟩=some (.int .i64 hi):=by rw [←hz];simp [go_sem]
 refine (BG _ _ l (NU.of_row hR2 HL.out (by unfold maxLen;omega)) 98 #[.pointer (some ⟨w.heap.size+1,0,none⟩), .pointer (some ⟨w.heap.size+1+1,0,none⟩)] (fun n=>decide (n<lo)||decide (hi<n)) Tryz.call98 (fun n=>Sy n lo hi _ _ _ hp hq)).mono ?_
 rintro e w' ⟨rfl,rfl⟩
 clear hp hq hR2
 go_wp2_with fail
 go_ret
 exact ⟨rfl,hE2⟩
def JH(q:List Int):Bool:=Bx q 1 255
theorem Cy(w:World)(q:List Int)(hq:q.length=64):Calls Tryz.prog 36 #[.agg (iv q)] w fun e w'=>e= .returned (.int .i64 (if JH q then 0 else 1))∧Al w w':=by
 have HL:=AD hq
 have HI:=AD (show (Tryz.prog.info? 26).map (·.size)=some q.length by rw [hq];kernel_rfl)
 clear hq
 cases hk:JH q
 all_goals
  have HK:=AD hk
  clear hk
  go_enter Tryz.func36,Tryz.ntmps36
  go_wp2_with (first
   | (refine wpList_box_iv rfl 26 _ rfl q rfl ?_;intro w1 hR hE hz)
   | (refine wpList_load_iv rfl 26 _ rfl w.heap.size rfl q _ hR Tryz.underlying26 rfl HI.out ?_)
   | (go_at_call 63;refine (EX _ q HL.out 1 255).mono ?_;rintro e w' ⟨rfl,hE2⟩;rw [show Bx q 1 255=_ from HK.out];replace hE:=hE.trans hE2;clear hE2))
  go_ret
  exact ⟨rfl,hE⟩
theorem Gr(n m:Int)(w:World)(h0:0≤m)(h1:m≤9223372036854775807):Calls Tryz.prog 83 #[.int .i64 n, .int .i64 m] w fun e w'=>e= .returned (.int .i64 (min (max n (-m)) m))∧w=w':=by
 go_enter Tryz.func83,Tryz.ntmps83
 go_wp2_with fail
 go_ret
 exact ⟨rfl,rfl⟩
theorem Ca{P:Program}{fn:Func}{p u:Tmp}{ty:TypeId}(h:fn.results=#[.cell p ty, .tmp u])(tmps:Array Value)(w:World)(g:Nat)(l:List Int)(d:TypeDesc)
 (hp:tmps.getD p undef= .pointer (some ⟨g,0,none⟩)) (hr:DG w g l) (hu:P.underlying ty=some d) (hd:d.isRow=true) (hi:(P.info? ty).map (·.size)=some l.length):
 (results fn tmps).run P w= .ok (.tuple #[.agg (iv l),tmps.getD u undef]) w:=by
 have hp':tmps[p]?.getD undef= .pointer (some ⟨g,0,none⟩):=by simpa using hp
 have hl:=run_loadVar_mid (P:=P) w g 0 ty (l.map (Value.int .i64)) d hr.range hu hd (by rw [hi,List.length_map])
 simp [results,h,hp',asAddr,hl,iv]
def Er(g:Int→Int→Int)(b q:List Int):List Int:=List.zipWith g b q
theorem Kx(g:Int→Int→Int)(b q:List Int)(hb:b.length=64)(hq:q.length=64):(Er g b q).length=64:=by simp [Er,hb,hq]
theorem O4(g:Int→Int→Int)(b q:List Int)(hb:b.length=64)(hq:q.length=64)(i:Nat)(hi:i<64):AK (Er g b q) i=g (AK b i) (AK q i):=by
 simp [AK,Er,List.getD,List.getElem?_zipWith,List.getElem?_eq_getElem (show i<b.length by omega),List.getElem?_eq_getElem (show i<q.length by omega)]
def GS(m b:List Int)(i:Nat):List Int:=m.take i++b.drop i
theorem Pt(m b:List Int):GS m b 0=b:=by simp [GS]
theorem SO(m b:List Int)(h:m.length=b.length):GS m b b.length=m:=by simp [GS,←h]
theorem SP(m b:List Int)(h:m.length=b.length)(i:Nat)(hi:i≤b.length):(GS m b i).length=b.length:=by simp [GS];omega
theorem SQ(m b:List Int)(h:m.length=b.length)(i:Nat)(hi:i<b.length):(GS m b i).set i (AK m i)=GS m b (i+1):=by
 unfold GS
 have e1:(m.take i).length=i:=by simp;omega
 rw [List.set_append_right _ _ (by omega),e1,Nat.sub_self,List.drop_eq_getElem_cons hi,List.set_cons_zero,List.take_add_one,List.getElem?_eq_getElem (by omega),List.append_assoc]
 simp [AK,List.getD,List.getElem?_eq_getElem (show i<m.length by omega)]
theorem OW(w:World)(b q:List Int)(hb:b.length=64)(hq:q.length=64)(most:Int)(hm0:0≤most)(hm1:most≤1000000)(K:Nat)(g:Int→Int→Int)
 (hk:∀(args:Array Value)(w:World),(callFunc K args).run Tryz.prog w= .ok (.enter K args) w)
 (hf:∀(n d:Int)(w:World),-most≤n→n≤most→1≤d→d≤255→Calls Tryz.prog K #[.int .i64 n, .int .i64 d] w fun e w'=>e= .returned (.int .i64 (g n d))∧w=w')
 (hQ:JH q=true) (hB:Bx b (-most) most=true):
 Calls Tryz.prog 81 #[.agg (iv b), .agg (iv q), .int .i64 most, .func (.func K) #[] #[]] w fun e w'=>e= .returned (.tuple #[.agg (iv (Er g b q)), .int .i64 0])∧Al w w':=by
 have HLb:=AD hb
 have HLq:=AD hq
 have HIb:=AD (show (Tryz.prog.info? 26).map (·.size)=some b.length by rw [hb];kernel_rfl)
 have HIq:=AD (show (Tryz.prog.info? 26).map (·.size)=some q.length by rw [hq];kernel_rfl)
 have HQ:=AD hQ
 have HB:=AD hB
 have HF:=AD hf
 have HZ:=AD (Kx g b q hb hq)
 clear hb hq hQ hB hf
 go_enter Tryz.func81,Tryz.ntmps81
 go_wp2_with (first
  | (refine wpList_box_iv rfl 26 _ rfl b rfl ?_;intro w1 hR1 hE1 hz1)
  | (refine wpList_box_iv rfl 26 _ rfl q rfl ?_;intro w2 hR2 hE2 hz2;replace hR1:=hR1.ext hE2;rw [hz1] at hR2 hz2;replace hE1:=hE1.trans hE2;clear hE2)
  | (refine wpList_alloc_iv rfl 26 rfl (List.replicate 64 0) (fun w=>Tryz.zeroValue26 w) ?_;intro w3 hR3 hE3 hz3;replace hR1:=hR1.ext hE3;replace hR2:=hR2.ext hE3;rw [hz2] at hR3 hz3;replace hE1:=hE1.trans hE3;clear hE3)
  | (refine wpList_load_iv rfl 26 _ rfl (w.heap.size+1) rfl q _ hR2 Tryz.underlying26 rfl HIq.out ?_)
  | (refine wpList_load_iv rfl 26 _ rfl w.heap.size rfl b _ hR1 Tryz.underlying26 rfl HIb.out ?_)
  | (go_at_call 36;refine (Cy _ q HLq.out).mono ?_;rintro e w' ⟨rfl,hE⟩;rw [HQ.out];replace hR1:=hR1.ext hE;replace hR2:=hR2.ext hE;replace hR3:=hR3.ext hE;replace hE1:=hE1.trans hE;clear hE))
 refine (EX _ b HLb.out (-most) most).mono ?_
 rintro e w4 ⟨rfl,hE⟩
 rw [HB.out]
 replace hR1:=hR1.ext hE
 replace hR2:=hR2.ext hE
 replace hR3:=hR3.ext hE
 replace hE1:=hE1.trans hE
 clear hE
 go_wp2_with (first
  | (refine wpList_load_iv rfl 26 _ rfl w.heap.size rfl b _ hR1 Tryz.underlying26 rfl HIb.out ?_))
 go_loopg [27] 64 (fun gk xv wr=>∃(i:Nat),gk+i=64∧xv= .int .i64 i∧DG wr w.heap.size (GS (Er g b q) b i)∧DG wr (w.heap.size+1) q∧DG wr (w.heap.size+1+1) (List.replicate 64 0)∧Al w wr)
 case atStart=>exact ⟨0,rfl,rfl,by rw [Pt];exact hR1,hR2,hR3,hE1⟩
 case round=>
  clear hR1 hR2 hR3 hE1
  obtain ⟨i,hi,rfl,hR1,hR2,hR3,hE1⟩:=hrel
  by_cases hlt:i<64
  ·have hbi:=FY b i (by rw [HLb.out];exact hlt)
   have hqi:=hR2.cell i (by rw [HLq.out];exact hlt)
   have hzb:(Er g b q).length=b.length:=by rw [HZ.out,HLb.out]
   have hcell:=hR1.cell i (by rw [SP _ _ hzb i (by rw [HLb.out];omega),HLb.out];exact hlt)
   have hfree:=hR1.free i
   have h1:=hR1.set i (AK (Er g b q) i)
   rw [SQ _ _ hzb i (by rw [HLb.out];exact hlt),O4 g b q HLb.out HLq.out i hlt] at h1
   have HR1:=AD h1
   have HR2:=AD (hR2.setOther ⟨w.heap.size,i,none⟩ (.int .i64 (g (AK b i) (AK q i))) (by simp))
   have HR3:=AD (hR3.setOther ⟨w.heap.size,i,none⟩ (.int .i64 (g (AK b i) (AK q i))) (by simp;omega))
   have HE:=AD (hE1.setCell (a:=⟨w.heap.size,i,none⟩) (Nat.le_refl _) (.int .i64 (g (AK b i) (AK q i))))
   have HM:Hid (gk-1+(i+1)=64):=by unfold Hid;omega
   have HG:Hid (gk-1<gk):=by unfold Hid;omega
   have hbb:=(BL _ _ _).1 HB.out i (by rw [HLb.out];exact hlt)
   have hqq:=(BL _ _ _).1 HQ.out i (by rw [HLq.out];exact hlt)
   obtain ⟨hbb1,hbb2⟩:=hbb
   obtain ⟨hqq1,hqq2⟩:=hqq
   clear hi h1 hzb hR1 hR2 hR3 hE1
   go_wp2_with fail
   refine (HF.out (AK b i) (AK q i) _ hbb1 hbb2 hqq1 hqq2).mono ?_
   rintro e w' ⟨rfl,rfl⟩
   go_wp2_with fail
   go_roundg (gk-1)
   case measure=>exact HG.out
   case rel=>exact ⟨i+1,HM.out,by go_num,HR1.out,HR2.out,HR3.out,HE.out⟩
  obtain rfl:i=64:=by omega
  have h64:=SO (Er g b q) b (by rw [HZ.out,HLb.out])
  rw [HLb.out] at h64
  rw [h64] at hR1
  have HIz:=AD (show (Tryz.prog.info? 26).map (·.size)=some (Er g b q).length by rw [HZ.out];kernel_rfl)
  have HL:=AD (show (List.replicate 64 (0:Int)).length=(Er g b q).length by rw [HZ.out];rfl)
  clear h64 hR2
  have hR4:=hR3.setRow (Er g b q)
  have hE4:=hE1.setRow (g:=w.heap.size+1+1) (by omega) (iv (Er g b q))
  go_wp2_with (first
   | (refine wpList_load_iv rfl 26 _ rfl w.heap.size rfl (Er g b q) _ hR1 Tryz.underlying26 rfl HIz.out ?_)
   | (refine wpList_store_iv rfl 26 _ _ rfl (w.heap.size+1+1) rfl (Er g b q) (List.replicate 64 0) rfl hR3 HIz.out HL.out ?_))
  refine bodyPost_ret (Ca rfl _ _ (w.heap.size+1+1) (Er g b q) _ rfl hR4 Tryz.underlying26 rfl HIz.out) rfl ?_
  exact ⟨rfl,hE4⟩
def CS:List Int:=List.replicate 64 0
theorem Lk(w:World)(b q:List Int)(hb:b.length=64)(hq:q.length=64)(most:Int)(hm0:0≤most)(hm1:most≤1000000)(K:Nat)
 (hQ:(JH q&&Bx b (-most) most)=false):
 Calls Tryz.prog 81 #[.agg (iv b), .agg (iv q), .int .i64 most, .func (.func K) #[] #[]] w fun e w'=>e= .returned (.tuple #[.agg (iv CS), .int .i64 1])∧Al w w':=by
 have HLb:=AD hb
 have HLq:=AD hq
 have HIb:=AD (show (Tryz.prog.info? 26).map (·.size)=some b.length by rw [hb];kernel_rfl)
 have HIq:=AD (show (Tryz.prog.info? 26).map (·.size)=some q.length by rw [hq];kernel_rfl)
 have HIz:=AD (show (Tryz.prog.info? 26).map (·.size)=some CS.length by kernel_rfl)
 clear hb hq
 cases hk:JH q
 ·have HQ:=AD hk
  clear hQ hk
  go_enter Tryz.func81,Tryz.ntmps81
  go_wp2_with (first
   | (refine wpList_box_iv rfl 26 _ rfl b rfl ?_;intro w1 hR1 hE1 hz1)
   | (refine wpList_box_iv rfl 26 _ rfl q rfl ?_;intro w2 hR2 hE2 hz2;replace hR1:=hR1.ext hE2;rw [hz1] at hR2 hz2;replace hE1:=hE1.trans hE2;clear hE2)
   | (refine wpList_alloc_iv rfl 26 rfl CS (fun w=>Tryz.zeroValue26 w) ?_;intro w3 hR3 hE3 hz3;replace hR1:=hR1.ext hE3;replace hR2:=hR2.ext hE3;rw [hz2] at hR3 hz3;replace hE1:=hE1.trans hE3;clear hE3)
   | (refine wpList_load_iv rfl 26 _ rfl (w.heap.size+1) rfl q _ hR2 Tryz.underlying26 rfl HIq.out ?_)
   | (go_at_call 36;refine (Cy _ q HLq.out).mono ?_;rintro e w' ⟨rfl,hE⟩;rw [HQ.out];replace hR3:=hR3.ext hE;replace hE1:=hE1.trans hE;clear hE)
   | (refine wpList_store_iv rfl 26 _ _ rfl (w.heap.size+1+1) rfl CS CS rfl hR3 HIz.out rfl ?_;replace hR3:=hR3.setRow CS;replace hE1:=hE1.setRow (g:=w.heap.size+1+1) (by omega) (iv CS)))
  refine bodyPost_ret (Ca rfl _ _ (w.heap.size+1+1) CS _ rfl hR3 Tryz.underlying26 rfl HIz.out) rfl ?_
  exact ⟨rfl,hE1⟩
 rw [hk,Bool.true_and] at hQ
 have HQ:=AD hk
 have HB:=AD hQ
 clear hQ hk
 go_enter Tryz.func81,Tryz.ntmps81
 go_wp2_with (first
  | (refine wpList_box_iv rfl 26 _ rfl b rfl ?_;intro w1 hR1 hE1 hz1)
  | (refine wpList_box_iv rfl 26 _ rfl q rfl ?_;intro w2 hR2 hE2 hz2;replace hR1:=hR1.ext hE2;rw [hz1] at hR2 hz2;replace hE1:=hE1.trans hE2;clear hE2)
  | (refine wpList_alloc_iv rfl 26 rfl CS (fun w=>Tryz.zeroValue26 w) ?_;intro w3 hR3 hE3 hz3;replace hR1:=hR1.ext hE3;replace hR2:=hR2.ext hE3;rw [hz2] at hR3 hz3;replace hE1:=hE1.trans hE3;clear hE3)
  | (refine wpList_load_iv rfl 26 _ rfl (w.heap.size+1) rfl q _ hR2 Tryz.underlying26 rfl HIq.out ?_)
  | (refine wpList_load_iv rfl 26 _ rfl w.heap.size rfl b _ hR1 Tryz.underlying26 rfl HIb.out ?_)
  | (go_at_call 36;refine (Cy _ q HLq.out).mono ?_;rintro e w' ⟨rfl,hE⟩;rw [HQ.out];replace hR1:=hR1.ext hE;replace hR3:=hR3.ext hE;replace hE1:=hE1.trans hE;clear hE)
  | (go_at_call 63;refine (EX _ b HLb.out (-most) most).mono ?_;rintro e w' ⟨rfl,hE⟩;rw [HB.out];replace hR3:=hR3.ext hE;replace hE1:=hE1.trans hE;clear hE)
  | (refine wpList_store_iv rfl 26 _ _ rfl (w.heap.size+1+1) rfl CS CS rfl hR3 HIz.out rfl ?_;replace hR3:=hR3.setRow CS;replace hE1:=hE1.setRow (g:=w.heap.size+1+1) (by omega) (iv CS)))
 refine bodyPost_ret (Ca rfl _ _ (w.heap.size+1+1) CS _ rfl hR3 Tryz.underlying26 rfl HIz.out) rfl ?_
 exact ⟨rfl,hE1⟩
def dn(n d:Int):Int:=min (max (Id n d) (-2047)) 2047
def cZ(n d:Int):Int:=min (max (n*d) (-40000)) 40000
def De(b q:List Int):List Int:=if JH q&&Bx b (-40000) 40000 then Er dn b q else CS
def La(b q:List Int):Int:=if JH q&&Bx b (-40000) 40000 then 0 else 1
def PC(b q:List Int):List Int:=if JH q&&Bx b (-2047) 2047 then Er cZ b q else CS
def az(b q:List Int):Int:=if JH q&&Bx b (-2047) 2047 then 0 else 1
theorem Fw(b q:List Int)(hb:b.length=64)(hq:q.length=64):(De b q).length=64:=by
 unfold De;split
 ·exact Kx _ _ _ hb hq
 rfl
theorem NE(b q:List Int)(hb:b.length=64)(hq:q.length=64):(PC b q).length=64:=by
 unfold PC;split
 ·exact Kx _ _ _ hb hq
 rfl
theorem Wn(n d:Int)(w:World)(h0: -40000≤n)(h1:n≤40000)(h2:1≤d)(h3:d≤255):
 Calls Tryz.prog 82 #[.int .i64 n, .int .i64 d] w fun e w'=>e= .returned (.int .i64 (dn n d))∧w=w':=by
 go_enter Tryz.func82,Tryz.ntmps82
 go_wp2_with (first
  | (go_at_call 64;refine (Ie _ _ _ (by omega) (by omega) (by omega) (by omega)).mono ?_;rintro e w' ⟨rfl,rfl⟩)
  | (go_at_call 83;refine (Gr _ _ _ (by omega) (by omega)).mono ?_;rintro e w' ⟨rfl,rfl⟩))
 go_ret
 exact ⟨rfl,rfl⟩
theorem R8(w:World)(b q:List Int)(hb:b.length=64)(hq:q.length=64):
 Calls Tryz.prog 81 #[.agg (iv b), .agg (iv q), .int .i64 40000, .func (.func 82) #[] #[]] w fun e w'=>e= .returned (.tuple #[.agg (iv (De b q)), .int .i64 (La b q)])∧Al w w':=by
 cases h:JH q&&Bx b (-40000) 40000
 ·rw [show De b q=CS by simp [De,h],show La b q=1 by simp [La,h]]
  exact Lk w b q hb hq 40000 (by omega) (by omega) _ h
 rw [show De b q=Er dn b q by simp [De,h],show La b q=0 by simp [La,h]]
 rw [Bool.and_eq_true] at h
 exact OW w b q hb hq 40000 (by omega) (by omega) 82 dn Tryz.call82 Wn h.1 h.2
theorem Tr(w:World)(b q:List Int)(hb:b.length=64)(hq:q.length=64):
 Calls Tryz.prog 48 #[.agg (iv b), .agg (iv q)] w fun e w'=>e= .returned (.tuple #[.agg (iv (De b q)), .int .i64 (La b q)])∧Al w w':=by
 have HC:=AD (fun w=>R8 w b q hb hq)
 have HIb:=AD (show (Tryz.prog.info? 26).map (·.size)=some b.length by rw [hb];kernel_rfl)
 have HIq:=AD (show (Tryz.prog.info? 26).map (·.size)=some q.length by rw [hq];kernel_rfl)
 have HIr:=AD (show (Tryz.prog.info? 26).map (·.size)=some (De b q).length by rw [Fw b q hb hq];kernel_rfl)
 have HL:=AD (show CS.length=(De b q).length by rw [Fw b q hb hq];rfl)
 clear hb hq
 go_enter Tryz.func48,Tryz.ntmps48
 go_wp2_with (first
  | (refine wpList_box_iv rfl 26 _ rfl b rfl ?_;intro w1 hR1 hE1 hz1)
  | (refine wpList_box_iv rfl 26 _ rfl q rfl ?_;intro w2 hR2 hE2 hz2;replace hR1:=hR1.ext hE2;rw [hz1] at hR2 hz2;replace hE1:=hE1.trans hE2;clear hE2)
  | (refine wpList_alloc_iv rfl 26 rfl CS (fun w=>Tryz.zeroValue26 w) ?_;intro w3 hR3 hE3 hz3;replace hR1:=hR1.ext hE3;replace hR2:=hR2.ext hE3;rw [hz2] at hR3 hz3;replace hE1:=hE1.trans hE3;clear hE3)
  | (refine wpList_load_iv rfl 26 _ rfl (w.heap.size+1) rfl q _ hR2 Tryz.underlying26 rfl HIq.out ?_)
  | (refine wpList_load_iv rfl 26 _ rfl w.heap.size rfl b _ hR1 Tryz.underlying26 rfl HIb.out ?_)
  | (go_at_call 81;refine (HC.out _).mono ?_;rintro e w' ⟨rfl,hE⟩;replace hR3:=hR3.ext hE;replace hE1:=hE1.trans hE;clear hE)
  | (refine wpList_store_iv rfl 26 _ _ rfl (w.heap.size+1+1) rfl (De b q) CS rfl hR3 HIr.out HL.out ?_;replace hR3:=hR3.setRow (De b q);replace hE1:=hE1.setRow (g:=w.heap.size+1+1) (by omega) (iv (De b q))))
 refine bodyPost_ret (Ca rfl _ _ (w.heap.size+1+1) (De b q) _ rfl hR3 Tryz.underlying26 rfl HIr.out) rfl ?_
 exact ⟨rfl,hE1⟩
theorem cN(n d:Int)(w:World)(h0: -2047≤n)(h1:n≤2047)(h2:1≤d)(h3:d≤255):
 Calls Tryz.prog 126 #[.int .i64 n, .int .i64 d] w fun e w'=>e= .returned (.int .i64 (cZ n d))∧w=w':=by
 have ⟨p1,p2⟩:=Ds n d 2047 255 ⟨h0,h1⟩ ⟨by omega,h3⟩
 simp only [Int.reduceMul,Int.reduceNeg] at p1 p2
 go_enter Tryz.func126,Tryz.ntmps126
 go_wp2_with (go_at_call 83;refine (Gr _ _ _ (by omega) (by omega)).mono ?_;rintro e w' ⟨rfl,rfl⟩)
 go_ret
 exact ⟨rfl,rfl⟩
theorem Xt(w:World)(b q:List Int)(hb:b.length=64)(hq:q.length=64):
 Calls Tryz.prog 81 #[.agg (iv b), .agg (iv q), .int .i64 2047, .func (.func 126) #[] #[]] w fun e w'=>e= .returned (.tuple #[.agg (iv (PC b q)), .int .i64 (az b q)])∧Al w w':=by
 cases h:JH q&&Bx b (-2047) 2047
 ·rw [show PC b q=CS by simp [PC,h],show az b q=1 by simp [az,h]]
  exact Lk w b q hb hq 2047 (by omega) (by omega) _ h
 rw [show PC b q=Er cZ b q by simp [PC,h],show az b q=0 by simp [az,h]]
 rw [Bool.and_eq_true] at h
 exact OW w b q hb hq 2047 (by omega) (by omega) 126 cZ Tryz.call126 cN h.1 h.2
theorem aI(w:World)(b q:List Int)(hb:b.length=64)(hq:q.length=64):
 Calls Tryz.prog 93 #[.agg (iv b), .agg (iv q)] w fun e w'=>e= .returned (.tuple #[.agg (iv (PC b q)), .int .i64 (az b q)])∧Al w w':=by
 have HC:=AD (fun w=>Xt w b q hb hq)
 have HIb:=AD (show (Tryz.prog.info? 26).map (·.size)=some b.length by rw [hb];kernel_rfl)
 have HIq:=AD (show (Tryz.prog.info? 26).map (·.size)=some q.length by rw [hq];kernel_rfl)
 have HIr:=AD (show (Tryz.prog.info? 26).map (·.size)=some (PC b q).length by rw [NE b q hb hq];kernel_rfl)
 have HL:=AD (show CS.length=(PC b q).length by rw [NE b q hb hq];rfl)
 clear hb hq
 go_enter Tryz.func93,Tryz.ntmps93
 go_wp2_with (first
  | (refine wpList_box_iv rfl 26 _ rfl b rfl ?_;intro w1 hR1 hE1 hz1)
  | (refine wpList_box_iv rfl 26 _ rfl q rfl ?_;intro w2 hR2 hE2 hz2;replace hR1:=hR1.ext hE2;rw [hz1] at hR2 hz2;replace hE1:=hE1.trans hE2;clear hE2)
  | (refine wpList_alloc_iv rfl 26 rfl CS (fun w=>Tryz.zeroValue26 w) ?_;intro w3 hR3 hE3 hz3;replace hR1:=hR1.ext hE3;replace hR2:=hR2.ext hE3;rw [hz2] at hR3 hz3;replace hE1:=hE1.trans hE3;clear hE3)
  | (refine wpList_load_iv rfl 26 _ rfl (w.heap.size+1) rfl q _ hR2 Tryz.underlying26 rfl HIq.out ?_)
  | (refine wpList_load_iv rfl 26 _ rfl w.heap.size rfl b _ hR1 Tryz.underlying26 rfl HIb.out ?_)
  | (go_at_call 81;refine (HC.out _).mono ?_;rintro e w' ⟨rfl,hE⟩;replace hR3:=hR3.ext hE;replace hE1:=hE1.trans hE;clear hE)
  | (refine wpList_store_iv rfl 26 _ _ rfl (w.heap.size+1+1) rfl (PC b q) CS rfl hR3 HIr.out HL.out ?_;replace hR3:=hR3.setRow (PC b q);replace hE1:=hE1.setRow (g:=w.heap.size+1+1) (by omega) (iv (PC b q))))
 refine bodyPost_ret (Ca rfl _ _ (w.heap.size+1+1) (PC b q) _ rfl hR3 Tryz.underlying26 rfl HIr.out) rfl ?_
 exact ⟨rfl,hE1⟩
end Go.Proofs.YtohacgmhmbijmaaGreatDoor
namespace Go.Proofs.YtohacgmhmbijmaaGreatDoor
attribute [local irreducible] Region.wanted
open Go.RowKit
set_option linter.unusedVariables false
set_option maxRecDepth 100000
set_option maxHeartbeats 8000000
def Bm(l:List Int)(s j:Nat):List Int:=(l.drop (j*s)).take s
theorem Mc(l:List Int)(s j i:Nat)(h:i<s):AK (Bm l s j) i=AK l (j*s+i):=by
 unfold Bm;rw [OO _ _ _ h,ON]
theorem CM(l:List Int)(s j n:Nat)(h:l.length=n*s)(hj:j<n):(Bm l s j).length=s:=by
 have:j*s+s≤n*s:=by have:=Nat.mul_le_mul_right s hj;rw [Nat.succ_mul] at this;exact this
 simp [Bm];omega
theorem Px(l:List Int)(i:Nat)(z:Int)(h:i<l.length):AK (l.set i z) i=z:=by simp [AK,List.getD,h]
theorem Py(l:List Int)(i j:Nat)(z:Int)(h:i≠j):AK (l.set i z) j=AK l j:=by simp [AK,List.getD,h]
theorem CL(l:List Int)(i j:Nat)(z:Int)(h:i<l.length):AK (l.set i z) j=if i=j then z else AK l j:=by
 split
 ·rename_i e;subst e;exact Px l i z h
 rename_i e;exact Py l i j z e
theorem Fb(l m:List Int)(i:Nat)(h:i<l.length):AK (l++m) i=AK l i:=by simp [AK,List.getD,List.getElem?_append_left h]
theorem KB(l m:List Int)(i:Nat)(h:l.length≤i):AK (l++m) i=AK m (i-l.length):=by simp [AK,List.getD,List.getElem?_append_right h]
theorem Q5(l:List Int)(f:Int→Int)(i:Nat)(h:i<l.length):AK (l.map f) i=f (AK l i):=by simp [AK,List.getD,h]
theorem Cs(l:List Int)(i:Nat)(h:i<l.length):l[i]? =some (AK l i):=by simp [AK,List.getD,h]
theorem Mb(l:List Int)(i:Nat)(h:l.length≤i):AK l i=0:=by simp [AK,List.getD,List.getElem?_eq_none h]
theorem He{l m:List Int}(h:l.length=m.length)(k:∀i,i<l.length→AK l i=AK m i):l=m:=by
 apply List.ext_getElem h
 intro i h1 h2
 have:=k i h1
 simpa [AK,List.getD,List.getElem?_eq_getElem h1,List.getElem?_eq_getElem h2] using this
theorem Du(n i:Nat):AK (List.replicate n 0) i=0:=by unfold AK;rw [List.getD_eq_getElem?_getD,List.getElem?_replicate];split<;>rfl
theorem XF(n:Nat)(z:Int)(i:Nat)(h:i<n):AK (List.replicate n z) i=z:=by simp [AK,List.getD,h]
def Do(n:Nat)(F:Nat→Int):List Int:=(List.range n).map F
theorem Bt(n:Nat)(F:Nat→Int):(Do n F).length=n:=by simp [Do]
theorem JU(n:Nat)(F:Nat→Int)(i:Nat)(h:i<n):AK (Do n F) i=F i:=by simp [Do,AK,List.getD,h]
theorem Gp{n:Nat}{F:Nat→Int}{l:List Int}(h:l.length=n)(k:∀i,i<n→AK l i=F i):l=Do n F:=He (by rw [h,Bt]) fun i hi=>by rw [k i (by omega),JU n F i (by omega)]
section
variable{P:Program}{W w:World}{rs rs':List Au}{Q:Exit→Act→World→Prop}{K:Act→World→Prop}{o:Oper}{a:Act}
theorem St.ownLen{e:TypeId}{s n c:Nat}{ad:Option Addr}{xs:List Value}(hS:St W w rs)(hp:AT (Go.Proofs.YtohacgmhmbijmaaGreatDoor.own e s ad n c xs) rs rs'):xs.length=n*s:=(hS.own hp).1
theorem Lj{e:TypeId}{s n c g off m:Nat}{xs:List Value}(hS:St W w rs)(hp:AT (own e s (some ⟨g,0,none⟩) n c xs) rs rs'):w.rangeAt g off ((xs.drop off).take m):=fun j v hv=>by
 rw [List.getElem?_take] at hv
 split at hv
 ·rw [List.getElem?_drop] at hv;exact Fc hS hp hv
 cases hv
theorem Gs(hS:St W w rs)(ty:TypeId)(x:Operand)(ho:o.op= .load ty x)(g off:Nat)(hx:a.eval x= .pointer (some ⟨g,off,none⟩))(h1:K4 P ty)(e:TypeId)(s n c:Nat)(l:List Int)(hp:AT (own e s (some ⟨g,0,none⟩) n c (l.map (Value.int .i64))) rs rs')
 (hi:off<n*s) (h:K (a.put o.dst (.int .i64 (AK l off))) w):o.wp P a w K Q:=by
 have hl:=hS.ownLen hp
 rw [List.length_map] at hl
 exact Ai hS ty x ho g off hx h1 e s n c _ hp _ (by rw [List.getElem?_map,Cs l off (by omega)];rfl) h
theorem L7(hS:St W w rs)(ty:TypeId)(x:Operand)(ho:o.op= .load ty x)(g off:Nat)(hx:a.eval x= .pointer (some ⟨g,off,none⟩))(m:Nat)(h1:EW P ty m)(e:TypeId)(s n c:Nat)(l:List Int)(hp:AT (own e s (some ⟨g,0,none⟩) n c (l.map (Value.int .i64))) rs rs')
 (hi:off+m≤n*s) (h:K (a.put o.dst (.agg (iv ((l.drop off).take m)))) w):o.wp P a w K Q:=by
 have hl:=hS.ownLen hp
 rw [List.length_map] at hl
 refine EH ty x ho g off hx m h1 (((l.drop off).take m).map (Value.int .i64)) (by simp;omega) ?_ h
 have:=Lj (off:=off) (m:=m) hS hp
 rwa [←List.map_drop,←List.map_take] at this
theorem Gt(hS:St W w rs)(ty:TypeId)(x:Operand)(ho:o.op= .load ty x)(g off:Nat)(hx:a.eval x= .pointer (some ⟨g,off,none⟩))(m:Nat)(h1:EW P ty m)(e:TypeId)(s n c:Nat)(l:List Int)(hp:AT (own e s (some ⟨g,0,none⟩) n c (l.map (Value.int .i64))) rs rs')
 (hi:off+m≤n*s) (l':List Int) (hl':(l.drop off).take m=l') (h:K (a.put o.dst (.agg (iv l'))) w):o.wp P a w K Q:=
 L7 hS ty x ho g off hx m h1 e s n c l hp hi (by rw [hl'];exact h)
theorem SW{e:TypeId}{s n c g off:Nat}{xs:List Value}(hS:St W w rs)(hp:AT (own e s (some ⟨g,0,none⟩) n c xs) rs rs')(v:Value)(hi:off<n*s):
 w.frozen? ⟨g,off,none⟩=false∧St W (w.setCell ⟨g,off,none⟩ v) (own e s (some ⟨g,0,none⟩) n c (xs.set off v)::rs'):=by
 have hown:=hS.own hp
 refine ⟨?_,?_⟩
 ·rcases hown.2 with ⟨h1,h2⟩|⟨g',cap,cur,h1,_,hg,_⟩
  ·cases h1
  cases h1;exact frozen_of_row w g off cur e hg
 refine St.change (rs1:=[own e s (some ⟨g,0,none⟩) n c (xs.set off v)]) (hS.pull hp) fun f1 h1 _ _=>?_
 obtain ⟨rfl,h1⟩:=h1
 refine ⟨[g],⟨[g],[],rfl,⟨rfl,by simpa using h1.1,?_⟩,rfl⟩,by simp,fun b hb=> .inl (by simpa [Value.ownBlock] using hb),EK.setCell w ⟨g,off,none⟩ v⟩
 rcases h1.2 with ⟨h2,h3⟩|⟨g',cap,cur,h2,hb,hg,hn,hc,hsz,htake⟩
 ·cases h2
 cases h2
 refine .inr ⟨g,c,cur.setIfInBounds off v,rfl,hb,heap_setCell_same w g off cur e _ hg,hn,hc,by simpa using hsz,?_⟩
 rw [Array.toList_setIfInBounds,List.take_set,htake]
theorem Kp(hS:St W w rs)(ty:TypeId)(x y:Operand)(ho:o.op= .store ty x y)(g off:Nat)(hx:a.eval x= .pointer (some ⟨g,off,none⟩))(h1:K4 P ty)(e:TypeId)(s n c:Nat)(xs:List Value)(hp:AT (own e s (some ⟨g,0,none⟩) n c xs) rs rs')
 (v:Value) (hy:DI (a.eval y) v) (hv:v.oneCell'=true) (hi:off<n*s) (hd:o.dst=none) (h:∀w',St W w' (own e s (some ⟨g,0,none⟩) n c (xs.set off v)::rs')→K a w'):o.wp P a w K Q:=by
 obtain ⟨hf,hS'⟩:=SW hS hp v hi
 have hl:=hS.ownLen hp
 exact Ik ty x y ho _ hx h1 v (xs[off]'(by omega)) hy.eq hv (Fc hS hp (by simp [hl,hi])) hf hd (h _ hS')
theorem JA(hS:St W w rs)(ty:TypeId)(x y:Operand)(ho:o.op= .store ty x y)(g off:Nat)(hx:a.eval x= .pointer (some ⟨g,off,none⟩))(h1:K4 P ty)(e:TypeId)(s n c:Nat)(l:List Int)(hp:AT (own e s (some ⟨g,0,none⟩) n c (l.map (Value.int .i64))) rs rs')
 (z:Int) (hy:a.eval y= .int .i64 z) (hi:off<n*s) (hd:o.dst=none) (h:∀w',St W w' (own e s (some ⟨g,0,none⟩) n c ((l.set off z).map (Value.int .i64))::rs')→K a w'):o.wp P a w K Q:=
 Kp hS ty x y ho g off hx h1 e s n c _ hp (.int .i64 z) (.int hy) rfl hi hd (by rw [List.map_set] at h;exact h)
theorem DV(hS:St W w rs)(ty:TypeId)(x:Operand)(ho:o.op= .load ty x)(b off:Nat)(hx:a.eval x= .pointer (some ⟨b,off,none⟩))(s:Nat)(h1:EW P ty s)(l:List Int)(hl:Ap l s)(hr:W.rangeAt b off (l.map (Value.int .i64)))
 (h:K (a.put o.dst (.agg (iv l))) w):o.wp P a w K Q:=
 L9 hS ty x ho b off hx s h1 (l.map (Value.int .i64)) hr (by rw [List.length_map];exact hl) h
end
section
variable{P:Program}{ops:Array Oper}{Q:Exit→Act→World→Prop}{rest:List Oper}{a:Act}{W w:World}{rs:List Au}{d:Option Tmp}{x y:Operand}{t ty:TypeId}{pos:String}{af:Array Edge}{g:Option (Nat×Bool)}{k:IntKind}
theorem Kt{ad:Option Addr}{n c j s:Nat}{l:List Int}{e:TypeId}{i:Int}(hv:Sl W s (.slice ad n c) n (l.map (Value.int .i64)))(ht:P.underlying t=some (.slice e))(hs:(P.info? e).map (·.size)=some s)(hx:a.eval x= .slice ad n c)(hy:a.eval y= .int k i)(hj:Bq i j)(hn:j<n)
 (hw:Region.wanted ⟨d, .indexAddr t x y,ty,pos,af,g⟩ (yielded ops a.tmps)=true)
 (h:∀b o,Ap (Bm l s j) s→W.rangeAt b o ((Bm l s j).map (Value.int .i64))→(Oper.mk d (.move (.const (.pointer (some ⟨b,o,none⟩)))) ty pos af g).wp P a w (wpList P ops Q rest) Q):wpList P ops Q (⟨d, .indexAddr t x y,ty,pos,af,g⟩::rest) a w:=
 Ku hv ht hs hx hy hj hn hw fun b o hr=>h b o (CM l s j n (by have:=hv.1;simpa using this) hn) (by unfold Bm;rw [List.map_take,List.map_drop];exact hr)
end
inductive Lo(a:Act):Option Operand→Nat→Prop
 | none:Lo a none 0
 | some {x:Operand} {k:IntKind} {i:Int} {j:Nat} (h:a.eval x= .int k i) (hj:Bq i j):Lo a (some x) j
inductive Up(a:Act)(n:Nat):Option Operand→Nat→Prop
 | none:Up a n none n
 | some {x:Operand} {k:IntKind} {i:Int} {j:Nat} (h:a.eval x= .int k i) (hj:Bq i j):Up a n (some x) j
section
variable{P:Program}{W w:World}{a:Act}{x:Operand}{t ty:TypeId}
theorem V.build{ps:List (Nat×Operand)}{vs:List (Nat×Value)}{v:Value}(hvs:ps.map (fun x=>(x.1,a.eval x.2))=vs)(hr:∀w,(Instr.build t vs.toArray).run P w= .ok v w):DK P (.build t ps.toArray) ty a v:=fun d pos af g w=>by
 have e:(ps.toArray).map (fun (x:Nat×Operand)=>(x.1,a.eval x.2))=vs.toArray:=by rw [←hvs];simp
 have e2:execOp a.eval ⟨d, .build t ps.toArray,ty,pos,af,g⟩=(do pure (.value (←Instr.build t ((ps.toArray).map fun (x:Nat×Operand)=>(x.1,a.eval x.2))))):=rfl
 rw [e2,e]
 simp only [Sem.run_bind,hr,Result.andThen_ok,Sem.run_pure]
def cutAt(ad:Option Addr)(c l s:Nat):Option Addr:=if c=l then ad else ad.map (·.add (l*s))
theorem V.slice{ad:Option Addr}{n c l h s:Nat}{e:TypeId}{lo hi:Option Operand}(ht:P.underlying t=some (.slice e))(hs:(P.info? e).map (·.size)=some s)(hx:a.eval x= .slice ad n c)(hl:Lo a lo l)(hh:Up a n hi h)(h1:l≤h)(h2:h≤c):
 DK P (.slice t x lo hi none) ty a (.slice (cutAt ad c l s) (h-l) (c-l)):=fun d pos af g w=>by
 have e0:P.elem t=e:=by simp [Program.elem,ht]
 have ht':P.underlying t=some (.slice (P.elem t)):=by rw [e0];exact ht
 have fin:∀{lv hv:Option Value},lo.map a.eval=lv→hi.map a.eval=hv→(Instr.slice t (.slice ad n c) lv hv none).run P w=((sizeOf (P.elem t)).run P w).andThen (fun s w=> .ok (sliced ad l h c s) w)→
  (execOp a.eval ⟨d, .slice t x lo hi none,ty,pos,af,g⟩).run P w= .ok (.value (.slice (cutAt ad c l s) (h-l) (c-l))) w:=by
  intro lv hv e1 e2 hr
  rw [e0,BZ w hs,Result.andThen_ok] at hr
  simp only [execOp,hx,e1,e2,Option.map_none,Sem.run_bind,run_sliceAt_slice w t _ lv hv none ht',hr,Result.andThen_ok,Sem.run_pure,sliced,cutAt]
 cases hl with
 | none=>cases hh with
   | none=>exact fin rfl rfl (run_slice_all w t ad n c ht')
   | @some y k2 i2 _ hy hj=>
     unfold Bq at hj
     subst hj
     have:=run_slice_h w t ad n c ht' k2 (h:Int) (by omega) (by omega)
     rw [Int.toNat_natCast] at this
     exact fin rfl (by rw [Option.map_some,hy]) this
 | @some y1 k1 i1 _ hy1 hj1=>
   unfold Bq at hj1
   subst hj1
   cases hh with
   | none=>
     have:=run_slice_l w t ad n c ht' k1 (l:Int) (by omega) (by omega)
     rw [Int.toNat_natCast] at this
     exact fin (by rw [Option.map_some,hy1]) rfl this
   | @some y k2 i2 _ hy hj=>
     unfold Bq at hj
     subst hj
     have:=run_slice_lh w t ad n c ht' k1 k2 (l:Int) (h:Int) (by omega) (by omega) (by omega)
     rw [Int.toNat_natCast,Int.toNat_natCast] at this
     exact fin (by rw [Option.map_some,hy1]) (by rw [Option.map_some,hy]) this
theorem Sl.cutAt{s n c:Nat}{ad:Option Addr}{cs:List Value}(hv:Sl w s (.slice ad n c) n cs)(l h:Nat)(h1:l≤h)(h2:h≤n):Sl w s (.slice (cutAt ad c l s) (h-l) (c-l)) (h-l) ((cs.drop (l*s)).take ((h-l)*s)):=by
 obtain ⟨hlen,a',c',e,hnc,hcm,hor⟩:=hv
 cases e
 have hhs:h*s≤n*s:=Nat.mul_le_mul_right s h2
 have hls:l*s≤h*s:=Nat.mul_le_mul_right s h1
 have hsub:(h-l)*s=h*s-l*s:=Nat.sub_mul h l s
 refine ⟨by simp;omega,_,_,rfl,by omega,by omega,?_⟩
 by_cases hz:h-l=0
 ·exact .inl hz
 rcases hor with h0|⟨b,off,rfl,hc⟩
 ·omega
 refine .inr ⟨b,off+l*s,?_,fun k hk=>?_⟩
 ·unfold Go.Proofs.YtohacgmhmbijmaaGreatDoor.cutAt
  rw [if_neg (by omega)]
  simp only [Option.map_some,Addr.add_mid]
 rw [Nat.add_assoc,hc (l*s+k) (by omega),List.getElem?_take,if_pos hk,List.getElem?_drop]
end
structure GL(P:Program)(t e:TypeId)(k:IntKind)(s b:Nat):Prop where
 ht:P.underlying t=some (.slice e)
 ex:∃i z,P.info? e=some i∧i.zero=some z∧i.size=s∧i.bytes=b∧z.cells=Array.replicate s (.int k 0)
 pos:0<s
theorem GL.mk'{P:Program}{t e:TypeId}{k:IntKind}{s b:Nat}(z:Value)(ht:P.underlying t=some (.slice e))(hi:(P.info? e).map (fun i=>(i.zero,i.size,i.bytes))=some (some z,s,b))(hz:z.cells=Array.replicate s (.int k 0))(hp:0<s):GL P t e k s b:=by
 obtain ⟨i,h1,h2,h3,h4⟩:=info_parts hi
 exact ⟨ht,⟨i,z,h1,h2,h3,h4,hz⟩,hp⟩
theorem Ps(k:IntKind)(s m:Nat)(hs:0<s):(madeCells (Array.replicate s (Value.int k 0)) m).toList=(List.replicate m (0:Int)).map (Value.int k):=by
 apply List.ext_getElem?
 intro i
 by_cases hi:i<m
 ·have:i%s<s:=Nat.mod_lt i hs
  simp [madeCells,hi,this]
 simp [madeCells,hi]
section
variable{P:Program}{W w:World}{rs rs':List Au}{Q:Exit→Act→World→Prop}{K:Act→World→Prop}{o:Oper}{a:Act}
theorem St.grown{W w w':World}{rs:List Au}{r:Au}{f:List Nat}(hS:St W w rs)(hg:w.grownBy w' none)(hr:r.holds w' f)(hn:f.Nodup)(hf:∀b∈f,w.heap.size≤b):St W w' (r::rs):=by
 have hE:Al w w':=⟨hg.os,hg.tape,hg.output,hg.size,fun k hk=>hg.block k hk (by simp)⟩
 exact hS.call1 ⟨hE,f,hn,hf,f,[],by simp,hr,rfl⟩
theorem Jc(hS:St W w rs)(t:TypeId)(x y:Operand)(ho:o.op= .makeSlice t x y)(e:TypeId)(k:IntKind)(s b:Nat)(el:GL P t e k s b)(kx ky:IntKind)(n m:Nat)(i j:Int)(hx:a.eval x= .int kx i)(hy:a.eval y= .int ky j)(hi:Bq i n)(hj:Bq j m)(hnm:n=m)(hb:b*n≤281474976710656)(h63:n≤maxLen)
 (h:∀g w',St W w' (own e s (some ⟨g,0,none⟩) n n ((List.replicate (n*s) (0:Int)).map (Value.int k))::rs)→K (a.put o.dst (.slice (some ⟨g,0,none⟩) n n)) w'):o.wp P a w K Q:=by
 obtain ⟨ht,⟨info,z,h1,h2,h3,h4,h5⟩,hp⟩:=el
 subst hnm
 unfold Bq at hi hj
 subst hi;subst hj
 obtain ⟨w',hr,ho',hg⟩:=run_make_full (P:=P) w 0 t e info z s ht h1 h2 h3 kx ky n (by rw [h4];exact hb) h63 (Nat.zero_le _)
 rw [h5,Ps k s (n*s) hp] at ho'
 unfold Oper.wp execOp
 simp only [ho,hx,hy,Sem.run_bind,hr,Result.andThen_ok,Sem.run_pure]
 exact h _ _ (St.grown (f:=[w.heap.size]) hS hg ⟨rfl,ho'⟩ (by simp) (by simp))
end
section
variable{P:Program}{W w:World}{a:Act}{x:Operand}{t ty:TypeId}
theorem V.sliceA{b off N l h s q m c:Nat}{e:TypeId}{lo hi:Option Operand}(ht:P.underlying t=some (.array N e))(hs:(P.info? e).map (·.size)=some s)(hx:a.eval x= .pointer (some ⟨b,off,none⟩))(hl:Lo a lo l)(hh:Up a N hi h)(h1:l≤h)(h2:h≤N)(h3:l<N)(hq:off+l*s=q)(hm:h-l=m)(hc:N-l=c):
 DK P (.slice t x lo hi none) ty a (.slice (some ⟨b,q,none⟩) m c):=fun d pos af g w=>by
 subst hm;subst hc
 have e0:P.elem t=e:=by simp [Program.elem,ht]
 have e1:P.arrayLen t=N:=by simp [Program.arrayLen,ht]
 have ht':P.underlying t=some (.array (P.arrayLen t) (P.elem t)):=by rw [e0,e1];exact ht
 have fin:∀{lv hv:Option Value},lo.map a.eval=lv→hi.map a.eval=hv→(Instr.sliceAt t (.pointer (some ⟨b,off,none⟩)) lv hv none).run P w=((sizeOf (P.elem t)).run P w).andThen (fun s w=> .ok (slicedAt ⟨b,off,none⟩ l h N s) w)→
  (execOp a.eval ⟨d, .slice t x lo hi none,ty,pos,af,g⟩).run P w= .ok (.value (.slice (some ⟨b,q,none⟩) (h-l) (N-l))) w:=by
  intro lv hv e1 e2 hr
  rw [e0,BZ w hs,Result.andThen_ok] at hr
  have e3:slicedAt (⟨b,off,none⟩:Addr) l h N s= .slice (some ⟨b,q,none⟩) (h-l) (N-l):=by
   unfold slicedAt
   rw [if_neg (by omega)]
   simp only [Addr.add_mid,hq]
  simp only [execOp,hx,e1,e2,Option.map_none,Sem.run_bind,hr,Result.andThen_ok,Sem.run_pure,e3]
 cases hl with
 | none=>cases hh with
   | none=>exact fin rfl rfl (by have:=run_sliceAt_array_all (P:=P) w t ⟨b,off,none⟩ ht';rwa [e1] at this)
   | @some y k2 i2 _ hy hj=>
     unfold Bq at hj
     subst hj
     have:=run_sliceAt_array_h (P:=P) w t ⟨b,off,none⟩ ht' k2 (h:Int) (by omega) (by omega)
     rw [Int.toNat_natCast,e1] at this
     exact fin rfl (by rw [Option.map_some,hy]) this
 | @some y1 k1 i1 _ hy1 hj1=>
   unfold Bq at hj1
   subst hj1
   cases hh with
   | none=>
     have:=run_sliceAt_array_l (P:=P) w t ⟨b,off,none⟩ ht' k1 (l:Int) (by omega) (by omega)
     rw [Int.toNat_natCast,e1] at this
     exact fin (by rw [Option.map_some,hy1]) rfl this
   | @some y k2 i2 _ hy hj=>
     unfold Bq at hj
     subst hj
     have:=run_sliceAt_array_lh (P:=P) w t ⟨b,off,none⟩ ht' k1 k2 (l:Int) (h:Int) (by omega) (by omega) (by omega)
     rw [Int.toNat_natCast,Int.toNat_natCast,e1] at this
     exact fin (by rw [Option.map_some,hy1]) (by rw [Option.map_some,hy]) this
structure TQ(P:Program)(t:TypeId)(n:Nat):Prop where
 guard:P.eqGuardType P.depth t=false
 eq:∀(l m:List Int)(w:World),l.length=n→m.length=n→(Op.equal t (.agg (iv l)) (.agg (iv m))).run P w= .ok (decide (l=m)) w
theorem TQ.array{e:TypeId}{n:Nat}(hg:P.eqGuardType P.depth t=false)(ht:P.underlying t=some (.array n e))(he:P.underlying e=some (.int .i64))(hs:(P.info? e).map (·.size)=some 1):TQ P t n:=
 ⟨hg,fun l m w hl hm=>by
  have:=Fg w (Op.maxDepth-2) t e n ht he (fun w=>BZ w hs) l m hl hm
  rw [show (l==m)=decide (l=m) by rw [Bool.eq_iff_iff];simp] at this
  exact this⟩
theorem V.neqA{y:Operand}{u:TypeId}{l m:List Int}{n:Nat}(ht:TQ P t n)(hx:a.eval x= .agg (iv l))(hy:a.eval y= .agg (iv m))(hl:Ap l n)(hm:Ap m n):DK P (.binOp .neq t x y u) ty a (.bool (decide (l≠m))):=fun d pos af g w=>by
 have e:=ht.eq l m w hl hm
 have e1:(eqGuard .neq t x y (.agg (iv l)) (.agg (iv m))).run P w= .ok () w:=by
  unfold eqGuard
  have hp:∀w:World,(program:Sem Program).run P w= .ok P w:=fun w=>rfl
  simp [Sem.run_bind,ht.guard,hp]
 have e2:(binOp .neq t (.agg (iv l)) (.agg (iv m))).run P w= .ok (.bool (decide (l≠m))) w:=by
  have:binOp .neq t (.agg (iv l)) (.agg (iv m))=(do pure (.bool (!(←Op.equal t (.agg (iv l)) (.agg (iv m)))))):=rfl
  rw [this]
  simp only [Sem.run_bind,e,Result.andThen_ok,Sem.run_pure,ne_eq,decide_not]
 simp only [execOp,hx,hy,Sem.run_bind,e1,Result.andThen_ok,e2,Sem.run_pure]
theorem V.shrB{yk k:IntKind}{y:Operand}{u:TypeId}{m n:Int}{j N:Nat}(hx:a.eval x= .int k m)(hy:a.eval y= .int yk n)(hj:Bq n j)(h:j≤N)(hk:k.bits=N):DK P (.binOp .shr t x y u) ty a (.int k (m/2^j)):=fun d pos af g w=>by
 unfold Bq at hj
 subst hk
 have e:m.fdiv (2^j)=m/2^j:=Int.fdiv_eq_ediv_of_nonneg _ (Int.pow_nonneg (by omega))
 have h0:¬n<0:=by omega
 have hm:Min.min n.toNat k.bits=j:=by omega
 simp only [execOp,hx,hy,binOp_shr,Op.shift,eqGuard,if_neg h0,hm,e];rfl
end
section
variable{W w:World}{rs rs':List Au}
theorem St.isl{g n:Nat}{l:List Int}(hS:St W w rs)(p:AT (Go.Proofs.YtohacgmhmbijmaaGreatDoor.arr g n l) rs rs')(hn:n≤9223372036854775807):NU w (.slice (some ⟨g,0,none⟩) n n) l:=
 NU.of_row (hS.arr p).1 (hS.arr p).2 (by unfold maxLen;omega)
end
theorem Av(k:IntKind)(l:List Int)(a:Int):l.map (Value.int k)++[Value.int k a]=(l++[a]).map (Value.int k):=by simp
theorem Aw(k:IntKind)(l:List Int)(a b:Int):l.map (Value.int k)++[Value.int k a,Value.int k b]=(l++[a,b]).map (Value.int k):=by simp
theorem Ax(k:IntKind)(l:List Int)(a b c:Int):l.map (Value.int k)++[Value.int k a,Value.int k b,Value.int k c]=(l++[a,b,c]).map (Value.int k):=by simp
theorem Ay(k:IntKind)(l:List Int)(a b c d:Int):l.map (Value.int k)++[Value.int k a,Value.int k b,Value.int k c,Value.int k d]=(l++[a,b,c,d]).map (Value.int k):=by simp
theorem Az(k:IntKind)(l m:List Int):l.map (Value.int k)++m.map (Value.int k)=(l++m).map (Value.int k):=by simp
theorem Ad{l:List Value}(h:l.all (·.oneCell')=true):∀u∈l,u.oneCell'=true:=List.all_eq_true.1 h
theorem Ac(k:IntKind)(l:List Int):∀u∈l.map (Value.int k),u.oneCell'=true:=fun u hu=>by
 obtain ⟨x,_,rfl⟩:=List.mem_map.1 hu;rfl
theorem St.nilk{W w:World}{rs:List Au}(h:St W w rs)(e:TypeId)(s:Nat)(k:IntKind):St W w (Go.Proofs.YtohacgmhmbijmaaGreatDoor.own e s none 0 0 (([]:List Int).map (Value.int k))::rs):=h.nil e s
def Dp(l m:List Int):Nat→Nat→Bool
 | _,0=>true
 | k,n+1=>(AK l k==AK m k)&&Dp l m (k+1) n
theorem Io(l m:List Int):∀n k,Dp l m k n=true↔∀i,i<n→AK l (k+i)=AK m (k+i)
 | 0,k=>by simp [Dp]
 | n+1,k=>by
   rw [Dp,Bool.and_eq_true,Io l m n (k+1)]
   constructor
   ·intro ⟨h1,h2⟩ i hi
    cases i with
    | zero=>simpa using h1
    | succ i=>have:=h2 i (by omega);rwa [show k+(i+1)=k+1+i by omega]
   intro h
   refine ⟨by simpa using h 0 (by omega),fun i hi=>?_⟩
   have:=h (i+1) (by omega)
   rwa [show k+1+i=k+(i+1) by omega]
theorem TQ.struct{P:Program}{t:TypeId}{fs:Array Field}{n:Nat}(hg:P.eqGuardType P.depth t=false)(ht:P.underlying t=some (.struct fs))(hsi:P.stoodInHeld t=false)(hn:fs.toList.length=n)
 (hf:∀(i:Nat)(f:Field),fs.toList[i]? =some f→f.name≠ "_" ∧f.offset=i∧P.underlying f.type=some (.int .i64)):TQ P t n:=
 ⟨hg,fun l m w hl hm=>by
  have he:(Op.equal t (.agg (iv l)) (.agg (iv m))).run P w= .ok (Dp l m 0 n) w:=by
   unfold Op.equal
   rw [show Op.maxDepth=(Op.maxDepth-2)+1+1 from rfl,Op.equalIn]
   have hp:(program:Sem Program).run P w= .ok P w:=rfl
   simp only [Sem.run_bind,run_underlying ht,Result.andThen_ok,hp,hsi,Bool.false_eq_true,if_false]
   rw [←Array.forIn_toList]
   have hlen:fs.toList.length=n:=hn
   have hf':∀(i:Nat)(f:Field),fs.toList[i]? =some f→f.name≠ "_" ∧f.offset=0+i∧P.underlying f.type=some (.int .i64):=fun i f h=>by rw [Nat.zero_add];exact hf i f h
   have hk:0+fs.toList.length=n:=by omega
   rw [show Dp l m 0 n=Dp l m 0 fs.toList.length by rw [hlen]]
   generalize fs.toList=L at hf' hk
   generalize 0=k at hf' hk⊢
   clear hlen hf hn
   induction L generalizing k with
   | nil=>simp [Dp]
   | cons f L ih=>
     obtain ⟨h1,h2,h3⟩:=hf' 0 f rfl
     rw [Nat.add_zero] at h2
     simp only [List.length_cons] at hk
     have px:(part f.type (iv l) f.offset).run P w= .ok (.int .i64 (AK l k)) w:=by
      rw [Ek,h2,FY l k (by omega)]
      simp [isAgg,run_underlying h3]
     have py:(part f.type (iv m) f.offset).run P w= .ok (.int .i64 (AK m k)) w:=by
      rw [Ek,h2,FY m k (by omega)]
      simp [isAgg,run_underlying h3]
     have pe:(Op.equalIn (Op.maxDepth-2+1) f.type (.int .i64 (AK l k)) (.int .i64 (AK m k))).run P w= .ok (AK l k==AK m k) w:=
      run_equalIn_int w _ f.type .i64 .i64 _ _ h3
     simp only [List.forIn_cons,Sem.run_bind,h1,ne_eq,not_false_eq_true,if_true,px,py,pe,Result.andThen_ok,Dp,List.length_cons]
     cases hb:(AK l k==AK m k)
     ·simp
     simp only [Bool.not_true,Bool.false_eq_true,if_false,Sem.run_pure,Result.andThen_ok,Bool.true_and]
     exact ih (k+1) (fun i f h=>by have:=hf' (i+1) f (by simpa using h);rwa [show k+(i+1)=k+1+i by omega] at this) (by omega)
  rw [he]
  congr 1
  rw [Bool.eq_iff_iff,Io,decide_eq_true_eq]
  constructor
  ·intro h;exact He (by omega) fun i hi=>by have:=h i (by omega);rwa [Nat.zero_add] at this
  intro h i _;rw [h]⟩
theorem St.allocOwn{W w:World}{rs:List Au}(h:St W w rs)(e:TypeId)(s n:Nat)(cs:List Value)(hl:cs.length=n*s)(hn:n≤maxLen):St W (w.alloc (.cells cs.toArray e)) (Go.Proofs.YtohacgmhmbijmaaGreatDoor.own e s (some ⟨w.heap.size,0,none⟩) n n cs::rs):=by
 have ht:cs.toArray.toList.take (n*s)=cs:=by rw [←hl];simp
 obtain ⟨h1,f,h2,h3,h4⟩:=h
 refine ⟨h1.alloc _,w.heap.size::f,List.nodup_cons.2 ⟨fun hm=>by have:=h4.lt _ hm;omega,h2⟩,fun b hb=>?_,[w.heap.size],f,rfl,⟨rfl,hl, .inr ⟨w.heap.size,n,cs.toArray,rfl,Nat.zero_le _,heap_alloc_new w _,Nat.le_refl _,hn,by simpa using hl,ht⟩⟩,h4.loc fun b hb=>?_⟩
 ·rcases List.mem_cons.1 hb with h|h
  ·rw [h];exact h1.sz
  exact h3 b h
 exact heap_alloc_old w _ (h4.lt b hb)
section
variable{P:Program}{W w:World}{rs rs':List Au}{Q:Exit→Act→World→Prop}{K:Act→World→Prop}{o:Oper}{a:Act}
theorem DF(hS:St W w rs)(t:TypeId)(n:Nat)(ps:List (Nat×Operand))(ho:o.op= .buildSlice t n ps.toArray)(e:TypeId)(s b:Nat)(el:CC P t e s b)(vs cs:List Value)(hvs:AX a s 0 ps vs cs)(hn:vs.length=n)(hn0:0<n)(hns:n*s≤2^24)
 (h:∀g w',St W w' (own e s (some ⟨g,0,none⟩) n n cs::rs)→K (a.put o.dst (.slice (some ⟨g,0,none⟩) n n)) w'):o.wp P a w K Q:=by
 obtain ⟨ht,⟨i,z,hi,hz,rfl,hb,hzs⟩,hp⟩:=el
 obtain ⟨h1,h2,hcs,hsz⟩:=hvs.vals
 have hns':0<n*i.size:=Nat.mul_pos hn0 hp
 have hnm:n≤maxLen:=by
  have:n*1≤n*i.size:=Nat.mul_le_mul_left _ hp
  unfold maxLen;omega
 have hcl:∀us:List Value,(∀v∈us,v.cells.size=i.size)→(us.flatMap (·.cells.toList)).length=us.length*i.size:=by
  intro us
  induction us with
  | nil=>intro _;simp
  | cons u us ih=>
    intro hu
    have h1:=hu u (by simp)
    rw [List.flatMap_cons,List.length_append,ih fun v hv=>hu v (by simp [hv]),List.length_cons,Nat.add_mul,Nat.one_mul,Array.length_toList,h1,Nat.add_comm]
 have hcl':cs.length=n*i.size:=by rw [←hcs,hcl vs hsz,hn]
 refine Go.wp_buildSlice t e n ps.toArray ho (cs.toArray) i z ht hi hz (by omega) (by omega) ?_ (h _ _ (hS.allocOwn e i.size n cs hcl' hnm))
 have h3:=J1 i.size vs 0 [] (((List.range (n*i.size)).map (fun j=>z.cells[j%z.cells.size]!))) (by simp) (by simp [hn]) hsz
 simp only [List.nil_append] at h3
 rw [←hcs]
 have e1:(Array.map (fun x:Nat×Operand=>(x.1,a.eval x.2)) ps.toArray).toList=(vs.zipIdx 0).map fun x=>(x.2,x.1):=by
  rw [←h1];simp
 rw [e1]
 rw [←h3]
 congr 1
 apply Array.ext_getElem?
 intro j
 simp only [Array.getElem?_map,Array.getElem?_range,List.getElem?_toArray,List.getElem?_map]
 by_cases hj:j<n*i.size
 ·simp [hj]
 simp [hj]
end
end Go.Proofs.YtohacgmhmbijmaaGreatDoor
namespace Go.Proofs.YtohacgmhmbijmaaGreatDoor
attribute [local irreducible] Region.wanted
set_option linter.unusedVariables false
set_option maxRecDepth 100000
set_option maxHeartbeats 8000000
theorem b9:TQ Tryz.prog 26 64:=TQ.array AA Tryz.underlying26 Tryz.underlying3 EL
theorem cw:TQ Tryz.prog 154 3:=TQ.struct AA Tryz.underlying154 AA rfl (fun i f h=>by
 match i,h with
 | 0,h=>cases h;exact ⟨by decide,rfl,Tryz.underlying3⟩
 | 1,h=>cases h;exact ⟨by decide,rfl,Tryz.underlying3⟩
 | 2,h=>cases h;exact ⟨by decide,rfl,Tryz.underlying3⟩
 | i+3,h=>cases h)
theorem Zv:TQ Tryz.prog 155 3:=TQ.struct AA Tryz.underlying155 AA rfl (fun i f h=>by
 match i,h with
 | 0,h=>cases h;exact ⟨by decide,rfl,Tryz.underlying3⟩
 | 1,h=>cases h;exact ⟨by decide,rfl,Tryz.underlying3⟩
 | 2,h=>cases h;exact ⟨by decide,rfl,Tryz.underlying3⟩
 | i+3,h=>cases h)
theorem Tv:GL Tryz.prog 30 3 .i64 1 8:=GL.mk' (.int .i64 0) Tryz.underlying30 AA AA (by decide)
theorem b6:GL Tryz.prog 35 5 .u8 1 1:=GL.mk' (.int .u8 0) Tryz.underlying35 AA AA (by decide)
theorem b7:GL Tryz.prog 42 26 .i64 64 512:=GL.mk' (.agg #[.int .i64 0, .int .i64 0, .int .i64 0, .int .i64 0, .int .i64 0, .int .i64 0, .int .i64 0, .int .i64 0, .int .i64 0, .int .i64 0, .int .i64 0, .int .i64 0, .int .i64 0, .int .i64 0, .int .i64 0, .int .i64 0, .int .i64 0, .int .i64 0, .int .i64 0, .int .i64 0, .int .i64 0, .int .i64 0, .int .i64 0, .int .i64 0, .int .i64 0, .int .i64 0, .int .i64 0, .int .i64 0, .int .i64 0, .int .i64 0, .int .i64 0, .int .i64 0, .int .i64 0, .int .i64 0, .int .i64 0, .int .i64 0, .int .i64 0, .int .i64 0, .int .i64 0, .int .i64 0, .int .i64 0, .int .i64 0, .int .i64 0, .int .i64 0, .int .i64 0, .int .i64 0, .int .i64 0, .int .i64 0, .int .i64 0, .int .i64 0, .int .i64 0, .int .i64 0, .int .i64 0, .int .i64 0, .int .i64 0, .int .i64 0, .int .i64 0, .int .i64 0, .int .i64 0, .int .i64 0, .int .i64 0, .int .i64 0, .int .i64 0, .int .i64 0]) Tryz.underlying42 AA AA (by decide)
end Go.Proofs.YtohacgmhmbijmaaGreatDoor
namespace Go.Proofs.YtohacgmhmbijmaaGreatDoor
attribute [local irreducible] Region.wanted
open Go.RowKit
set_option linter.unusedVariables false
set_option maxRecDepth 100000
set_option maxHeartbeats 8000000
section
variable{P:Program}{W w:World}{rs rs':List Au}{tmps:Array Value}
def P3(tmps:Array Value):ResultVar→Sem Value
 | .tmp t=>pure (tmps.getD t undef)
 | .cell a t=>do loadVar t (←asAddr (tmps.getD a undef))
def AC(P:Program)(tmps:Array Value)(w:World)(r:ResultVar)(v:Value):Prop:=(P3 tmps r).run P w= .ok v w
theorem AC.tmp{t:Tmp}{v:Value}(h:tmps.getD t undef=v):AC P tmps w (.tmp t) v:=by
 show (pure (tmps.getD t undef):Sem Value).run P w= .ok v w
 rw [h];rfl
theorem AC.row{p g n:Nat}{ty:TypeId}{cs:List Value}(hp:tmps.getD p undef= .pointer (some ⟨g,0,none⟩))(h1:EW P ty n)(hn:cs.length=n)(hc:w.rangeAt g 0 cs):AC P tmps w (.cell p ty) (.agg cs.toArray):=by
 show (do loadVar ty (←asAddr (tmps.getD p undef)):Sem Value).run P w= .ok (.agg cs.toArray) w
 rw [hp]
 obtain ⟨hr,hs⟩:=h1
 cases hu:P.underlying ty with
 | none=>rw [hu] at hr;cases hr
 | some d=>
   rw [hu,Option.map_some,Option.some.injEq] at hr
   exact run_loadVar_mid (P:=P) w g 0 ty cs d hc hu hr (by rw [hs,hn])
theorem AC.arr{p g n:Nat}{ty:TypeId}{l:List Int}(hS:St W w rs)(hp:tmps.getD p undef= .pointer (some ⟨g,0,none⟩))(h1:EW P ty n)(pl:AT (Go.Proofs.YtohacgmhmbijmaaGreatDoor.arr g n l) rs rs'):AC P tmps w (.cell p ty) (.agg (iv l)):=by
 obtain ⟨hr,hn⟩:=hS.arr pl
 exact AC.row (cs:=l.map (Value.int .i64)) hp h1 (by simpa using hn) hr.range
theorem AC.blk{p g n:Nat}{ty:TypeId}{cs:List Value}(hS:St W w rs)(hp:tmps.getD p undef= .pointer (some ⟨g,0,none⟩))(h1:EW P ty n)(pl:AT (Go.Proofs.YtohacgmhmbijmaaGreatDoor.blk g cs) rs rs')(hn:cs.length=n):AC P tmps w (.cell p ty) (.agg cs.toArray):=
 AC.row hp h1 hn (hS.blk pl).1.range
inductive Dz(P:Program)(tmps:Array Value)(w:World):List ResultVar→List Value→Prop
 | nil:Dz P tmps w [] []
 | cons {r:ResultVar} {v:Value} {rs:List ResultVar} {vs:List Value} (h:AC P tmps w r v) (t:Dz P tmps w rs vs):Dz P tmps w (r::rs) (v::vs)
theorem Dz.run{rs:List ResultVar}{vs:List Value}(h:Dz P tmps w rs vs):(rs.mapM (P3 tmps)).run P w= .ok vs w:=by
 induction h with
 | nil=>rfl
 | @cons r v rs vs h t ih=>
   rw [List.mapM_cons]
   have h':=h
   unfold AC at h'
   simp only [Sem.run_bind]
   rw [h',Result.andThen_ok,ih,Result.andThen_ok]
   rfl
theorem Gj{fn:Func}{xs:List ResultVar}{vs:List Value}(hr:fn.results=xs.toArray)(h:Dz P tmps w xs vs):
 (results fn tmps).run P w= .ok (if h:vs.toArray.size=1 then vs.toArray[0] else .tuple vs.toArray) w:=by
 have e:results fn tmps=(do
  let vs ←fn.results.mapM (P3 tmps)
  pure (if h:vs.size=1 then vs[0] else .tuple vs)):=by
  unfold results
  congr 1
 have h2:=h.run
 rw [e,hr,List.mapM_toArray,Sem.run_bind,Sem.run_map,h2]
 rfl
theorem AM{fn:Func}{R:Ending→World→Prop}{a:Act}{xs:List ResultVar}{vs:List Value}(hr:fn.results=xs.toArray)(h:Dz P a.tmps w xs vs)(hl:vs.length≠1)(hd:a.defers=[])(hR:R (.returned (.tuple vs.toArray)) w):bodyPost P fn R .ret a w:=by
 refine bodyPost_ret (v:= .tuple vs.toArray) ?_ hd hR
 rw [Gj hr h,dif_neg (by simpa using hl)]
theorem BW{fn:Func}{R:Ending→World→Prop}{a:Act}{x:ResultVar}{v:Value}(hr:fn.results=#[x])(h:AC P a.tmps w x v)(hd:a.defers=[])(hR:R (.returned v) w):bodyPost P fn R .ret a w:=by
 refine bodyPost_ret (v:=v) ?_ hd hR
 rw [Gj (xs:=[x]) hr (Dz.cons h Dz.nil)]
 rfl
end
section
variable{P:Program}{w:World}{Q:Exit→Act→World→Prop}{K:Act→World→Prop}{o:Oper}{a:Act}
theorem BQ{f:FuncId}{x:Operand}{xs:List Operand}{ats:Array TypeId}{caps:Array Value}(ho:o.op= .call {callee:= .value x,args:=xs.toArray,argTypes:=ats})(hx:a.eval x= .func (.func f) #[] caps)
 (hcall:∀(args:Array Value)(w:World),(callFunc f args).run P w= .ok (.enter f args) w)
 {R:Ending→World→Prop} (hc:Calls P f ((xs.map a.eval).toArray++caps) w R) (h:∀e w',R e w'→∃v,e= .returned v∧K (a.put o.dst v) w'):o.wp P a w K Q:=by
 have e1:(execOp a.eval o).run P w=(callFunc f ((xs.map a.eval).toArray++caps)).run P w:=by
  unfold execOp
  rw [ho]
  have e2:(#[]++(xs.toArray).map a.eval++caps:Array Value)=(xs.map a.eval).toArray++caps:=by simp
  rw [←e2]
  simp only [resolve,hx]
  rfl
 unfold Oper.wp
 rw [e1,hcall,Oper.upon_enter]
 refine hc.mono fun e w' hR=>?_
 obtain ⟨v,rfl,h2⟩:=h e w' hR
 exact h2
theorem B4{m:String}{x:Operand}{xs:List Operand}{ats:Array TypeId}(ho:o.op= .call {callee:= .invoke x m,args:=xs.toArray,argTypes:=ats})(v:Value)(hx:a.eval x=v)(vs:List Value)(hvs:xs.map a.eval=vs)(f:FuncId)(args:Array Value)
 (hcall:∀(w:World),(invoke (.fn (.method m) #[]) (v::vs).toArray).run P w= .ok (.enter f args) w)
 {R:Ending→World→Prop} (hc:Calls P f args w R) (h:∀e w',R e w'→∃v,e= .returned v∧K (a.put o.dst v) w'):o.wp P a w K Q:=by
 have e1:(execOp a.eval o).run P w=(invoke (.fn (.method m) #[]) (v::vs).toArray).run P w:=by
  unfold execOp
  rw [ho]
  have e2:(#[a.eval x]++(xs.toArray).map a.eval:Array Value)=(v::vs).toArray:=by simp [hx,hvs]
  rw [←e2]
  simp only [resolve]
  rfl
 unfold Oper.wp
 rw [e1,hcall,Oper.upon_enter]
 refine hc.mono fun e w' hR=>?_
 obtain ⟨v,rfl,h2⟩:=h e w' hR
 exact h2
end
theorem Ee(m0:Int)(m1:Int)(m2:Int)(m3:Int)(m4:Int)(m5:Int)(m6:Int)(m7:Int)(m8:Int)(w:World):(Instr.build 203 #[(0, .int .i64 m0),(1, .int .i64 m1),(2, .int .i64 m2),(3, .int .i64 m3),(4, .int .i64 m4),(5, .int .i64 m5),(6, .int .i64 m6),(7, .int .i64 m7),(8, .int .i64 m8)]).run Tryz.prog w= .ok (.agg #[.int .i64 m0, .int .i64 m1, .int .i64 m2, .int .i64 m3, .int .i64 m4, .int .i64 m5, .int .i64 m6, .int .i64 m7, .int .i64 m8]) w:=by kernel_rfl
theorem YO(w:World):(Instr.build 26 #[]).run Tryz.prog w= .ok (.agg (iv ((List.replicate 64 0)))) w:=by kernel_rfl
def tq(k:Int):Int:=AK [4096,4017,3784,3406,2896,2276,1567,799,0] k.toNat
def Lz(k:Int):Int:=if 16<k then (if 8<32-k then-tq (16-(32-k)) else tq (32-k)) else if 8<k then-tq (16-k) else tq k
def K6(u x:Int):Int:=if u=0 then 2896 else Lz (u*(2*x+1)%32)
theorem Ou(k:Int): -4096≤tq k∧tq k≤4096:=by
 unfold tq
 have:∀l:List Int,(∀x∈l,-4096≤x∧x≤4096)→∀i,-4096≤AK l i∧AK l i≤4096:=fun l hl i=>by
  by_cases hi:i<l.length
  ·have:=hl _ (List.getElem_mem hi)
   simpa [AK,List.getD,hi] using this
  rw [Mb l i (by omega)];omega
 exact this _ (by decide) _
theorem VN(k:Int): -4096≤Lz k∧Lz k≤4096:=by
 have h1:=Ou (16-(32-k))
 have h2:=Ou (32-k)
 have h3:=Ou (16-k)
 have h4:=Ou k
 unfold Lz
 split
 ·split<;>omega
 split<;>omega
theorem QZ(u x:Int): -4096≤K6 u x∧K6 u x≤4096:=by
 unfold K6
 split
 ·omega
 exact VN _
theorem Ov(w0:World)(k:Int)(h:0≤k∧k≤8):Calls Tryz.prog 117 #[.int .i64 k] w0 fun e w=>e= .returned (.int .i64 (tq k))∧Al w0 w:=by
 have hS:=St.start w0
 obtain rfl|rfl|rfl|rfl|rfl|rfl|rfl|rfl|rfl:k=0∨k=1∨k=2∨k=3∨k=4∨k=5∨k=6∨k=7∨k=8:=by omega
 all_goals
  go_enter Tryz.func117,Tryz.ntmps117
  repeat' (first
   | refine X0 ?_|refine ZT 4 ?_|refine Gv ?_|(refine AS 19 ?_);(refine As AA (V.indexAr Tryz.underlying203 EL rfl rfl BI (by omega) (Nat.mul_one _) BO) ?_;go_step)|refine Yr 3 ?_;clear hS;intro g3 w hS|refine Yw ?_;clear hS;intro w hS|refine X9 ?_|refine AG ?_;go_step|fail)
  go_ret
  exact ⟨rfl,hS.1⟩
theorem Ow(w0:World)(k:Int)(h:0≤k∧k≤16):Calls Tryz.prog 117 #[.int .i64 k] w0 fun e w=>e= .returned (.int .i64 (if 8<k then-tq (16-k) else tq k))∧Al w0 w:=by
 by_cases h8:8<k
 ·rw [if_pos h8]
  have hS:=St.start w0
  have hb:=Ou (16-k)
  go_enter Tryz.func117,Tryz.ntmps117
  repeat' (first
   | (refine A3 117 ?_);refine A4 AA Tryz.call117 (Ov _ (16-k) (by omega)) (Gb hS ?_);clear hS;intro w hS;go_step|refine X0 ?_|refine ZT 4 ?_|refine Gv ?_|refine WW ?_|(with_reducible refine An _ (.unOp .neg _ _) ?_);(refine As AA (V.neg rfl (by omega)) ?_;go_step)|refine Yr 3 ?_;clear hS;intro g3 w hS|refine Yw ?_;clear hS;intro w hS|refine AG ?_;go_step|fail)
  go_ret
  exact ⟨rfl,hS.1⟩
 rw [if_neg h8]
 exact Ov w0 k (by omega)
theorem VO(w0:World)(k:Int)(h:0≤k∧k≤31):Calls Tryz.prog 117 #[.int .i64 k] w0 fun e w=>e= .returned (.int .i64 (Lz k))∧Al w0 w:=by
 unfold Lz
 by_cases h16:16<k
 ·rw [if_pos h16]
  have hS:=St.start w0
  obtain ⟨tv,hV⟩:∃tv,(if 8<32-k then-tq (16-(32-k)) else tq (32-k))=tv:=⟨_,rfl⟩
  have HV:=AD hV
  rw [hV]
  clear hV
  go_enter Tryz.func117,Tryz.ntmps117
  repeat' (first
   | (refine A3 117 ?_);refine A4 AA Tryz.call117 (Ow _ (32-k) (by omega)) ?_;rintro e w ⟨rfl,hE⟩;replace hS:=hS.ext hE;clear hE;rw [HV.out];refine Ae ?_;go_step|refine X0 ?_|refine ZT 4 ?_|refine Gv ?_|refine WW ?_|refine Yr 3 ?_;clear hS;intro g3 w hS|refine Yw ?_;clear hS;intro w hS|refine AG ?_;go_step|fail)
  go_ret
  exact ⟨rfl,hS.1⟩
 rw [if_neg h16]
 exact Ow w0 k (by omega)
theorem LW(w0:World)(u x:Int)(hu:0≤u∧u≤7)(hx:0≤x∧x≤7):Calls Tryz.prog 80 #[.int .i64 u, .int .i64 x] w0 fun e w=>e= .returned (.int .i64 (K6 u x))∧Al w0 w:=by
 have hS:=St.start w0
 unfold K6
 by_cases h0:u=0
 ·subst h0
  rw [if_pos rfl]
  go_enter Tryz.func80,Tryz.ntmps80
  repeat' (first
   | refine X0 ?_|refine TT ?_|refine AG ?_;go_step|fail)
  go_ret
  exact ⟨rfl,hS.1⟩
 rw [if_neg h0]
 obtain ⟨k0,k1⟩:=Ds u (2*x+1) 7 15 (by omega) (by omega)
 have k2:0≤u*(2*x+1):=Int.mul_nonneg (by omega) (by omega)
 obtain ⟨p,hp⟩:∃p,u*(2*x+1)=p:=⟨_,rfl⟩
 rw [hp] at k0 k1 k2⊢
 go_enter Tryz.func80,Tryz.ntmps80
 repeat' (first
  | (refine AS 11 ?_);(refine Ak (.int _ (p)) (V.as (V.mulI rfl rfl (by omega)) (by omega)) (by kernel_rfl) ?_;go_step)|(refine A3 117 ?_);refine A4 AA Tryz.call117 (VO _ (p%32) (by omega)) (Gb hS ?_);clear hS;intro w hS;go_step|refine X0 ?_|refine TT ?_|refine bh ?_|refine X7 ?_|(with_reducible refine An _ (.binOp .rem _ _ _ _) ?_);(refine As AA (V.rem rfl rfl (by omega) (by omega)) ?_;go_step)|refine AG ?_;go_step|fail)
 go_ret
 exact ⟨rfl,hS.1⟩
end Go.Proofs.YtohacgmhmbijmaaGreatDoor
