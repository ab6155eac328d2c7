/- What the laws OwnMemory need, part 3. -/
import Derived.Test.YtkcbhcajfcfmmaaDoorBaseOZ1
import Derived.Test.YtkcbhcajfcfmmaaDoorBaseOZ2
import Derived.WideKeyRuns
import Derived.Test.YtkcbhcajfcfmmaaDoorProg
import Derived.Laws.IdiomStrings
namespace Go.Proofs.YtkcbhcajfcfmmaaDoor
attribute [local irreducible] Region.wanted
open Go.RowKit
set_option linter.unusedVariables false
set_option maxRecDepth 100000
set_option maxHeartbeats 8000000
def Bk{K:Type}(enc:K→Value)(x:K×Value×Nat):MapEntry:={key:=enc x.1,val:=x.2.1,born:=x.2.2}
def Aa{K:Type}[DecidableEq K](k:K):List (K×Value×Nat)→Nat→Option (Nat×Value)
 | [],_=>none
 | x::l,i=>if k=x.1 then some (i,x.2.1) else Aa k l (i+1)
structure Dy{K:Type}[DecidableEq K](P:Program)(kt:TypeId)(enc:K→Value):Prop where
 check:∀(w:World)(b:Bool)(k:K),(Instr.checkKey b 10000 kt (enc k)).run P w= .ok () w
 find:∀(w:World)(k:K)(l:List (K×Value×Nat)),(Instr.findKey kt (enc k) (l.map (Bk enc))).run P w= .ok (Aa k l 0) w
 same:∀k,Instr.sameBits 10000 (enc k) (enc k)=true
def DL{K:Type}[DecidableEq K](enc:K→Value)(w:World)(b:Nat)(f:K→Option Value):Prop:=
 ∃(l:List (K×Value×Nat)) (clock:Nat),w.heap[b]? =some (.map (l.map (Bk enc)).toArray clock)∧∀k,(Aa k l 0).map (·.2)=f k
section
variable{K:Type}[DecidableEq K]{P:Program}{enc:K→Value}
theorem Db(k:K)(l:List (K×Value×Nat)):∀i,Aa k l i=(Aa k l 0).map fun x=>(x.1+i,x.2):=by
 induction l with
 | nil=>intro i;rfl
 | cons x l ih=>
   intro i
   simp only [Aa]
   split
   ·simp
   rw [ih (i+1),ih (0+1)]
   cases Aa k l 0 with
   | none=>rfl
   | some y=>simp;omega
theorem FS(k:K)(l m:List (K×Value×Nat)):∀i,Aa k (l++m) i=(Aa k l i).or (Aa k m (i+l.length)):=by
 induction l with
 | nil=>intro i;simp [Aa]
 | cons x l ih=>
   intro i
   simp only [List.cons_append,Aa]
   split
   ·simp
   rw [ih,List.length_cons,show i+1+l.length=i+(l.length+1) by omega]
theorem FT(k j:K)(v:Value):∀(l:List (K×Value×Nat))(n i:Nat)(u:Value),Aa k l n=some (n+i,u)→
 (Aa j (l.modify i fun e=>(k,v,e.2.2)) n).map (·.2)=if j=k then some v else (Aa j l n).map (·.2):=by
 intro l
 induction l with
 | nil=>intro n i u h;simp [Aa] at h
 | cons x l ih=>
   intro n i u h
   simp only [Aa] at h
   split at h
   ·rename_i hk
    simp only [Option.some.injEq,Prod.mk.injEq] at h
    have hi:i=0:=by omega
    subst hi
    simp only [List.modify_zero_cons,Aa]
    by_cases hj:j=k
    ·simp [hj]
    have:¬j=x.1:=fun e=>hj (e.trans hk.symm)
    simp [hj,this]
   rename_i hk
   cases i with
   | zero=>
     exfalso
     rw [Db] at h
     cases hf:Aa k l 0 with
     | none=>simp [hf] at h
     | some y=>simp [hf] at h;omega
   | succ i=>
     simp only [List.modify_succ_cons,Aa]
     have h':Aa k l (n+1)=some (n+1+i,u):=by rw [h];congr 2;omega
     split
     ·rename_i hj
      have:¬j=k:=fun e=>hk (e▸ hj)
      simp [this]
     exact ih (n+1) i u h'
theorem DL.new(w:World):DL enc (w.alloc (.map #[] 0)) w.heap.size (fun _=>none):=
 ⟨[],0,heap_alloc_new w _,fun _=>rfl⟩
theorem DL.lt{w:World}{b:Nat}{f:K→Option Value}(h:DL enc w b f):b<w.heap.size:=by
 obtain ⟨l,c,h,_⟩:=h
 exact (Array.getElem?_eq_some_iff.1 h).1
theorem DL.of_heap{w w':World}{b:Nat}{f:K→Option Value}(h:DL enc w b f)(hh:w'.heap[b]? =w.heap[b]?):DL enc w' b f:=by
 obtain ⟨l,c,h,hf⟩:=h
 exact ⟨l,c,by rw [hh];exact h,hf⟩
theorem D8{w:World}{b:Nat}{es:Array MapEntry}{c:Nat}(h:w.heap[b]? =some (.map es c)):(getObj b:Sem Obj).run P w= .ok (.map es c) w:=by
 simp [getObj,Sem.run,h]
theorem DL.lookup{w:World}{b:Nat}{f:K→Option Value}{mt kt et:TypeId}(h:DL enc w b f)(hm:P.underlying mt=some (.map kt et))(law:Dy P kt enc)(k:K)(ok:Bool)
 {z:Value} (hz:∀w,(zeroValue et).run P w= .ok z w):
 (Instr.lookup mt (.map (some b)) (enc k) ok).run P w= .ok (if ok then .tuple #[(f k).getD z, .bool (f k).isSome] else (f k).getD z) w:=by
 obtain ⟨l,c,hb,hf⟩:=h
 have hfk:=hf k
 simp only [Instr.lookup,Sem.run_bind,run_underlying hm,Result.andThen_ok,D8 hb,Sem.run_pure,law.check,law.find]
 cases hfi:Aa k l 0 with
 | none=>
   rw [hfi] at hfk
   simp only [Option.map_none] at hfk
   rw [←hfk]
   simp [hz]
 | some y=>
   rw [hfi] at hfk
   simp only [Option.map_some] at hfk
   rw [←hfk]
   simp
theorem DL.update{w:World}{b:Nat}{f:K→Option Value}{mt kt et:TypeId}(h:DL enc w b f)(hm:P.underlying mt=some (.map kt et))(law:Dy P kt enc)(k:K)(v:Value):
 ∃w',(Instr.mapUpdate mt (.map (some b)) (enc k) v).run P w= .ok () w'∧DL enc w' b (fun j=>if j=k then some v else f j)∧
  (∀W,W.heap.size≤b→AX W w→AX W w')∧∀i,i≠b→w'.heap[i]? =w.heap[i]? :=by
 obtain ⟨l,c,hb,hf⟩:=h
 have hlt:b<w.heap.size:=(Array.getElem?_eq_some_iff.1 hb).1
 have hset:∀o:Obj,(setObj b o).run P w= .ok () {w with heap:=w.heap.setIfInBounds b o}:=by
  intro o
  simp [setObj,Sem.run,hb]
 have hext:∀(o:Obj) W,W.heap.size≤b→AX W w→AX W {w with heap:=w.heap.setIfInBounds b o}:=fun o W hW hE=>
  Below.trans hE ⟨rfl,rfl,rfl,by simp,fun i hi=>by simp only [Array.getElem?_setIfInBounds];rw [if_neg (by omega)]⟩
 have hoth:∀(o:Obj) i,i≠b→({w with heap:=w.heap.setIfInBounds b o}:World).heap[i]? =w.heap[i]? :=fun o i hi=>by
  simp only [Array.getElem?_setIfInBounds];rw [if_neg (fun e=>hi e.symm)]
 have hnew:∀(o:Obj),({w with heap:=w.heap.setIfInBounds b o}:World).heap[b]? =some o:=fun o=>by
  simp [hlt]
 cases hfi:Aa k l 0 with
 | none=>
   refine ⟨{w with heap:=w.heap.setIfInBounds b (.map ((l++[(k,v,c)]).map (Bk enc)).toArray (c+1))},?_,⟨l++[(k,v,c)],c+1,hnew _,fun j=>?_⟩,hext _,hoth _⟩
   ·simp only [Instr.mapUpdate,Sem.run_bind,run_underlying hm,Result.andThen_ok,D8 hb,law.check,law.find,hfi]
    rw [hset]
    congr 4
    simp [Bk]
   show _=if j=k then some v else f j
   rw [FS,←hf j]
   by_cases hj:j=k
   ·subst hj;simp [hfi,Aa]
   cases Aa j l 0<;>simp [Aa,hj]
 | some y=>
   obtain ⟨i,u⟩:=y
   have hmod:=fun j=>FT k j v l 0 i u (by rw [hfi];simp)
   have hik:∃e,l[i]? =some e∧e.1=k:=by
    have:∀(l:List (K×Value×Nat)) n i u,Aa k l n=some (n+i,u)→∃e,l[i]? =some e∧e.1=k:=by
     intro l
     induction l with
     | nil=>intro n i u h;simp [Aa] at h
     | cons x l ih=>
       intro n i u h
       simp only [Aa] at h
       split at h
       ·rename_i hk
        simp only [Option.some.injEq,Prod.mk.injEq] at h
        have hi:i=0:=by omega
        subst hi
        exact ⟨x,rfl,hk.symm⟩
       cases i with
       | zero=>
         exfalso
         rw [Db] at h
         cases hf:Aa k l 0 with
         | none=>simp [hf] at h
         | some y=>simp [hf] at h;omega
       | succ i=>exact ih (n+1) i u (by rw [h];congr 2;omega)
    exact this l 0 i u (by rw [hfi];simp)
   obtain ⟨e,he,hek⟩:=hik
   refine ⟨{w with heap:=w.heap.setIfInBounds b (.map ((l.modify i fun e=>(k,v,e.2.2)).map (Bk enc)).toArray c)},?_,⟨l.modify i fun e=>(k,v,e.2.2),c,hnew _,fun j=>?_⟩,hext _,hoth _⟩
   ·simp only [Instr.mapUpdate,Sem.run_bind,run_underlying hm,Result.andThen_ok,D8 hb,law.check,law.find,hfi]
    have hold:(((l.map (Bk enc)).toArray[i]?).map (·.key)).getD (enc k)=enc k:=by simp [he,Bk,hek]
    rw [hold]
    simp only [Instr.keyThatStays,law.same,if_true,Sem.run_pure,Result.andThen_ok]
    rw [hset]
    congr 4
    apply Array.ext_getElem?
    intro j
    simp only [Array.getElem?_modify,List.getElem?_toArray,List.getElem?_map,List.getElem?_modify]
    by_cases hij:i=j
    ·subst hij;simp [he,Bk]
    simp [hij]
   rw [hmod j,hf j]
end
def ik(n:Int):Value:= .int .i64 n
theorem Bi{P:Program}{kt:TypeId}(h:P.underlying kt=some (.int .i64)):Dy P kt ik where
 check w b k:=by
  unfold ik
  rw [show (10000:Nat)=9999+1 from rfl,Instr.checkKey]
  simp [run_underlying h]
 find w k l:=by
  have key:∀(l:List (Int×Value×Nat)) i,Instr.findNow (.int .i64) (ik k) (l.map (Bk ik)) i=some (Aa k l i):=by
   intro l
   induction l with
   | nil=>intro i;rfl
   | cons x l ih=>
     intro i
     simp only [List.map_cons,Instr.findNow,Aa,Bk,ik,Instr.sameNow,if_true]
     by_cases hx:k=x.1
     ·simp [hx]
     have:(k==x.1)=false:=by simpa using hx
     simp only [this,hx,if_false]
     exact ih (i+1)
  simp [Instr.findKey,run_underlying h,key]
 same k:=by unfold ik;rw [Instr.sameBits.eq_2];simp
section
variable{K:Type}[DecidableEq K]{P:Program}{enc:K→Value}
end
section
variable{P:Program}{W w:World}{a:Act}{x:Operand}{t ty:TypeId}
end
section
variable{W w:World}{rs rs':List Ac}
end
theorem Bz(k:IntKind)(l:List Int)(a:Int):l.map (Value.int k)++[Value.int k a]=(l++[a]).map (Value.int k):=by simp
theorem B3(k:IntKind)(l:List Int)(a b:Int):l.map (Value.int k)++[Value.int k a,Value.int k b]=(l++[a,b]).map (Value.int k):=by simp
theorem B4(k:IntKind)(l:List Int)(a b c:Int):l.map (Value.int k)++[Value.int k a,Value.int k b,Value.int k c]=(l++[a,b,c]).map (Value.int k):=by simp
theorem B5(k:IntKind)(l:List Int)(a b c d:Int):l.map (Value.int k)++[Value.int k a,Value.int k b,Value.int k c,Value.int k d]=(l++[a,b,c,d]).map (Value.int k):=by simp
theorem B6(k:IntKind)(l m:List Int):l.map (Value.int k)++m.map (Value.int k)=(l++m).map (Value.int k):=by simp
theorem BQ{l:List Value}(h:l.all (·.oneCell')=true):∀u∈l,u.oneCell'=true:=List.all_eq_true.1 h
theorem BE(k:IntKind)(l:List Int):∀u∈l.map (Value.int k),u.oneCell'=true:=fun u hu=>by
 obtain ⟨x,_,rfl⟩:=List.mem_map.1 hu;rfl
theorem St.nilk{W w:World}{rs:List Ac}(h:St W w rs)(e:TypeId)(s:Nat)(k:IntKind):St W w (Go.Proofs.YtkcbhcajfcfmmaaDoor.own e s none 0 0 (([]:List Int).map (Value.int k))::rs):=h.nil e s
theorem St.allocOwn{W w:World}{rs:List Ac}(h:St W w rs)(e:TypeId)(s n:Nat)(cs:List Value)(hl:cs.length=n*s)(hn:n≤maxLen):St W (w.alloc (.cells cs.toArray e)) (Go.Proofs.YtkcbhcajfcfmmaaDoor.own e s (some ⟨w.heap.size,0,none⟩) n n cs::rs):=by
 have ht:cs.toArray.toList.take (n*s)=cs:=by rw [←hl];simp
 obtain ⟨h1,f,h2,h3,h4⟩:=h
 refine ⟨h1.alloc _,w.heap.size::f,List.nodup_cons.2 ⟨fun hm=>by have:=h4.lt _ hm;omega,h2⟩,fun b hb=>?_,[w.heap.size],f,rfl,⟨rfl,hl, .inr ⟨w.heap.size,n,cs.toArray,rfl,Nat.zero_le _,heap_alloc_new w _,Nat.le_refl _,hn,by simpa using hl,ht⟩⟩,h4.loc fun b hb=>?_⟩
 ·rcases List.mem_cons.1 hb with h|h
  ·rw [h];exact h1.sz
  exact h3 b h
 exact heap_alloc_old w _ (h4.lt b hb)
section
variable{P:Program}{W w:World}{rs rs':List Ac}{Q:Exit→Act→World→Prop}{K:Act→World→Prop}{o:Oper}{a:Act}
theorem Co(hS:St W w rs)(t:TypeId)(n:Nat)(ps:List (Nat×Operand))(ho:o.op= .buildSlice t n ps.toArray)(e:TypeId)(s b:Nat)(el:BT P t e s b)(vs cs:List Value)(hvs:AN a s 0 ps vs cs)(hn:vs.length=n)(hn0:0<n)(hns:n*s≤2^24)
 (h:∀g w',St W w' (own e s (some ⟨g,0,none⟩) n n cs::rs)→K (a.put o.dst (.slice (some ⟨g,0,none⟩) n n)) w'):o.wp P a w K Q:=by
 obtain ⟨ht,⟨i,z,hi,hz,rfl,hb,hzs⟩,hp⟩:=el
 obtain ⟨h1,h2,hcs,hsz⟩:=hvs.vals
 have hns':0<n*i.size:=Nat.mul_pos hn0 hp
 have hnm:n≤maxLen:=by
  have:n*1≤n*i.size:=Nat.mul_le_mul_left _ hp
  unfold maxLen;omega
 have hcl:∀us:List Value,(∀v∈us,v.cells.size=i.size)→(us.flatMap (·.cells.toList)).length=us.length*i.size:=by
  intro us
  induction us with
  | nil=>intro _;simp
  | cons u us ih=>
    intro hu
    have h1:=hu u (by simp)
    rw [List.flatMap_cons,List.length_append,ih fun v hv=>hu v (by simp [hv]),List.length_cons,Nat.add_mul,Nat.one_mul,Array.length_toList,h1,Nat.add_comm]
 have hcl':cs.length=n*i.size:=by rw [←hcs,hcl vs hsz,hn]
 refine Go.wp_buildSlice t e n ps.toArray ho (cs.toArray) i z ht hi hz (by omega) (by omega) ?_ (h _ _ (hS.allocOwn e i.size n cs hcl' hnm))
 have h3:=El i.size vs 0 [] (((List.range (n*i.size)).map (fun j=>z.cells[j%z.cells.size]!))) (by simp) (by simp [hn]) hsz
 simp only [List.nil_append] at h3
 rw [←hcs]
 have e1:(Array.map (fun x:Nat×Operand=>(x.1,a.eval x.2)) ps.toArray).toList=(vs.zipIdx 0).map fun x=>(x.2,x.1):=by
  rw [←h1];simp
 rw [e1]
 rw [←h3]
 congr 1
 apply Array.ext_getElem?
 intro j
 simp only [Array.getElem?_map,Array.getElem?_range,List.getElem?_toArray,List.getElem?_map]
 by_cases hj:j<n*i.size
 ·simp [hj]
 simp [hj]
end
end Go.Proofs.YtkcbhcajfcfmmaaDoor
namespace Go.Proofs.YtkcbhcajfcfmmaaDoor
attribute [local irreducible] Region.wanted
set_option linter.unusedVariables false
set_option maxRecDepth 100000
set_option maxHeartbeats 8000000
theorem NY:EC Tryd.prog 22 5 .u8 1 1:=EC.mk' (.int .u8 0) Tryd.underlying22 AB AB (by decide)
theorem NZ:EC Tryd.prog 23 3 .i64 1 8:=EC.mk' (.int .i64 0) Tryd.underlying23 AB AB (by decide)
end Go.Proofs.YtkcbhcajfcfmmaaDoor
namespace Go.Proofs.YtkcbhcajfcfmmaaDoor
attribute [local irreducible] Region.wanted
open Go.RowKit
set_option linter.unusedVariables false
set_option maxRecDepth 100000
set_option maxHeartbeats 8000000
section
variable{P:Program}{W w:World}{rs rs':List Ac}{tmps:Array Value}
def IU(tmps:Array Value):ResultVar→Sem Value
 | .tmp t=>pure (tmps.getD t undef)
 | .cell a t=>do loadVar t (←asAddr (tmps.getD a undef))
def AE(P:Program)(tmps:Array Value)(w:World)(r:ResultVar)(v:Value):Prop:=(IU tmps r).run P w= .ok v w
theorem AE.tmp{t:Tmp}{v:Value}(h:tmps.getD t undef=v):AE P tmps w (.tmp t) v:=by
 show (pure (tmps.getD t undef):Sem Value).run P w= .ok v w
 rw [h];rfl
theorem AE.row{p g n:Nat}{ty:TypeId}{cs:List Value}(hp:tmps.getD p undef= .pointer (some ⟨g,0,none⟩))(h1:Ch P ty n)(hn:cs.length=n)(hc:w.rangeAt g 0 cs):AE P tmps w (.cell p ty) (.agg cs.toArray):=by
 show (do loadVar ty (←asAddr (tmps.getD p undef)):Sem Value).run P w= .ok (.agg cs.toArray) w
 rw [hp]
 obtain ⟨hr,hs⟩:=h1
 cases hu:P.underlying ty with
 | none=>rw [hu] at hr;cases hr
 | some d=>
   rw [hu,Option.map_some,Option.some.injEq] at hr
   exact run_loadVar_mid (P:=P) w g 0 ty cs d hc hu hr (by rw [hs,hn])
theorem AE.arr{p g n:Nat}{ty:TypeId}{l:List Int}(hS:St W w rs)(hp:tmps.getD p undef= .pointer (some ⟨g,0,none⟩))(h1:Ch P ty n)(pl:AI (Go.Proofs.YtkcbhcajfcfmmaaDoor.arr g n l) rs rs'):AE P tmps w (.cell p ty) (.agg (iv l)):=by
 obtain ⟨hr,hn⟩:=hS.arr pl
 exact AE.row (cs:=l.map (Value.int .i64)) hp h1 (by simpa using hn) hr.range
theorem AE.blk{p g n:Nat}{ty:TypeId}{cs:List Value}(hS:St W w rs)(hp:tmps.getD p undef= .pointer (some ⟨g,0,none⟩))(h1:Ch P ty n)(pl:AI (Go.Proofs.YtkcbhcajfcfmmaaDoor.blk g cs) rs rs')(hn:cs.length=n):AE P tmps w (.cell p ty) (.agg cs.toArray):=
 AE.row hp h1 hn (hS.blk pl).1.range
inductive CU(P:Program)(tmps:Array Value)(w:World):List ResultVar→List Value→Prop
 | nil:CU P tmps w [] []
 | cons {r:ResultVar} {v:Value} {rs:List ResultVar} {vs:List Value} (h:AE P tmps w r v) (t:CU P tmps w rs vs):CU P tmps w (r::rs) (v::vs)
theorem CU.run{rs:List ResultVar}{vs:List Value}(h:CU P tmps w rs vs):(rs.mapM (IU tmps)).run P w= .ok vs w:=by
 induction h with
 | nil=>rfl
 | @cons r v rs vs h t ih=>
   rw [List.mapM_cons]
   have h':=h
   unfold AE at h'
   simp only [Sem.run_bind]
   rw [h',Result.andThen_ok,ih,Result.andThen_ok]
   rfl
theorem Ex{fn:Func}{xs:List ResultVar}{vs:List Value}(hr:fn.results=xs.toArray)(h:CU P tmps w xs vs):
 (results fn tmps).run P w= .ok (if h:vs.toArray.size=1 then vs.toArray[0] else .tuple vs.toArray) w:=by
 have e:results fn tmps=(do
  let vs ←fn.results.mapM (IU tmps)
  pure (if h:vs.size=1 then vs[0] else .tuple vs)):=by
  unfold results
  congr 1
 have h2:=h.run
 rw [e,hr,List.mapM_toArray,Sem.run_bind,Sem.run_map,h2]
 rfl
theorem Ah{fn:Func}{R:Ending→World→Prop}{a:Act}{xs:List ResultVar}{vs:List Value}(hr:fn.results=xs.toArray)(h:CU P a.tmps w xs vs)(hl:vs.length≠1)(hd:a.defers=[])(hR:R (.returned (.tuple vs.toArray)) w):bodyPost P fn R .ret a w:=by
 refine bodyPost_ret (v:= .tuple vs.toArray) ?_ hd hR
 rw [Ex hr h,dif_neg (by simpa using hl)]
theorem Ae{fn:Func}{R:Ending→World→Prop}{a:Act}{x:ResultVar}{v:Value}(hr:fn.results=#[x])(h:AE P a.tmps w x v)(hd:a.defers=[])(hR:R (.returned v) w):bodyPost P fn R .ret a w:=by
 refine bodyPost_ret (v:=v) ?_ hd hR
 rw [Ex (xs:=[x]) hr (CU.cons h CU.nil)]
 rfl
end
section
variable{P:Program}{w:World}{Q:Exit→Act→World→Prop}{K:Act→World→Prop}{o:Oper}{a:Act}
theorem Cp{f:FuncId}{x:Operand}{xs:List Operand}{ats:Array TypeId}{caps:Array Value}(ho:o.op= .call {callee:= .value x,args:=xs.toArray,argTypes:=ats})(hx:a.eval x= .func (.func f) #[] caps)
 (hcall:∀(args:Array Value)(w:World),(callFunc f args).run P w= .ok (.enter f args) w)
 {R:Ending→World→Prop} (hc:Calls P f ((xs.map a.eval).toArray++caps) w R) (h:∀e w',R e w'→∃v,e= .returned v∧K (a.put o.dst v) w'):o.wp P a w K Q:=by
 have e1:(execOp a.eval o).run P w=(callFunc f ((xs.map a.eval).toArray++caps)).run P w:=by
  unfold execOp
  rw [ho]
  have e2:(#[]++(xs.toArray).map a.eval++caps:Array Value)=(xs.map a.eval).toArray++caps:=by simp
  rw [←e2]
  simp only [resolve,hx]
  rfl
 unfold Oper.wp
 rw [e1,hcall,Oper.upon_enter]
 refine hc.mono fun e w' hR=>?_
 obtain ⟨v,rfl,h2⟩:=h e w' hR
 exact h2
end
inductive AJ where
 | ints (l:List Int)
 | val (v:Value)
def AJ.cells:AJ→List Value
 | .ints l=>l.map (Value.int .i64)
 | .val v=>[v]
def AA:List AJ→List Value
 | []=>[]
 | p::ps=>p.cells++AA ps
def prt(g:Nat)(ps:List AJ):Ac:=blk g (AA ps)
inductive H2:List AJ→Nat→List Int→Nat→Prop
 | head {l:List Int} {ps:List AJ} {off n:Nat} (hn:Ag l n) (h:off<n):H2 (.ints l::ps) off l off
 | skipI {l:List Int} {ps:List AJ} {off n o2 r:Nat} {l':List Int} (hn:Ag l n) (h:n≤off) (ho:off-n=o2) (t:H2 ps o2 l' r):H2 (.ints l::ps) off l' r
 | skipV {v:Value} {ps:List AJ} {off r:Nat} {l':List Int} (t:H2 ps off l' r):H2 (.val v::ps) (off+1) l' r
theorem H2.get{ps:List AJ}{off r:Nat}{l:List Int}(h:H2 ps off l r):(AA ps)[off]? =some (.int .i64 (AF l r)):=by
 induction h with
 | @head l ps off n hn h=>
   have hl:=hn.out
   rw [AA,AJ.cells,List.getElem?_append_left (by simp;omega),List.getElem?_map,Be l off (by omega)];rfl
 | @skipI l ps off n o2 r l' hn h ho t ih=>
   have hl:=hn.out
   rw [AA,AJ.cells,List.getElem?_append_right (by simp;omega),List.length_map,hl,ho,ih]
 | @skipV v ps off r l' t ih=>
   rw [AA,AJ.cells,List.singleton_append,List.getElem?_cons_succ,ih]
inductive EW:List AJ→Nat→Value→Prop
 | head {v:Value} {ps:List AJ}:EW (.val v::ps) 0 v
 | skipI {l:List Int} {ps:List AJ} {off n o2:Nat} {v:Value} (hn:Ag l n) (h:n≤off) (ho:off-n=o2) (t:EW ps o2 v):EW (.ints l::ps) off v
 | skipV {u v:Value} {ps:List AJ} {off:Nat} (t:EW ps off v):EW (.val u::ps) (off+1) v
theorem EW.get{ps:List AJ}{off:Nat}{v:Value}(h:EW ps off v):(AA ps)[off]? =some v:=by
 induction h with
 | head=>rfl
 | @skipI l ps off n o2 v hn h ho t ih=>
   have hl:=hn.out
   rw [AA,AJ.cells,List.getElem?_append_right (by simp;omega),List.length_map,hl,ho,ih]
 | @skipV u v ps off t ih=>
   rw [AA,AJ.cells,List.singleton_append,List.getElem?_cons_succ,ih]
inductive BG:List AJ→Nat→List AJ→Prop
 | nil {ps:List AJ}:BG ps 0 []
 | ints {l:List Int} {ps ss:List AJ} {n m m2:Nat} (hn:Ag l n) (h:n≤m) (hm:m-n=m2) (t:BG ps m2 ss):BG (.ints l::ps) m (.ints l::ss)
 | val {v:Value} {ps ss:List AJ} {m:Nat} (t:BG ps m ss):BG (.val v::ps) (m+1) (.val v::ss)
theorem BG.take{ps ss:List AJ}{m:Nat}(h:BG ps m ss):(AA ps).take m=AA ss∧(AA ss).length=m:=by
 induction h with
 | nil=>exact ⟨by simp [AA],rfl⟩
 | @ints l ps ss n m m2 hn h hm t ih=>
   have hl:=hn.out
   refine ⟨?_,by simp only [AA,AJ.cells,List.length_append,List.length_map,ih.2];omega⟩
   rw [AA,AA,AJ.cells,List.take_append,List.length_map,hl,hm,ih.1,List.take_of_length_le (by simp;omega)]
 | @val v ps ss m t ih=>
   exact ⟨by simp only [AA,AJ.cells,List.singleton_append,List.take_succ_cons,ih.1],by simp only [AA,AJ.cells,List.singleton_append,List.length_cons,ih.2]⟩
inductive F9:List AJ→Nat→Nat→List AJ→Prop
 | head {ps ss:List AJ} {m:Nat} (h:BG ps m ss):F9 ps 0 m ss
 | skipI {l:List Int} {ps ss:List AJ} {off n o2 m:Nat} (hn:Ag l n) (h:n≤off) (ho:off-n=o2) (t:F9 ps o2 m ss):F9 (.ints l::ps) off m ss
 | skipV {u:Value} {ps ss:List AJ} {off m:Nat} (t:F9 ps off m ss):F9 (.val u::ps) (off+1) m ss
theorem F9.get{ps ss:List AJ}{off m:Nat}(h:F9 ps off m ss):((AA ps).drop off).take m=AA ss∧(AA ss).length=m:=by
 induction h with
 | head h=>rw [List.drop_zero];exact h.take
 | @skipI l ps ss off n o2 m hn h ho t ih=>
   have hl:=hn.out
   rw [AA,AJ.cells,List.drop_append,List.length_map,hl,ho,List.drop_of_length_le (by simp;omega),List.nil_append];exact ih
 | @skipV u ps ss off m t ih=>
   rw [AA,AJ.cells,List.singleton_append,List.drop_succ_cons];exact ih
inductive Ih:List AJ→Nat→Nat→List Int→Prop
 | head {l:List Int} {ps:List AJ} {n:Nat} (hn:Ag l n):Ih (.ints l::ps) 0 n l
 | skipI {l l':List Int} {ps:List AJ} {off n o2 m:Nat} (hn:Ag l n) (h:n≤off) (ho:off-n=o2) (t:Ih ps o2 m l'):Ih (.ints l::ps) off m l'
 | skipV {u:Value} {l':List Int} {ps:List AJ} {off m:Nat} (t:Ih ps off m l'):Ih (.val u::ps) (off+1) m l'
theorem Ih.get{ps:List AJ}{off m:Nat}{l:List Int}(h:Ih ps off m l):((AA ps).drop off).take m=l.map (Value.int .i64)∧l.length=m:=by
 induction h with
 | @head l ps n hn=>
   have hl:=hn.out
   rw [List.drop_zero,AA,AJ.cells,List.take_append,List.length_map,hl,Nat.sub_self,List.take_of_length_le (by simp;omega)]
   exact ⟨by simp,rfl⟩
 | @skipI l l' ps off n o2 m hn h ho t ih=>
   have hl:=hn.out
   rw [AA,AJ.cells,List.drop_append,List.length_map,hl,ho,List.drop_of_length_le (by simp;omega),List.nil_append];exact ih
 | @skipV u l' ps off m t ih=>
   rw [AA,AJ.cells,List.singleton_append,List.drop_succ_cons];exact ih
section
variable{P:Program}{W w:World}{rs rs':List Ac}{Q:Exit→Act→World→Prop}{K:Act→World→Prop}{o:Oper}{a:Act}
theorem F4(hS:St W w rs)(ty:TypeId)(x:Operand)(ho:o.op= .load ty x)(g off:Nat)(hx:a.eval x= .pointer (some ⟨g,off,none⟩))(h1:FL P ty)(ps:List AJ)(hp:AI (prt g ps) rs rs')
 (l:List Int) (r:Nat) (hi:H2 ps off l r) (h:K (a.put o.dst (.int .i64 (AF l r))) w):o.wp P a w K Q:=
 CQ hS ty x ho g off hx h1 _ hp _ hi.get h
theorem Id(hS:St W w rs)(ty:TypeId)(x:Operand)(ho:o.op= .load ty x)(g off:Nat)(hx:a.eval x= .pointer (some ⟨g,off,none⟩))(h1:FL P ty)(ps:List AJ)(hp:AI (prt g ps) rs rs')
 (l:List Int) (r:Nat) (hi:H2 ps off l r) (z:Int) (hz:AF l r=z) (h:K (a.put o.dst (.int .i64 z)) w):o.wp P a w K Q:=
 F4 hS ty x ho g off hx h1 ps hp l r hi (by rw [hz];exact h)
theorem CS(hS:St W w rs)(ty:TypeId)(x:Operand)(ho:o.op= .load ty x)(g off:Nat)(hx:a.eval x= .pointer (some ⟨g,off,none⟩))(h1:FL P ty)(ps:List AJ)(hp:AI (prt g ps) rs rs')
 (v:Value) (hi:EW ps off v) (h:K (a.put o.dst v) w):o.wp P a w K Q:=
 CQ hS ty x ho g off hx h1 _ hp _ hi.get h
theorem Fm{g off m:Nat}{ps:List AJ}{cs:List Value}(hS:St W w rs)(hp:AI (prt g ps) rs rs')(h:((AA ps).drop off).take m=cs):w.rangeAt g off cs:=fun j v hv=>by
 rw [←h,List.getElem?_take] at hv
 split at hv
 ·rw [List.getElem?_drop] at hv
  rw [(St.blk hS hp).1.cell];simpa using hv
 cases hv
theorem F6(hS:St W w rs)(ty:TypeId)(x:Operand)(ho:o.op= .load ty x)(g off:Nat)(hx:a.eval x= .pointer (some ⟨g,off,none⟩))(m:Nat)(h1:Ch P ty m)(ps:List AJ)(hp:AI (prt g ps) rs rs')
 (l:List Int) (hi:Ih ps off m l) (h:K (a.put o.dst (.agg (iv l))) w):o.wp P a w K Q:=
 CR ty x ho g off hx m h1 (l.map (Value.int .i64)) (by simpa using hi.get.2) (Fm hS hp hi.get.1) h
theorem DA(hS:St W w rs)(ty:TypeId)(x:Operand)(ho:o.op= .load ty x)(g off:Nat)(hx:a.eval x= .pointer (some ⟨g,off,none⟩))(m:Nat)(h1:Ch P ty m)(ps:List AJ)(hp:AI (prt g ps) rs rs')
 (ss:List AJ) (hi:F9 ps off m ss) (h:K (a.put o.dst (.agg (AA ss).toArray)) w):o.wp P a w K Q:=
 CR ty x ho g off hx m h1 (AA ss) hi.get.2 (Fm hS hp hi.get.1) h
theorem I8(hS:St W w rs)(ty:TypeId)(x:Operand)(ho:o.op= .box ty x)(ps:List AJ)(hx:a.eval x= .agg (AA ps).toArray)
 (h:∀g w',St W w' (prt g ps::rs)→K (a.put o.dst (.pointer (some ⟨g,0,none⟩))) w'):o.wp P a w K Q:=
 EV hS ty x ho (AA ps) hx h
end
inductive EZ(z:Int):List AJ→Nat→List AJ→Prop
 | head {l:List Int} {ps:List AJ} {off n:Nat} (hn:Ag l n) (h:off<n):EZ z (.ints l::ps) off (.ints (l.set off z)::ps)
 | skipI {l:List Int} {ps ps':List AJ} {off n o2:Nat} (hn:Ag l n) (h:n≤off) (ho:off-n=o2) (t:EZ z ps o2 ps'):EZ z (.ints l::ps) off (.ints l::ps')
 | skipV {v:Value} {ps ps':List AJ} {off:Nat} (t:EZ z ps off ps'):EZ z (.val v::ps) (off+1) (.val v::ps')
theorem EZ.eq{z:Int}{ps ps':List AJ}{off:Nat}(h:EZ z ps off ps'):off<(AA ps).length∧AA ps'=(AA ps).set off (.int .i64 z):=by
 induction h with
 | @head l ps off n hn h=>
   have hl:=hn.out
   refine ⟨by simp [AA,AJ.cells];omega,?_⟩
   rw [AA,AA,AJ.cells,AJ.cells,List.set_append_left _ _ (by simp;omega),List.map_set]
 | @skipI l ps ps' off n o2 hn h ho t ih=>
   have hl:=hn.out
   refine ⟨by simp [AA,AJ.cells];omega,?_⟩
   rw [AA,AA,AJ.cells,List.set_append_right _ _ (by simp;omega),List.length_map,hl,ho,ih.2]
 | @skipV v ps ps' off t ih=>
   refine ⟨by simp [AA,AJ.cells];omega,?_⟩
   rw [AA,AA,AJ.cells,List.singleton_append,List.singleton_append,List.set_cons_succ,ih.2]
inductive DM(z:Value):List AJ→Nat→List AJ→Prop
 | head {v:Value} {ps:List AJ}:DM z (.val v::ps) 0 (.val z::ps)
 | skipI {l:List Int} {ps ps':List AJ} {off n o2:Nat} (hn:Ag l n) (h:n≤off) (ho:off-n=o2) (t:DM z ps o2 ps'):DM z (.ints l::ps) off (.ints l::ps')
 | skipV {v:Value} {ps ps':List AJ} {off:Nat} (t:DM z ps off ps'):DM z (.val v::ps) (off+1) (.val v::ps')
theorem DM.eq{z:Value}{ps ps':List AJ}{off:Nat}(h:DM z ps off ps'):off<(AA ps).length∧AA ps'=(AA ps).set off z:=by
 induction h with
 | head=>exact ⟨by simp [AA,AJ.cells],rfl⟩
 | @skipI l ps ps' off n o2 hn h ho t ih=>
   have hl:=hn.out
   refine ⟨by simp [AA,AJ.cells];omega,?_⟩
   rw [AA,AA,AJ.cells,List.set_append_right _ _ (by simp;omega),List.length_map,hl,ho,ih.2]
 | @skipV v ps ps' off t ih=>
   refine ⟨by simp [AA,AJ.cells];omega,?_⟩
   rw [AA,AA,AJ.cells,List.singleton_append,List.singleton_append,List.set_cons_succ,ih.2]
theorem Bu.of{v:Value}:∀{l:List Value} {i:Nat},i<l.length→Bu v i l (l.set i v)
 | [],i,h=>by simp at h
 | x::l,0,_=> .head
 | x::l,i+1,h=> .tail (Bu.of (by simpa using h))
section
variable{P:Program}{W w:World}{rs rs':List Ac}{Q:Exit→Act→World→Prop}{K:Act→World→Prop}{o:Oper}{a:Act}
theorem If(hS:St W w rs)(ty:TypeId)(x y:Operand)(ho:o.op= .store ty x y)(g off:Nat)(hx:a.eval x= .pointer (some ⟨g,off,none⟩))(h1:FL P ty)(ps ps':List AJ)(hp:AI (prt g ps) rs rs')
 (z:Int) (hy:a.eval y= .int .i64 z) (hi:EZ z ps off ps') (hd:o.dst=none) (h:∀w',St W w' (prt g ps'::rs')→K a w'):o.wp P a w K Q:=by
 obtain ⟨h2,h3⟩:=hi.eq
 refine DB hS ty x y ho g off hx h1 (AA ps) (AA ps') hp (.int .i64 z) (.int hy) rfl ?_ hd h
 rw [h3];exact Bu.of h2
theorem CZ(hS:St W w rs)(ty:TypeId)(x y:Operand)(ho:o.op= .store ty x y)(g off:Nat)(hx:a.eval x= .pointer (some ⟨g,off,none⟩))(h1:FL P ty)(ps ps':List AJ)(hp:AI (prt g ps) rs rs')
 (z:Value) (hy:CT (a.eval y) z) (hz:z.oneCell'=true) (hi:DM z ps off ps') (hd:o.dst=none) (h:∀w',St W w' (prt g ps'::rs')→K a w'):o.wp P a w K Q:=by
 obtain ⟨h2,h3⟩:=hi.eq
 refine DB hS ty x y ho g off hx h1 (AA ps) (AA ps') hp z hy hz ?_ hd h
 rw [h3];exact Bu.of h2
def GL:AJ→Bool
 | .ints _=>true
 | .val v=>v.oneCell'
theorem Cy:∀{ps:List AJ},ps.all GL=true→(AA ps).all (·.oneCell')=true
 | [],_=>rfl
 | .ints l::ps,h=>by
   simp only [List.all_cons,Bool.and_eq_true] at h
   simp only [AA,AJ.cells,List.all_append,Bool.and_eq_true]
   refine ⟨?_,Cy h.2⟩
   rw [List.all_eq_true];intro u hu;obtain ⟨x,_,rfl⟩:=List.mem_map.1 hu;rfl
 | .val v::ps,h=>by
   simp only [List.all_cons,Bool.and_eq_true] at h
   simp only [AA,AJ.cells,List.all_append,Bool.and_eq_true]
   exact ⟨by simpa [GL] using h.1,Cy h.2⟩
theorem FF(hS:St W w rs)(ty:TypeId)(x y:Operand)(ho:o.op= .store ty x y)(g:Nat)(hx:a.eval x= .pointer (some ⟨g,0,none⟩))(m:Nat)(h1:Ch P ty m)(ps ps':List AJ)(hp:AI (prt g ps) rs rs')
 (hy:a.eval y= .agg (AA ps').toArray) (hn:BG ps m ps) (hn':BG ps' m ps') (hv:ps'.all GL=true) (hd:o.dst=none) (h:∀w',St W w' (prt g ps'::rs')→K a w'):o.wp P a w K Q:=
 F7 hS ty x y ho g hx m h1 (AA ps) (AA ps') hp hy hn.take.2 hn'.take.2 (Cy hv) hd h
theorem Fz(hS:St W w rs)(ty:TypeId)(ho:o.op= .alloc ty)(ps:List AJ)(hz:∀w,(zeroValue ty).run P w= .ok (.agg (AA ps).toArray) w)
 (h:∀g w',St W w' (prt g ps::rs)→K (a.put o.dst (.pointer (some ⟨g,0,none⟩))) w'):o.wp P a w K Q:=
 Hu hS ty ho _ (AA ps) hz rfl h
end
def mp{K:Type}[DecidableEq K](enc:K→Value)(g:Nat)(f:K→Option Value):Ac where
 holds w fp:=fp=[g]∧DL enc w g f
 lt:=fun ⟨e,h⟩ b hb=>by rw [e,List.mem_singleton] at hb;rw [hb];exact h.lt
 loc:=fun ⟨e,h⟩ hs=>⟨e,h.of_heap (hs _ (by rw [e];simp))⟩
section
variable{K:Type}[DecidableEq K]{P:Program}{enc:K→Value}{W w:World}{rs rs':List Ac}{Q:Exit→Act→World→Prop}{K':Act→World→Prop}{o:Oper}{a:Act}
theorem St.mp{g:Nat}{f:K→Option Value}(h:St W w rs)(p:AI (Go.Proofs.YtkcbhcajfcfmmaaDoor.mp enc g f) rs rs'):DL enc w g f:=by
 obtain ⟨_,fp,_,_,f1,f2,e,⟨e1,h4⟩,_⟩:=h.pull p
 exact h4
theorem FD(enc:K→Value)(hS:St W w rs)(t:TypeId)(ho:o.op= .makeMap t none)
 (h:∀g w',St W w' (Go.Proofs.YtkcbhcajfcfmmaaDoor.mp enc g (fun _=>none)::rs)→K' (a.put o.dst (.map (some g))) w'):o.wp P a w K' Q:=by
 have hE:AX w (w.alloc (.map #[] 0)):=(AX.refl w).alloc _
 have hst:St w (w.alloc (.map #[] 0)) [Go.Proofs.YtkcbhcajfcfmmaaDoor.mp enc w.heap.size (fun _=>none)]:=
  ⟨hE,[w.heap.size],by simp,by simp,[w.heap.size],[],rfl,⟨rfl,DL.new w⟩,rfl⟩
 have hh:=h _ _ (hS.call1 hst)
 unfold Oper.wp execOp
 simp only [ho]
 exact hh
theorem FC(hS:St W w rs)(mt:TypeId)(x i:Operand)(ho:o.op= .lookup mt x i false)(b:Nat)(hx:a.eval x= .map (some b))(k:K)(hk:a.eval i=enc k){kt et:TypeId}(hm:P.underlying mt=some (.map kt et))(law:Dy P kt enc)(z:Value)(hz:∀w,(zeroValue et).run P w= .ok z w)
 (f:K→Option Value) (hp:AI (Go.Proofs.YtkcbhcajfcfmmaaDoor.mp enc b f) rs rs') (v:Value) (hf:f k=some v) (h:K' (a.put o.dst v) w):o.wp P a w K' Q:=by
 have hl:=(hS.mp hp).lookup hm law k false hz
 unfold Oper.wp execOp
 simp only [ho,hx,hk,Sem.run_bind,hl,hf,Result.andThen_ok,Sem.run_pure]
 exact h
theorem FB(hS:St W w rs)(mt:TypeId)(x i:Operand)(ho:o.op= .lookup mt x i false)(b:Nat)(hx:a.eval x= .map (some b))(k:K)(hk:a.eval i=enc k){kt et:TypeId}(hm:P.underlying mt=some (.map kt et))(law:Dy P kt enc)(z:Value)(hz:∀w,(zeroValue et).run P w= .ok z w)
 (f:K→Option Value) (hp:AI (Go.Proofs.YtkcbhcajfcfmmaaDoor.mp enc b f) rs rs') (hf:f k=none) (h:K' (a.put o.dst z) w):o.wp P a w K' Q:=by
 have hl:=(hS.mp hp).lookup hm law k false hz
 unfold Oper.wp execOp
 simp only [ho,hx,hk,Sem.run_bind,hl,hf,Result.andThen_ok,Sem.run_pure]
 exact h
theorem Du(hS:St W w rs)(mt:TypeId)(x i y:Operand)(ho:o.op= .mapUpdate mt x i y)(b:Nat)(hx:a.eval x= .map (some b))(k:K)(hk:a.eval i=enc k){kt et:TypeId}(hm:P.underlying mt=some (.map kt et))(law:Dy P kt enc)
 (f:K→Option Value) (hp:AI (Go.Proofs.YtkcbhcajfcfmmaaDoor.mp enc b f) rs rs') (v:Value) (hv:CT (a.eval y) v) (hd:o.dst=none) (h:∀w',St W w' (Go.Proofs.YtkcbhcajfcfmmaaDoor.mp enc b (fun j=>if j=k then some v else f j)::rs')→K' a w'):o.wp P a w K' Q:=by
 obtain ⟨w',hrun,h1,h2,h3⟩:=(hS.mp hp).update hm law k (a.eval y)
 rw [hv.eq] at h1
 have hE0:AX ({w with heap:=#[]}:World) w:=⟨rfl,rfl,rfl,by simp,fun i hi=>by simp at hi⟩
 have hE1:=h2 _ (by simp) hE0
 have hlt':=h1.lt
 have hsz:w.heap.size≤w'.heap.size:=by
  by_cases hc:w.heap.size≤b+1
  ·omega
  have e1:=h3 (w.heap.size-1) (by omega)
  have e2:w.heap[w.heap.size-1]? =some (w.heap[w.heap.size-1]'(by omega)):=Array.getElem?_eq_getElem (by omega)
  rw [e2] at e1
  have:=(Array.getElem?_eq_some_iff.1 e1).1
  omega
 have hO:CE [b] w w':=⟨hE1.os,hE1.tape,hE1.output,hsz,fun i _ hi=>h3 i (by simpa using hi)⟩
 have hh:=h w' (by
  refine St.change (rs1:=[Go.Proofs.YtkcbhcajfcfmmaaDoor.mp enc b (fun j=>if j=k then some v else f j)]) (hS.pull hp) fun f1 hf1 _ _=>?_
  obtain ⟨rfl,_⟩:=hf1
  exact ⟨[b],⟨[b],[],rfl,⟨rfl,h1⟩,rfl⟩,by simp,fun c hc=> .inl hc,hO⟩)
 unfold Oper.wp execOp
 simp only [ho,hx,hk,Sem.run_bind,hrun,Result.andThen_ok,Sem.run_pure]
 show K' (a.put o.dst undef) _
 rw [hd]
 exact hh
end
end Go.Proofs.YtkcbhcajfcfmmaaDoor
namespace Go.Proofs.YtkcbhcajfcfmmaaDoor
attribute [local irreducible] Region.wanted
set_option linter.unusedVariables false
set_option maxRecDepth 100000
set_option maxHeartbeats 8000000
theorem Oi(w:World):(zeroValue 28).run Tryd.prog w= .ok (.agg (AA [.ints (List.replicate 16 0), .val (.slice none 0 0)]).toArray) w:=by first|exact Tryd.zeroValue28 w|kernel_rfl
theorem Oj(w:World):(zeroValue 32).run Tryd.prog w= .ok (.agg (AA [.val (.int .i64 0), .val (.int .i64 0), .val (.int .i64 0), .ints (List.replicate 64 0), .ints (List.replicate 16 0), .val (.slice none 0 0), .ints (List.replicate 16 0), .val (.slice none 0 0), .val (.int .i64 0), .val (.slice none 0 0)]).toArray) w:=by first|exact Tryd.zeroValue32 w|kernel_rfl
end Go.Proofs.YtkcbhcajfcfmmaaDoor
namespace Go.Proofs.YtkcbhcajfcfmmaaDoor
attribute [local irreducible] Region.wanted
open Go.RowKit
set_option linter.unusedVariables false
set_option maxRecDepth 100000
set_option maxHeartbeats 8000000
abbrev tv(C:List Int)(v:Value):Value:= .agg (AA [.ints C, .val v]).toArray
theorem H7(C:List Int)(k:Nat)(h:0≤AF C k):AF C k=((cc C k:Nat):Int):=by unfold cc;omega
theorem Fo{a:Value}{x y:Bool}(h:x=y):Ending.returned (.tuple #[a, .bool x])= .returned (.tuple #[a, .bool y]):=by rw [h]
theorem Fw(w0:World)(C:List Int)(v:Value)(hC:Ag C 16)(h:EL C=true):Calls Tryd.prog 45 #[tv C v] w0 fun e w=>e= .returned (.tuple #[.int .i64 (sm (cc C) 16:Nat), .bool true])∧AX w0 w:=by
 obtain ⟨hb,h16⟩:=(Bs C).1 h
 have HB:=AD hb
 clear hb h
 have hS:=St.start w0
 go_enter Tryd.func45,Tryd.ntmps45
 repeat' (first
  | refine X0 ?_|refine NN ?_|refine Mq 1 ?_;clear hS;intro g1 w hS|refine Nx ?_|refine AG ?_;go_step|fail)
 go_loopg [4,9] 16 (fun gk av kv w=>∃k:Nat,gk+k=16∧kv= .int .i64 k∧av= .int .i64 (sm (cc C) k:Nat)∧sm (cc C) k≤256*k∧St w0 w [])
 case atStart=>exact ⟨0,rfl,rfl,rfl,by simp [sm],hS.sub Ao⟩
 case round=>
  clear hS
  obtain ⟨k,hk,rfl,rfl,hs,hS⟩:=hrel
  by_cases hlt:k<16
  ·have hx:=HB.out k hlt
   have hsm:=AD (show sm (cc C) (k+1)=sm (cc C) k+cc C k from rfl)
   have hci:=H7 C k hx.1
   obtain ⟨y,hy⟩:∃y,cc C k=y:=⟨_,rfl⟩
   rw [hy] at hci hsm
   obtain ⟨x,hxe⟩:∃x,AF C k=x:=⟨_,rfl⟩
   have HX:=AD hxe
   rw [hxe] at hci hx
   subst hci
   clear hxe hy
   repeat' (first
    | refine NR 11 ?_|refine X0 ?_|refine H0 ?_|refine X6 13 ?_ ?_<;>intro hB<;>(try exact Ar)<;>go_step|refine X3 ?_|refine K8 ?_|refine Ge ?_|refine AG ?_;go_step|fail)
   go_roundg (gk-1)
   case measure=>omega
   case rel=>exact ⟨k+1,by omega,by go_num,by rw [hsm.out];go_num,by rw [hsm.out];omega,hS⟩
  obtain rfl:k=16:=by omega
  repeat' (first
   | refine X0 ?_|refine X3 ?_|refine Nt ?_|refine AG ?_;go_step|fail)
  refine Ah (xs:=[_,_]) rfl (.cons (AE.tmp rfl) (.cons (AE.tmp rfl) (.nil))) (by simp) rfl ?_
  exact ⟨Fo (decide_eq_true (by omega)),hS.1⟩
theorem Kx(w0:World)(C:List Int)(v:Value)(hC:Ag C 16)(h:EL C=false):Calls Tryd.prog 45 #[tv C v] w0 fun e w=>∃z,e= .returned (.tuple #[.int .i64 z, .bool false])∧AX w0 w:=by
 have hb:¬((∀k,k<16→0≤AF C k∧AF C k≤256)∧sm (cc C) 16≤256):=by rw [←Bs,h];simp
 have HB:=AD hb
 clear hb h
 have hS:=St.start w0
 go_enter Tryd.func45,Tryd.ntmps45
 repeat' (first
  | refine X0 ?_|refine NN ?_|refine Mq 1 ?_;clear hS;intro g1 w hS|refine Nx ?_|refine AG ?_;go_step|fail)
 go_loopg [4,9] 16 (fun gk av kv w=>∃k:Nat,gk+k=16∧kv= .int .i64 k∧av= .int .i64 (sm (cc C) k:Nat)∧Hid (∀j,j<k→0≤AF C j∧AF C j≤256)∧sm (cc C) k≤256*k∧St w0 w [])
 case atStart=>exact ⟨0,rfl,rfl,rfl,AD (fun j hj=>absurd hj (by omega)),by simp [sm],hS.sub Ao⟩
 case round=>
  clear hS
  obtain ⟨k,hk,rfl,rfl,HA,hs,hS⟩:=hrel
  by_cases hlt:k<16
  ·have hsm:=AD (show sm (cc C) (k+1)=sm (cc C) k+cc C k from rfl)
   by_cases hx:0≤AF C k∧AF C k≤256
   ·have hci:=H7 C k hx.1
    have HA2:Hid (∀j,j<k+1→0≤AF C j∧AF C j≤256):=AD fun j hj=>by
     by_cases hjk:j<k
     ·exact HA.out j hjk
     obtain rfl:j=k:=by omega
     exact hx
    obtain ⟨y,hy⟩:∃y,cc C k=y:=⟨_,rfl⟩
    rw [hy] at hci hsm
    obtain ⟨x,hxe⟩:∃x,AF C k=x:=⟨_,rfl⟩
    have HX:=AD hxe
    rw [hxe] at hci hx
    subst hci
    clear hxe hy
    repeat' (first
     | refine NR 11 ?_|refine X0 ?_|refine H0 ?_|refine X6 13 ?_ ?_<;>intro hB<;>(try exact Ar)<;>go_step|refine X3 ?_|refine K8 ?_|refine Ge ?_|refine AG ?_;go_step|fail)
    go_roundg (gk-1)
    case measure=>omega
    case rel=>exact ⟨k+1,by omega,by go_num,by rw [hsm.out];go_num,HA2,by rw [hsm.out];omega,hS⟩
   obtain ⟨x,hxe⟩:∃x,AF C k=x:=⟨_,rfl⟩
   have HX:=AD hxe
   rw [hxe] at hx
   have hx2:x<0∨256<x:=by omega
   clear hxe hx
   repeat' (first
    | (refine AU 11 ?_);refine AP (.int .i64 x) (V.as (V.indexIv Tryd.underlying26 Tryd.underlying3 DC rfl rfl hC At.cast (by omega)) HX.out) AB ?_;go_step|go_big_skip|refine X0 ?_|refine KE ?_|refine X6 13 ?_ ?_<;>intro hB<;>(try exact Ar)<;>go_step|refine X3 ?_|refine K8 ?_|refine AG ?_;go_step|fail)
   all_goals
    refine Ah (xs:=[_,_]) rfl (.cons (AE.tmp rfl) (.cons (AE.tmp rfl) (.nil))) (by simp) rfl ?_
    exact ⟨_,rfl,hS.1⟩
  obtain rfl:k=16:=by omega
  have hgt:256<sm (cc C) 16:=by
   have:=HB.out
   have h2:=HA.out
   by_cases h3:sm (cc C) 16≤256
   ·exact absurd ⟨h2,h3⟩ this
   omega
  repeat' (first
   | refine X0 ?_|refine X3 ?_|refine Nt ?_|refine AG ?_;go_step|fail)
  refine Ah (xs:=[_,_]) rfl (.cons (AE.tmp rfl) (.cons (AE.tmp rfl) (.nil))) (by simp) rfl ?_
  exact ⟨_,Fo (decide_eq_false (by omega)),hS.1⟩
def FW(l:List Int)(s:Int):Option Value:=if s∈l then some (.bool true) else none
theorem JS(S:List Int)(k:Nat)(hk:k<S.length):(fun j=>if j=AF S k then some (Value.bool true) else FW (S.take k) j)=FW (S.take (k+1)):=by
 funext j
 have e:S.take (k+1)=S.take k++[AF S k]:=by rw [List.take_add_one,Be S k hk];rfl
 unfold FW
 rw [e]
 by_cases h:j=AF S k
 ·simp [h]
 simp [h]
theorem LW(S:List Int)(k:Nat)(h:k<S.length):AF S k∈S:=List.mem_of_getElem? (Be S k h)
theorem IQ(S:List Int)(k:Nat)(hk:k<S.length):(S.take (k+1)).Nodup↔(S.take k).Nodup∧AF S k∉S.take k:=by
 have e:S.take (k+1)=S.take k++[AF S k]:=by rw [List.take_add_one,Be S k hk];rfl
 rw [e,List.nodup_append]
 constructor
 ·intro h;exact ⟨h.1,fun hm=>h.2.2 _ hm _ (by simp) rfl⟩
 intro h;refine ⟨h.1,by simp,fun a ha b hb=>?_⟩
 simp only [List.mem_singleton] at hb
 subst hb
 intro e;subst e;exact h.2 ha
theorem Fd(w0:World)(C S:List Int)(ad:Option Addr)(n c:Nat)(hC:Ag C 16)(hv:Sl w0 1 (.slice ad n c) n (S.map (Value.int .i64)))(hn:n≤9223372036854775807):
 Calls Tryd.prog 35 #[tv C (.slice ad n c)] w0 fun e w=>e= .returned (.int .i64 (A7 C S))∧AX w0 w:=by
 have hSl:S.length=n:=by have:=hv.1;simpa using this
 have HSl:=AD hSl
 clear hSl
 have hS:=St.start w0
 by_cases ht:EL C=true
 case neg=>
  have hE:=AD (show A7 C S=4 by unfold A7;rw [if_neg (fun h=>ht h.1)])
  have ht2:=AD (show EL C=false by simpa using ht)
  clear ht
  go_enter Tryd.func35,Tryd.ntmps35
  repeat' (first
   | (refine Am 45 ?_);refine An AB Tryd.call45 (Kx _ C _ hC ht2.out) ?_;rintro e w ⟨z,rfl,hE2⟩;replace hS:=hS.ext hE2;clear hE2;refine As ?_;go_step|go_skip|refine X0 ?_|refine X5 ?_|refine X9 18 ?_ ?_<;>intro hB<;>(try exact Hb hB)<;>go_step|refine MG ?_|refine Mq 1 ?_;clear hS;intro g1 w hS|refine KC ?_|refine AG ?_;go_step|fail)
  refine Ae rfl (AE.tmp rfl) rfl ?_
  exact ⟨(by rw [hE.out];first|done|rfl),hS.1⟩
 have HT:=AD ht
 clear ht
 by_cases hs:sm (cc C) 16=n
 case neg=>
  have hE:=AD (show A7 C S=4 by unfold A7;rw [if_neg (fun h=>hs (h.2.trans HSl.out))])
  obtain ⟨t,ht⟩:∃t,sm (cc C) 16=t:=⟨_,rfl⟩
  rw [ht] at hs
  have HT2:=AD ht
  clear ht
  go_enter Tryd.func35,Tryd.ntmps35
  repeat' (first
   | (refine Am 45 ?_);refine An AB Tryd.call45 (Fw _ C _ hC HT.out) ?_;rintro e w ⟨rfl,hE2⟩;rw [HT2.out];replace hS:=hS.ext hE2;clear hE2;refine As ?_;go_step|refine X0 ?_|refine H0 ?_|refine X9 18 ?_ ?_<;>intro hB<;>(try exact Hb hB)<;>go_step|refine MG ?_|refine OK ?_|refine OJ ?_|refine NM ?_|refine Mq 1 ?_;clear hS;intro g1 w hS|refine KC ?_|refine MI ?_|refine AG ?_;go_step|fail)
  refine Ae rfl (AE.tmp rfl) rfl ?_
  exact ⟨(by rw [hE.out];first|done|rfl),hS.1⟩
 have h256:n≤256:=by
  have:=(Bs C).1 HT.out
  omega
 have HS2:=AD hs
 have HE:=AD (show A7 C S=if Hn S then if S.Nodup∧Hf (cc C)=true then 0 else 4 else 1 by unfold A7;rw [if_pos ⟨HT.out,hs.trans HSl.out.symm⟩])
 clear hs
 go_enter Tryd.func35,Tryd.ntmps35
 repeat' (first
  | (refine Am 45 ?_);refine An AB Tryd.call45 (Fw _ C _ hC HT.out) ?_;rintro e w ⟨rfl,hE2⟩;rw [HS2.out];replace hS:=hS.ext hE2;clear hE2;refine As ?_;go_step|refine X0 ?_|refine H0 ?_|refine X9 18 ?_ ?_<;>intro hB<;>(try exact Hb hB)<;>go_step|refine MG ?_|refine OK ?_|refine OJ ?_|refine NM ?_|refine Mq 1 ?_;clear hS;intro g1 w hS|refine KC ?_|refine MI ?_|(refine AU 26 ?_);(refine A3 ?_;apply FD (o:=⟨some 26,_,_,_,_,_⟩) ik hS 88 rfl;clear hS;intro g26 w hS;refine AC ?_;go_step)|refine AG ?_;go_step|fail)
 go_loopg [6,30] n (fun gk bv kv w=>∃(k:Nat) (b:Bool),gk+k=n∧kv= .int .i64 k∧bv= .bool b∧Hid (b=true↔¬(S.take k).Nodup)∧Hid (∀j,j<k→0≤AF S j∧AF S j<256)∧St w0 w [mp ik g26 (FW (S.take k)),prt g1 [.ints C, .val (.slice ad n c)]])
 case atStart=>exact ⟨0,false,rfl,rfl,rfl,AD (by simp),AD (fun j hj=>absurd hj (by omega)),(by rw [show FW (S.take 0)=fun _=>none from (by funext s;simp [FW])];exact hS)⟩
 case round=>
  clear hS
  obtain ⟨k,b,hk,rfl,rfl,HB,HR,hS⟩:=hrel
  by_cases hlt:k<n
  ·have hk2:=AD (show k<S.length by rw [HSl.out];exact hlt)
   have HF:=AD (JS S k hk2.out)
   have HN:=AD (IQ S k hk2.out)
   obtain ⟨x,hx⟩:∃x,AF S k=x:=⟨_,rfl⟩
   have HX:=AD hx
   rw [hx] at HF HN
   clear hx
   by_cases hr:0≤x∧x<256
   ·have HR2:Hid (∀j,j<k+1→0≤AF S j∧AF S j<256):=AD fun j hj=>by
     by_cases hjk:j<k
     ·exact HR.out j hjk
     obtain rfl:j=k:=by omega
     rw [HX.out];exact hr
    by_cases hm:x∈S.take k
    ·have hf:FW (S.take k) x=some (.bool true):=by rw [FW,if_pos hm]
     have HB2:Hid (true=true↔¬(S.take (k+1)).Nodup):=AD (by rw [HN.out];simp [hm])
     clear HN hm
     cases b
     all_goals
      repeat' (first
       | (refine AU 32 ?_);refine Ca hv Tryd.underlying23 DC rfl rfl At.cast (by omega) AB ?_;rw [HX.out];intro b32 o32 hc32;go_step|go_big_skip|refine X0 ?_|refine KE ?_|refine X6 35 ?_ ?_<;>intro hB<;>(try exact Ar)<;>go_step|refine X3 ?_|refine OH ?_|refine Ge ?_|refine Mv ?_|(refine AU 44 ?_);(refine A3 ?_;apply FC (enc:=ik) hS 88 _ _ rfl _ rfl _ rfl Tryd.underlying88 (Bi Tryd.underlying3) (.bool false) (fun w=>Tryd.zeroValue4 w) _;(case hp=>exact AQ);(case hf=>with_reducible assumption);refine AC ?_;go_step)|refine NF ?_;clear hS;intro w hS|refine AG ?_;go_step|fail)
      go_roundg (gk-1)
      case measure=>omega
      case rel=>exact ⟨k+1,true,by omega,by go_num,rfl,HB2,HR2,by rw [←HF.out];exact hS.sub Ao⟩
    have hf:FW (S.take k) x=none:=by rw [FW,if_neg hm]
    have HB2:Hid (b=true↔¬(S.take (k+1)).Nodup):=AD (by rw [HN.out,HB.out];simp [hm])
    clear HN hm
    cases b
    all_goals
     repeat' (first
      | (refine AU 32 ?_);refine Ca hv Tryd.underlying23 DC rfl rfl At.cast (by omega) AB ?_;rw [HX.out];intro b32 o32 hc32;go_step|go_big_skip|refine X0 ?_|refine KE ?_|refine X6 35 ?_ ?_<;>intro hB<;>(try exact Ar)<;>go_step|refine X3 ?_|refine OH ?_|refine Ge ?_|refine Mv ?_|(refine AU 44 ?_);(refine A3 ?_;apply FB (enc:=ik) hS 88 _ _ rfl _ rfl _ rfl Tryd.underlying88 (Bi Tryd.underlying3) (.bool false) (fun w=>Tryd.zeroValue4 w) _;(case hp=>exact AQ);(case hf=>with_reducible assumption);refine AC ?_;go_step)|refine NF ?_;clear hS;intro w hS|refine AG ?_;go_step|fail)
     go_roundg (gk-1)
     case measure=>omega
     case rel=>exact ⟨k+1,_,by omega,by go_num,rfl,HB2,HR2,by rw [←HF.out];exact hS.sub Ao⟩
   have hE4:Hid (A7 C S=1):=AD (by
    rw [HE.out,if_neg]
    intro h
    have:=List.all_eq_true.1 h x (by rw [←HX.out];exact LW S k hk2.out)
    simp at this;omega)
   clear HF HN
   have hr2:x<0∨256≤x:=by omega
   clear hr
   repeat' (first
    | (refine AU 32 ?_);refine Ca hv Tryd.underlying23 DC rfl rfl At.cast (by omega) AB ?_;rw [HX.out];intro b32 o32 hc32;go_step|go_big_skip|refine X0 ?_|refine KE ?_|refine X6 35 ?_ ?_<;>intro hB<;>(try exact Ar)<;>go_step|refine X3 ?_|refine OH ?_|refine Mv ?_|refine AG ?_;go_step|fail)
   all_goals
    refine Ae rfl (AE.tmp rfl) rfl ?_
    exact ⟨(by rw [hE4.out];first|done|rfl),hS.1⟩
  obtain rfl:k=n:=by omega
  have hall:Hn S=true:=by
   rw [Hn,List.all_eq_true]
   intro s hs
   obtain ⟨j,hj,rfl⟩:=List.getElem_of_mem hs
   have:=HR.out j (by rw [←HSl.out];exact hj)
   simp [AF,List.getD,hj] at this
   simpa using this
  have htk:S.take k=S:=by rw [←HSl.out];exact List.take_length
  have HB3:Hid (b=true↔¬S.Nodup):=AD (by have:=HB.out;rwa [htk] at this)
  have HE3:Hid (A7 C S=if S.Nodup∧Hf (cc C)=true then 0 else 4):=AD (by rw [HE.out,if_pos hall])
  have HCp:=AD ((Bs C).1 HT.out).1
  clear hall htk HB HE HR
  repeat' (first
   | refine X0 ?_|refine X3 ?_|refine NN ?_|refine Nx ?_|refine AG ?_;go_step|fail)
  go_loopg [9,51] 16 (fun gk nv kv w=>∃(i:Nat),gk+i=16∧kv= .int .i64 i∧nv= .int .i64 (nx (cc C) i:Nat)∧nx (cc C) i<2^i∧Hid (∀j,j<i→nx (cc C) (j+1)<2^(j+1))∧Hid (0<i→b=false)∧St w0 w [])
  case atStart=>exact ⟨0,rfl,rfl,rfl,by simp [nx],AD (fun j hj=>absurd hj (by omega)),AD (fun h=>absurd h (by omega)),hS.sub Ao⟩
  case round=>
   clear hS
   obtain ⟨i,hi,rfl,rfl,hlt2,HA,HZ,hS⟩:=hrel
   by_cases hlt:i<16
   ·have hx:=HCp.out i hlt
    have hci:=H7 C i hx.1
    have HNx:=AD (show nx (cc C) (i+1)=2*nx (cc C) i+cc C i from rfl)
    obtain ⟨y,hy⟩:∃y,cc C i=y:=⟨_,rfl⟩
    rw [hy] at hci HNx
    have HX:=AD hci
    have hy2:y≤256:=by omega
    obtain ⟨p,hp⟩:∃p,p=2^i:=⟨_,rfl⟩
    have hp2:p≤32768:=by rw [hp];exact Nat.pow_le_pow_right (n:=2) (j:=15) (by omega) (by omega)
    obtain ⟨z,hz⟩:∃z,nx (cc C) i=z:=⟨_,rfl⟩
    rw [←hp] at hlt2
    have HP:Hid ((2:Int)^(i+1)=((2*p:Nat):Int)):=AD (by rw [hp,Int.pow_succ];push_cast;omega)
    have HP2:Hid (2^(i+1)=2*p):=AD (by rw [hp,Nat.pow_succ];omega)
    rw [hz] at hlt2 HNx⊢
    clear hci hy hp hz hx
    by_cases hbad:b=true∨2*p≤2*z+y
    ·have hE4:Hid (A7 C S=4):=AD (by
      rw [HE3.out,if_neg]
      rintro ⟨h1,h2⟩
      rcases hbad with h|h
      ·exact (HB3.out.1 h) h1
      have:=(Cz _).1 h2 i hlt
      rw [HNx.out,HP2.out] at this;omega)
     have hbad2:b=false→2*p≤2*z+y:=fun h=>by
      rcases hbad with h'|h'
      ·rw [h] at h';cases h'
      exact h'
     clear hbad
     cases b
     ·replace hbad2:=hbad2 rfl
      repeat' (first
       | refine NR 54 ?_|refine OT 56 ?_|refine OS 58 ?_|(refine AU 64 ?_);(refine AP (.int _ (((2*p:Nat):Int))) (V.as (V.shl1 rfl rfl BL (by omega)) (by exact HP.out)) (by kernel_rfl) ?_;go_step)|refine X0 ?_|refine H0 ?_|refine X3 ?_|refine Ge ?_|refine OI ?_|refine K8 ?_|refine AG ?_;go_step|fail)
      refine Ae rfl (AE.tmp rfl) rfl ?_
      exact ⟨(by rw [hE4.out];first|done|rfl),hS.1⟩
     clear hbad2
     repeat' (first
      | refine NR 54 ?_|refine OT 56 ?_|refine OS 58 ?_|go_big_skip|refine X0 ?_|refine X5 ?_|refine X3 ?_|refine AG ?_;go_step|fail)
     refine Ae rfl (AE.tmp rfl) rfl ?_
     exact ⟨(by rw [hE4.out];first|done|rfl),hS.1⟩
    obtain rfl:b=false:=by cases b<;>simp_all
    have hgood:2*z+y<2*p:=by
     by_cases h:2*p≤2*z+y
     ·exact absurd (.inr h) hbad
     omega
    have HA2:Hid (∀j,j<i+1→nx (cc C) (j+1)<2^(j+1)):=AD fun j hj=>by
     by_cases hji:j<i
     ·exact HA.out j hji
     obtain rfl:j=i:=by omega
     rw [HNx.out,HP2.out];exact hgood
    clear hbad
    repeat' (first
     | refine NR 54 ?_|refine OT 56 ?_|refine OS 58 ?_|(refine AU 64 ?_);(refine AP (.int _ (((2*p:Nat):Int))) (V.as (V.shl1 rfl rfl BL (by omega)) (by exact HP.out)) (by kernel_rfl) ?_;go_step)|refine X0 ?_|refine H0 ?_|refine X3 ?_|refine Ge ?_|refine OI ?_|refine K8 ?_|refine AG ?_;go_step|fail)
    go_roundg (gk-1)
    case measure=>omega
    case rel=>exact ⟨i+1,by omega,by go_num,by rw [HNx.out],by rw [HNx.out,HP2.out];exact hgood,HA2,AD (fun _=>rfl),hS⟩
   obtain rfl:i=16:=by omega
   have hE0:Hid (A7 C S=0):=AD (by
    rw [HE3.out,if_pos]
    refine ⟨?_,(Cz _).2 HA.out⟩
    have h1:=HZ.out (by omega)
    have h2:=HB3.out
    rw [h1] at h2
    simpa using h2)
   repeat' (first
    | refine X8 ?_|refine X3 ?_|refine AG ?_;go_step|fail)
   refine Ae rfl (AE.tmp rfl) rfl ?_
   exact ⟨(by rw [hE0.out];first|done|rfl),hS.1⟩
end Go.Proofs.YtkcbhcajfcfmmaaDoor
namespace Go.Proofs.YtkcbhcajfcfmmaaDoor
attribute [local irreducible] Region.wanted
open Go.ChangeShapes Go.WideShapes Go.ChangeAt Go.RowKit Go.Deep
set_option linter.unusedVariables false
set_option maxRecDepth 100000
set_option maxHeartbeats 8000000
theorem Ir{H:Type}{enc:TypeId×Value→H}{P:Program}{W:World}{base:Nat}{sp:Nat→Bool}{held:Bool}{dp:Nat}{t:TypeId}(ht:CH P .i64 dp t=true){fuel:Nat}{cs:List Value}{x:DataW H×List MemPlace}(h:DataW.trod enc P W base sp held fuel t cs=some x):
 ∃l:List Int,l.length=P.cellsOf t∧cs=l.map (Value.int .i64)∧∀i,i<l.length→ -9223372036854775808≤AF l i∧AF l i≤9223372036854775807:=by
 obtain ⟨hl,hv⟩:=Fx .i64 dp t ht fuel cs x h
 have key:∀i,i<cs.length→∃n:Int,cs[i]? =some (.int .i64 n)∧ -9223372036854775808≤n∧n≤9223372036854775807:=fun i hi=>by
  obtain ⟨n,h1,h2⟩:=hv i hi
  exact ⟨n,h1,(CX n).1 h2⟩
 obtain ⟨f,hf⟩:=choose_lt key
 refine ⟨Ni cs.length f,by rw [EU];exact hl,?_,fun i hi=>?_⟩
 ·apply List.ext_getElem?
  intro i
  by_cases hi:i<cs.length
  ·rw [List.getElem?_map,Be _ i (by rw [EU];exact hi),Iu _ _ _ hi,(hf i hi).1];rfl
  rw [List.getElem?_eq_none (by omega),List.getElem?_eq_none (by rw [List.length_map,EU];omega)]
 rw [EU] at hi
 rw [Iu _ _ _ hi];exact (hf i hi).2
structure J9(W:World)(C S:List Int)(ad:Option Addr)(n c:Nat):Prop where
 len:Ag C 16
 nc:n≤c
 cm:c≤9223372036854775807
 rangeC:∀i,i<16→ -9223372036854775808≤AF C i∧AF C i≤9223372036854775807
 sl:Sl W 1 (.slice ad n c) n (S.map (Value.int .i64))
 rangeS:∀i,i<n→ -9223372036854775808≤AF S i∧AF S i≤9223372036854775807
theorem Fs{H:Type}{enc:TypeId×Value→H}{W:World}{fuel:Nat}{cs:List Value}{x:DataW H×List MemPlace}(h:DataW.trod enc Tryd.prog W 0 (fun _=>true) true fuel 28 cs=some x):
 ∃(C S:List Int) (ad:Option Addr) (n c:Nat),cs=AA [.ints C, .val (.slice ad n c)]∧J9 W C S ad n c:=by
 obtain ⟨xs,m,_,_,hl,hxl,hf⟩:=DataW.trod_struct Tryd.underlying28 h
 have hl17:cs.length=17:=by rw [hl];kernel_rfl
 have hx2:xs.length=2:=hxl
 have f0:=hf 0 {name:= "Counts",type:=26,offset:=0,embedded:=false,tag:= "",pkgPath:= "",byteOffset:=0} rfl
 have f1:=hf 1 {name:= "Syms",type:=23,offset:=16,embedded:=false,tag:= "",pkgPath:= "",byteOffset:=128} rfl
 dsimp only at f0 f1
 rw [List.getElem?_eq_getElem (by omega)] at f0 f1
 obtain ⟨C,hC,hcs,hr⟩:=Ir (dp:=3) AB f0
 have hc16:Tryd.prog.cellsOf 26=16:=by kernel_rfl
 have hc1:Tryd.prog.cellsOf 23=1:=by kernel_rfl
 rw [hc16] at hC hcs
 rw [hc1] at f1
 obtain ⟨v,hv⟩:∃v,cs.drop 16=[v]:=by
  match hd:cs.drop 16,(show (cs.drop 16).length=1 by simp [hl17]) with
  | [v],_=>exact ⟨v,rfl⟩
 rw [hv] at f1
 obtain ⟨n,S,hS,hsl,hsr⟩:=DR .i64 Tryd.underlying23 1 AB 1 AB (by omega) f1
 obtain ⟨ad,c,rfl,hnc,hcm⟩:∃ad c,v= .slice ad n c∧n≤c∧c≤9223372036854775807:=by
  obtain ⟨_,ad,c,h1,h2,h3,_⟩:=hsl
  exact ⟨ad,c,h1,h2,by unfold maxLen at h3;exact h3⟩
 refine ⟨C,S,ad,n,c,?_,⟨hC,hnc,hcm,fun i hi=>hr i (by omega),hsl,fun i hi=>(CX _).1 (hsr i (by omega))⟩⟩
 rw [←List.take_append_drop 16 cs,hv]
 rw [List.drop_zero] at hcs
 rw [hcs];rfl
structure Aj where
 wide:Int
 high:Int
 parts:Int
 quant:List Int
 c1:List Int
 s1:List Int
 c2:List Int
 s2:List Int
 every:Int
 data:List Nat
def CV(f:Aj)(v1 v2 vd:Value):List AJ:=[.val (.int .i64 f.wide), .val (.int .i64 f.high), .val (.int .i64 f.parts), .ints f.quant, .ints f.c1, .val v1, .ints f.c2, .val v2, .val (.int .i64 f.every), .val vd]
structure ME(W:World)(f:Aj)(a1 a2 ad:Option Addr)(n1 k1 n2 k2 nd kd:Nat):Prop where
 wide: -9223372036854775808≤f.wide∧f.wide≤9223372036854775807
 high: -9223372036854775808≤f.high∧f.high≤9223372036854775807
 parts: -9223372036854775808≤f.parts∧f.parts≤9223372036854775807
 every: -9223372036854775808≤f.every∧f.every≤9223372036854775807
 quant:Ag f.quant 64
 t1:J9 W f.c1 f.s1 a1 n1 k1
 t2:J9 W f.c2 f.s2 a2 n2 k2
 dlt:∀x∈f.data,x<256
 dsl:Sl W 1 (.slice ad nd kd) nd (f.data.map fun (x:Nat)=>Value.int .u8 (x:Int))
 dcap:nd≤kd∧kd≤9223372036854775807
theorem ER{H:Type}{enc:TypeId×Value→H}{W:World}{fuel:Nat}{cs:List Value}{x:DataW H×List MemPlace}(h:DataW.trod enc Tryd.prog W 0 (fun _=>true) true fuel 3 cs=some x):∃n:Int,cs=[.int .i64 n]∧ -9223372036854775808≤n∧n≤9223372036854775807:=by
 obtain ⟨n,rfl,_,hw⟩:=DataW.trod_int Tryd.underlying3 h
 exact ⟨n,rfl,(CX n).1 hw⟩
theorem DY(l:List Value)(i n k:Nat)(h:i+n=k):l.drop i=(l.drop i).take n++l.drop k:=by
 subst h
 rw [←List.drop_drop,List.take_append_drop]
theorem IG{H:Type}{enc:TypeId×Value→H}{W:World}{fuel:Nat}{cs:List Value}{x:DataW H×List MemPlace}(h:DataW.trod enc Tryd.prog W 0 (fun _=>true) true fuel 32 cs=some x):
 ∃(f:Aj) (a1 a2 ad:Option Addr) (n1 k1 n2 k2 nd kd:Nat),cs=AA (CV f (.slice a1 n1 k1) (.slice a2 n2 k2) (.slice ad nd kd))∧ME W f a1 a2 ad n1 k1 n2 k2 nd kd:=by
 obtain ⟨xs,m,_,_,hl,hxl,hf⟩:=DataW.trod_struct Tryd.underlying32 h
 have hl103:cs.length=103:=by rw [hl];kernel_rfl
 have hx7:xs.length=7:=hxl
 have f0:=hf 0 {name:= "Wide",type:=3,offset:=0,embedded:=false,tag:= "",pkgPath:= "",byteOffset:=0} rfl
 have f1:=hf 1 {name:= "High",type:=3,offset:=1,embedded:=false,tag:= "",pkgPath:= "",byteOffset:=8} rfl
 have f2:=hf 2 {name:= "Parts",type:=3,offset:=2,embedded:=false,tag:= "",pkgPath:= "",byteOffset:=16} rfl
 have f3:=hf 3 {name:= "Quant",type:=25,offset:=3,embedded:=false,tag:= "",pkgPath:= "",byteOffset:=24} rfl
 have f4:=hf 4 {name:= "Tables",type:=30,offset:=67,embedded:=false,tag:= "",pkgPath:= "",byteOffset:=536} rfl
 have f5:=hf 5 {name:= "Every",type:=3,offset:=101,embedded:=false,tag:= "",pkgPath:= "",byteOffset:=840} rfl
 have f6:=hf 6 {name:= "Data",type:=22,offset:=102,embedded:=false,tag:= "",pkgPath:= "",byteOffset:=848} rfl
 dsimp only at f0 f1 f2 f3 f4 f5 f6
 rw [List.getElem?_eq_getElem (by omega)] at f0 f1 f2 f3 f4 f5 f6
 have c1:Tryd.prog.cellsOf 3=1:=by kernel_rfl
 have c64:Tryd.prog.cellsOf 25=64:=by kernel_rfl
 have c34:Tryd.prog.cellsOf 30=34:=by kernel_rfl
 have cb:Tryd.prog.cellsOf 22=1:=by kernel_rfl
 have c17:Tryd.prog.cellsOf 28=17:=by kernel_rfl
 rw [c1] at f0 f1 f2 f5
 rw [c64] at f3
 rw [c34] at f4
 rw [cb] at f6
 obtain ⟨w,e0,r0⟩:=ER f0
 obtain ⟨hh,e1,r1⟩:=ER f1
 obtain ⟨p,e2,r2⟩:=ER f2
 obtain ⟨q,hq,e3,_⟩:=Ir (dp:=3) AB f3
 rw [c64] at hq
 obtain ⟨ev,e5,r5⟩:=ER f5
 obtain ⟨ys,m2,_,_,hl2,hy2,hg⟩:=DataW.trod_struct Tryd.underlying30 f4
 have hy2':ys.length=2:=hy2
 have g0:=hg 0 {name:= "First",type:=28,offset:=0,embedded:=false,tag:= "",pkgPath:= "",byteOffset:=0} rfl
 have g1:=hg 1 {name:= "Rest",type:=28,offset:=17,embedded:=false,tag:= "",pkgPath:= "",byteOffset:=152} rfl
 dsimp only at g0 g1
 rw [List.getElem?_eq_getElem (by omega),c17] at g0 g1
 obtain ⟨C1,S1,a1,n1,k1,t1,T1⟩:=Fs g0
 obtain ⟨C2,S2,a2,n2,k2,t2,T2⟩:=Fs g1
 obtain ⟨vd,hvd⟩:∃v,(cs.drop 102).take 1=[v]:=by
  match hd:(cs.drop 102).take 1,(show ((cs.drop 102).take 1).length=1 by simp [hl103]) with
  | [v],_=>exact ⟨v,rfl⟩
 rw [hvd] at f6
 obtain ⟨nd,ns,hns,hsl,hsr⟩:=DR .u8 Tryd.underlying22 1 AB 1 AB (by omega) f6
 obtain ⟨ad,kd,rfl,hnc,hcm⟩:∃ad c,vd= .slice ad nd c∧nd≤c∧c≤9223372036854775807:=by
  obtain ⟨_,ad,c,h1,h2,h3,_⟩:=hsl
  exact ⟨ad,c,h1,h2,by unfold maxLen at h3;exact h3⟩
 have hb:∀x∈ns,0≤x∧x≤255:=fun x hx=>by
  obtain ⟨i,hi,rfl⟩:=List.getElem_of_mem hx
  have:=(Fy _).1 (hsr i hi)
  simpa [AF,List.getD,hi] using this
 have e:ns.map (Value.int .u8)=(ns.map Int.toNat).map fun (x:Nat)=>Value.int .u8 (x:Int):=by
  rw [List.map_map]
  refine List.map_congr_left fun x hx=>?_
  have:=hb x hx
  simp only [Function.comp]
  rw [Int.toNat_of_nonneg (by omega)]
 refine ⟨⟨w,hh,p,q,C1,S1,C2,S2,ev,ns.map Int.toNat⟩,a1,a2,ad,n1,k1,n2,k2,nd,kd,?_,⟨r0,r1,r2,r5,hq,T1,T2,fun x hx=>?_,e▸ hsl,hnc,hcm⟩⟩
 ·have q0:cs=cs.drop 0:=rfl
  have d103:cs.drop 103=[]:=by rw [List.drop_eq_nil_iff];omega
  have tl:((cs.drop 67).take 34).length=34:=by simp [hl103]
  have u0:(cs.drop 67).take 34=((cs.drop 67).take 34).drop 0:=rfl
  have d34:((cs.drop 67).take 34).drop 34=[]:=by rw [List.drop_eq_nil_iff];omega
  rw [q0,DY cs 0 1 1 rfl,e0,DY cs 1 1 2 rfl,e1,DY cs 2 1 3 rfl,e2,DY cs 3 64 67 rfl,e3,DY cs 67 34 101 rfl,DY cs 101 1 102 rfl,e5,DY cs 102 1 103 rfl,hvd,d103]
  rw [u0,DY _ 0 17 17 rfl,t1,DY _ 17 17 34 rfl,t2,d34]
  simp [AA,CV,AJ.cells]
 obtain ⟨y,hy,rfl⟩:=List.mem_map.1 hx
 have:=hb y hy
 omega
end Go.Proofs.YtkcbhcajfcfmmaaDoor
namespace Go.Proofs.YtkcbhcajfcfmmaaDoor
attribute [local irreducible] Region.wanted
open Go.RowKit
set_option linter.unusedVariables false
set_option maxRecDepth 100000
set_option maxHeartbeats 8000000
def Bd(p:Int→Bool)(xs:List Int):Int:=match xs.findIdx? p with|some i=>(i:Int)|none=> -1
theorem FV(p:Int→Bool)(xs:List Int)(i:Nat)(h:i<xs.length)(hp:p (AF xs i)=true)(hpre:∀j,j<i→p (AF xs j)=false):Bd p xs=i:=by
 have:xs.findIdx? p=some i:=by
  rw [List.findIdx?_eq_some_iff_getElem]
  refine ⟨h,by simpa [AF,List.getD,List.getElem?_eq_getElem h] using hp,fun j hj=>?_⟩
  have:=hpre j hj
  simpa [AF,List.getD,List.getElem?_eq_getElem (show j<xs.length by omega)] using this
 simp [Bd,this]
theorem FU(p:Int→Bool)(xs:List Int)(hpre:∀j,j<xs.length→p (AF xs j)=false):Bd p xs= -1:=by
 have:xs.findIdx? p=none:=by
  rw [List.findIdx?_eq_none_iff]
  intro x hx
  obtain ⟨j,hj,rfl⟩:=List.getElem_of_mem hx
  have:=hpre j hj
  simpa [AF,List.getD,List.getElem?_eq_getElem hj] using this
 simp [Bd,this]
theorem GE(p:Int→Bool)(xs:List Int):decide (0≤Bd p xs)=xs.any p:=by
 unfold Bd
 rw [Bool.eq_iff_iff,decide_eq_true_eq,List.any_eq_true]
 cases h:xs.findIdx? p with
 | none=>
   rw [List.findIdx?_eq_none_iff] at h
   simp only [Int.reduceNeg]
   constructor
   ·intro h';omega
   rintro ⟨x,hx,hp⟩;rw [h x hx] at hp;cases hp
 | some i=>
   rw [List.findIdx?_eq_some_iff_getElem] at h
   obtain ⟨hi,hp,_⟩:=h
   exact ⟨fun _=>⟨_,List.getElem_mem hi,hp⟩,fun _=>by dsimp only;omega⟩
theorem Gw(p:Int→Bool)(xs:List Int): -1≤Bd p xs:=by
 unfold Bd;split<;>omega
theorem FX(w:World)(v:Value)(xs:List Int)(hs:J1 w v xs)(K:Nat)(caps:Array Value)(p:Int→Bool)(hk:∀(args:Array Value)(w:World),(callFunc K args).run Tryd.prog w= .ok (.enter K args) w)
 (hf:∀n,Calls Tryd.prog K (#[.int .i64 n]++caps) w fun e w'=>e= .returned (.bool (p n))∧w=w'):
 Calls Tryd.prog 46 #[v, .func (.func K) #[] caps] w fun e w'=>e= .returned (.int .i64 (Bd p xs))∧w=w':=by
 obtain ⟨a,c,rfl,hc1,hc2,ha⟩:=hs.open
 have HF:=AD hf
 clear hf
 go_enter Tryd.func46,Tryd.ntmps46
 go_wp2_with fail
 go_loopg [8] xs.length (fun gk xv wr=>∃(i:Nat),gk+i=xs.length∧xv= .int .i64 i∧(∀j,j<i→p (AF xs j)=false)∧wr=w)
 case atStart=>exact ⟨0,rfl,rfl,fun j hj=>by omega,rfl⟩
 case round=>
  obtain ⟨i,hi,rfl,hpre,rfl⟩:=hrel
  have hi':i≤xs.length:=by omega
  have HP:=AD hpre
  clear hpre
  by_cases hlt:i<xs.length
  ·obtain ⟨ba,oa,rfl,hca⟩:=ha i hlt
   have h1:=hca i hlt
   clear ha hca
   have HM:Hid (gk-1+(i+1)=xs.length):=by unfold Hid;omega
   have HG:Hid (gk-1<gk):=by unfold Hid;omega
   clear hi
   go_wp2_with fail
   refine (HF.out (AF xs i)).mono ?_
   rintro e w' ⟨rfl,rfl⟩
   by_cases hp:p (AF xs i)=true
   ·have HX:=AD (FV p xs i hlt hp HP.out)
    rw [hp]
    clear hp
    go_wp2_with fail
    go_ret
    exact ⟨I2 HX.out.symm,rfl⟩
   have hp':p (AF xs i)=false:=by simpa using hp
   have HX:Hid (∀j,j<i+1→p (AF xs j)=false):=fun j hj=>by
    by_cases hji:j=i
    ·subst hji;exact hp'
    exact HP.out j (by omega)
   rw [hp']
   clear hp hp'
   go_wp2_with fail
   go_roundg (gk-1)
   case measure=>exact HG.out
   case rel=>exact ⟨i+1,HM.out,by go_num,HX.out,rfl⟩
  have HX:=AD (FU p xs (fun j hj=>HP.out j (by omega)))
  clear ha
  go_wp2_with fail
  go_ret
  exact ⟨I2 HX.out.symm,rfl⟩
theorem CL(w:World)(v:Value)(xs:List Int)(hs:J1 w v xs)(K:Nat)(caps:Array Value)(p:Int→Bool)(hk:∀(args:Array Value)(w:World),(callFunc K args).run Tryd.prog w= .ok (.enter K args) w)
 (hf:∀n,Calls Tryd.prog K (#[.int .i64 n]++caps) w fun e w'=>e= .returned (.bool (p n))∧w=w'):
 Calls Tryd.prog 36 #[v, .func (.func K) #[] caps] w fun e w'=>e= .returned (.bool (xs.any p))∧w=w':=by
 have HA:=AD (GE p xs)
 have hb:=Gw p xs
 have HF:=AD (FX w v xs hs K caps p hk hf)
 clear hf hs
 go_enter Tryd.func36,Tryd.ntmps36
 go_wp2_with (go_at_call 46;refine HF.out.mono ?_;rintro e w' ⟨rfl,rfl⟩)
 go_ret
 exact ⟨B8 HA.out,rfl⟩
def DH(l:List Int)(lo hi:Int):Bool:= !l.any fun n=>decide (n<lo)||decide (hi<n)
theorem D1(l:List Int)(lo hi:Int):DH l lo hi=true↔∀i,i<l.length→lo≤AF l i∧AF l i≤hi:=by
 unfold DH
 rw [Bool.not_eq_true',List.any_eq_false]
 constructor
 ·intro h i hi
  have:=h l[i] (List.getElem_mem hi)
  simp only [Bool.or_eq_true,decide_eq_true_eq,not_or] at this
  simp only [AF,List.getD,List.getElem?_eq_getElem hi,Option.getD_some]
  omega
 intro h x hx
 obtain ⟨j,hj,rfl⟩:=List.getElem_of_mem hx
 have:=h j hj
 simp only [AF,List.getD,List.getElem?_eq_getElem hj,Option.getD_some] at this
 simp only [Bool.or_eq_true,decide_eq_true_eq,not_or]
 omega
end Go.Proofs.YtkcbhcajfcfmmaaDoor
namespace Go.Proofs.YtkcbhcajfcfmmaaDoor
open Go.RowKit
set_option linter.unusedVariables false
set_option maxRecDepth 100000
set_option maxHeartbeats 8000000
theorem Jt(n lo hi:Int)(p q:Addr)(w:World)(hp:w.cell? p=some (.int .i64 lo))(hq:w.cell? q=some (.int .i64 hi)):
 Calls Tryd.prog 57 #[.int .i64 n, .pointer (some p), .pointer (some q)] w fun e w'=>e= .returned (.bool (decide (n<lo)||decide (hi<n)))∧w=w':=by
 by_cases h:n<lo
 ·have h2:decide (n<lo)=true:=by simpa using h
  rw [h2]
  go_enter Tryd.func57,Tryd.ntmps57
  go_wp2_with fail
  go_ret
  exact ⟨rfl,rfl⟩
 have h2:decide (n<lo)=false:=by simpa using h
 rw [h2,Bool.false_or]
 have h3:lo≤n:=by omega
 clear h
 go_enter Tryd.func57,Tryd.ntmps57
 go_wp2_with fail
 go_ret
 exact ⟨rfl,rfl⟩
theorem FP(w:World)(l:List Int)(hl:l.length=64)(lo hi:Int):Calls Tryd.prog 44 #[.agg (iv l), .int .i64 lo, .int .i64 hi] w fun e w'=>e= .returned (.bool (DH l lo hi))∧AX w w':=by
 have hmf:∀(fn:Fn)(first cap:Array Value)(w:World),(Instr.makeFunc fn first cap).run Tryd.prog w= .ok (.func fn first cap) w:=fun _ _ _ _=>rfl
 have HL:=AD hl
 clear hl
 go_enter Tryd.func44,Tryd.ntmps44
 go_wp2_with (refine wpList_box_iv rfl 25 _ rfl l rfl ?_;intro w1 hR hE hz)
 have hR2:=(hR.alloc (.cells #[.int .i64 lo] 3)).alloc (.cells #[.int .i64 hi] 3)
 have hE2:=(hE.alloc (.cells #[.int .i64 lo] 3)).alloc (.cells #[.int .i64 hi] 3)
 have hp:((w1.alloc (.cells #[.int .i64 lo] 3)).alloc (.cells #[.int .i64 hi] 3)).cell? ⟨w.heap.size+1,0,none⟩=some (.int .i64 lo):=by rw [←hz];simp [go_sem]
 have hq:((w1.alloc (.cells #[.int .i64 lo] 3)).alloc (.cells #[.int .i64 hi] 3)).cell? ⟨w.heap.size+1+1,0,none⟩=some (.int .i64 hi):=by rw [←hz];simp [go_sem]
 refine (CL _ _ l (J1.of_row hR2 HL.out (by unfold maxLen;omega)) 57 #[.pointer (some ⟨w.heap.size+1,0,none⟩), .pointer (some ⟨w.heap.size+1+1,0,none⟩)] (fun n=>decide (n<lo)||decide (hi<n)) Tryd.call57 (fun n=>Jt n lo hi _ _ _ hp hq)).mono ?_
 rintro e w' ⟨rfl,rfl⟩
 clear hp hq hR2
 go_wp2_with fail
 go_ret
 exact ⟨rfl,hE2⟩
def L4(q:List Int):Bool:=DH q 1 255
theorem Ev(w:World)(q:List Int)(hq:q.length=64):Calls Tryd.prog 34 #[.agg (iv q)] w fun e w'=>e= .returned (.int .i64 (if L4 q then 0 else 1))∧AX w w':=by
 have HL:=AD hq
 have HI:=AD (show (Tryd.prog.info? 25).map (·.size)=some q.length by rw [hq];kernel_rfl)
 clear hq
 cases hk:L4 q
 all_goals
  have HK:=AD hk
  clear hk
  go_enter Tryd.func34,Tryd.ntmps34
  go_wp2_with (first
   | (refine wpList_box_iv rfl 25 _ rfl q rfl ?_;intro w1 hR hE hz)
   | (refine wpList_load_iv rfl 25 _ rfl w.heap.size rfl q _ hR Tryd.underlying25 rfl HI.out ?_)
   | (go_at_call 44;refine (FP _ q HL.out 1 255).mono ?_;rintro e w' ⟨rfl,hE2⟩;rw [show DH q 1 255=_ from HK.out];replace hE:=hE.trans hE2;clear hE2))
  go_ret
  exact ⟨rfl,hE⟩
end Go.Proofs.YtkcbhcajfcfmmaaDoor
namespace Go.Proofs.YtkcbhcajfcfmmaaDoor
attribute [local irreducible] Region.wanted
open Go.RowKit
set_option linter.unusedVariables false
set_option maxRecDepth 100000
set_option maxHeartbeats 8000000
def Dv(s:Int×Int×Bool):Int×Int×Bool:=
 if s.2.2=true∧s.2.1=7 then (s.1+1,s.2.1,false)
 else if s.2.2=true∧s.1=0 then (s.1,s.2.1+1,false)
 else if s.2.2=true then (s.1-1,s.2.1+1,true)
 else if s.1=7 then (s.1,s.2.1+1,true)
 else if s.2.1=0 then (s.1+1,s.2.1,true)
 else (s.1+1,s.2.1-1,false)
def J7:Nat→Int×Int×Bool
 | 0=>(0,0,true)
 | k+1=>Dv (J7 k)
def zn(k:Nat):Nat:=(8*(J7 k).1+(J7 k).2.1).toNat
def K5:List Nat:=(List.range 64).map zn
def zi:List Int:=K5.map fun (n:Nat)=>(n:Int)
theorem Mo:∀k,k<64→0≤(J7 k).1∧(J7 k).1≤7∧0≤(J7 k).2.1∧(J7 k).2.1≤7:=by decide+kernel
def zl(k:Nat):List Int:=zi.take k++List.replicate (64-k) 0
theorem Mm:∀k,k<65→(zl k).length=64:=by decide+kernel
theorem Mn:∀k,k<64→(zl k).set k (8*(J7 k).1+(J7 k).2.1)=zl (k+1):=by decide+kernel
theorem Ml:zl 64=zi:=by decide+kernel
theorem K3:zi.length=64:=by decide+kernel
theorem FH(w:World):Calls Tryd.prog 32 #[] w fun e w'=>e= .returned (.agg (iv zi))∧AX w w':=by
 go_enter Tryd.func32,Tryd.ntmps32
 go_wp2_with fail
 go_loopg [1,2,3,5] 64 (fun gk rv cv uv xv wr=>∃(i:Nat) (r c:Int) (u:Bool),gk+i=64∧xv= .int .i64 i∧rv= .int .i64 r∧cv= .int .i64 c∧uv= .bool u∧Hid (J7 i=(r,c,u))∧Bt wr w.heap.size (zl i)∧AX w wr)
 case atStart=>exact ⟨0,0,0,true,rfl,rfl,rfl,rfl,rfl,rfl,Bt.new w (List.replicate 64 0) 24,(AX.refl w).alloc _⟩
 case round=>
  obtain ⟨i,r,c,u,hi,rfl,rfl,rfl,rfl,hst,hrow,hE⟩:=hrel
  by_cases hlt:i<64
  ·have hb:=Mo i hlt
   rw [hst.out] at hb
   dsimp only at hb
   obtain ⟨hb1,hb2,hb3,hb4⟩:=hb
   have hcell:=hrow.cell i (by rw [Mm i (by omega)];exact hlt)
   have hfree:=hrow.free i
   have hset:=Mn i hlt
   rw [hst.out] at hset
   have hrow2:=hrow.set i (8*r+c)
   rw [hset] at hrow2
   have hE2:AX w (wr.setCell ⟨w.heap.size,i,none⟩ (.int .i64 (8*r+c))):=hE.setCell (Nat.le_refl _) _
   have hs:Hid (J7 (i+1)=Dv (r,c,u)):=by unfold Hid;rw [←hst.out];rfl
   clear hset hst
   have fin:∀(r' c':Int)(u':Bool),Dv (r,c,u)=(r',c',u')→Hid (J7 (i+1)=(r',c',u')):=fun r' c' u' h=>by rw [←h];exact hs
   clear hs
   have FIN:=AD fin
   clear fin
   have hi':gk-1+(i+1)=64:=by omega
   have HI:=AD hi'
   clear hi'
   have HR:=AD hrow2
   have HE:=AD hE2
   clear hrow2 hE2
   cases u
   ·by_cases h7:r=7
    ·subst h7
     go_wp2_with fail
     go_roundg (gk-1)
     case measure=>omega
     case rel=>exact ⟨i+1,_,_,_,HI.out,by go_num,rfl,rfl,rfl,FIN.out _ _ _ (by simp [Dv]),HR.out,HE.out⟩
    by_cases h0:c=0
    ·subst h0
     go_wp2_with fail
     go_roundg (gk-1)
     case measure=>omega
     case rel=>exact ⟨i+1,_,_,_,HI.out,by go_num,rfl,rfl,rfl,FIN.out _ _ _ (by simp [Dv];omega),by simpa using HR.out,by simpa using HE.out⟩
    go_wp2_with fail
    go_roundg (gk-1)
    case measure=>omega
    case rel=>exact ⟨i+1,_,_,_,HI.out,by go_num,rfl,rfl,rfl,FIN.out _ _ _ (by simp [Dv,h7,h0]),HR.out,HE.out⟩
   by_cases h7:c=7
   ·subst h7
    go_wp2_with fail
    go_roundg (gk-1)
    case measure=>omega
    case rel=>exact ⟨i+1,_,_,_,HI.out,by go_num,rfl,rfl,rfl,FIN.out _ _ _ (by simp [Dv]),HR.out,HE.out⟩
   by_cases h0:r=0
   ·subst h0
    go_wp2_with fail
    go_roundg (gk-1)
    case measure=>omega
    case rel=>exact ⟨i+1,_,_,_,HI.out,by go_num,rfl,rfl,rfl,FIN.out _ _ _ (by simp [Dv];omega),by simpa using HR.out,by simpa using HE.out⟩
   go_wp2_with fail
   go_roundg (gk-1)
   case measure=>omega
   case rel=>exact ⟨i+1,_,_,_,HI.out,by go_num,rfl,rfl,rfl,FIN.out _ _ _ (by simp [Dv,h7,h0]),HR.out,HE.out⟩
  obtain rfl:i=64:=by omega
  rw [Ml] at hrow
  obtain ⟨t,hrow⟩:=hrow
  have hself:=setRow_self wr w.heap.size _ t _ hrow
  have hsz:(Tryd.prog.info? 24).map (·.size)=some (iv zi).size:=by rw [Cw,K3];kernel_rfl
  have HS:=AD hsz
  have HSelf:=AD hself
  clear hsz hself
  have hh:=AD hrow
  clear hrow
  go_wp2_with (first
   | refine wpList_load_row rfl 24 _ rfl w.heap.size rfl t (iv zi) (0,0) _ hh.out Tryd.underlying24 rfl HS.out ?_|(refine wpList_store_row rfl 24 _ _ rfl w.heap.size (iv zi) rfl rfl t (iv zi) hh.out HS.out rfl (GI _) ?_;rw [HSelf.out]))
  refine bodyPost_ret (results_cell_row rfl _ wr w.heap.size t (iv zi) (0,0) _ rfl hh.out Tryd.underlying24 rfl HS.out) rfl ?_
  exact ⟨rfl,hE⟩
theorem K2(i:Nat)(h:i<64):(iv zi)[i]? =some (.int .i64 (zn i:Int)):=by
 rw [IM zi i (by rw [K3];exact h)]
 congr 2
 simp [AF,zi,K5,List.getD,List.getElem?_map,List.getElem?_range h]
theorem JA:∀i,i<64→zn i<64:=by decide+kernel
theorem K4(i:Nat)(h:i<64):(zn i:Int)<64:=by have:=JA i h;omega
def FJ(l:List Int):List Int:=K5.map fun n=>AF l n
theorem K6:K5.length=64:=by decide+kernel
theorem Bq(l:List Int):(FJ l).length=64:=by rw [FJ,List.length_map,K6]
theorem JB(l:List Int)(i:Nat)(h:i<64):AF (FJ l) i=AF l (zn i):=by
 simp [AF,FJ,K5,List.getD,List.getElem?_map,List.getElem?_range h]
theorem Lu(w:World)(l:List Int)(hl:l.length=64):Calls Tryd.prog 30 #[.agg (iv l)] w fun e w'=>e= .returned (.agg (iv (FJ l)))∧AX w w':=by
 go_enter Tryd.func30,Tryd.ntmps30
 go_wp2_with fail
 refine (FH _).mono ?_
 rintro e w1 ⟨rfl,hE1⟩
 have hb:Bt w1 w.heap.size l:=((Bt.new w l 25).alloc _).ext hE1
 have ho:Bt w1 (w.heap.size+1) (Bc (FJ l) 0):=by
  rw [GD,Bq]
  have h:=(Bt.new (w.alloc (.cells (iv l) 25)) (List.replicate 64 0) 25).ext hE1
  simpa using h
 have hE:AX w w1:=(((AX.refl w).alloc _).alloc _).trans hE1
 clear hE1
 go_wp2_with fail
 go_loopg [6] 64 (fun gk xv wr=>∃(i:Nat),gk+i=64∧xv= .int .i64 i∧Bt wr w.heap.size l∧Bt wr (w.heap.size+1) (Bc (FJ l) i)∧AX w wr)
 case atStart=>exact ⟨0,rfl,rfl,hb,ho,hE⟩
 case round=>
  clear hb ho hE
  obtain ⟨i,hi,rfl,hb,ho,hE⟩:=hrel
  by_cases hlt:i<64
  ·have hz:=K2 i hlt
   have hzl:=K4 i hlt
   have hzl':=JA i hlt
   have hcell:=hb.cell (zn i) (by omega)
   have hcell2:=ho.cell i (by rw [Gu _ _ (by rw [Bq];omega),Bq];exact hlt)
   have hfree:=ho.free i
   have ho2:=ho.set i (AF (FJ l) i)
   rw [Gv _ _ (by rw [Bq];exact hlt),JB _ _ hlt] at ho2
   have HB:=AD (hb.setOther ⟨w.heap.size+1,i,none⟩ (.int .i64 (AF l (zn i))) (by simp))
   have HO:=AD ho2
   have HE:=AD (hE.setCell (a:=⟨w.heap.size+1,i,none⟩) (by simp) (.int .i64 (AF l (zn i))))
   have hi':gk-1+(i+1)=64:=by omega
   have HI:=AD hi'
   clear hi' ho2
   go_wp2_with fail
   go_roundg (gk-1)
   case measure=>omega
   case rel=>exact ⟨i+1,HI.out,by go_num,HB.out,HO.out,HE.out⟩
  obtain rfl:i=64:=by omega
  have ho':Bt wr (w.heap.size+1) (FJ l):=by have h:=Gt (FJ l);rw [Bq] at h;rw [h] at ho;exact ho
  clear ho
  obtain ⟨t,ho⟩:=ho'
  have HSelf:=AD (setRow_self wr (w.heap.size+1) _ t _ ho)
  have HS:=AD (show (Tryd.prog.info? 25).map (·.size)=some (iv (FJ l)).size by rw [Cw,Bq];kernel_rfl)
  have hh:=AD ho
  clear ho
  go_wp2_with (first
   | refine wpList_load_row rfl 25 _ rfl (w.heap.size+1) rfl t (iv (FJ l)) (0,0) _ hh.out Tryd.underlying25 rfl HS.out ?_|(refine wpList_store_row rfl 25 _ _ rfl (w.heap.size+1) (iv (FJ l)) rfl rfl t (iv (FJ l)) hh.out HS.out rfl (GI _) ?_;rw [HSelf.out]))
  refine bodyPost_ret (results_cell_row rfl _ wr (w.heap.size+1) t (iv (FJ l)) (0,0) _ rfl hh.out Tryd.underlying25 rfl HS.out) rfl ?_
  exact ⟨rfl,hE⟩
def Mj(l:List Int)(k:Nat):List Int:=(List.range k).foldl (fun acc i=>acc.set (zn i) (AF l i)) (List.replicate 64 0)
def Cc(l:List Int):List Int:=Mj l 64
theorem Hz(l:List Int)(k:Nat):Mj l (k+1)=(Mj l k).set (zn k) (AF l k):=by
 simp [Mj,List.range_succ,List.foldl_append]
theorem I9(l:List Int)(k:Nat):(Mj l k).length=64:=by
 induction k with
 | zero=>rfl
 | succ k ih=>rw [Hz,List.length_set,ih]
theorem EB(l:List Int):(Cc l).length=64:=I9 l 64
theorem J0(w:World)(l:List Int)(hl:l.length=64):Calls Tryd.prog 19 #[.agg (iv l)] w fun e w'=>e= .returned (.agg (iv (Cc l)))∧AX w w':=by
 go_enter Tryd.func19,Tryd.ntmps19
 go_wp2_with fail
 refine (FH _).mono ?_
 rintro e w1 ⟨rfl,hE1⟩
 have hb:Bt w1 w.heap.size l:=((Bt.new w l 25).alloc _).ext hE1
 have ho:Bt w1 (w.heap.size+1) (Mj l 0):=by
  have h:=(Bt.new (w.alloc (.cells (iv l) 25)) (List.replicate 64 0) 25).ext hE1
  have e:(w.alloc (.cells (iv l) 25)).heap.size=w.heap.size+1:=by simp
  rw [e] at h
  exact h
 have hE:AX w w1:=(((AX.refl w).alloc _).alloc _).trans hE1
 clear hE1
 go_wp2_with fail
 go_loopg [6] 64 (fun gk xv wr=>∃(i:Nat),gk+i=64∧xv= .int .i64 i∧Bt wr w.heap.size l∧Bt wr (w.heap.size+1) (Mj l i)∧AX w wr)
 case atStart=>exact ⟨0,rfl,rfl,hb,ho,hE⟩
 case round=>
  clear hb ho hE
  obtain ⟨i,hi,rfl,hb,ho,hE⟩:=hrel
  by_cases hlt:i<64
  ·have hz:=K2 i hlt
   have hzl:=K4 i hlt
   have hzl':=JA i hlt
   have hcell:=hb.cell i (by omega)
   have hcell2:=ho.cell (zn i) (by rw [I9];exact hzl')
   have hfree:=ho.free (zn i)
   have ho2:=ho.set (zn i) (AF l i)
   rw [←Hz] at ho2
   have HB:=AD (hb.setOther ⟨w.heap.size+1,zn i,none⟩ (.int .i64 (AF l i)) (by simp))
   have HO:=AD ho2
   have HE:=AD (hE.setCell (a:=⟨w.heap.size+1,zn i,none⟩) (by simp) (.int .i64 (AF l i)))
   have hi':gk-1+(i+1)=64:=by omega
   have HI:=AD hi'
   clear hi' ho2
   go_wp2_with fail
   go_roundg (gk-1)
   case measure=>omega
   case rel=>exact ⟨i+1,HI.out,by go_num,HB.out,HO.out,HE.out⟩
  obtain rfl:i=64:=by omega
  obtain ⟨t,ho⟩:=ho
  have ho':wr.heap[w.heap.size+1]? =some (.cells (iv (Cc l)) t (0,0)):=ho
  have HSelf:=AD (setRow_self wr (w.heap.size+1) _ t _ ho')
  have HS:=AD (show (Tryd.prog.info? 25).map (·.size)=some (iv (Cc l)).size by rw [Cw,EB];kernel_rfl)
  have hh:=AD ho'
  clear ho ho'
  go_wp2_with (first
   | refine wpList_load_row rfl 25 _ rfl (w.heap.size+1) rfl t (iv (Cc l)) (0,0) _ hh.out Tryd.underlying25 rfl HS.out ?_|(refine wpList_store_row rfl 25 _ _ rfl (w.heap.size+1) (iv (Cc l)) rfl rfl t (iv (Cc l)) hh.out HS.out rfl (GI _) ?_;rw [HSelf.out]))
  refine bodyPost_ret (results_cell_row rfl _ wr (w.heap.size+1) t (iv (Cc l)) (0,0) _ rfl hh.out Tryd.underlying25 rfl HS.out) rfl ?_
  exact ⟨rfl,hE⟩
end Go.Proofs.YtkcbhcajfcfmmaaDoor
namespace Go.Proofs.YtkcbhcajfcfmmaaDoor
attribute [local irreducible] Region.wanted
open Go.ChangeShapes Go.WideShapes Go.ChangeAt Go.RowKit Go.Deep
set_option linter.unusedVariables false
set_option maxRecDepth 100000
set_option maxHeartbeats 8000000
theorem AS(w0:World)(n lo hi:Int):
 Calls Tryd.prog 33 #[.int .i64 n, .int .i64 lo, .int .i64 hi] w0 fun e w=>e= .returned (.bool (decide (lo≤n∧n≤hi)))∧AX w0 w:=by
 have hS:=St.start w0
 by_cases h1:lo≤n
 ·by_cases h2:n≤hi
  ·have hD:=AD (show decide (lo≤n∧n≤hi)=true from decide_eq_true ⟨h1,h2⟩)
   go_enter Tryd.func33,Tryd.ntmps33
   repeat' (first
    | refine X0 ?_|refine X5 ?_|(refine AU 9 ?_);(refine Cq _ (V.geq rfl rfl) AB (fun hB=>?_) (fun hB=>?_)<;>(try exact Ar)<;>go_step)|refine Nt ?_|refine AG ?_;go_step|fail)
   refine Ae rfl (AE.tmp rfl) rfl ?_
   exact ⟨(by rw [hD.out];first|done|rfl|exact congrArg Ending.returned (congrArg Value.bool (decide_eq_true h2))|exact congrArg Ending.returned (congrArg Value.bool (decide_eq_false h2))),hS.1⟩
  have hD:=AD (show decide (lo≤n∧n≤hi)=false from decide_eq_false fun h=>h2 h.2)
  go_enter Tryd.func33,Tryd.ntmps33
  repeat' (first
   | refine X0 ?_|refine X5 ?_|(refine AU 9 ?_);(refine Cq _ (V.geq rfl rfl) AB (fun hB=>?_) (fun hB=>?_)<;>(try exact Ar)<;>go_step)|refine Nt ?_|refine AG ?_;go_step|fail)
  refine Ae rfl (AE.tmp rfl) rfl ?_
  exact ⟨(by rw [hD.out];first|done|rfl|exact congrArg Ending.returned (congrArg Value.bool (decide_eq_true h2))|exact congrArg Ending.returned (congrArg Value.bool (decide_eq_false h2))),hS.1⟩
 have hD:=AD (show decide (lo≤n∧n≤hi)=false from decide_eq_false fun h=>h1 h.1)
 go_enter Tryd.func33,Tryd.ntmps33
 repeat' (first
  | go_skip|((first|(with_reducible refine It ?_)|(with_reducible refine OD ?_));(first|go_big_want|go_step);go_step)|((with_reducible refine Az _ (.pick _ _ _) ?_);(refine A9 rfl AB ?_;go_step))|((refine AU 9 ?_);(refine Cq _ (V.geq rfl rfl) AB (fun hB=>?_) (fun hB=>?_)<;>(try exact Ar)<;>go_step))|(refine AG ?_;go_step)|fail)
 refine Ae rfl (AE.tmp rfl) rfl ?_
 exact ⟨(by rw [hD.out];first|done|rfl|exact congrArg Ending.returned (congrArg Value.bool (decide_eq_true h2))|exact congrArg Ending.returned (congrArg Value.bool (decide_eq_false h2))),hS.1⟩
def Eh(f:Aj):Prop:=(1≤f.wide∧f.wide≤64)∧(1≤f.high∧f.high≤64)∧(f.parts=1∨f.parts=3)∧(0≤f.every∧f.every≤100)
instance(f:Aj):Decidable (Eh f):=by unfold Eh;infer_instance
def BB(f:Aj):Int:=if Eh f then if L4 f.quant then if A7 f.c1 f.s1=0 then if A7 f.c2 f.s2=0 then if f.data.length≤90000 then 0 else 2 else A7 f.c2 f.s2 else A7 f.c1 f.s1 else 1 else 1
def fv(f:Aj)(v1 v2 vd:Value):Value:= .agg (AA (CV f v1 v2 vd)).toArray
theorem Gq(w0:World)(W H p ev:Int)(Q C1 C2:List Int)(v1 v2 vd:Value)(hQ:Ag Q 64)(hC1:Ag C1 16)(hC2:Ag C2 16)(h:¬((1≤W∧W≤64)∧(1≤H∧H≤64)∧(p=1∨p=3)∧(0≤ev∧ev≤100))):
 Calls Tryd.prog 23 #[.agg (AA [.val (.int .i64 W), .val (.int .i64 H), .val (.int .i64 p), .ints Q, .ints C1, .val v1, .ints C2, .val v2, .val (.int .i64 ev), .val vd]).toArray] w0 fun e w=>e= .returned (.int .i64 1)∧AX w0 w:=by
 have hS:=St.start w0
 by_cases hw:1≤W∧W≤64
 case neg=>
  have hD:=AD (decide_eq_false hw)
  clear h hw
  go_enter Tryd.func23,Tryd.ntmps23
  repeat' (first
   | (refine Am 33 ?_);refine An AB Tryd.call33 (AS _ _ _ _) ?_;rintro e w ⟨rfl,hE2⟩;rw [hD.out];replace hS:=hS.ext hE2;clear hE2;refine As ?_;go_step|go_skip|refine X0 ?_|refine X5 ?_|refine X9 10 ?_ ?_<;>intro hB<;>(try exact Hb hB)<;>go_step|refine Lx ?_|refine Ik 1 ?_;clear hS;intro g1 w hS|refine Ly ?_|refine AG ?_;go_step|fail)
  refine Ae rfl (AE.tmp rfl) rfl ?_
  exact ⟨rfl,hS.1⟩
 have hD:=AD (decide_eq_true hw)
 by_cases hh:1≤H∧H≤64
 case neg=>
  have hD2:=AD (decide_eq_false hh)
  clear h hw hh
  go_enter Tryd.func23,Tryd.ntmps23
  repeat' (first
   | (refine Am 33 ?_);refine An AB Tryd.call33 (AS _ _ _ _) ?_;rintro e w ⟨rfl,hE2⟩;rw [hD.out];replace hS:=hS.ext hE2;clear hE2;refine As ?_;go_step|(refine Am 33 ?_);refine An AB Tryd.call33 (AS _ _ _ _) ?_;rintro e w ⟨rfl,hE2⟩;rw [hD2.out];replace hS:=hS.ext hE2;clear hE2;refine As ?_;go_step|go_skip|refine X0 ?_|refine KE ?_|refine X9 10 ?_ ?_<;>intro hB<;>(try exact Hb hB)<;>go_step|refine X9 15 ?_ ?_<;>intro hB<;>(try exact Hb hB)<;>go_step|refine Lx ?_|refine MH ?_|refine Ik 1 ?_;clear hS;intro g1 w hS|refine Ly ?_|refine AG ?_;go_step|fail)
  refine Ae rfl (AE.tmp rfl) rfl ?_
  exact ⟨rfl,hS.1⟩
 have hD2:=AD (decide_eq_true hh)
 by_cases h1:p=1
 ·subst h1
  have hD3:=AD (decide_eq_false (show ¬(0≤ev∧ev≤100) from fun e=>h ⟨hw,hh, .inl rfl,e⟩))
  clear h hw hh
  go_enter Tryd.func23,Tryd.ntmps23
  repeat' (first
   | (refine Am 33 ?_);refine An AB Tryd.call33 (AS _ _ _ _) ?_;rintro e w ⟨rfl,hE2⟩;rw [hD.out];replace hS:=hS.ext hE2;clear hE2;refine As ?_;go_step|(refine Am 33 ?_);refine An AB Tryd.call33 (AS _ _ _ _) ?_;rintro e w ⟨rfl,hE2⟩;rw [hD2.out];replace hS:=hS.ext hE2;clear hE2;refine As ?_;go_step|(refine Am 33 ?_);refine An AB Tryd.call33 (AS _ _ _ _) ?_;rintro e w ⟨rfl,hE2⟩;rw [hD3.out];replace hS:=hS.ext hE2;clear hE2;refine As ?_;go_step|go_skip|refine X0 ?_|refine H0 ?_|refine X9 10 ?_ ?_<;>intro hB<;>(try exact Hb hB)<;>go_step|refine X9 15 ?_ ?_<;>intro hB<;>(try exact Hb hB)<;>go_step|refine J3 20 ?_ ?_<;>intro hB<;>(try exact Ar)<;>go_step|refine Lx ?_|refine MH ?_|refine Mu ?_|refine NP ?_|refine Mx ?_|refine Ik 1 ?_;clear hS;intro g1 w hS|refine Ly ?_|refine AG ?_;go_step|fail)
  refine Ae rfl (AE.tmp rfl) rfl ?_
  exact ⟨rfl,hS.1⟩
 by_cases h3:p=3
 ·subst h3
  have hD3:=AD (decide_eq_false (show ¬(0≤ev∧ev≤100) from fun e=>h ⟨hw,hh, .inr rfl,e⟩))
  clear h hw hh h1
  go_enter Tryd.func23,Tryd.ntmps23
  repeat' (first
   | (refine Am 33 ?_);refine An AB Tryd.call33 (AS _ _ _ _) ?_;rintro e w ⟨rfl,hE2⟩;rw [hD.out];replace hS:=hS.ext hE2;clear hE2;refine As ?_;go_step|(refine Am 33 ?_);refine An AB Tryd.call33 (AS _ _ _ _) ?_;rintro e w ⟨rfl,hE2⟩;rw [hD2.out];replace hS:=hS.ext hE2;clear hE2;refine As ?_;go_step|(refine Am 33 ?_);refine An AB Tryd.call33 (AS _ _ _ _) ?_;rintro e w ⟨rfl,hE2⟩;rw [hD3.out];replace hS:=hS.ext hE2;clear hE2;refine As ?_;go_step|refine X0 ?_|refine KE ?_|refine X9 10 ?_ ?_<;>intro hB<;>(try exact Hb hB)<;>go_step|refine X9 15 ?_ ?_<;>intro hB<;>(try exact Hb hB)<;>go_step|refine J3 20 ?_ ?_<;>intro hB<;>(try exact Ar)<;>go_step|refine J3 24 ?_ ?_<;>intro hB<;>(try exact Ar)<;>go_step|refine Lx ?_|refine MH ?_|refine Mu ?_|refine NP ?_|refine Mx ?_|refine Ik 1 ?_;clear hS;intro g1 w hS|refine Ly ?_|refine AG ?_;go_step|fail)
  refine Ae rfl (AE.tmp rfl) rfl ?_
  exact ⟨rfl,hS.1⟩
 clear h hw hh
 go_enter Tryd.func23,Tryd.ntmps23
 repeat' (first
  | (refine Am 33 ?_);refine An AB Tryd.call33 (AS _ _ _ _) ?_;rintro e w ⟨rfl,hE2⟩;rw [hD.out];replace hS:=hS.ext hE2;clear hE2;refine As ?_;go_step|(refine Am 33 ?_);refine An AB Tryd.call33 (AS _ _ _ _) ?_;rintro e w ⟨rfl,hE2⟩;rw [hD2.out];replace hS:=hS.ext hE2;clear hE2;refine As ?_;go_step|go_skip|refine X0 ?_|refine KE ?_|refine X9 10 ?_ ?_<;>intro hB<;>(try exact Hb hB)<;>go_step|refine X9 15 ?_ ?_<;>intro hB<;>(try exact Hb hB)<;>go_step|refine J3 20 ?_ ?_<;>intro hB<;>(try exact Ar)<;>go_step|refine J3 24 ?_ ?_<;>intro hB<;>(try exact Ar)<;>go_step|refine Lx ?_|refine MH ?_|refine Mu ?_|refine Ik 1 ?_;clear hS;intro g1 w hS|refine Ly ?_|refine AG ?_;go_step|fail)
 refine Ae rfl (AE.tmp rfl) rfl ?_
 exact ⟨rfl,hS.1⟩
theorem GC(w0:World)(W H p ev:Int)(Q C1 C2:List Int)(v1 v2 vd:Value)(hQ:Ag Q 64)(hC1:Ag C1 16)(hC2:Ag C2 16)(h:(1≤W∧W≤64)∧(1≤H∧H≤64)∧(p=1∨p=3)∧(0≤ev∧ev≤100))(hk:L4 Q=false):
 Calls Tryd.prog 23 #[.agg (AA [.val (.int .i64 W), .val (.int .i64 H), .val (.int .i64 p), .ints Q, .ints C1, .val v1, .ints C2, .val v2, .val (.int .i64 ev), .val vd]).toArray] w0 fun e w=>e= .returned (.int .i64 1)∧AX w0 w:=by
 have hS:=St.start w0
 have hK:=AD hk
 have hD:=AD (decide_eq_true h.1)
 have hD2:=AD (decide_eq_true h.2.1)
 have hD3:=AD (decide_eq_true h.2.2.2)
 have hp:=h.2.2.1
 clear h hk
 rcases hp with rfl|rfl
 all_goals
  go_enter Tryd.func23,Tryd.ntmps23
  repeat' (first
   | (refine Am 33 ?_);refine An AB Tryd.call33 (AS _ _ _ _) ?_;rintro e w ⟨rfl,hE2⟩;rw [hD.out];replace hS:=hS.ext hE2;clear hE2;refine As ?_;go_step|(refine Am 33 ?_);refine An AB Tryd.call33 (AS _ _ _ _) ?_;rintro e w ⟨rfl,hE2⟩;rw [hD2.out];replace hS:=hS.ext hE2;clear hE2;refine As ?_;go_step|(refine Am 33 ?_);refine An AB Tryd.call33 (AS _ _ _ _) ?_;rintro e w ⟨rfl,hE2⟩;rw [hD3.out];replace hS:=hS.ext hE2;clear hE2;refine As ?_;go_step|(refine Am 34 ?_);refine An AB Tryd.call34 (Ev _ Q hQ) ?_;rintro e w ⟨rfl,hE2⟩;rw [hK.out];replace hS:=hS.ext hE2;clear hE2;refine As ?_;go_step|go_skip|refine X0 ?_|refine KE ?_|refine X9 10 ?_ ?_<;>intro hB<;>(try exact Hb hB)<;>go_step|refine X9 15 ?_ ?_<;>intro hB<;>(try exact Hb hB)<;>go_step|refine J3 20 ?_ ?_<;>intro hB<;>(try exact Ar)<;>go_step|refine J3 24 ?_ ?_<;>intro hB<;>(try exact Ar)<;>go_step|refine Lx ?_|refine MH ?_|refine Mu ?_|refine NP ?_|refine Mx ?_|refine NO ?_|refine Mt ?_|refine Ik 1 ?_;clear hS;intro g1 w hS|refine Ly ?_|refine Nw ?_|refine AG ?_;go_step|fail)
  refine Ae rfl (AE.tmp rfl) rfl ?_
  exact ⟨rfl,hS.1⟩
theorem Mc{x y:Int}(h:x=y):Ending.returned (.int .i64 x)= .returned (.int .i64 y):=by rw [h]
theorem Cm(C:List Int)(v:Value)(h:Ag C 16):(AA [.ints C, .val v]).length=17:=by
 have:=h.out
 simp [AA,AJ.cells,this]
theorem Nj(C1 C2:List Int)(v1 v2:Value):AA [.ints C1, .val v1]++(AA [.ints C2, .val v2]++[])=AA [.ints C1, .val v1, .ints C2, .val v2]:=by
 simp [AA,AJ.cells]
theorem Hj{W w:World}{rs:List Ac}{g:Nat}{C1 C2:List Int}{v1 v2:Value}(hS:St W w (blk g (AA [.ints C1, .val v1]++(AA [.ints C2, .val v2]++[]))::rs)):St W w (prt g [.ints C1, .val v1, .ints C2, .val v2]::rs):=by
 rw [Nj] at hS;exact hS
theorem Gr(w0:World)(W H p ev:Int)(Q C1 C2 S1 S2:List Int)(a1 a2 ad:Option Addr)(n1 n2 nd c1 c2 cd:Nat)(hQ:Ag Q 64)(hC1:Ag C1 16)(hC2:Ag C2 16)(hs1:Sl w0 1 (.slice a1 n1 c1) n1 (S1.map (Value.int .i64)))(hs2:Sl w0 1 (.slice a2 n2 c2) n2 (S2.map (Value.int .i64)))(hn1:n1≤9223372036854775807)(hn2:n2≤9223372036854775807)(hnd:nd≤9223372036854775807)(h:(1≤W∧W≤64)∧(1≤H∧H≤64)∧(p=1∨p=3)∧(0≤ev∧ev≤100))(hk:L4 Q=true):
 Calls Tryd.prog 23 #[.agg (AA [.val (.int .i64 W), .val (.int .i64 H), .val (.int .i64 p), .ints Q, .ints C1, .val (.slice a1 n1 c1), .ints C2, .val (.slice a2 n2 c2), .val (.int .i64 ev), .val (.slice ad nd cd)]).toArray] w0 fun e w=>e= .returned (.int .i64 (if A7 C1 S1=0 then if A7 C2 S2=0 then if nd≤90000 then 0 else 2 else A7 C2 S2 else A7 C1 S1))∧AX w0 w:=by
 have hS:=St.start w0
 have hL1:=AD (Cm C1 (.slice a1 n1 c1) hC1)
 have hL2:=AD (Cm C2 (.slice a2 n2 c2) hC2)
 have hK:=AD hk
 have hD:=AD (decide_eq_true h.1)
 have hD2:=AD (decide_eq_true h.2.1)
 have hD3:=AD (decide_eq_true h.2.2.2)
 have hp:=h.2.2.1
 clear h hk
 obtain ⟨E1,hE1⟩:∃x,A7 C1 S1=x:=⟨_,rfl⟩
 obtain ⟨E2,hE2⟩:∃x,A7 C2 S2=x:=⟨_,rfl⟩
 have HE1:=AD hE1
 have HE2:=AD hE2
 rw [hE1,hE2]
 clear hE1 hE2
 rcases hp with rfl|rfl
 all_goals
  go_enter Tryd.func23,Tryd.ntmps23
  repeat' (first
   | (refine Am 33 ?_);refine An AB Tryd.call33 (AS _ _ _ _) ?_;rintro e w ⟨rfl,hE2⟩;rw [hD.out];replace hS:=hS.ext hE2;clear hE2;refine As ?_;go_step|(refine Am 33 ?_);refine An AB Tryd.call33 (AS _ _ _ _) ?_;rintro e w ⟨rfl,hE2⟩;rw [hD2.out];replace hS:=hS.ext hE2;clear hE2;refine As ?_;go_step|(refine Am 33 ?_);refine An AB Tryd.call33 (AS _ _ _ _) ?_;rintro e w ⟨rfl,hE2⟩;rw [hD3.out];replace hS:=hS.ext hE2;clear hE2;refine As ?_;go_step|(refine Am 34 ?_);refine An AB Tryd.call34 (Ev _ Q hQ) ?_;rintro e w ⟨rfl,hE2⟩;rw [hK.out];replace hS:=hS.ext hE2;clear hE2;refine As ?_;go_step|(refine AU 45 ?_);refine A3 ?_;refine AM (o:=⟨some 45,_,_,_,_,_⟩) hS 69 2 _ rfl 28 17 152 NX _ _ (AN.agg rfl hL1.out (AN.agg rfl hL2.out AN.nil)) rfl (by decide) (by decide) ?_;clear hS;intro g45 w hS;replace hS:=Hj hS|go_skip|refine X0 ?_|refine KE ?_|refine X9 10 ?_ ?_<;>intro hB<;>(try exact Hb hB)<;>go_step|refine X9 15 ?_ ?_<;>intro hB<;>(try exact Hb hB)<;>go_step|refine J3 20 ?_ ?_<;>intro hB<;>(try exact Ar)<;>go_step|refine J3 24 ?_ ?_<;>intro hB<;>(try exact Ar)<;>go_step|refine Lx ?_|refine MH ?_|refine Mu ?_|refine NP ?_|refine Mx ?_|refine NO ?_|refine Mt ?_|refine Nv ?_|refine OL ?_|refine OM ?_|(with_reducible refine Az _ (.call ⟨.builtin .len,_,_⟩) ?_);(refine Av AB (V.len Tryd.underlying69 rfl) ?_;go_step)|refine Ik 1 ?_;clear hS;intro g1 w hS|refine Ly ?_|refine Nw ?_|refine KC ?_|refine AG ?_;go_step|fail)
  clear hL1 hL2 hD hD2 hD3 hK
  go_loopg [47] 2 (fun gk kv w=>∃k:Nat,gk+k=2∧kv= .int .i64 k∧(1≤k→E1=0)∧(2≤k→E2=0)∧St w0 w [prt g1 [.val (.int .i64 W), .val (.int .i64 H), .val (.int .i64 _), .ints Q, .ints C1, .val (.slice a1 n1 c1), .ints C2, .val (.slice a2 n2 c2), .val (.int .i64 ev), .val (.slice ad nd cd)],prt g45 [.ints C1, .val (.slice a1 n1 c1), .ints C2, .val (.slice a2 n2 c2)]])
  case atStart=>exact ⟨0,rfl,rfl,fun h=>absurd h (by omega),fun h=>absurd h (by omega),hS.sub Ao⟩
  case round=>
   clear hS
   obtain ⟨k,hk,rfl,HA,HB,hS⟩:=hrel
   by_cases hlt:k<2
   ·obtain rfl|rfl:k=0∨k=1:=by omega
    ·
     repeat' (first
      | (refine Am 35 ?_);refine An AB Tryd.call35 (Fd _ C1 S1 a1 n1 c1 hC1 (hs1.ext hS.1) hn1) ?_;rintro e w ⟨rfl,hE2⟩;rw [HE1.out];replace hS:=hS.ext hE2;clear hE2;refine As ?_;go_step|refine X0 ?_|refine X3 ?_|refine OZ 49 ?_|refine Mt ?_|refine Ge ?_|refine KC ?_|refine LL 5 ?_;clear hS;intro g5 w hS|refine LN ?_;clear hS;intro w hS|refine AG ?_;go_step|fail)
     ·
      refine Ae rfl (AE.tmp rfl) rfl ?_
      exact ⟨Mc (by (repeat' split)<;>omega),hS.1⟩
     ·go_roundg (gk-1)
      case measure=>omega
      case rel=>exact ⟨1,by omega,rfl,fun _=>by omega,fun h=>absurd h (by omega),hS.sub Ao⟩
    ·have h0:=HA (by omega)
     subst h0
     repeat' (first
      | (refine Am 35 ?_);refine An AB Tryd.call35 (Fd _ C2 S2 a2 n2 c2 hC2 (hs2.ext hS.1) hn2) ?_;rintro e w ⟨rfl,hE2⟩;rw [HE2.out];replace hS:=hS.ext hE2;clear hE2;refine As ?_;go_step|refine X0 ?_|refine X3 ?_|refine OZ 49 ?_|refine Mt ?_|refine Ge ?_|refine KC ?_|refine LL 5 ?_;clear hS;intro g5 w hS|refine LN ?_;clear hS;intro w hS|refine AG ?_;go_step|fail)
     ·
      refine Ae rfl (AE.tmp rfl) rfl ?_
      exact ⟨Mc (by (repeat' split)<;>omega),hS.1⟩
     ·go_roundg (gk-1)
      case measure=>omega
      case rel=>exact ⟨2,by omega,rfl,fun _=>rfl,fun _=>by omega,hS.sub Ao⟩
   obtain rfl:k=2:=by omega
   have h1:=HA (by omega)
   have h2:=HB (by omega)
   subst h1
   subst h2
   repeat' (first
    | refine X8 ?_|refine X3 ?_|refine ON ?_|refine Lw ?_|refine K8 ?_|refine J4 ?_|refine AG ?_;go_step|fail)
   all_goals
    refine Ae rfl (AE.tmp rfl) rfl ?_
    exact ⟨Mc (by (repeat' split)<;>omega),hS.1⟩
end Go.Proofs.YtkcbhcajfcfmmaaDoor
namespace Go.Proofs.YtkcbhcajfcfmmaaDoor
attribute [local irreducible] Region.wanted
open Go.RowKit
set_option linter.unusedVariables false
set_option maxRecDepth 100000
set_option maxHeartbeats 8000000
def Oc(g:Nat)(cs:List Value):Ac where
 holds w f:=f=[g]∧∃t m,w.heap[g]? =some (.cells cs.toArray t m)
 lt:=fun ⟨e,t,m,h⟩ b hb=>by
  rw [e,List.mem_singleton] at hb
  rw [hb]
  exact (Array.getElem?_eq_some_iff.1 h).1
 loc:=fun ⟨e,t,m,h⟩ hs=>⟨e,t,m,by rw [hs _ (by rw [e];simp)];exact h⟩
section
variable{P:Program}{W w:World}{rs rs':List Ac}{Q:Exit→Act→World→Prop}{K:Act→World→Prop}{o:Oper}{a:Act}
theorem JR(w:World)(g k:Nat)(C:Array Value)(t:TypeId)(h:w.heap[g]? =some (.cells C t (0,0))):(w.freeze ⟨g,k,none⟩ 1).heap[g]? =some (.cells C t (k,k+1)):=by
 unfold World.freeze
 rw [if_neg (by decide)]
 simp only [Array.getElem?_modify,if_true,h,Option.map_some]
 simp
theorem Gz(w:World)(g k:Nat):CE [g] w (w.freeze ⟨g,k,none⟩ 1):=by
 unfold World.freeze
 rw [if_neg (by decide)]
 refine ⟨rfl,rfl,rfl,by simp,fun j hj hm=>?_⟩
 simp only [List.mem_singleton] at hm
 show (w.heap.modify g _)[j]? =w.heap[j]?
 rw [Array.getElem?_modify,if_neg (fun e=>hm e.symm)]
theorem Hv(hS:St W w rs)(t:TypeId)(x:Operand)(ho:o.op= .convert t t x)(e:TypeId)(ht:P.underlying t=some (.slice e))(he:P.underlying e=some (.int .u8))(g n c:Nat)(hx:a.eval x= .slice (some ⟨g,0,none⟩) n c)(cs:List Value)(hp:AI (blk g cs) rs rs')
 (h:∀w',St W w' (Oc g cs::rs')→K (a.put o.dst (.slice (some ⟨g,0,none⟩) n c)) w'):o.wp P a w K Q:=by
 obtain ⟨⟨t0,hb⟩,_⟩:=hS.blk hp
 have hsh:w.shape? g=some (t0,cs.length):=by unfold World.shape?;rw [hb];simp
 have hr:(convert t t (.slice (some ⟨g,0,none⟩) n c)).run P w= .ok (.slice (some ⟨g,0,none⟩) n c) (w.freeze ⟨g,cs.length,none⟩ 1):=by
  simp [convert,run_underlying ht,run_underlying he,markStringish,hsh]
 have hst:St W (w.freeze ⟨g,cs.length,none⟩ 1) ([Oc g cs]++rs'):=by
  refine St.change (hS.pull hp) fun f1 h1 hf1 hn1=>?_
  obtain ⟨rfl,h1⟩:=h1
  refine ⟨[g],⟨[g],[],by simp,⟨rfl,t0,_,JR w g cs.length _ t0 hb⟩,rfl⟩,by simp,fun b hb2=> .inl hb2,Gz w g _⟩
 have hk:=h _ hst
 unfold Oper.wp execOp
 simp only [ho,hx,Sem.run_bind,hr,Result.andThen_ok,Sem.run_pure]
 exact hk
theorem IZ(hS:St W w rs)(s x:Operand)(t:TypeId)(ho:o.op= .call {callee:= .builtin .append,args:=#[s,x],argTypes:=#[t,t]})(e:TypeId)(sz b:Nat)(el:BT P t e sz b)
 (g n:Nat) (xs:List Value) (hs:a.eval s= .slice (some ⟨g,0,none⟩) n n) (hxs:xs.length=n*sz) (hp:AI (Oc g xs) rs rs') (v:Value) (hx:a.eval x=v) (m:Nat) (news:List Value) (hm:Sl w sz v m news) (hm0:0<m)
 (h63:n+m≤maxLen) (hb:(n+m)*b≤140737488355328)
 (h:∀ad' c' w',St W w' (own e sz ad' (n+m) c' (xs++news)::rs)→K (a.put o.dst (.slice ad' (n+m) c')) w'):o.wp P a w K Q:=by
 obtain ⟨ht,⟨i,z,hi,hz,hsz,hby,hzs⟩,hpos⟩:=el
 subst hsz
 subst hby
 obtain ⟨h1S,f,hnd,hf,f1,f2,ef,⟨e1,t0,m0,hblk⟩,hrest⟩:=hS.pull hp
 obtain ⟨hl,aa,cc,rfl,hmc,hcm,hor⟩:=hm
 rcases hor with rfl|⟨bb,off,rfl,hcells⟩
 ·omega
 have hcell:∀j u,xs[j]? =some u→w.cell? ((⟨g,0,none⟩:Addr).add j)=some u:=fun j u hu=>by
  have e0:((⟨g,0,none⟩:Addr).add j)=⟨g,j,none⟩:=by rw [Addr.add_mid,Nat.zero_add]
  rw [e0,cell_of_row w g j _ _ _ hblk]
  simpa using hu
 have hnews:∀j u,news[j]? =some u→w.cell? ((⟨bb,off,none⟩:Addr).add j)=some u:=fun j u hu=>by
  have hj:j<m*i.size:=by rw [←hl];exact (List.getElem?_eq_some_iff.1 hu).1
  rw [Addr.add_mid,hcells j hj,hu]
 have hr:=run_append_grow (P:=P) w t o.type e i z ht hi hz ⟨g,0,none⟩ n n xs hxs hcell ⟨bb,off,none⟩ m cc news hl hnews (by omega) (by simp only [maxLen] at h63;omega) (growslice_fits (by omega) hb)
 have hge:=grownCap_ge w (n+m) n e
 have hcm2:grownCap w (n+m) n e≤maxLen:=grownCap_le_maxLen w (n+m) n e h63
 have hlen:(xs++news).length=(n+m)*i.size:=by rw [List.length_append,hxs,hl,Nat.add_mul]
 have hown:(w.drew.alloc (.cells (xs.toArray++news.toArray++Builtin.zeroCells z.cells (grownCap w (n+m) n e-(n+m))) e)).ownsRow 0 e i.size
  (.slice (some ⟨w.heap.size,0,none⟩) (n+m) (grownCap w (n+m) n e)) (n+m) (xs++news):=by
  refine ⟨hlen, .inr ⟨w.heap.size,_,_,rfl,Nat.zero_le _,heap_alloc_new w.drew _,hge,hcm2,?_,?_⟩⟩
  ·simp only [Array.size_append,List.size_toArray,size_zeroCells,hzs,hxs,hl,←Nat.add_mul]
   congr 1
   omega
  simp only [Array.toList_append,List.append_assoc]
  rw [←List.append_assoc,←hlen]
  exact List.take_left
 have hst:St W (w.drew.alloc (.cells (xs.toArray++news.toArray++Builtin.zeroCells z.cells (grownCap w (n+m) n e-(n+m))) e)) (own e i.size (some ⟨w.heap.size,0,none⟩) (n+m) (grownCap w (n+m) n e) (xs++news)::rs):=by
  obtain ⟨h1,f,h2,h3,h4⟩:=hS.drew
  refine ⟨h1.alloc _,w.heap.size::f,List.nodup_cons.2 ⟨fun hm=>by have:w.heap.size<w.drew.heap.size:=h4.lt _ hm;exact absurd this (Nat.lt_irrefl _),h2⟩,fun b hb=>?_,[w.heap.size],f,rfl,⟨rfl,hown⟩,h4.loc fun b hb=>?_⟩
  ·rcases List.mem_cons.1 hb with h|h
   ·rw [h];exact h1.sz
   exact h3 b h
  exact heap_alloc_old w.drew _ (h4.lt b hb)
 have hk:=h _ _ _ hst
 unfold Oper.wp execOp
 simp only [ho,resolve,invoke,builtin,Sem.run_bind,Sem.run_pure,Result.andThen_ok,List.map_toArray,List.map_cons,List.map_nil,hs,hx,hr]
 exact hk
end
section
variable{P:Program}{a:Act}{x y:Operand}{t ty u:TypeId}
end
end Go.Proofs.YtkcbhcajfcfmmaaDoor
