/-
  The law FnExactBoxIn answers true at every input that its row allows, at every start that lays its variables: part 2 of 7.
-/
import GoSem.Step
import Derived.Conc.Token
import Derived.AtR
import Derived.Conc.Own2
import Derived.Conc.CrowdComm
import Derived.Conc.CrowdTrace
import Derived.Conc.Fork
import Derived.Conc.CrowdStepC
import Derived.Below
import Derived.Laws.Append
import Derived.Test.YtnccejlibbgpkaaGreatDoorChecked
import Derived.Test.YtnccejlibbgpkaaGreatDoorProg
import Derived.MapKept
import Derived.Test.YtnccejlibbgpkaaGreatDoorWAa
set_option linter.unusedSimpArgs false
set_option linter.unusedVariables false
set_option linter.unusedSectionVars false
namespace Go.Proofs.YtnccejlibbgpkaaGreatDoor
section
open Go.Conc (G)
variable {P:Program}
theorem callFunc_calls {f:FuncId} {fn:Func} {args:Array Value} {S:St} {K:Value→St→Prop} (hf:P.funcs[f]? = some fn) (hb:fn.body.isSome=true) (hn:(fn.name == "runtime.NumGoroutine")=false) (h:Calls1 P f args S K) :
    vu P (callFunc f args) S (UponS P K) (fun _ _=>False):=by
  have hbn:fn.body.isNone=false:=by cases hx:fn.body<;>simp_all
  simp only [callFunc,program,zy,vu,hf,hn,hbn,Bool.false_eq_true,if_false,zA,UponS]
  exact h
def lp (r:Loop) (st:LoopState) (p:Option Code):Obj:=.loop {r with state:=st,pending:=p}
theorem semW_getLoop {l:Nat} {r:Loop} {wr:Bool} {S:St} {K:Loop→St→Prop} {Kp:Value→St→Prop} (h:S l=some ⟨.loop r,wr⟩) (k:K r S):vu P (Instr.getLoop l) S K Kp:=by
 simp only [Instr.getLoop,getObj,zy,vu]
 exact ⟨_,h,rfl,rfl,k⟩
theorem semW_begin {l:Nat} {r:Loop} {S:St} {K:Unit→St→Prop} {Kp:Value→St→Prop} (h:S l=some ⟨lp r .ready none,true⟩) (k:K () (S.put l (lp r .busy none))):vu P (Instr.beginRound l) S K Kp:=by
 simp only [Instr.beginRound,zy]
 refine semW_getLoop (r:={r with state:=.ready,pending:=none}) h ?_
 simp only [setObj,vu]
 exact ⟨_,h,rfl,rfl,rfl,rfl,k⟩
theorem semW_endR {l:Nat} {r:Loop} {S:St} {j:Option Code} {K:Value→St→Prop} {Kp:Value→St→Prop} (h:S l=some ⟨lp r .busy none,true⟩) (k:K (.bool j.isNone) (S.put l (lp r (if j.isNone then .ready else .done) j))):vu P (Instr.endRound l j) S K Kp:=by
 simp only [Instr.endRound,zy]
 refine semW_getLoop (r:={r with state:=.busy,pending:=none}) h ?_
 simp only [setObj,vu,zA]
 exact ⟨_,h,rfl,rfl,rfl,rfl,k⟩
theorem semW_endL {l:Nat} {r:Loop} {S:St} {st:LoopState} {j:Option Code} {K:Option Code→St→Prop} {Kp:Value→St→Prop} (h:S l=some ⟨lp r st j,true⟩) (hs:st≠.busy) (k:K j (S.put l (lp r .exhausted j))):vu P (Instr.endLoop l) S K Kp:=by
 simp only [Instr.endLoop,zy]
 refine semW_getLoop (r:={r with state:=st,pending:=j}) h ?_
 have:(st==LoopState.busy)=false:=by cases st<;>first | rfl | exact absurd rfl hs
 simp only [this,Bool.false_eq_true,if_false,setObj,vu,zA]
 exact ⟨_,h,rfl,rfl,rfl,rfl,k⟩
structure Yields (P:Program) (l:Nat) (vs:List Value) (S:St) (K:Value→St→Prop):Prop where
 h:vu P (Instr.yield l vs.toArray) S (UponS P K) (fun _ _=>False)
theorem Yields.mono {l:Nat} {vs:List Value} {S:St} {K K':Value→St→Prop} (h:Yields P l vs S K) (hk:∀ v S,K v S→K' v S):Yields P l vs S K':=by
 refine ⟨semW_mono (fun nx S hu=>?_) (fun _ _ q=>q) _ _ h.h⟩
 cases nx<;>simp only [UponS] at hu ⊢ <;> first | exact hk _ _ hu | exact Calls1.mono hu hk | exact fun m F c cs k=>hu m F c cs fun v S' q=>k v S' (hk _ _ q) | exact hu
section
variable {main:Bool} {Fin:Goroutine→St→Prop}
theorem finish_begin (b:Frame) (a:Act) (k:List Item) (v:Value):(b.atR a (.beginRound::k)).finish v=b.atR a k:=by simp [Frame.finish,Frame.atR]
theorem finish_inRange (b:Frame) (a:Act) (k:List Item) (l:Nat) (v:Value):(b.atR a (.inRangeFunc l::k)).finish v=b.atR a (.endRangeFunc l::k):=by simp [Frame.finish,Frame.atR]
theorem Go1.begin {b:Frame} {a:Act} {k:List Item} {cs:List Frame} {S:St} {l:Nat} (hl:b.roundOf=some l) (hk:b.kind≠.early)
    (h:vu P (Instr.beginRound l) S (fun _ S'=>Go1 P main Fin (G (b.atR a k) cs) S') (fun _ _=>False)):Go1 P main Fin (G (b.atR a (.beginRound::k)) cs) S:=by
  refine .step' rfl fun w hin=>?_
  have h2:vu P (do Instr.beginRound l;pure Next.skip) S (fun nx S'=>nx=.skip∧Go1 P main Fin (G (b.atR a k) cs) S') (fun _ _=>False):=by
    rw [zy]
    exact semW_mono (fun _ S' q=>⟨rfl,q⟩) (fun _ _ q=>q) _ _ h
  rcases semW_run _ S w #[] h2 hin with ⟨nx,S',w',es,hr,⟨rfl,hq⟩,hkp,hev⟩ | ⟨_,_,_,_,_,hf,_⟩
  case inr=>exact hf.elim
  rw [Array.empty_append] at hr
  have hk':(b.kind==CallKind.early)=false:=by simpa using hk
  have hkd:(b.atR a (.beginRound::k)).kind=b.kind:=rfl
  refine ⟨_,w',seen P b.fn es,S',?_,rfl,hkp,fun e he=>hev e (mem_seen he),hq⟩
  have hst:stepG P main (G (b.atR a (.beginRound::k)) cs) w=stepG.apply P true (b.atR a (.beginRound::k)) cs none (do Instr.beginRound l;pure .skip) w:=by
    simp only [G,stepG,stepG.exec,Frame.atR,hl,Option.elim]
  rw [hst]
  simp only [stepG.apply,if_true,hr,hkd,hk',finish_begin]
  simp [GStep.after,G,Frame.atR]
def RoundEnd (P:Program) (l:Nat) (K:Value→St→Prop):Ex→Act→St→Prop
 | .normal,_,S=>vu P (Instr.endRound l none) S K (fun _ _=>False)
 | .exit id,_,S=>vu P (Instr.endRound l (some (.exit id))) S K (fun _ _=>False)
 | .ret,_,S=>vu P (Instr.endRound l (some .ret)) S K (fun _ _=>False)
theorem round1_of {l:Nat} {f:FuncId} {tmps:Array Value} {assign body:Code} {S:St} {K:Value→St→Prop}
    (h:wpc P assign {tmps:=tmps,defers:=[]} S fun e a1 S1=>e=.normal∧vu P (Instr.beginRound l) S1 (fun _ S2=>wpc P body a1 S2 (RoundEnd P l K)) (fun _ _=>False)):Round1 P l f tmps assign body S K:=by
  intro main Fin c cs hK
  let b:Frame:={(default:Frame) with fn:=f,kind:=.normal,roundOf:=some l}
  have hb0:Frame.round l f tmps assign body .normal=b.atR {tmps:=tmps,defers:=[]} [.code assign,.beginRound,.code body]:=by
    simp [Frame.round,Frame.atR,b]
  have hkd:b.kind≠.early:=by simp [b]
  have leave:∀ (j:Option Code) (a:Act) (S:St),vu P (Instr.endRound l j) S K (fun _ _=>False)→LeaveG P main Fin b (c::cs) j a S:=by
    intro j a S hs
    unfold LeaveG
    have:b.roundOf=some l:=rfl
    simp only [this]
    exact ⟨rfl,c,cs,rfl,semW_mono (fun v S' q=>hK v S' q) (fun _ _ q=>q) _ _ hs⟩
  rw [hb0]
  refine h main Fin b [.beginRound,.code body] (c::cs) hkd fun e a1 S1 q=>?_
  obtain ⟨rfl,q⟩:=q
  refine Go1.begin rfl hkd (semW_mono (fun _ S2 hb=>?_) (fun _ _ q=>q) _ _ q)
  refine hb main Fin b [] (c::cs) hkd fun e a2 S3 q2=>?_
  cases e with
  | normal=>exact .off (leave none a2 S3 q2)
  | exit id=>exact ⟨rfl,leave _ a2 S3 q2⟩
  | ret=>exact leave _ a2 S3 q2
end
def wpc0 (P:Program) (c:Code) (a:Act) (S:St) (Q:Ex→Act→St→Prop):Prop:=
 ∀ (main:Bool) (Fin:Goroutine→St→Prop) (b:Frame) (k:List Item) (cs:List Frame),b.kind≠.early→b.roundOf=none→(∀ e a' S',Q e a' S'→ArrG P main Fin b k cs e a' S')→Go1 P main Fin (G (b.atR a (.code c::k)) cs) S
theorem wpc.to0 {c:Code} {a:Act} {S:St} {Q:Ex→Act→St→Prop} (h:wpc P c a S Q):wpc0 P c a S Q:=fun m F b k cs hk _ K=>h m F b k cs hk K
theorem wpc0_seq {x y:Code} {a:Act} {S:St} {Q:Ex→Act→St→Prop} (h:wpc0 P x a S (Ex.thn (fun a' S'=>wpc0 P y a' S' Q) Q)):wpc0 P (.seq x y) a S Q:=by
 intro m F b k cs hk hr K
 refine .ctl (fun w=>by simp [G,stepG,stepG.exec,Frame.atR]) (h m F b (.code y::k) cs hk hr fun e a' S' q=>?_)
 refine .pass (fun id=>rfl) (fun e'=>?_) (fun e'=>?_)
 ·subst e';exact q m F b k cs hk hr K
 ·cases e<;>first | exact absurd rfl e' | exact K _ _ _ q
theorem wpc0_block {id:Nat} {c:Code} {a:Act} {S:St} {Q:Ex→Act→St→Prop} (h:wpc0 P c a S (Ex.blk id Q)):wpc0 P (.block id c) a S Q:=by
 intro m F b k cs hk hr K
 refine .ctl (fun w=>by simp [G,stepG,stepG.exec,Frame.atR]) (h m F b (.inBlock id::k) cs hk hr fun e a' S' q=>?_)
 cases e with
 | normal=>exact .ctl (fun w=>by simp [G,stepG,stepG.exec,Frame.atR]) (K _ _ _ q)
 | exit id'=>
  simp only [Ex.blk] at q
  simp only [ArrG,exitTo]
  by_cases hid:id'=id
  ·subst hid
   simp only [if_true,beq_self_eq_true] at q ⊢
   exact K _ _ _ q
  ·have:(id==id')=false:=by simp;exact fun h=>hid h.symm
   simp only [hid,if_false,this,Bool.false_eq_true] at q ⊢
   exact K _ _ _ q
 | ret=>exact K _ _ _ q
def lrec (fn:FuncId) (tmps:Array Value) (ps:Array Tmp) (assign body:Code) (d:Nat):Loop:={state:=.ready,pending:=none,fn,tmps,params:=ps,assign,body,defers:=d}
def markOf (d:Nat):Deferred:={target:=.collected d,args:=#[]}
theorem wpc0_range {x:Operand} {ps:Array Tmp} {assign body:Code} {a:Act} {S:St} {Q:Ex→Act→St→Prop} {f:FuncId} {fn:Func} {fs cs0:Array Value}
    (hx:a.eval x=.func (.func f) fs cs0) (hf:P.funcs[f]? = some fn) (hb:fn.body.isSome=true) (hn:(fn.name == "runtime.NumGoroutine")=false)
    (h:∀ (d l:Nat) (fn0:FuncId),S d=none→(S.put d (.deferred (some []))) l=none →
      Calls1 P f (fs++#[.func (.yield l) #[] #[]]++cs0) ((S.put d (.deferred (some []))).put l (.loop (lrec fn0 a.tmps ps assign body d))) fun _ S'=>
        vu P (Instr.endLoop l) S' (fun j S''=>match j with
          | none=>Q .normal {a with defers:=markOf d::a.defers} S''
          | some .ret=>Q .ret {a with defers:=markOf d::a.defers} S''
          | _=>False) (fun _ _=>False)):wpc0 P (.rangeFunc x ps assign body) a S Q:=by
  intro m F b k cs hk hr K
  have hsem:vu P (Instr.enterLoop b.fn a.tmps ps assign body none) S (fun lm S1=>∃ d,lm.2=[markOf d]∧S d=none∧(S.put d (.deferred (some []))) lm.1=none∧S1=(S.put d (.deferred (some []))).put lm.1 (.loop (lrec b.fn a.tmps ps assign body d))) (fun _ _=>False):=by
    simp only [Instr.enterLoop,newObj,zy,vu,zA]
    intro d hd l hl
    exact ⟨d,rfl,hd,hl,rfl⟩
  refine .step' rfl fun w hin=>?_
  rcases semW_run _ S w #[] hsem hin with ⟨lm,S1,w1,es1,hr1,⟨d,hm,hd,hl,hS1⟩,hkp1,hev1⟩ | ⟨_,_,_,_,_,hf',_⟩
  case inr=>exact hf'.elim
  rw [Array.empty_append] at hr1
  obtain ⟨l,mark⟩:=lm
  simp only at hm hl hS1 hr1
  subst hm
  have hcall:=h d l b.fn hd hl
  rw [← hS1] at hcall
  let a':Act:={a with defers:=markOf d::a.defers}
  have hbn:fn.body.isNone=false:=by cases hx:fn.body<;>simp_all
  have hev':∀ k,(b.atR a' k).eval=a.eval:=fun k=>by rw [Frame.eval_atR];rfl
  have hinv:vu P (do let dd ← resolve (b.atR a' (.inRangeFunc l::k)).eval {callee:=.value x,args:=#[.const (.func (.yield l) #[] #[])],argTypes:=#[]} 0;invoke dd.target dd.args) S1 (fun nx S2=>nx=.enter f (fs++#[.func (.yield l) #[] #[]]++cs0)∧S2=S1) (fun _ _=>False):=by
    rw [hev']
    have hc:a.eval (.const (.func (.yield l) #[] #[]))=.func (.yield l) #[] #[]:=rfl
    simp only [resolve,hx,Deferred.ofValue,zy,zA,invoke,callFunc,program,vu,hf,hn,hbn,Bool.false_eq_true,if_false,List.map_toArray,List.map_cons,List.map_nil,hc]
    simp
  rcases semW_run _ S1 w1 #[] hinv hkp1.inn with ⟨nx,S2,w2,es2,hr2,⟨rfl,rfl⟩,hkp2,hev2⟩ | ⟨_,_,_,_,_,hf',_⟩
  case inr=>exact hf'.elim
  rw [Array.empty_append] at hr2
  refine ⟨G (Frame.enter P f (fs++#[.func (.yield l) #[] #[]]++cs0) .normal) (b.atR a' (.inRangeFunc l::k)::cs),w2,seen P b.fn es1++seen P b.fn es2,S2,?_,rfl,hkp1.trans hkp2,?_,?_⟩
  · have hkd:(b.kind==CallKind.early)=false:=by simpa using hk
    have hfe:(b.atR a' (.inRangeFunc l::k))={fn:=b.fn,tmps:=a.tmps,todo:=Item.inRangeFunc l::k,defers:=[markOf d]++a.defers,mode:=FrameMode.run,kind:=b.kind}:=by
      simp only [Frame.atR,hr];rfl
    rw [hfe] at hr2
    simp only [G,stepG,stepG.exec,Frame.atR,hr,hr1]
    simp only [stepG.apply,if_true,hr2,hkd]
    simp [GStep.after,a']
  · intro e he
    rcases Array.mem_append.1 he with he | he
    · exact (hev1 e (mem_seen he)).mono hkp2.size
    · exact (hev2 e (mem_seen he)).from hkp1
  · refine hcall m F _ cs fun v S3 q=>?_
    rw [finish_inRange]
    refine .step' rfl fun w3 hin3=>?_
    rcases semW_run _ S3 w3 #[] q hin3 with ⟨j,S4,w4,es4,hr4,hq,hkp4,hev4⟩ | ⟨_,_,_,_,_,hf',_⟩
    case inr=>exact hf'.elim
    rw [Array.empty_append] at hr4
    refine ⟨G (b.atR a' ((j.map Item.code).toList++k)) cs,w4,seen P b.fn es4,S4,?_,rfl,hkp4,fun e he=>hev4 e (mem_seen he),?_⟩
    · simp only [G,stepG,stepG.exec,Frame.atR,hr4]
      simp [GStep.after]
    · cases j with
      | none=>exact K .normal a' S4 hq
      | some c=>
        cases c<;>simp only at hq
        exact .ret (K .ret a' S4 hq)
inductive XCode where
 | slim (s:SCode)
 | seq (a b:XCode)
 | block (id:Nat) (a:XCode)
 | range (x:Operand) (ps:List Nat) (sa sb:SCode)
def xCode (P:Program) (n:Nat):Code→Option XCode
 | .seq a b=>match slimCode P n (.seq a b) with
  | some s=>some (.slim s)
  | none=>(xCode P n a).bind fun x=>(xCode P n b).bind fun y=>some (.seq x y)
 | .block id a=>match slimCode P n (.block id a) with
  | some s=>some (.slim s)
  | none=>(xCode P n a).bind fun x=>some (.block id x)
 | .rangeFunc x ps a b=>if ps.all (fun t=>decide (t<n)) then (slimCode P n a).bind fun sa=>(slimCode P n b).bind fun sb=>some (.range x ps.toList sa sb) else none
 | c=>(slimCode P n c).map .slim
def Env.setL (E:Env):List Nat→List Value→Env
 | p::ps,v::vs=>Env.setL (E.set (some p) v) ps vs
 | _,_=>E
structure RoundOk (P:Program) (ps:List Nat) (sa sb:SCode) (E:Env) (l:Nat) (r:Loop):Prop where
 h:∀ (vs:List Value) (S:St) (K:Value→St→Prop),vs.length=ps.length→wpS P sa (E.setL ps vs) S (fun e E1 S1=>e=.normal∧S1 l=some ⟨lp r .ready none,true⟩ ∧
  wpS P sb E1 (S1.put l (lp r .busy none)) fun e _ S2=>S2 l=some ⟨lp r .busy none,true⟩∧match e with
   | .normal=>K (.bool true) (S2.put l (lp r .ready none))
   | .ret=>K (.bool false) (S2.put l (lp r .done (some .ret)))
   | .exit _=>False)→S l=some ⟨lp r .ready none,true⟩→Yields P l vs S K
def wpX (P:Program):XCode→Env→St→List Nat→(SEx→Env→St→List Nat→Prop)→Prop
  | .slim s,E,S,D,Q=>wpS P s E S fun e E S=>Q e E S D
  | .seq a b,E,S,D,Q=>wpX P a E S D fun e E S D=>match e with
    | .normal=>∃ E1,Env.le E1 E∧wpX P b E1 S D Q
    | e=>Q e E S D
  | .block id a,E,S,D,Q=>wpX P a E S D fun e E S D=>match e with
    | .exit id'=>if id'=id then Q .normal E S D else Q (.exit id') E S D
    | e=>Q e E S D
  | .range x ps sa sb,E,S,D,Q=>∃ f fn fs cs,E.ev x=some (.func (.func f) fs cs)∧P.funcs[f]? = some fn∧fn.body.isSome=true∧(fn.name == "runtime.NumGoroutine")=false ∧
      ∀ (d l:Nat) (r:Loop),S d=none→(S.put d (.deferred (some []))) l=none→RoundOk P ps sa sb E l r →
        Calls1 P f (fs++#[.func (.yield l) #[] #[]]++cs) ((S.put d (.deferred (some []))).put l (lp r .ready none)) fun _ S'=>
          (S' l=some ⟨lp r .ready none,true⟩∧Q .normal E (S'.put l (lp r .exhausted none)) (d::D))∨(S' l=some ⟨lp r .done (some .ret),true⟩∧Q .ret E (S'.put l (lp r .exhausted (some .ret))) (d::D))
theorem semW_ite_neg {α:Type} {c:Prop} [Decidable c] {x y:Sem α} {S:St} {K:α→St→Prop} {Kp:Value→St→Prop} (h:¬ c) (k:vu P y S K Kp):vu P (if c then x else y) S K Kp:=by rw [if_neg h];exact k
theorem Fits.setL {n:Nat}:∀ {ps:List Nat} {vs:List Value} {a:Act} {E:Env},Fits a n E→(∀ p∈ps,p<n)→Fits {tmps:=(ps.zip vs).foldl (fun tmps (t,v)=>tmps.setIfInBounds t v) a.tmps,defers:=[]} n (E.setL ps vs):=by
 intro ps
 induction ps with
 | nil=>intro vs a E h _;cases vs<;>exact ⟨h.1,h.2⟩
 | cons p ps ih=>
  intro vs a E h hp
  cases vs with
  | nil=>exact ⟨h.1,h.2⟩
  | cons v vs=>
   have h1:Fits (a.put (some p) v) n (E.set (some p) v):=h.put (fun x hx=>by cases hx;exact hp p (by simp)) v
   exact ih h1 fun q hq=>hp q (by simp [hq])
theorem wpX_sound {n:Nat}:∀ (c:Code) (xc:XCode) (a:Act) (E:Env) (S:St) (D:List Nat) (Q:SEx→Env→St→List Nat→Prop) (Q':Ex→Act→St→Prop),xCode P n c=some xc→Fits a n E→a.defers=D.map markOf→wpX P xc E S D Q →
    (∀ e a' E' S' D',Fits a' n E'→a'.defers=D'.map markOf→Q e E' S' D'→Q' (match e with | .normal=>.normal | .exit id=>.exit id | .ret=>.ret) a' S')→wpc0 P c a S Q':=by
  have slim:∀ (c:Code) (s:SCode) (a:Act) (E:Env) (S:St) (D:List Nat) (Q:SEx→Env→St→List Nat→Prop) (Q':Ex→Act→St→Prop),slimCode P n c=some s→Fits a n E→a.defers=D.map markOf→wpX P (.slim s) E S D Q →
      (∀ e a' E' S' D',Fits a' n E'→a'.defers=D'.map markOf→Q e E' S' D'→Q' (match e with | .normal=>.normal | .exit id=>.exit id | .ret=>.ret) a' S')→wpc0 P c a S Q':=
    fun c s a E S D Q Q' hs hf hd h hq=>(wpS_sound (n:=n) c s a E S _ Q' hs hf h fun e a' E' S' hf' hd' q=>hq e a' E' S' D hf' (hd'.trans hd) q).to0
  intro c
  induction c with
  | seq x y ihx ihy=>
    intro xc a E S D Q Q' hs hf hd h hq
    simp only [xCode] at hs
    split at hs
    · rename_i s hsl
      cases hs
      exact slim _ s a E S D Q Q' hsl hf hd h hq
    · simp only [Option.bind_eq_some_iff] at hs
      obtain ⟨sx,hx,sy,hy,hs⟩:=hs
      cases hs
      refine wpc0_seq (ihx sx a E S D _ _ hx hf hd h fun e a' E' S' D' hf' hd' q=>?_)
      cases e with
      | normal=>
        obtain ⟨E1,hle,q⟩:=q
        exact ihy sy a' E1 S' D' Q Q' hy (hf'.le hle) hd' q hq
      | exit id=>exact hq (.exit id) a' E' S' D' hf' hd' q
      | ret=>exact hq .ret a' E' S' D' hf' hd' q
  | block id c ih=>
    intro xc a E S D Q Q' hs hf hd h hq
    simp only [xCode] at hs
    split at hs
    · rename_i s hsl
      cases hs
      exact slim _ s a E S D Q Q' hsl hf hd h hq
    · simp only [Option.bind_eq_some_iff] at hs
      obtain ⟨sx,hx,hs⟩:=hs
      cases hs
      refine wpc0_block (ih sx a E S D _ _ hx hf hd h fun e a' E' S' D' hf' hd' q=>?_)
      cases e with
      | normal=>exact hq .normal a' E' S' D' hf' hd' q
      | exit id'=>
        simp only [Ex.blk] at q ⊢
        split at q
        · rename_i e;simp only [e,if_true];exact hq .normal a' E' S' D' hf' hd' q
        · rename_i e;simp only [e,if_false];exact hq (.exit id') a' E' S' D' hf' hd' q
      | ret=>exact hq .ret a' E' S' D' hf' hd' q
  | rangeFunc x ps ca cb _ _=>
    intro xc a E S D Q Q' hs hf hd h hq
    simp only [xCode] at hs
    split at hs
    case isFalse=>cases hs
    rename_i hps
    simp only [Option.bind_eq_some_iff] at hs
    obtain ⟨sa,hsa,sb,hsb,hs⟩:=hs
    cases hs
    obtain ⟨f,fn,fs,cs,hx,hfn,hb,hn,h⟩:=h
    refine wpc0_range (hf.ev hx) hfn hb hn fun d l fn0 hd0 hl0=>?_
    have hpn:∀ p∈ps.toList,p<n:=by
      intro p hp
      obtain ⟨i,hi,rfl⟩:=List.getElem_of_mem hp
      have:=(Array.all_eq_true.1 hps) i (by simpa using hi)
      simpa using this
    have hro:RoundOk P ps.toList sa sb E l (lrec fn0 a.tmps ps ca cb d):=by
      refine ⟨fun vs S K hlen hw hS=>⟨?_⟩⟩
      simp only [Instr.yield,zy]
      refine semW_getLoop (r:={lrec fn0 a.tmps ps ca cb d with state:=.ready,pending:=none}) hS ?_
      have hsz:¬ (vs.toArray.size≠(lrec fn0 a.tmps ps ca cb d).params.size):=by simpa [lrec] using hlen
      refine semW_ite_neg hsz ?_
      simp only [zA,UponS]
      refine round1_of ?_
      have hfit:Fits {tmps:=(ps.zip vs.toArray).foldl (fun tmps (t,v)=>tmps.setIfInBounds t v) a.tmps,defers:=[]} n (E.setL ps.toList vs):=by
        have:=hf.setL (vs:=vs) hpn
        rw [← Array.foldl_toList,Array.toList_zip]
        exact this
      refine wpS_sound (n:=n) ca sa _ _ S _ _ hsa hfit hw fun e a1 E1 S1 hf1 _ q=>?_
      obtain ⟨rfl,hl1,q⟩:=q
      refine ⟨rfl,semW_begin hl1 ?_⟩
      refine wpS_sound (n:=n) cb sb _ _ _ _ _ hsb hf1 q fun e a2 E2 S2 _ _ q2=>?_
      obtain ⟨hl2,q2⟩:=q2
      cases e with
      | normal=>exact semW_endR hl2 q2
      | exit id=>exact q2.elim
      | ret=>exact semW_endR hl2 q2
    refine Calls1.mono (h d l _ hd0 hl0 hro) fun v S' q=>?_
    rcases q with ⟨h1,h2⟩ | ⟨h1,h2⟩
    · exact semW_endL h1 (by simp) (hq .normal _ E _ (d::D) ⟨hf.1,hf.2⟩ (by simp [hd]) h2)
    · exact semW_endL h1 (by simp) (hq .ret _ E _ (d::D) ⟨hf.1,hf.2⟩ (by simp [hd]) h2)
  | _=>
    intro xc a E S D Q Q' hs hf hd h hq
    simp only [xCode,Option.map_eq_some_iff] at hs
    obtain ⟨s,hsl,rfl⟩:=hs
    exact slim _ s a E S D Q Q' hsl hf hd h hq
def RetD:List Nat→St→(St→Prop)→Prop
 | [],S,K=>K S
 | d::D,S,K=>S d=some ⟨.deferred (some []),true⟩∧RetD D (S.put d (.deferred none)) K
theorem calls0_of {f:FuncId} {fn:Func} {c:Code} {args:Array Value} {S:St} {Post:Value→St→Prop} (hf:P.funcs[f]? = some fn) (hc:fn.body=some c)
    (h:wpc0 P c {tmps:=args++Array.replicate (fn.ntmps-args.size) undef,defers:=[]} S fun e a' S'=>(match e with | .exit _=>False | _=>True)∧RetW P fn a'.tmps Post a'.defers S'):Calls1 P f args S Post:=by
  intro m F cl cs K
  have e:Frame.enter P f args .normal=({fn:=f,tmps:=#[],todo:=[],defers:=[],mode:=.run,kind:=.normal}:Frame).atR {tmps:=args++Array.replicate (fn.ntmps-args.size) undef,defers:=[]} [.code c]:=by
    simp [Frame.enter,Frame.atR,hf,hc]
  rw [e]
  refine h m F _ [] (cl::cs) (by simp) rfl fun e a' S' q=>?_
  have fin:∀ todo,Go1 P m F (G {({fn:=f,tmps:=#[],todo:=[],defers:=[],mode:=.run,kind:=.normal}:Frame).atR a' todo with mode:=.returning} (cl::cs)) S':=
    fun todo=>.unwind (fn:=fn) hf rfl rfl K _ S' rfl q.2
  cases e with
  | normal=>exact .off fin
  | exit id=>exact q.1.elim
  | ret=>exact fin
structure XFn where
 n:Nat
 code:XCode
 res:List SRes
def slimX (P:Program) (fn:Func):Option XFn:=
 fn.body.bind fun c=>(xCode P fn.ntmps c).bind fun xc=>(optAll (fn.results.toList.map (slimRes P))).bind fun rs=>some ⟨fn.ntmps,xc,rs⟩
theorem calls1_x {f:FuncId} {fn:Func} {sf:XFn} {args:List Value} {S:St} {K:Value→St→Prop} (hf:P.funcs[f]? = some fn) (hs:slimX P fn=some sf) (hn:args.length≤sf.n)
    (h:wpX P sf.code (Env.of args) S [] fun e E S' D=>(match e with | .exit _=>False | _=>True)∧RetD D S' fun S''=>∃ vs,resVals E S'' sf.res=some vs∧K (resVal vs) S''):Calls1 P f args.toArray S K:=by
  simp only [slimX,Option.bind_eq_some_iff] at hs
  obtain ⟨c,hc,xc,hxc,rs,hrs,hs⟩:=hs
  cases hs
  simp only at hn h
  refine calls0_of hf hc (wpX_sound (n:=fn.ntmps) c xc _ (Env.of args) S [] _ _ hxc ⟨?_,?_⟩ rfl h ?_)
  · simp;omega
  · intro t v ht
    rw [Env.get_of] at ht
    simp only
    have hlt:t<args.length:=by
      rw [List.getElem?_eq_some_iff] at ht;exact ht.1
    rw [Array.getElem?_append_left (by simpa using hlt)]
    simpa using ht
  · rintro e a' E' S' D' hf' hd' ⟨h1,h2⟩
    refine ⟨by cases e<;>first | trivial | exact h1,?_⟩
    have key:∀ (D:List Nat) (S:St),RetD D S (fun S''=>∃ vs,resVals E' S'' rs=some vs∧K (resVal vs) S'')→RetW P fn a'.tmps K (D.map markOf) S:=by
      intro D
      induction D with
      | nil=>rintro S ⟨vs,hv,hk⟩;exact semW_results hrs hf' hv hk
      | cons d D ih=>
        rintro S ⟨hd,h⟩
        simp only [List.map_cons,RetW,markOf,Instr.takeDeferred,getObj,setObj,zy,vu,zA]
        exact ⟨_,hd,rfl,rfl,_,hd,rfl,rfl,rfl,rfl,rfl,ih _ h⟩
    rw [hd']
    exact key D' S' h2
end
section
open Go
section
variable {P:Program} {X:List Nat} {S0 S S':St} {L L':List (Nat × Obj)} {E:Env} {K:Value→St→Prop} {KE:Env→St→Prop} {r:List SI}
theorem zL {d:Option Nat} {op:SOp} {af:List Nat} {g:Nat} {t b:Bool} (hb:E g=some (.bool b)) (h:wpI P r (E.set d undef) S KE) (hn:b≠t:=by decide):wpI P (⟨d,op,some (some g,t),af⟩::r) E S KE:=wpI_no hb hn h
theorem vi {is:List SI} {Y:List Nat} {n:Nat} {D:List Nat} {v:Value} (i:Nat) {x:SI} (hx:is[i]? = some x) {D':List Nat} (hD:D.erase i=D') (hl:∀ S',(x.op.isLoad=true→Stays Y S S')→Lt P x E S' v) (h:wpD P is Y n D' (E.set x.dst v) S KE) (hm:mayFirst is n D i=true:=by kernel_rfl):wpD P is Y (n+1) D E S KE:=wpD_lt i hx hm hD hl h
theorem zSt {n:Nat} {x y:Operand} {b off:Nat} {u:Value} {cs cs' us:List Value} {e:TypeId} (H:Loc X S0 S L) (hx:E.ev x=some (ptr b off)) (hy:E.ev y=some u) (hu:u.cells=us.toArray)
    (hU:Upd L b (Cs cs e) (Cs cs' e) L') (hc:setl cs off us=cs') (k:∀ S',Ext [b] S S'→Loc X S0 S' L'→K undef S') (h1:us.all oneCell=true:=by exact rfl) (hn:us.length=n:=by exact rfl) (h0:n≠0:=by decide) (hb:off+n≤cs.length:=by exact of_decide_eq_true rfl):(SOp.store n x y).W P E S K:=W_store H hx hy hu h1 hn h0 hU hb hc k
variable {d:Option Nat} {af:List Nat}
theorem zj {x:Operand} {v:Value} (h:E.ev x=some v) (k:wpI P r (E.set d v) S KE):wpI P (⟨d,.mv x,none,af⟩::r) E S KE:=za (vC h k)
theorem vr {c a b:Operand} {t:Bool} {va vb v:Value} (hc:E.ev c=some (.bool t)) (ha:E.ev a=some va) (hb:E.ev b=some vb) (hv:(bif t then va else vb)=v) (k:wpI P r (E.set d v) S KE):wpI P (⟨d,.pick c a b,none,af⟩::r) E S KE:=za (vG hc ha hb hv k)
theorem vw {o:Nat} {x:Operand} {b off:Nat} (h:E.ev x=some (ptr b off)) (k:wpI P r (E.set d (ptr b (off+o))) S KE):wpI P (⟨d,.fieldAddr o x,none,af⟩::r) E S KE:=za (zz h k)
theorem zEx {x:Operand} {i:Nat} {vs:Array Value} {v:Value} (hx:E.ev x=some (.tuple vs)) (hv:vs[i]? = some v) (k:wpI P r (E.set d v) S KE):wpI P (⟨d,.extract x i,none,af⟩::r) E S KE:=za (vo hx hv k)
theorem zCl {f:FuncId} {xs:List Operand} {vs:List Value} (hx:E.evs xs=some vs) (k:Calls1 P f vs.toArray S fun v S'=>wpI P r (E.set d v) S' KE):wpI P (⟨d,.call f xs,none,af⟩::r) E S KE:=za (zU hx k)
theorem zNt {x:Operand} {t:Bool} (h:E.ev x=some (.bool t)) (k:wpI P r (E.set d (.bool !t)) S KE):wpI P (⟨d,.not x,none,af⟩::r) E S KE:=za (W_not h k)
theorem zLl {x:Operand} {a:Option Addr} {n cap:Nat} (hx:E.ev x=some (.slice a n cap)) (k:wpI P r (E.set d (int n)) S KE):wpI P (⟨d,.lenL x,none,af⟩::r) E S KE:=za (W_lenL hx k)
theorem zBx {e:TypeId} {x:Operand} {v:Value} {vs:List Value} (H:Loc X S0 S L) (hx:E.ev x=some v) (hz:v.cells=vs.toArray) (k:∀ b S',S b=none→Ext [] S S'→Loc X S0 S' ((b,Cs vs e)::L)→wpI P r (E.set d (ptr b 0)) S' KE):wpI P (⟨d,.box e x,none,af⟩::r) E S KE:=za (W_box H hx hz k)
theorem zAl {e:TypeId} {z:Value} {zs:List Value} (H:Loc X S0 S L) (hz:z.cells=zs.toArray) (k:∀ b S',S b=none→Ext [] S S'→Loc X S0 S' ((b,Cs zs e)::L)→wpI P r (E.set d (ptr b 0)) S' KE):wpI P (⟨d,.alloc e z,none,af⟩::r) E S KE:=za (W_alloc H hz k)
theorem zL1 {x:Operand} {b off:Nat} {cs:List Value} {e:TypeId} {v:Value} (H:Loc X S0 S L) (hx:E.ev x=some (ptr b off)) (hb:Has L b (Cs cs e)) (hv:cs[off]? = some v) (k:wpI P r (E.set d v) S KE):wpI P (⟨d,.load1 x,none,af⟩::r) E S KE:=za (vk H hx hb hv k)
theorem zLn {n:Nat} {x:Operand} {b off:Nat} {cs vs:List Value} {e:TypeId} (H:Loc X S0 S L) (hx:E.ev x=some (ptr b off)) (hb:Has L b (Cs cs e)) (hv:subl cs off n=some vs) (k:wpI P r (E.set d (.agg vs.toArray)) S KE):wpI P (⟨d,.loadN n x,none,af⟩::r) E S KE:=za (W_loadN H hx hb hv k)
theorem zAd {x y:Operand} {a b:Int} (hx:E.ev x=some (int a)) (hy:E.ev y=some (int b)) (k:wpI P r (E.set d (int (a+b))) S KE) (h0:-9223372036854775808≤a+b:=by omega) (h1:a+b≤9223372036854775807:=by omega):wpI P (⟨d,.bin .add x y,none,af⟩::r) E S KE:=za (W_add hx hy h0 h1 k)
theorem zSs {n:Nat} {x y:Operand} {b off:Nat} {u:Value} {cs cs' us:List Value} {e:TypeId} (H:Loc X S0 S L) (hx:E.ev x=some (ptr b off)) (hy:E.ev y=some u) (hu:u.cells=us.toArray)
    (hU:Upd L b (Cs cs e) (Cs cs' e) L') (hc:setl cs off us=cs') (k:∀ S',Ext [b] S S'→Loc X S0 S' L'→wpI P r (E.set d undef) S' KE) (h1:us.all oneCell=true:=by exact rfl) (hn:us.length=n:=by exact rfl) (h0:n≠0:=by decide) (hb:off+n≤cs.length:=by exact of_decide_eq_true rfl):wpI P (⟨d,.store n x y,none,af⟩::r) E S KE:=za (W_store H hx hy hu h1 hn h0 hU hb hc k)
variable {Q Q2:SEx→Env→St→Prop} {a b:SCode} {f:Env→St→Prop} {is:List SI}
theorem zN (h:f E S):wpI P [] E S (SEx.thn f Q .normal):=vf (ze h)
theorem zR (h:wpI P is E S (SEx.thn (fun E' S'=>wpS P b E' S' Q) Q .normal)):wpS P (.seq (.run is) b) E S Q:=zD (zJ h)
theorem vE (h:wpI P is E S (SEx.thn (fun E' S'=>wpS P b E' S' Q) Q .normal)):wpI P [] E S (SEx.thn (fun E' S'=>wpS P (.seq (.run is) b) E' S' Q) Q2 .normal):=vf (ze (zD (zJ h)))
theorem vB {c:SCode} (h:wpI P is E S (SEx.thn (fun E' S'=>wpS P c E' S' (SEx.thn (fun E' S'=>wpS P b E' S' Q) Q)) (SEx.thn (fun E' S'=>wpS P b E' S' Q) Q) .normal)):wpS P (.seq (.seq (.run is) c) b) E S Q:=zD (zD (zJ h))
theorem zCm {is:List SI} {Y:List Nat} {n:Nat} {D:List Nat} {t0:Bool} {p:Prop} (i:Nat) {x:SI} (hx:is[i]? = some x) {D':List Nat} (hD:D.erase i=D') (hl:∀ S',(x.op.isLoad=true→Stays Y S S')→Lt P x E S' (.bool t0))
    (h:∀ t:Bool,(t=true↔p)→wpD P is Y n D' (E.set x.dst (.bool t)) S KE) (hm:mayFirst is n D i=true:=by kernel_rfl) (hp:t0=true↔p:=by first | exact decide_eq_true_iff | exact beq_iff_eq | exact bne_iff_ne | simp):wpD P is Y (n+1) D E S KE:=wpD_cmp i hx hm hD hl hp h
theorem vM {is:List SI} {Y:List Nat} {n:Nat} {D:List Nat} {v:Value} {op:SOp} (i:Nat) (hx:is[i]? = some ⟨d,op,none,af⟩) {D':List Nat} (hD:D.erase i=D') (hl:∀ S' (K:Value→St→Prop),K v S'→op.W P E S' K) (h:wpD P is Y n D' (E.set d v) S KE) (hm:mayFirst is n D i=true:=by kernel_rfl):wpD P is Y (n+1) D E S KE:=wpD_lt i hx hm hD (fun S' _=>zG (hl S')) h
theorem vI {is:List SI} {Y:List Nat} {n:Nat} {D:List Nat} {v:Value} {x:Operand} (i:Nat) (hx:is[i]? = some ⟨d,.mv x,none,af⟩) {D':List Nat} (hD:D.erase i=D') (he:E.ev x=some v) (h:wpD P is Y n D' (E.set d v) S KE) (hm:mayFirst is n D i=true:=by kernel_rfl):wpD P is Y (n+1) D E S KE:=wpD_lt i hx hm hD (fun S' _=>zG fun K hK=>vC he hK) h
theorem zLf {is:List SI} {Y:List Nat} {n:Nat} {D:List Nat} {x:Operand} {o b off:Nat} (i:Nat) (hx:is[i]? = some ⟨d,.fieldAddr o x,none,af⟩) {D':List Nat} (hD:D.erase i=D') (he:E.ev x=some (ptr b off)) (h:wpD P is Y n D' (E.set d (ptr b (off+o))) S KE) (hm:mayFirst is n D i=true:=by kernel_rfl):wpD P is Y (n+1) D E S KE:=wpD_lt i hx hm hD (fun S' _=>zG fun K hK=>zz he hK) h
theorem zLd {is:List SI} {i:Nat} {A B:Prop} (k:B) (h:ldOpen is i=false:=by kernel_rfl):(ldOpen is i=true→A)∧B:=⟨ldNo h,k⟩
theorem zGo {f:FuncId} {fn:Func} {sf:SFn} {args:List Value} {S:St} {K:Value→St→Prop} (hf:P.funcs[f]? = some fn)
    (h:wpS P sf.code (Env.of args) S fun e E S'=>(match e with | .exit _=>False | _=>True)∧∃ vs,resVals E S' sf.res=some vs∧K (resVal vs) S') (hs:slimFn P fn=some sf:=by kernel_rfl) (hn:args.length≤sf.n:=by exact of_decide_eq_true rfl):Calls1 P f args.toArray S K:=calls1_slim hf hs hn h
theorem zP {E:Env} {S:St} {t:Nat} {v:Value} {K:List Value→Prop} (h:E.get t=some v) (k:K [v]):True∧∃ vs,resVals E S [.tmp t]=some vs∧K vs:=⟨trivial,_,zW h zT,k⟩
theorem zGh {f:FuncId} {fn:Func} {sf:SFn} {args:List Value} {S:St} {K:Value→St→Prop} (hf:P.funcs[f]? = some fn)
    (h:Loc [] S S []→wpS P sf.code (Env.of args) S fun e E S'=>(match e with | .exit _=>False | _=>True)∧∃ vs,resVals E S' sf.res=some vs∧K (resVal vs) S') (hs:slimFn P fn=some sf:=by kernel_rfl) (hn:args.length≤sf.n:=by exact of_decide_eq_true rfl):Calls1 P f args.toArray S K:=calls1_slim hf hs hn (h (Loc.start [] S))
theorem zIa {size:Nat} {x i:Operand} {b off n cap:Nat} {kd:IntKind} {j:Int} (hx:E.ev x=some (sl b off n cap)) (hi:E.ev i=some (.int kd j)) (k:wpI P r (E.set d (ptr b (off+j.toNat*size))) S KE) (h0:0≤j:=by omega) (h1:j<n:=by omega):wpI P (⟨d,.idxAddr size x i,none,af⟩::r) E S KE:=za (vl hx hi h0 h1 k)
theorem zSb {x y:Operand} {a b:Int} (hx:E.ev x=some (int a)) (hy:E.ev y=some (int b)) (k:wpI P r (E.set d (int (a-b))) S KE) (h0:-9223372036854775808≤a-b:=by omega) (h1:a-b≤9223372036854775807:=by omega):wpI P (⟨d,.bin .sub x y,none,af⟩::r) E S KE:=za (W_sub hx hy h0 h1 k)
theorem O {α:Sort _} {a:α}:a=a:=rfl
end
theorem Has.h {L:List (Nat × Obj)} {b:Nat} {o:Obj}:Has ((b,o)::L) b o:=.head
theorem Upd.h {L:List (Nat × Obj)} {b:Nat} {o o2:Obj}:Upd ((b,o)::L) b o o2 ((b,o2)::L):=.head
theorem Rem.h {L:List (Nat × Obj)} {b:Nat} {o:Obj}:Rem ((b,o)::L) b o L:=.head
theorem Has.h1 {L:List (Nat × Obj)} {p0:Nat × Obj} {b:Nat} {o:Obj}:Has (p0::(b,o)::L) b o:=.tail .head
theorem Upd.h1 {L:List (Nat × Obj)} {p0:Nat × Obj} {b:Nat} {o o2:Obj}:Upd (p0::(b,o)::L) b o o2 (p0::(b,o2)::L):=.tail .head
theorem Rem.h1 {L:List (Nat × Obj)} {p0:Nat × Obj} {b:Nat} {o:Obj}:Rem (p0::(b,o)::L) b o (p0::L):=.tail .head
theorem Has.h2 {L:List (Nat × Obj)} {p0 p1:Nat × Obj} {b:Nat} {o:Obj}:Has (p0::p1::(b,o)::L) b o:=.tail (.tail .head)
theorem Upd.h2 {L:List (Nat × Obj)} {p0 p1:Nat × Obj} {b:Nat} {o o2:Obj}:Upd (p0::p1::(b,o)::L) b o o2 (p0::p1::(b,o2)::L):=.tail (.tail .head)
theorem Rem.h2 {L:List (Nat × Obj)} {p0 p1:Nat × Obj} {b:Nat} {o:Obj}:Rem (p0::p1::(b,o)::L) b o (p0::p1::L):=.tail (.tail .head)
theorem Has.h3 {L:List (Nat × Obj)} {p0 p1 p2:Nat × Obj} {b:Nat} {o:Obj}:Has (p0::p1::p2::(b,o)::L) b o:=.tail (.tail (.tail .head))
theorem Upd.h3 {L:List (Nat × Obj)} {p0 p1 p2:Nat × Obj} {b:Nat} {o o2:Obj}:Upd (p0::p1::p2::(b,o)::L) b o o2 (p0::p1::p2::(b,o2)::L):=.tail (.tail (.tail .head))
theorem Rem.h3 {L:List (Nat × Obj)} {p0 p1 p2:Nat × Obj} {b:Nat} {o:Obj}:Rem (p0::p1::p2::(b,o)::L) b o (p0::p1::p2::L):=.tail (.tail (.tail .head))
theorem Has.h4 {L:List (Nat × Obj)} {p0 p1 p2 p3:Nat × Obj} {b:Nat} {o:Obj}:Has (p0::p1::p2::p3::(b,o)::L) b o:=.tail (.tail (.tail (.tail .head)))
theorem Upd.h4 {L:List (Nat × Obj)} {p0 p1 p2 p3:Nat × Obj} {b:Nat} {o o2:Obj}:Upd (p0::p1::p2::p3::(b,o)::L) b o o2 (p0::p1::p2::p3::(b,o2)::L):=.tail (.tail (.tail (.tail .head)))
theorem Rem.h4 {L:List (Nat × Obj)} {p0 p1 p2 p3:Nat × Obj} {b:Nat} {o:Obj}:Rem (p0::p1::p2::p3::(b,o)::L) b o (p0::p1::p2::p3::L):=.tail (.tail (.tail (.tail .head)))
theorem Has.h5 {L:List (Nat × Obj)} {p0 p1 p2 p3 p4:Nat × Obj} {b:Nat} {o:Obj}:Has (p0::p1::p2::p3::p4::(b,o)::L) b o:=.tail (.tail (.tail (.tail (.tail .head))))
theorem Upd.h5 {L:List (Nat × Obj)} {p0 p1 p2 p3 p4:Nat × Obj} {b:Nat} {o o2:Obj}:Upd (p0::p1::p2::p3::p4::(b,o)::L) b o o2 (p0::p1::p2::p3::p4::(b,o2)::L):=.tail (.tail (.tail (.tail (.tail .head))))
theorem Rem.h5 {L:List (Nat × Obj)} {p0 p1 p2 p3 p4:Nat × Obj} {b:Nat} {o:Obj}:Rem (p0::p1::p2::p3::p4::(b,o)::L) b o (p0::p1::p2::p3::p4::L):=.tail (.tail (.tail (.tail (.tail .head))))
theorem Has.h6 {L:List (Nat × Obj)} {p0 p1 p2 p3 p4 p5:Nat × Obj} {b:Nat} {o:Obj}:Has (p0::p1::p2::p3::p4::p5::(b,o)::L) b o:=.tail (.tail (.tail (.tail (.tail (.tail .head)))))
theorem Upd.h6 {L:List (Nat × Obj)} {p0 p1 p2 p3 p4 p5:Nat × Obj} {b:Nat} {o o2:Obj}:Upd (p0::p1::p2::p3::p4::p5::(b,o)::L) b o o2 (p0::p1::p2::p3::p4::p5::(b,o2)::L):=.tail (.tail (.tail (.tail (.tail (.tail .head)))))
theorem Rem.h6 {L:List (Nat × Obj)} {p0 p1 p2 p3 p4 p5:Nat × Obj} {b:Nat} {o:Obj}:Rem (p0::p1::p2::p3::p4::p5::(b,o)::L) b o (p0::p1::p2::p3::p4::p5::L):=.tail (.tail (.tail (.tail (.tail (.tail .head)))))
theorem Has.h7 {L:List (Nat × Obj)} {p0 p1 p2 p3 p4 p5 p6:Nat × Obj} {b:Nat} {o:Obj}:Has (p0::p1::p2::p3::p4::p5::p6::(b,o)::L) b o:=.tail (.tail (.tail (.tail (.tail (.tail (.tail .head))))))
theorem Upd.h7 {L:List (Nat × Obj)} {p0 p1 p2 p3 p4 p5 p6:Nat × Obj} {b:Nat} {o o2:Obj}:Upd (p0::p1::p2::p3::p4::p5::p6::(b,o)::L) b o o2 (p0::p1::p2::p3::p4::p5::p6::(b,o2)::L):=.tail (.tail (.tail (.tail (.tail (.tail (.tail .head))))))
theorem Rem.h7 {L:List (Nat × Obj)} {p0 p1 p2 p3 p4 p5 p6:Nat × Obj} {b:Nat} {o:Obj}:Rem (p0::p1::p2::p3::p4::p5::p6::(b,o)::L) b o (p0::p1::p2::p3::p4::p5::p6::L):=.tail (.tail (.tail (.tail (.tail (.tail (.tail .head))))))
theorem Has.h8 {L:List (Nat × Obj)} {p0 p1 p2 p3 p4 p5 p6 p7:Nat × Obj} {b:Nat} {o:Obj}:Has (p0::p1::p2::p3::p4::p5::p6::p7::(b,o)::L) b o:=.tail (.tail (.tail (.tail (.tail (.tail (.tail (.tail .head)))))))
theorem Upd.h8 {L:List (Nat × Obj)} {p0 p1 p2 p3 p4 p5 p6 p7:Nat × Obj} {b:Nat} {o o2:Obj}:Upd (p0::p1::p2::p3::p4::p5::p6::p7::(b,o)::L) b o o2 (p0::p1::p2::p3::p4::p5::p6::p7::(b,o2)::L):=.tail (.tail (.tail (.tail (.tail (.tail (.tail (.tail .head)))))))
theorem Rem.h8 {L:List (Nat × Obj)} {p0 p1 p2 p3 p4 p5 p6 p7:Nat × Obj} {b:Nat} {o:Obj}:Rem (p0::p1::p2::p3::p4::p5::p6::p7::(b,o)::L) b o (p0::p1::p2::p3::p4::p5::p6::p7::L):=.tail (.tail (.tail (.tail (.tail (.tail (.tail (.tail .head)))))))
@[reducible] def zm (d x:Nat):SI:=i_ d (.mv (.tmp x))
@[reducible] def zf (d k x:Nat):SI:=i_ d (.fieldAddr k (.tmp x))
@[reducible] def zl (d k x:Nat):SI:=i_ d (.loadN k (.tmp x))
@[reducible] def zo (d x:Nat):SI:=i_ d (.load1 (.tmp x))
@[reducible] def zx (d x k:Nat):SI:=i_ d (.extract (.tmp x) k)
@[reducible] def zs (n x y:Nat):SI:=n_ (.store n (.tmp x) (.tmp y))
@[reducible] def zc (d:Nat) (v:Value):SI:=i_ d (.mv (.const v))
@[reducible] def zp (d x y:Nat):SI:=i_ d (.pick (.tmp x) (.tmp y) (.const (.bool false)))
@[reducible] def zq (d x y:Nat):SI:=i_ d (.pick (.tmp x) (.const (.bool true)) (.tmp y))
@[reducible] def zb (d:Nat) (op:BinOp) (x y:Nat):SI:=i_ d (.bin op (.tmp x) (.tmp y))
@[reducible] def zk (d:Nat) (op:BinOp) (x:Nat) (n:Int):SI:=i_ d (.bin op (.tmp x) (.const (int n)))
@[reducible] def zd (d:Nat) (op:SOp) (af:List Nat):SI:=⟨some d,op,none,af⟩
@[reducible] def zg (d g:Nat) (b:Bool) (op:SOp) (af:List Nat):SI:=⟨some d,op,some (some g,b),af⟩
instance (n:Nat):OfNat Operand n:=⟨.tmp n⟩
abbrev zI:=List SI
abbrev zB3:Value:=.agg #[.slice none 0 0,.slice none 0 0,.slice none 0 0]
abbrev zS7:Value:=.agg #[int 0,int 0,int 0,int 0,int 0,int 0,str []]
abbrev zE2:Value:=.agg #[int 0,int 0]
abbrev zC (f:FuncId) (vs:Array Value) (S:St) (K:Value→St→Prop):Prop:=Calls1 Tryz.prog f vs S K
@[reducible] def zQ (r:List SI) (c:SCode):SCode:=.seq (.run r) c
end
section
abbrev Bs:=List UInt8
def LineB (c:UInt8):Prop:=(97≤c.toNat∧c.toNat≤122)∨(48≤c.toNat∧c.toNat≤57)∨c.toNat=32
def LinP (l:Bs):Prop:=(∀ c∈l,LineB c)∧l.length≤16
def spl (s:UInt8):Bs→List Bs × Bs
 | []=>([],[])
 | c::r=>if c=s then ([]::(spl s r).1,(spl s r).2) else match spl s r with
  | ([],rest)=>([],c::rest)
  | (l::ls,rest)=>((c::l)::ls,rest)
abbrev zu (l:Bs):List Bs × Bs:=spl 59 l
def StrP (l:Bs):Prop:=(∀ x∈(zu l).1,LinP x)∧LinP (zu l).2∧l.length≤120
theorem spl_snoc (s:UInt8) (l:Bs) (c:UInt8):spl s (l++[c])=if c=s then ((spl s l).1++[(spl s l).2],[]) else ((spl s l).1,(spl s l).2++[c]):=by
 induction l with
 | nil=>simp only [List.nil_append,spl]
 | cons x l ih=>
  simp only [List.cons_append,spl,ih]
  by_cases hx:x=s
  ·simp only [hx,if_true];split<;>rfl
  ·simp only [hx,if_false]
   by_cases hc:c=s
   ·simp only [hc,if_true]
    rcases spl s l with ⟨ls,r⟩
    cases ls<;>rfl
   ·simp only [hc,if_false]
    rcases spl s l with ⟨ls,r⟩
    cases ls<;>rfl
theorem strLines_snoc (l:Bs) (c:UInt8):zu (l++[c])=if c=59 then ((zu l).1++[(zu l).2],[]) else ((zu l).1,(zu l).2++[c]):=spl_snoc 59 l c
theorem spl_len (s:UInt8) (l:Bs):(spl s l).1.length≤l.length:=by
 induction l with
 | nil=>simp [spl]
 | cons x l ih=>
  simp only [spl]
  split
  ·simp;omega
  ·split<;>rename_i h<;>rw [h] at ih<;>simp at ih ⊢;omega
theorem spl_rest_len (s:UInt8) (l:Bs):(spl s l).2.length≤l.length:=by
 induction l with
 | nil=>simp [spl]
 | cons x l ih=>
  simp only [spl]
  split
  ·simp;omega
  ·split<;>rename_i h<;>rw [h] at ih<;>simp at ih ⊢ <;> omega
theorem strLines_len (l:Bs):(zu l).1.length≤l.length:=spl_len 59 l
def words (l:Bs):List Bs:=(spl 32 l).1++[(spl 32 l).2]
@[reducible] def strRows (ls:List Bs):List (List Value):=ls.map fun x=>[str x]
theorem strRows_flat (ls:List Bs):(strRows ls).flatten=ls.map str:=by
 induction ls with
 | nil=>rfl
 | cons x ls ih=>simp only [List.map_cons,List.flatten_cons];rw [show (ls.map fun x=>[str x]).flatten=ls.map str from ih];rfl
theorem strRows_one {ls:List Bs}:∀ r∈strRows ls,r.length=1:=by
 intro r hr
 obtain ⟨x,_,rfl⟩:=List.mem_map.1 hr
 rfl
def dg (k:Nat):UInt8:=UInt8.ofNat (48+k)
theorem dg_nat {k:Nat} (h:k<10):(dg k).toNat=48+k:=by
 unfold dg;simp [UInt8.toNat_ofNat'];omega
def dig (n:Nat):Bs:=if n<10 then [dg n] else dig (n / 10)++[dg (n % 10)]
termination_by n
theorem dig_lt {n:Nat} (h:n<10):dig n=[dg n]:=by unfold dig;rw [if_pos h]
theorem dig_ge {n:Nat} (h:¬ n<10):dig n=dig (n / 10)++[dg (n % 10)]:=by rw [dig,if_neg h]
theorem dig_pos (n:Nat):0<(dig n).length:=by
 by_cases h:n<10
 ·rw [dig_lt h];simp
 ·rw [dig_ge h];simp
theorem dig_mem {n:Nat} {c:UInt8} (h:c∈dig n):48≤c.toNat∧c.toNat≤57:=by
 induction n using Nat.strongRecOn with
 | _ n ih=>
  by_cases h1:n<10
  ·rw [dig_lt h1] at h
   simp at h;subst h
   rw [dg_nat h1];omega
  ·rw [dig_ge h1] at h
   rcases List.mem_append.1 h with h | h
   ·exact ih (n / 10) (by omega) h
   ·simp at h;subst h
    rw [dg_nat (by omega)];omega
theorem dig_le4 {n:Nat} (h:n≤9999):(dig n).length≤4:=by
 have e:∀ k m,m<10 ^ (k+1)→(dig m).length≤k+1:=by
  intro k
  induction k with
  | zero=>intro m hm;rw [dig_lt (by omega)];simp
  | succ k ih=>
   intro m hm
   by_cases h1:m<10
   ·rw [dig_lt h1];simp
   ·rw [dig_ge h1]
    have:=ih (m / 10) (by rw [Nat.pow_succ] at hm;omega)
    simp;omega
 exact e 3 n (by omega)
def vD (l:Bs):Nat:=l.foldl (fun n c=>n*10+(c.toNat-48)) 0
theorem vD_snoc (l:Bs) (c:UInt8):vD (l++[c])=vD l*10+(c.toNat-48):=by simp [vD]
theorem vD_dig (n:Nat):vD (dig n)=n:=by
 induction n using Nat.strongRecOn with
 | _ n ih=>
  by_cases h:n<10
  ·rw [dig_lt h];simp only [vD,List.foldl_cons,List.foldl_nil];rw [dg_nat h];omega
  ·rw [dig_ge h,vD_snoc,ih (n / 10) (by omega),dg_nat (by omega)];omega
def NumP (l:Bs) (r:Int):Prop:=(∃ n:Nat,n≤9999∧l=dig n∧r=n)∨((∀ n:Nat,n≤9999→l≠dig n)∧r=-1)
def InE (a p:Int):Prop:=(1≤a∧a≤9)∧(1≤p∧p≤999)
def OutE (a p:Int):Prop:=(100≤a∧a≤109)∧(1≤p∧p≤999)
def OkE (a p:Int):Prop:=((1≤a∧a≤9)∨(100≤a∧a≤109)∨a=50)∧(1≤p∧p≤999)
instance (a p:Int):Decidable (InE a p):=by unfold InE;exact inferInstance
instance (a p:Int):Decidable (OutE a p):=by unfold OutE;exact inferInstance
instance (a p:Int):Decidable (OkE a p):=by unfold OkE;exact inferInstance
def eTxt (a p:Int):Bs:=dig a.toNat++[32]++dig p.toNat
def eText (a p:Int):Bs:=if OkE a p then eTxt a p else []
theorem vA {α:Type} {l:List α} {i:Nat} {c:α} (h:l[i]? = some c):l.take (i+1)=l.take i++[c]:=by
 rw [List.take_add_one,h];rfl
theorem mem_take_succ {α:Type} {l:List α} {i:Nat} {c:α} (h:l[i]? = some c) {p:α→Prop} (hp:∀ x∈l.take i,p x) (hc:p c):∀ x∈l.take (i+1),p x:=by
 rw [vA h]
 intro x hx
 rcases List.mem_append.1 hx with hx | hx
 ·exact hp x hx
 ·simp at hx;subst hx;exact hc
end
section
theorem spl_join (s:UInt8) (l:Bs):l=((spl s l).1.map (·++[s])).flatten++(spl s l).2:=by
 induction l with
 | nil=>rfl
 | cons c l ih=>
  simp only [spl]
  split
  ·rename_i h;subst h;simpa using ih
  ·split<;>rename_i h<;>rw [h] at ih<;>simp at ih ⊢ <;> exact ih
theorem spl_nomem {s:UInt8} {x:Bs} (h:s∉x):spl s x=([],x):=by
 induction x with
 | nil=>rfl
 | cons c x ih=>
  simp only [List.mem_cons,not_or] at h
  simp only [spl,if_neg (Ne.symm h.1),ih h.2]
theorem spl_cons {s:UInt8} {x:Bs} (h:s∉x) (y:Bs):spl s (x++s::y)=(x::(spl s y).1,(spl s y).2):=by
 induction x with
 | nil=>simp [spl]
 | cons c x ih=>
  simp only [List.mem_cons,not_or] at h
  simp only [List.cons_append,spl,if_neg (Ne.symm h.1),ih h.2]
theorem spl_clean (s:UInt8) (l:Bs):(∀ x∈(spl s l).1,s∉x)∧s∉(spl s l).2:=by
 induction l with
 | nil=>simp [spl]
 | cons c l ih=>
  simp only [spl]
  split
  ·exact ⟨by simpa using ih.1,ih.2⟩
  ·rename_i hc
   split<;>rename_i h<;>rw [h] at ih
   ·exact ⟨by simp,by simp;exact ⟨Ne.symm hc,ih.2⟩⟩
   ·refine ⟨?_,ih.2⟩
    intro x hx
    simp only [List.mem_cons] at hx
    rcases hx with rfl | hx
    ·simp only [List.mem_cons,not_or]
     exact ⟨Ne.symm hc,ih.1 _ (by simp)⟩
    ·exact ih.1 x (by simp [hx])
theorem dig_no32 (n:Nat):(32:UInt8)∉dig n:=by
 intro h
 have h1:=(dig_mem h).1
 have:(32:UInt8).toNat=32:=rfl
 omega
theorem words_eTxt (a p:Int):words (eTxt a p)=[dig a.toNat,dig p.toNat]:=by
 unfold words eTxt
 rw [List.append_assoc,List.singleton_append,spl_cons (dig_no32 _),spl_nomem (dig_no32 _)]
 rfl
theorem words_two {l w0 w1:Bs} (h:words l=[w0,w1]):l=w0++[32]++w1:=by
 have hj:=spl_join 32 l
 unfold words at h
 rcases hs:spl 32 l with ⟨ls,r⟩
 rw [hs] at h hj
 simp only at h hj
 match ls,h with
 | [x],h=>simp at h;obtain ⟨rfl,rfl⟩:=h;simpa using hj
 | [],h=>simp at h
 | _::_::_,h=>simp at h
def RdE (l:Bs) (a p:Int):Prop:=OkE a p∧l=eTxt a p
theorem dig_inj {n m:Nat} (h:dig n=dig m):n=m:=by rw [← vD_dig n,h,vD_dig]
theorem RdE.words {l:Bs} {a p:Int} (h:RdE l a p):words l=[dig a.toNat,dig p.toNat]:=by rw [h.2,words_eTxt]
theorem RdE.uniq {l:Bs} {a p a' p':Int} (h:RdE l a p) (h':RdE l a' p'):a=a'∧p=p':=by
 have h1:=h.words
 rw [h'.words] at h1
 simp only [List.cons.injEq,and_true] at h1
 have h2:=h.1;have h3:=h'.1
 unfold OkE at h2 h3
 have e1:=dig_inj h1.1;have e2:=dig_inj h1.2
 omega
theorem NumP.uniq {l:Bs} {r:Int} {n:Nat} (h:NumP l r) (hl:l=dig n) (hn:n≤9999):r=n:=by
 rcases h with ⟨m,_,hm,hr⟩ | ⟨hm,_⟩
 ·rw [hl] at hm;rw [hr,dig_inj hm]
 ·exact absurd hl (hm n hn)
theorem rd_of_num {l w0 w1:Bs} {r0 r1:Int} (hw:words l=[w0,w1]) (h0:NumP w0 r0) (h1:NumP w1 r1) (hok:OkE r0 r1):RdE l r0 r1:=by
 refine ⟨hok,?_⟩
 rw [words_two hw]
 unfold OkE at hok
 rcases h0 with ⟨n,_,rfl,rfl⟩ | ⟨_,h⟩
 ·rcases h1 with ⟨m,_,rfl,rfl⟩ | ⟨_,h⟩
  ·unfold eTxt;simp
  ·omega
 ·omega
theorem not_rd_of_num {l w0 w1:Bs} {r0 r1:Int} (hw:words l=[w0,w1]) (h0:NumP w0 r0) (h1:NumP w1 r1) (hok:¬ OkE r0 r1) (a p:Int):¬ RdE l a p:=by
 intro h
 have hw':=h.words
 rw [hw] at hw'
 simp only [List.cons.injEq,and_true] at hw'
 have ho:=h.1
 have ho':=h.1
 unfold OkE at ho'
 have e0:=h0.uniq hw'.1 (by omega)
 have e1:=h1.uniq hw'.2 (by omega)
 rw [show r0=a by omega,show r1=p by omega] at hok
 exact hok ho
theorem not_rd_of_len {l:Bs} (hw:(words l).length≠2) (a p:Int):¬ RdE l a p:=by
 intro h;rw [h.words] at hw;exact hw rfl
theorem len2 {α:Type} {l:List α} (h:l.length=2):∃ x y,l=[x,y]:=by
 match l,h with
 | [x,y],_=>exact ⟨x,y,rfl⟩
end
section
def s71:SFn:=⟨5,(zQ [zc 2 (str [])] (zQ [zm 3 0,i_ 4 (.call 159 [3]),zm 2 4] .ret)),[.tmp 2]⟩
def r95_4:zI:=[zm 16 0,zm 17 1,i_ 18 (.strIdx 17 (.const (int 0))),i_ 19 (.raw (.call ⟨.value (.func 177),#[16,18],#[9,5]⟩) 3),zm 4 19]
def r95_10:zI:=[zm 28 0,zm 29 6,zm 30 1,i_ 31 (.lenS 30),zb 32 .add 29 31,i_ 33 (.sliceS 28 (some 32) none),zm 0 33]
def s95:SFn:=⟨34,(zQ [zc 4 (int 0)] (.seq (zQ [zm 7 1,i_ 8 (.lenS 7),zk 9 .eql 8 0] (.cond 9 (zQ [zm 10 0,i_ 11 (.call 176 [10]),zk 12 .add 11 1,zm 4 12] .ret) .skip)) (.seq (zQ [zm 13 1,i_ 14 (.lenS 13),zk 15 .eql 14 1] (.cond 15 (zQ r95_4 .ret) .skip)) (zQ [zc 5 (int 0)] (.block 0 (.loop (.block 1 (zQ [zm 20 0,zm 21 1,i_ 22 (.call 178 [20,21]),zm 6 22] (.seq (zQ [zm 23 6,i_ 24 (.bin .eql 23 (.const (int (-1))))] (.cond 24 (zQ [zm 25 5,zm 4 25] .ret) .skip)) (zQ [zm 26 5,zk 27 .add 26 1,zm 5 27] (.run r95_10))))))))))),[.tmp 4]⟩
def r97_5:zI:=[zm 16 0,zm 17 1,i_ 18 (.strIdx 17 (.const (int 0))),i_ 19 (.call 181 [16,18]),zm 4 19]
def s97:SFn:=⟨36,(zQ [zc 4 (int 0)] (zQ [zm 6 1,i_ 7 (.lenS 6),zm 5 7] (.seq (.block 0 (zQ [zm 9 5,zk 10 .eql 9 0,zm 8 10] (.cond 8 (zQ [zm 11 0,i_ 12 (.lenS 11),zm 4 12] .ret) (zQ [zm 14 5,zk 15 .eql 14 1,zm 13 15] (.cond 13 (zQ r97_5 .ret) (zQ [zm 21 5,zm 22 0,i_ 23 (.lenS 22),zb 24 .eql 21 23,zm 20 24] (.cond 20 (.seq (zQ [zm 25 1,zm 26 0,zb 27 .eql 25 26] (.cond 27 (zQ [zc 4 (int 0)] .ret) .skip)) (zQ [zc 4 (int (-1))] .ret)) (zQ [zm 29 5,zm 30 0,i_ 31 (.lenS 30),zb 32 .gtr 29 31,zm 28 32] (.cond 28 (zQ [zc 4 (int (-1))] .ret) .skip))))))))) (zQ [zm 33 0,zm 34 1,i_ 35 (.call 182 [33,34]),zm 4 35] .ret)))),[.tmp 4]⟩
def r129_1:zI:=[zm 3 0,zm 4 0,i_ 5 (.lenL 4),zm 6 0,i_ 7 (.lenL 6),i_ 8 (.sliceL 7 3 none (some 5) (some 7)),zm 2 8]
def s129:SFn:=⟨9,(zQ [zc 2 (.slice none 0 0)] (zQ r129_1 .ret)),[.tmp 2]⟩
def r135_1:zI:=[zm 3 0,zm 4 0,i_ 5 (.lenL 4),zm 6 0,i_ 7 (.lenL 6),i_ 8 (.sliceL 7 3 none (some 5) (some 7)),zm 2 8]
def s135:SFn:=⟨9,(zQ [zc 2 (.slice none 0 0)] (zQ r135_1 .ret)),[.tmp 2]⟩
def s142:SFn:=⟨9,(zQ [zc 4 (.bool false)] (zQ [zm 5 0,zm 6 1,i_ 7 (.call 209 [5,6]),zk 8 .geq 7 0,zm 4 8] .ret)),[.tmp 4]⟩
def s145:SFn:=⟨9,(zQ [i_ 3 (.box 31 1),zc 4 (.bool false)] (zQ [zm 5 0,zl 6 2 3,i_ 7 (.call 210 [5,6]),zk 8 .geq 7 0,zm 4 8] .ret)),[.tmp 4]⟩
def r150_4:zI:=[zm 11 1,zm 12 0,zm 13 5,i_ 14 (.idxAddr 7 12 13),zl 15 7 14,i_ 16 (.callv 11 [15])]
def s150:SFn:=⟨19,(zQ [zc 4 (int 0)] (.seq (zQ [zm 6 0,i_ 7 (.lenL 6),zc 8 (int 0)] (.block 0 (.loop (zQ [zb 9 .lss 8 7] (.seq (.cond 9 .skip (.exit 0)) (.seq (.block 1 (zQ [zm 10 8,zm 5 10] (zQ r150_4 (.cond 16 (zQ [zm 17 5,zm 4 17] .ret) .skip)))) (.run [zk 18 .add 8 1,zm 8 18]))))))) (zQ [zc 4 (int (-1))] .ret))),[.tmp 4]⟩
def r152_1:zI:=[zm 3 0,zm 4 0,i_ 5 (.lenL 4),zm 6 0,i_ 7 (.lenL 6),i_ 8 (.sliceL 7 3 none (some 5) (some 7)),zm 2 8]
def s152:SFn:=⟨9,(zQ [zc 2 (.slice none 0 0)] (zQ r152_1 .ret)),[.tmp 2]⟩
def r153_3:zI:=[i_ 5 (.buildSlice 162 7 0 #[] []),zm 6 0,i_ 7 (.append 162 7 56 (.agg #[.bool false,int 0,int 0,int 0,int 0,int 0,int 0]) 5 6),zm 2 7]
def s153:SFn:=⟨8,(zQ [zc 2 (.slice none 0 0)] (.seq (zQ [zm 3 0,i_ 4 (.eqv false 23 3 (.const (.slice none 0 0)))] (.cond 4 (zQ [zc 2 (.slice none 0 0)] .ret) .skip)) (zQ r153_3 .ret))),[.tmp 2]⟩
def r155_3:zI:=[i_ 5 (.buildSlice 49 7 0 #[] []),zm 6 0,i_ 7 (.append 49 7 80 (.agg #[int 0,int 0,int 0,int 0,str [],str [],str []]) 5 6),zm 2 7]
def s155:SFn:=⟨8,(zQ [zc 2 (.slice none 0 0)] (.seq (zQ [zm 3 0,i_ 4 (.eqv false 27 3 (.const (.slice none 0 0)))] (.cond 4 (zQ [zc 2 (.slice none 0 0)] .ret) .skip)) (zQ r155_3 .ret))),[.tmp 2]⟩
def r158_1:zI:=[zm 3 0,zm 4 0,i_ 5 (.lenL 4),zm 6 0,i_ 7 (.lenL 6),i_ 8 (.sliceL 2 3 none (some 5) (some 7)),zm 2 8]
def s158:SFn:=⟨9,(zQ [zc 2 (.slice none 0 0)] (zQ r158_1 .ret)),[.tmp 2]⟩
def r159_4:zI:=[zm 10 3,zm 11 0,i_ 12 (.raw (.call ⟨.builtin .copy,#[10,11],#[22,9]⟩) 3)]
def r159_5:zI:=[zm 13 3,i_ 14 (.idxAddr 1 13 (.const (int 0))),zm 15 3,i_ 16 (.lenL 15),i_ 17 (.raw (.call ⟨.builtin .unsafeString,#[14,16],#[223,3]⟩) 9),zm 2 17]
def s159:SFn:=⟨18,(zQ [zc 2 (str [])] (.seq (zQ [zm 4 0,i_ 5 (.lenS 4),zk 6 .eql 5 0] (.cond 6 (zQ [zc 2 (str [])] .ret) .skip)) (zQ [zm 7 0,i_ 8 (.lenS 7),i_ 9 (.mkSlice 5 1 1 (.int .u8 0) 8 8),zm 3 9] (zQ r159_4 (zQ r159_5 .ret))))),[.tmp 2]⟩
def s171:SFn:=⟨4,(zQ [i_ 1 (.box 23 0),i_ 2 (.mv (.const .nilFunc))] (zQ [i_ 3 (.mkFunc (.func 214) [] [1]),zm 2 3] .ret)),[.tmp 2]⟩
def r180_1:zI:=[zm 7 0,zm 8 1,i_ 9 (.call 218 [7,8]),zx 10 9 0,zx 11 9 1,zx 12 9 2,zm 4 10,zm 5 11,zm 6 12]
def s180:SFn:=⟨13,(zQ [zc 4 (str []),zc 5 (str []),zc 6 (.bool false)] (zQ r180_1 .ret)),[.tmp 4,.tmp 5,.tmp 6]⟩
def s181:SFn:=⟨19,(zQ [zc 4 (int 0)] (.seq (zQ [zm 6 0,i_ 7 (.lenS 6),zk 8 .sub 7 1,zm 5 8] (.block 0 (.loop (.seq (zQ [zm 9 5,zk 10 .geq 9 0] (.cond 10 .skip (.exit 0))) (.seq (.block 1 (zQ [zm 13 0,zm 14 5,i_ 15 (.strIdx 13 14),zm 16 1,zb 17 .eql 15 16] (.cond 17 (zQ [zm 18 5,zm 4 18] .ret) .skip))) (.run [zm 11 5,zk 12 .sub 11 1,zm 5 12])))))) (zQ [zc 4 (int (-1))] .ret))),[.tmp 4]⟩
def r185_3:zI:=[zm 12 5,zm 13 6,zb 14 .add 12 13,i_ 15 (.conv .u64 14),i_ 16 (.raw (.binOp .shr 229 15 (.const (.int .u64 1)) 229) 229),i_ 17 (.conv .i64 16),zm 7 17]
def s185:SFn:=⟨26,(zQ [zc 4 (int 0)] (zQ [zm 8 0,zc 5 (int 0),zm 6 8] (.seq (.block 0 (.loop (.seq (zQ [zm 9 5,zm 10 6,zb 11 .lss 9 10] (.cond 11 .skip (.exit 0))) (.block 1 (zQ r185_3 (zQ [zm 18 1,zm 19 7,i_ 20 (.callv 18 [19]),i_ 21 (.not 20)] (.cond 21 (.run [zm 22 7,zk 23 .add 22 1,zm 5 23]) (.run [zm 24 7,zm 6 24])))))))) (zQ [zm 25 5,zm 4 25] .ret)))),[.tmp 4]⟩
def r204_2:zI:=[zm 8 0,zm 9 0,i_ 10 (.nilchk 9),zf 11 1 10,zo 12 11,zm 13 1,i_ 14 (.append 5 1 1 (.int .u8 0) 12 13),i_ 15 (.nilchk 8),zf 16 1 15,zs 1 16 14]
def s204:SFn:=⟨19,(zQ [zc 4 (int 0),i_ 5 (.mv (.const .nilIface))] (zQ [zm 6 0,i_ 7 (.call 223 [6])] (zQ r204_2 (zQ [zm 17 1,i_ 18 (.lenS 17),zm 4 18,i_ 5 (.mv (.const .nilIface))] .ret)))),[.tmp 4,.tmp 5]⟩
def r205_1:zI:=[zm 3 0,zd 4 (.nilchk 3) [0],zd 5 (.fieldAddr 1 4) [1],zd 6 (.load1 5) [2],zd 7 (.raw (.call ⟨.builtin .unsafeSliceData,#[6],#[22]⟩) 223) [3],zm 8 0,zd 9 (.nilchk 8) [5],zd 10 (.fieldAddr 1 9) [6],zd 11 (.load1 10) [7],zd 12 (.lenL 11) [8],zd 13 (.raw (.call ⟨.builtin .unsafeString,#[7,12],#[223,3]⟩) 9) [4,9],zd 2 (.mv 13) [10,0,1,2,3,4,5,6,7,8,9,10]]
def s205:SFn:=⟨14,(zQ [zc 2 (str [])] (.seq (.draw r205_1) .ret)),[.tmp 2]⟩
def r209_4:zI:=[zm 11 1,zm 12 0,zm 13 5,i_ 14 (.idxAddr 7 12 13),zl 15 7 14,i_ 16 (.callv 11 [15])]
def s209:SFn:=⟨19,(zQ [zc 4 (int 0)] (.seq (zQ [zm 6 0,i_ 7 (.lenL 6),zc 8 (int 0)] (.block 0 (.loop (zQ [zb 9 .lss 8 7] (.seq (.cond 9 .skip (.exit 0)) (.seq (.block 1 (zQ [zm 10 8,zm 5 10] (zQ r209_4 (.cond 16 (zQ [zm 17 5,zm 4 17] .ret) .skip)))) (.run [zk 18 .add 8 1,zm 8 18]))))))) (zQ [zc 4 (int (-1))] .ret))),[.tmp 4]⟩
def r210_4:zI:=[zl 11 2 3,zm 12 0,zm 13 5,zd 14 (.idxAddr 2 12 13) [1,2],zd 15 (.loadN 2 14) [3],zd 16 (.eqv false 31 11 15) [0,4]]
def s210:SFn:=⟨19,(zQ [i_ 3 (.box 31 1),zc 4 (int 0)] (.seq (zQ [zm 6 0,i_ 7 (.lenL 6),zc 8 (int 0)] (.block 0 (.loop (zQ [zb 9 .lss 8 7] (.seq (.cond 9 .skip (.exit 0)) (.seq (.block 1 (zQ [zm 10 8,zm 5 10] (.seq (.draw r210_4) (.cond 16 (zQ [zm 17 5,zm 4 17] .ret) .skip)))) (.run [zk 18 .add 8 1,zm 8 18]))))))) (zQ [zc 4 (int (-1))] .ret))),[.tmp 4]⟩
def r212_3:zI:=[i_ 5 (.buildSlice 31 2 0 #[] []),zm 6 0,i_ 7 (.append 31 2 16 zE2 5 6),zm 2 7]
def s212:SFn:=⟨8,(zQ [zc 2 (.slice none 0 0)] (.seq (zQ [zm 3 0,i_ 4 (.eqv false 24 3 (.const (.slice none 0 0)))] (.cond 4 (zQ [zc 2 (.slice none 0 0)] .ret) .skip)) (zQ r212_3 .ret))),[.tmp 2]⟩
def r214_2:zI:=[zm 11 0,zm 12 3,zo 13 1,zm 14 3,i_ 15 (.idxAddr 7 13 14),zl 16 7 15,i_ 17 (.callv 11 [12,16]),i_ 18 (.not 17)]
def c214:SCode:=(zQ [zo 4 1,i_ 5 (.lenL 4),zk 6 .sub 5 1,zm 3 6] (.block 0 (.loop (.seq (zQ [zm 7 3,zk 8 .geq 7 0] (.cond 8 .skip (.exit 0))) (.seq (.block 1 (zQ r214_2 (.cond 18 .ret .skip))) (.run [zm 9 3,zk 10 .sub 9 1,zm 3 10]))))))
def s214:SFn:=⟨19,c214,[]⟩
theorem k214:slimFn Tryz.prog Tryz.f214=some s214:=by kernel_rfl
def r217_2:zI:=[zm 17 5,zk 18 .eql 17 0,zm 19 18,g_ 20 19 false (.mv 1),g_ 21 19 false (.mv 0),g_ 22 19 false (.bin .eql 20 21),zq 23 19 22,zm 16 23]
def r217_5:zI:=[zm 27 0,zm 28 1,i_ 29 (.strIdx 28 (.const (int 0))),i_ 30 (.call 227 [27,29]),zm 4 30]
def r217_8:zI:=[zm 37 5,i_ 38 (.load1 (.global 0)),zb 39 .leq 37 38,zm 40 39,g_ 41 40 true (.mv 0),g_ 42 40 true (.lenS 41),g_ 43 40 true (.bin .leq 42 (.const (int 64))),zp 44 40 43,zm 36 44]
def r217_9:zI:=[zm 45 0,zm 46 1,i_ 47 (.raw (.call ⟨.value (.func 228),#[45,46],#[9,9]⟩) 3),zm 4 47]
def r217_13:zI:=[zm 52 0,i_ 53 (.lenS 52),zm 54 5,zb 55 .sub 53 54,zk 56 .add 55 1,zm 9 56]
def r217_17:zI:=[zm 65 0,zm 66 8,zk 67 .add 66 1,zm 68 9,i_ 69 (.sliceS 65 (some 67) (some 68)),zm 70 6,i_ 71 (.call 227 [69,70]),zm 11 71]
def r217_21:zI:=[zm 78 0,zm 79 8,zk 80 .add 79 1,i_ 81 (.strIdx 78 80),zm 82 7,zb 83 .eql 81 82,zm 84 83,g_ 85 84 true (.mv 0),g_ 86 84 true (.mv 8),g_ 87 84 true (.mv 8),g_ 88 84 true (.mv 5),g_ 89 84 true (.bin .add 87 88),g_ 90 84 true (.sliceS 85 (some 86) (some 89)),g_ 91 84 true (.mv 1),g_ 92 84 true (.bin .eql 90 91),zp 93 84 92]
def r217_25:zI:=[zm 99 5,i_ 100 (.load1 (.global 0)),zb 101 .leq 99 100,zm 102 101,g_ 103 102 true (.mv 10),g_ 104 102 true (.mv 8),g_ 105 102 true (.call 229 [104]),g_ 106 102 true (.bin .gtr 103 105),zp 107 102 106]
def r217_26:zI:=[zm 108 0,zm 109 8,i_ 110 (.sliceS 108 (some 109) none),zm 111 1,i_ 112 (.raw (.call ⟨.value (.func 228),#[110,111],#[9,9]⟩) 3),zm 12 112]
def r217_30:zI:=[zm 118 5,i_ 119 (.load1 (.global 0)),zb 120 .gtr 118 119,zm 121 120,g_ 122 121 true (.mv 10),g_ 123 121 true (.mv 8),g_ 124 121 true (.raw (.binOp .shr 3 123 (.const (.int .u64 4)) 229) 3),g_ 125 121 true (.bin .add (.const (int 4)) 124),g_ 126 121 true (.bin .geq 122 125),zp 127 121 126,zm 128 127,g_ 129 128 true (.mv 8),g_ 130 128 true (.mv 9),g_ 131 128 true (.bin .lss 129 130),zp 132 128 131]
def r217_31:zI:=[zm 133 0,zm 134 8,i_ 135 (.sliceS 133 (some 134) none),zm 136 1,i_ 137 (.call 230 [135,136]),zm 13 137]
def s217:SFn:=⟨143,(zQ [zc 4 (int 0)] (zQ [zm 14 1,i_ 15 (.lenS 14),zm 5 15] (.seq (.block 0 (zQ r217_2 (.cond 16 (zQ [zc 4 (int 0)] .ret) (zQ [zm 25 5,zk 26 .eql 25 1,zm 24 26] (.cond 24 (zQ r217_5 .ret) (zQ [zm 32 5,zm 33 0,i_ 34 (.lenS 33),zb 35 .geq 32 34,zm 31 35] (.cond 31 (zQ [zc 4 (int (-1))] .ret) (zQ r217_8 (.cond 36 (zQ r217_9 .ret) .skip))))))))) (zQ [zm 48 1,i_ 49 (.strIdx 48 (.const (int 0))),zm 6 49] (zQ [zm 50 1,i_ 51 (.strIdx 50 (.const (int 1))),zm 7 51] (zQ [zc 8 (int 0)] (zQ r217_13 (zQ [zc 10 (int 0)] (.seq (.block 1 (.loop (.seq (zQ [zm 57 8,zm 58 9,zb 59 .lss 57 58] (.cond 59 .skip (.exit 1))) (.block 2 (.seq (zQ [zm 60 0,zm 61 8,i_ 62 (.strIdx 60 61),zm 63 6,zb 64 .neq 62 63] (.cond 64 (zQ r217_17 (.seq (zQ [zm 72 11,zk 73 .lss 72 0] (.cond 73 (zQ [zc 4 (int (-1))] .ret) .skip)) (.run [zm 74 8,zm 75 11,zk 76 .add 75 1,zb 77 .add 74 76,zm 8 77]))) .skip)) (.seq (zQ r217_21 (.cond 93 (zQ [zm 94 8,zm 4 94] .ret) .skip)) (zQ [zm 95 8,zk 96 .add 95 1,zm 8 96] (zQ [zm 97 10,zk 98 .add 97 1,zm 10 98] (zQ r217_25 (.cond 107 (zQ r217_26 (.seq (zQ [zm 113 12,zk 114 .geq 113 0] (.cond 114 (zQ [zm 115 12,zm 116 8,zb 117 .add 115 116,zm 4 117] .ret) .skip)) (zQ [zc 4 (int (-1))] .ret))) (zQ r217_30 (.cond 132 (zQ r217_31 (.seq (zQ [zm 138 13,zk 139 .lss 138 0] (.cond 139 (zQ [zc 4 (int (-1))] .ret) .skip)) (zQ [zm 140 8,zm 141 13,zb 142 .add 140 141,zm 4 142] .ret))) .skip)))))))))))) (zQ [zc 4 (int (-1))] .ret)))))))))),[.tmp 4]⟩
def r218_3:zI:=[zm 13 0,zm 14 7,zd 15 (.sliceS 13 none (some 14)) [0,1],zm 16 0,zm 17 7,zm 18 1,zd 19 (.lenS 18) [5],zd 20 (.bin .add 17 19) [4,6],zd 21 (.sliceS 16 (some 20) none) [3,7],zd 4 (.mv 15) [2,0,1,2],zd 5 (.mv 21) [8,9,0,1,2,3,4,5,6,7,8,9],zd 6 (.mv (.const (.bool true))) [10,0,1,2,3,4,5,6,7,8,9,10]]
def s218:SFn:=⟨23,(zQ [zc 4 (str []),zc 5 (str []),zc 6 (.bool false)] (.seq (zQ [zm 8 0,zm 9 1,i_ 10 (.call 217 [8,9]),zm 7 10] (zQ [zm 11 7,zk 12 .geq 11 0] (.cond 12 (.seq (.draw r218_3) .ret) .skip))) (zQ [zm 22 0,zm 4 22,zc 5 (str []),zc 6 (.bool false)] .ret))),[.tmp 4,.tmp 5,.tmp 6]⟩
def r227_1:zI:=[zm 5 0,zm 6 1,i_ 7 (.raw (.call ⟨.value (.func 237),#[5,6],#[9,5]⟩) 3),zm 4 7]
def s227:SFn:=⟨8,(zQ [zc 4 (int 0)] (zQ r227_1 .ret)),[.tmp 4]⟩
def r231_1:zI:=[zm 6 0,zm 7 1,i_ 8 (.call 239 [6,7]),zx 9 8 0,zx 10 8 1,zm 4 9,zm 5 10]
def s231:SFn:=⟨11,(zQ [zc 4 (str []),zc 5 (.bool false)] (zQ r231_1 .ret)),[.tmp 4,.tmp 5]⟩
def s233:SFn:=⟨5,(zQ [zc 2 (str [])] (zQ [zm 3 0,i_ 4 (.call 241 [3]),zm 2 4] .ret)),[.tmp 2]⟩
def r239_3:zI:=[zm 11 0,zm 12 1,i_ 13 (.lenS 12),i_ 14 (.sliceS 11 (some 13) none),zm 4 14,zc 5 (.bool true)]
def s239:SFn:=⟨15,(zQ [zc 4 (str []),zc 5 (.bool false)] (.seq (zQ [zm 6 0,zm 7 1,i_ 8 (.call 245 [6,7]),i_ 9 (.not 8)] (.cond 9 (zQ [zm 10 0,zm 4 10,zc 5 (.bool false)] .ret) .skip)) (zQ r239_3 .ret))),[.tmp 4,.tmp 5]⟩
def r240_3:zI:=[zm 13 4,zm 14 0,zm 15 5,i_ 16 (.call 247 [.const (str [65,116,111,105]),14,.const (int 0),.const (int 0),15]),zm 2 13,zm 3 16]
def s240:SFn:=⟨18,(zQ [zc 2 (int 0),i_ 3 (.mv (.const .nilIface))] (zQ [zm 7 0,i_ 8 (.call 246 [7]),zm 6 8,zx 9 6 0,zx 10 6 1,zm 4 9,zm 5 10] (.seq (zQ [zm 11 5,i_ 12 (.eqv true 215 11 (.const .nilIface))] (.cond 12 (zQ r240_3 .ret) .skip)) (zQ [zm 17 4,zm 2 17,i_ 3 (.mv (.const .nilIface))] .ret)))),[.tmp 2,.tmp 3]⟩
def s241:SFn:=⟨5,(zQ [zc 2 (str [])] (zQ [zm 3 0,i_ 4 (.call 248 [3,.const (int 10)]),zm 2 4] .ret)),[.tmp 2]⟩
def r245_1:zI:=[zm 5 0,i_ 6 (.lenS 5),zm 7 1,i_ 8 (.lenS 7),zb 9 .geq 6 8,zm 10 9,g_ 11 10 true (.mv 0),g_ 12 10 true (.mv 1),g_ 13 10 true (.lenS 12),g_ 14 10 true (.sliceS 11 none (some 13)),g_ 15 10 true (.mv 1),g_ 16 10 true (.bin .eql 14 15),zp 17 10 16,zm 4 17]
def s245:SFn:=⟨18,(zQ [zc 4 (.bool false)] (zQ r245_1 .ret)),[.tmp 4]⟩
def r246_2:zI:=[zc 13 (.bool false),g_ 14 13 true (.mv 4),g_ 15 13 true (.bin .lss (.const (int 0)) 14),g_ 16 13 true (.mv 15),g_ 17 16 true (.mv 4),g_ 18 16 true (.bin .lss 17 (.const (int 10))),g_ 19 13 true (.pick 16 18 (.const (.bool false))),zp 20 13 19,zm 21 20,g_ 22 21 false (.mv (.const (.bool true))),g_ 23 22 true (.mv 4),g_ 24 22 true (.bin .lss (.const (int 0)) 23),g_ 25 22 true (.mv 24),g_ 26 25 true (.mv 4),g_ 27 25 true (.bin .lss 26 (.const (int 19))),g_ 28 22 true (.pick 25 27 (.const (.bool false))),g_ 29 21 false (.pick 22 28 (.const (.bool false))),zq 30 21 29]
def r246_4:zI:=[zm 32 0,i_ 33 (.strIdx 32 (.const (int 0))),i_ 34 (.bin .eql 33 (.const (.int .u8 45))),zm 35 34,g_ 36 35 false (.mv 0),g_ 37 35 false (.strIdx 36 (.const (int 0))),g_ 38 35 false (.bin .eql 37 (.const (.int .u8 43))),zq 39 35 38]
def r246_15:zI:=[zm 58 6,zk 59 .mul 58 10,zm 60 8,i_ 61 (.conv .i64 60),zb 62 .add 59 61,zm 6 62]
def r246_17:zI:=[zm 64 5,i_ 65 (.strIdx 64 (.const (int 0))),i_ 66 (.bin .eql 65 (.const (.int .u8 45)))]
def r246_20:zI:=[zm 71 0,i_ 72 (.call 249 [71,.const (int 10),.const (int 0)]),zm 70 72,zx 73 70 0,zx 74 70 1,zm 9 73,zm 10 74]
def s246:SFn:=⟨77,(zQ [zc 2 (int 0),i_ 3 (.mv (.const .nilIface))] (zQ [zm 11 0,i_ 12 (.lenS 11),zm 4 12] (.seq (zQ r246_2 (.cond 30 (zQ [zm 31 0,zm 5 31] (.seq (zQ r246_4 (.cond 39 (zQ [zm 40 0,i_ 41 (.sliceS 40 (some (.const (int 1))) none),zm 0 41] (zQ [zm 42 0,i_ 43 (.lenS 42),zk 44 .lss 43 1] (.cond 44 (zQ [i_ 45 (.mkIface 239 (.const (int 2))),zc 2 (int 0),zm 3 45] .ret) .skip))) .skip)) (zQ [zc 6 (int 0)] (.seq (zQ [zm 46 0,i_ 47 (.strBytes 5 46),i_ 48 (.lenL 47),zc 49 (int 0)] (.block 0 (.loop (zQ [zb 50 .lss 49 48] (.seq (.cond 50 .skip (.exit 0)) (.seq (.block 1 (zQ [i_ 51 (.idxAddr 1 47 49),zo 52 51,zm 8 52] (zQ [zm 53 8,i_ 54 (.bin .sub 53 (.const (.int .u8 48))),zm 8 54] (.seq (zQ [zm 55 8,i_ 56 (.bin .gtr 55 (.const (.int .u8 9)))] (.cond 56 (zQ [i_ 57 (.mkIface 239 (.const (int 2))),zc 2 (int 0),zm 3 57] .ret) .skip)) (.run r246_15))))) (.run [zk 63 .add 49 1,zm 49 63]))))))) (.seq (zQ r246_17 (.cond 66 (.run [zm 67 6,i_ 68 (.raw (.unOp .neg 3 67) 3),zm 6 68]) .skip)) (zQ [zm 69 6,zm 2 69,i_ 3 (.mv (.const .nilIface))] .ret)))))) .skip)) (zQ r246_20 (zQ [zm 75 9,zm 76 10,zm 2 75,zm 3 76] .ret))))),[.tmp 2,.tmp 3]⟩
def r247_2:zI:=[i_ 13 (.mkIface 239 (.const (int 2))),i_ 14 (.eqv false 215 11 13),zm 12 14]
def r247_3:zI:=[zm 15 0,zm 16 1,i_ 17 (.call 250 [15,16]),i_ 18 (.mkIface 242 17),zm 10 18]
def r247_4:zI:=[i_ 20 (.mkIface 239 (.const (int 1))),i_ 21 (.eqv false 215 11 20),zm 19 21]
def r247_5:zI:=[zm 22 0,zm 23 1,i_ 24 (.call 251 [22,23]),i_ 25 (.mkIface 242 24),zm 10 25]
def r247_6:zI:=[i_ 27 (.mkIface 239 (.const (int 3))),i_ 28 (.eqv false 215 11 27),zm 26 28]
def r247_7:zI:=[zm 29 0,zm 30 1,zm 31 2,i_ 32 (.call 252 [29,30,31]),i_ 33 (.mkIface 242 32),zm 10 33]
def r247_8:zI:=[i_ 35 (.mkIface 239 (.const (int 4))),i_ 36 (.eqv false 215 11 35),zm 34 36]
def r247_9:zI:=[zm 37 0,zm 38 1,zm 39 3,i_ 40 (.call 253 [37,38,39]),i_ 41 (.mkIface 242 40),zm 10 41]
def s247:SFn:=⟨43,(zQ [i_ 10 (.mv (.const .nilIface))] (.seq (zQ [zm 11 4] (.block 0 (zQ r247_2 (.cond 12 (zQ r247_3 .ret) (zQ r247_4 (.cond 19 (zQ r247_5 .ret) (zQ r247_6 (.cond 26 (zQ r247_7 .ret) (zQ r247_8 (.cond 34 (zQ r247_9 .ret) .skip)))))))))) (zQ [zm 42 4,zm 10 42] .ret))),[.tmp 10]⟩
def r248_2:zI:=[zm 12 0,i_ 13 (.bin .leq (.const (int 0)) 12),zm 14 13,g_ 15 14 true (.mv 0),g_ 16 14 true (.bin .lss 15 (.const (int 100))),zp 17 14 16]
def r248_4:zI:=[i_ 5 (.alloc 245 (.agg #[.int .u8 0,.int .u8 0,.int .u8 0,.int .u8 0,.int .u8 0,.int .u8 0,.int .u8 0,.int .u8 0,.int .u8 0,.int .u8 0,.int .u8 0,.int .u8 0,.int .u8 0,.int .u8 0,.int .u8 0,.int .u8 0,.int .u8 0,.int .u8 0,.int .u8 0,.int .u8 0,.int .u8 0,.int .u8 0,.int .u8 0,.int .u8 0]))]
def r248_9:zI:=[zm 28 7,i_ 29 (.bin .add (.const (int 1)) 28),i_ 30 (.raw (.slice 245 5 (some (.const (int 1))) (some 29) none) 22),zm 31 6,i_ 32 (.call 256 [30,31])]
def r248_11:zI:=[i_ 35 (.raw (.indexAddr 245 5 (.const (int 0))) 0),n_ (.store 1 35 (.const (.int .u8 45)))]
def r248_12:zI:=[zm 36 7,i_ 37 (.bin .add (.const (int 1)) 36),i_ 38 (.raw (.slice 245 5 none (some 37) none) 22),i_ 39 (.bytesStr 38),zm 4 39]
def r248_13:zI:=[zm 40 7,i_ 41 (.bin .add (.const (int 1)) 40),i_ 42 (.raw (.slice 245 5 (some (.const (int 1))) (some 41) none) 22),i_ 43 (.bytesStr 42),zm 4 43]
def r248_14:zI:=[zm 45 0,i_ 46 (.conv .u64 45),zm 47 1,zm 48 0,zk 49 .lss 48 0,i_ 50 (.call 257 [.const (.slice none 0 0),46,47,49,.const (.bool false)]),zm 44 50,zx 51 44 0,zx 52 44 1,zm 8 51,zm 9 52]
def s248:SFn:=⟨54,(zQ [zc 4 (str [])] (.seq (zQ [zm 10 1,zk 11 .eql 10 10] (.cond 11 (.seq (zQ r248_2 (.cond 17 (zQ [zm 18 0,i_ 19 (.call 254 [18]),zm 4 19] .ret) .skip)) (zQ r248_4 (zQ [zm 20 0,i_ 21 (.conv .u64 20),zm 6 21] (.seq (zQ [zm 22 0,zk 23 .lss 22 0] (.cond 23 (.run [zm 24 6,i_ 25 (.raw (.unOp .neg 246 24) 246),zm 6 25]) .skip)) (zQ [zm 26 6,i_ 27 (.call 255 [26]),zm 7 27] (zQ r248_9 (.seq (zQ [zm 33 0,zk 34 .lss 33 0] (.cond 34 (zQ r248_11 (zQ r248_12 .ret)) .skip)) (zQ r248_13 .ret)))))))) .skip)) (zQ r248_14 (zQ [zm 53 9,zm 4 53] .ret)))),[.tmp 4]⟩
def r249_11:zI:=[zm 26 0,zm 27 1,zm 28 2,i_ 29 (.call 258 [26,27,28]),zm 25 29,zx 30 25 0,zx 31 25 1,zm 9 30,zm 7 31]
def r249_12:zI:=[zm 32 7,i_ 33 (.eqv true 215 32 (.const .nilIface)),zm 34 33,g_ 35 34 true (.mv 7),g_ 36 34 true (.mkIface 239 (.const (int 1))),g_ 37 34 true (.eqv true 215 35 36),zp 38 34 37]
def r249_16:zI:=[zm 42 2,zk 43 .sub 42 1,i_ 44 (.conv .u64 43),i_ 45 (.bin .shl (.const (.int .u64 1)) 44),zm 10 45]
def r249_17:zI:=[zm 46 8,i_ 47 (.not 46),zm 48 47,g_ 49 48 true (.mv 9),g_ 50 48 true (.mv 10),g_ 51 48 true (.bin .geq 49 50),zp 52 48 51]
def r249_18:zI:=[zm 53 10,i_ 54 (.bin .sub 53 (.const (.int .u64 1))),i_ 55 (.conv .i64 54),i_ 56 (.mkIface 239 (.const (int 1))),zm 6 55,zm 7 56]
def r249_19:zI:=[zm 57 8,zm 58 57,g_ 59 58 true (.mv 9),g_ 60 58 true (.mv 10),g_ 61 58 true (.bin .gtr 59 60),zp 62 58 61]
def r249_20:zI:=[zm 63 10,i_ 64 (.conv .i64 63),i_ 65 (.raw (.unOp .neg 2 64) 2),i_ 66 (.mkIface 239 (.const (int 1))),zm 6 65,zm 7 66]
def s249:SFn:=⟨73,(zQ [zc 6 (int 0),i_ 7 (.mv (.const .nilIface))] (.seq (zQ [zm 12 0,i_ 13 (.bin .eql 12 (.const (str [])))] (.cond 13 (zQ [i_ 14 (.mkIface 239 (.const (int 2))),zc 6 (int 0),zm 7 14] .ret) .skip)) (zQ [zc 8 (.bool false)] (.seq (zQ [zm 15 0,i_ 16 (.strIdx 15 (.const (int 0)))] (.block 0 (zQ [i_ 18 (.bin .eql 16 (.const (.int .u8 43))),zm 17 18] (.cond 17 (.run [zm 19 0,i_ 20 (.sliceS 19 (some (.const (int 1))) none),zm 0 20]) (zQ [i_ 22 (.bin .eql 16 (.const (.int .u8 45))),zm 21 22] (.cond 21 (zQ [zm 23 0,i_ 24 (.sliceS 23 (some (.const (int 1))) none),zm 0 24] (.run [zc 8 (.bool true)])) .skip)))))) (zQ [zc 9 (.int .u64 0)] (zQ r249_11 (.seq (zQ r249_12 (.cond 38 (zQ [zm 39 7,zc 6 (int 0),zm 7 39] .ret) .skip)) (.seq (zQ [zm 40 2,zk 41 .eql 40 0] (.cond 41 (.run [zc 2 (int 64)]) .skip)) (zQ r249_16 (.seq (zQ r249_17 (.cond 52 (zQ r249_18 .ret) .skip)) (.seq (zQ r249_19 (.cond 62 (zQ r249_20 .ret) .skip)) (zQ [zm 67 9,i_ 68 (.conv .i64 67),zm 11 68] (.seq (zQ [zm 69 8] (.cond 69 (.run [zm 70 11,i_ 71 (.raw (.unOp .neg 2 70) 2),zm 11 71]) .skip)) (zQ [zm 72 11,zm 6 72,i_ 7 (.mv (.const .nilIface))] .ret)))))))))))))),[.tmp 6,.tmp 7]⟩
def r250_1:zI:=[zm 5 0,zm 6 1,zd 7 (.call 159 [6]) [1],i_ 8 (.load1 (.global 2)),zd 9 (.build #[str [],str [],.nilIface] [(0,1),(1,1),(2,1)] [(0,5),(1,7),(2,8)]) [0,2,3],zd 10 (.box 254 9) [4],zd 4 (.mv 10) [5,2,0,1,2,3,4,5]]
def s250:SFn:=⟨11,(zQ [zc 4 (.pointer none)] (.seq (.draw r250_1) .ret)),[.tmp 4]⟩
def r254_2:zI:=[zm 5 0,zm 6 0,zk 7 .add 6 1,i_ 8 (.sliceS (.const (str [48,49,50,51,52,53,54,55,56,57,97,98,99,100,101,102,103,104,105,106,107,108,109,110,111,112,113,114,115,116,117,118,119,120,121,122])) (some 5) (some 7)),zm 2 8]
def r254_3:zI:=[zm 9 0,zk 10 .mul 9 2,zm 11 0,zk 12 .mul 11 2,zk 13 .add 12 2,i_ 14 (.sliceS (.const (str [48,48,48,49,48,50,48,51,48,52,48,53,48,54,48,55,48,56,48,57,49,48,49,49,49,50,49,51,49,52,49,53,49,54,49,55,49,56,49,57,50,48,50,49,50,50,50,51,50,52,50,53,50,54,50,55,50,56,50,57,51,48,51,49,51,50,51,51,51,52,51,53,51,54,51,55,51,56,51,57,52,48,52,49,52,50,52,51,52,52,52,53,52,54,52,55,52,56,52,57,53,48,53,49,53,50,53,51,53,52,53,53,53,54,53,55,53,56,53,57,54,48,54,49,54,50,54,51,54,52,54,53,54,54,54,55,54,56,54,57,55,48,55,49,55,50,55,51,55,52,55,53,55,54,55,55,55,56,55,57,56,48,56,49,56,50,56,51,56,52,56,53,56,54,56,55,56,56,56,57,57,48,57,49,57,50,57,51,57,52,57,53,57,54,57,55,57,56,57,57])) (some 10) (some 13)),zm 2 14]
def s254:SFn:=⟨15,(zQ [zc 2 (str [])] (.seq (zQ [zm 3 0,zk 4 .lss 3 10] (.cond 4 (zQ r254_2 .ret) .skip)) (zQ r254_3 .ret))),[.tmp 2]⟩
def r255_2:zI:=[zm 7 3,zm 8 0,zm 9 3,i_ 10 (.raw (.indexAddr 257 (.global 4) 9) 0),zo 11 10,zb 12 .geq 8 11,i_ 13 (.call 262 [12]),zb 14 .add 7 13,zm 2 14]
def s255:SFn:=⟨15,(zQ [zc 2 (int 0)] (zQ [zm 4 0,i_ 5 (.call 261 [4]),i_ 6 (.call 260 [5]),zm 3 6] (zQ r255_2 .ret))),[.tmp 2]⟩
def r256_2:zI:=[zm 21 1,i_ 22 (.bin .rem 21 (.const (.int .u64 100000000))),i_ 23 (.conv .u32 22),zm 5 23]
def r256_4:zI:=[zm 26 5,i_ 27 (.bin .quo 26 (.const (.int .u32 10000))),zm 28 5,i_ 29 (.bin .rem 28 (.const (.int .u32 10000))),zm 6 27,zm 7 29]
def r256_5:zI:=[zm 30 7,i_ 31 (.bin .quo 30 (.const (.int .u32 100))),i_ 32 (.bin .mul 31 (.const (.int .u32 2))),zm 33 7,i_ 34 (.bin .rem 33 (.const (.int .u32 100))),i_ 35 (.bin .mul 34 (.const (.int .u32 2))),zm 8 32,zm 9 35]
def r256_6:zI:=[zm 36 6,i_ 37 (.bin .quo 36 (.const (.int .u32 100))),i_ 38 (.bin .mul 37 (.const (.int .u32 2))),zm 39 6,i_ 40 (.bin .rem 39 (.const (.int .u32 100))),i_ 41 (.bin .mul 40 (.const (.int .u32 2))),zm 10 38,zm 11 41]
def r256_7:zI:=[zm 42 0,zm 43 4,zd 44 (.bin .sub 43 (.const (int 1))) [1],zm 45 0,zm 46 4,zd 47 (.bin .sub 46 (.const (int 2))) [4],zm 48 9,zd 49 (.bin .add 48 (.const (.int .u32 1))) [6],zd 50 (.strIdx (.const (str [48,48,48,49,48,50,48,51,48,52,48,53,48,54,48,55,48,56,48,57,49,48,49,49,49,50,49,51,49,52,49,53,49,54,49,55,49,56,49,57,50,48,50,49,50,50,50,51,50,52,50,53,50,54,50,55,50,56,50,57,51,48,51,49,51,50,51,51,51,52,51,53,51,54,51,55,51,56,51,57,52,48,52,49,52,50,52,51,52,52,52,53,52,54,52,55,52,56,52,57,53,48,53,49,53,50,53,51,53,52,53,53,53,54,53,55,53,56,53,57,54,48,54,49,54,50,54,51,54,52,54,53,54,54,54,55,54,56,54,57,55,48,55,49,55,50,55,51,55,52,55,53,55,54,55,55,55,56,55,57,56,48,56,49,56,50,56,51,56,52,56,53,56,54,56,55,56,56,56,57,57,48,57,49,57,50,57,51,57,52,57,53,57,54,57,55,57,56,57,57])) 49) [7],zm 51 9,zd 52 (.strIdx (.const (str [48,48,48,49,48,50,48,51,48,52,48,53,48,54,48,55,48,56,48,57,49,48,49,49,49,50,49,51,49,52,49,53,49,54,49,55,49,56,49,57,50,48,50,49,50,50,50,51,50,52,50,53,50,54,50,55,50,56,50,57,51,48,51,49,51,50,51,51,51,52,51,53,51,54,51,55,51,56,51,57,52,48,52,49,52,50,52,51,52,52,52,53,52,54,52,55,52,56,52,57,53,48,53,49,53,50,53,51,53,52,53,53,53,54,53,55,53,56,53,57,54,48,54,49,54,50,54,51,54,52,54,53,54,54,54,55,54,56,54,57,55,48,55,49,55,50,55,51,55,52,55,53,55,54,55,55,55,56,55,57,56,48,56,49,56,50,56,51,56,52,56,53,56,54,56,55,56,56,56,57,57,48,57,49,57,50,57,51,57,52,57,53,57,54,57,55,57,56,57,57])) 51) [9],zd 53 (.idxAddr 1 42 44) [0,2,0,1,2,6,7,8],⟨none,.store 1 53 50,none,[11,8,0,1,2,6,7,8]⟩,zd 54 (.idxAddr 1 45 47) [3,5,0,1,2,3,4,5,6,7,8,9,10,11,12],⟨none,.store 1 54 52,none,[13,10,12,0,1,2,3,4,5,6,7,8,9,10,11,12]⟩]
def r256_8:zI:=[zm 55 0,zm 56 4,zd 57 (.bin .sub 56 (.const (int 3))) [1],zm 58 0,zm 59 4,zd 60 (.bin .sub 59 (.const (int 4))) [4],zm 61 8,zd 62 (.bin .add 61 (.const (.int .u32 1))) [6],zd 63 (.strIdx (.const (str [48,48,48,49,48,50,48,51,48,52,48,53,48,54,48,55,48,56,48,57,49,48,49,49,49,50,49,51,49,52,49,53,49,54,49,55,49,56,49,57,50,48,50,49,50,50,50,51,50,52,50,53,50,54,50,55,50,56,50,57,51,48,51,49,51,50,51,51,51,52,51,53,51,54,51,55,51,56,51,57,52,48,52,49,52,50,52,51,52,52,52,53,52,54,52,55,52,56,52,57,53,48,53,49,53,50,53,51,53,52,53,53,53,54,53,55,53,56,53,57,54,48,54,49,54,50,54,51,54,52,54,53,54,54,54,55,54,56,54,57,55,48,55,49,55,50,55,51,55,52,55,53,55,54,55,55,55,56,55,57,56,48,56,49,56,50,56,51,56,52,56,53,56,54,56,55,56,56,56,57,57,48,57,49,57,50,57,51,57,52,57,53,57,54,57,55,57,56,57,57])) 62) [7],zm 64 8,zd 65 (.strIdx (.const (str [48,48,48,49,48,50,48,51,48,52,48,53,48,54,48,55,48,56,48,57,49,48,49,49,49,50,49,51,49,52,49,53,49,54,49,55,49,56,49,57,50,48,50,49,50,50,50,51,50,52,50,53,50,54,50,55,50,56,50,57,51,48,51,49,51,50,51,51,51,52,51,53,51,54,51,55,51,56,51,57,52,48,52,49,52,50,52,51,52,52,52,53,52,54,52,55,52,56,52,57,53,48,53,49,53,50,53,51,53,52,53,53,53,54,53,55,53,56,53,57,54,48,54,49,54,50,54,51,54,52,54,53,54,54,54,55,54,56,54,57,55,48,55,49,55,50,55,51,55,52,55,53,55,54,55,55,55,56,55,57,56,48,56,49,56,50,56,51,56,52,56,53,56,54,56,55,56,56,56,57,57,48,57,49,57,50,57,51,57,52,57,53,57,54,57,55,57,56,57,57])) 64) [9],zd 66 (.idxAddr 1 55 57) [0,2,0,1,2,6,7,8],⟨none,.store 1 66 63,none,[11,8,0,1,2,6,7,8]⟩,zd 67 (.idxAddr 1 58 60) [3,5,0,1,2,3,4,5,6,7,8,9,10,11,12],⟨none,.store 1 67 65,none,[13,10,12,0,1,2,3,4,5,6,7,8,9,10,11,12]⟩]
def r256_9:zI:=[zm 68 0,zm 69 4,zd 70 (.bin .sub 69 (.const (int 5))) [1],zm 71 0,zm 72 4,zd 73 (.bin .sub 72 (.const (int 6))) [4],zm 74 11,zd 75 (.bin .add 74 (.const (.int .u32 1))) [6],zd 76 (.strIdx (.const (str [48,48,48,49,48,50,48,51,48,52,48,53,48,54,48,55,48,56,48,57,49,48,49,49,49,50,49,51,49,52,49,53,49,54,49,55,49,56,49,57,50,48,50,49,50,50,50,51,50,52,50,53,50,54,50,55,50,56,50,57,51,48,51,49,51,50,51,51,51,52,51,53,51,54,51,55,51,56,51,57,52,48,52,49,52,50,52,51,52,52,52,53,52,54,52,55,52,56,52,57,53,48,53,49,53,50,53,51,53,52,53,53,53,54,53,55,53,56,53,57,54,48,54,49,54,50,54,51,54,52,54,53,54,54,54,55,54,56,54,57,55,48,55,49,55,50,55,51,55,52,55,53,55,54,55,55,55,56,55,57,56,48,56,49,56,50,56,51,56,52,56,53,56,54,56,55,56,56,56,57,57,48,57,49,57,50,57,51,57,52,57,53,57,54,57,55,57,56,57,57])) 75) [7],zm 77 11,zd 78 (.strIdx (.const (str [48,48,48,49,48,50,48,51,48,52,48,53,48,54,48,55,48,56,48,57,49,48,49,49,49,50,49,51,49,52,49,53,49,54,49,55,49,56,49,57,50,48,50,49,50,50,50,51,50,52,50,53,50,54,50,55,50,56,50,57,51,48,51,49,51,50,51,51,51,52,51,53,51,54,51,55,51,56,51,57,52,48,52,49,52,50,52,51,52,52,52,53,52,54,52,55,52,56,52,57,53,48,53,49,53,50,53,51,53,52,53,53,53,54,53,55,53,56,53,57,54,48,54,49,54,50,54,51,54,52,54,53,54,54,54,55,54,56,54,57,55,48,55,49,55,50,55,51,55,52,55,53,55,54,55,55,55,56,55,57,56,48,56,49,56,50,56,51,56,52,56,53,56,54,56,55,56,56,56,57,57,48,57,49,57,50,57,51,57,52,57,53,57,54,57,55,57,56,57,57])) 77) [9],zd 79 (.idxAddr 1 68 70) [0,2,0,1,2,6,7,8],⟨none,.store 1 79 76,none,[11,8,0,1,2,6,7,8]⟩,zd 80 (.idxAddr 1 71 73) [3,5,0,1,2,3,4,5,6,7,8,9,10,11,12],⟨none,.store 1 80 78,none,[13,10,12,0,1,2,3,4,5,6,7,8,9,10,11,12]⟩]
def r256_10:zI:=[zm 81 0,zm 82 4,zd 83 (.bin .sub 82 (.const (int 7))) [1],zm 84 0,zm 85 4,zd 86 (.bin .sub 85 (.const (int 8))) [4],zm 87 10,zd 88 (.bin .add 87 (.const (.int .u32 1))) [6],zd 89 (.strIdx (.const (str [48,48,48,49,48,50,48,51,48,52,48,53,48,54,48,55,48,56,48,57,49,48,49,49,49,50,49,51,49,52,49,53,49,54,49,55,49,56,49,57,50,48,50,49,50,50,50,51,50,52,50,53,50,54,50,55,50,56,50,57,51,48,51,49,51,50,51,51,51,52,51,53,51,54,51,55,51,56,51,57,52,48,52,49,52,50,52,51,52,52,52,53,52,54,52,55,52,56,52,57,53,48,53,49,53,50,53,51,53,52,53,53,53,54,53,55,53,56,53,57,54,48,54,49,54,50,54,51,54,52,54,53,54,54,54,55,54,56,54,57,55,48,55,49,55,50,55,51,55,52,55,53,55,54,55,55,55,56,55,57,56,48,56,49,56,50,56,51,56,52,56,53,56,54,56,55,56,56,56,57,57,48,57,49,57,50,57,51,57,52,57,53,57,54,57,55,57,56,57,57])) 88) [7],zm 90 10,zd 91 (.strIdx (.const (str [48,48,48,49,48,50,48,51,48,52,48,53,48,54,48,55,48,56,48,57,49,48,49,49,49,50,49,51,49,52,49,53,49,54,49,55,49,56,49,57,50,48,50,49,50,50,50,51,50,52,50,53,50,54,50,55,50,56,50,57,51,48,51,49,51,50,51,51,51,52,51,53,51,54,51,55,51,56,51,57,52,48,52,49,52,50,52,51,52,52,52,53,52,54,52,55,52,56,52,57,53,48,53,49,53,50,53,51,53,52,53,53,53,54,53,55,53,56,53,57,54,48,54,49,54,50,54,51,54,52,54,53,54,54,54,55,54,56,54,57,55,48,55,49,55,50,55,51,55,52,55,53,55,54,55,55,55,56,55,57,56,48,56,49,56,50,56,51,56,52,56,53,56,54,56,55,56,56,56,57,57,48,57,49,57,50,57,51,57,52,57,53,57,54,57,55,57,56,57,57])) 90) [9],zd 92 (.idxAddr 1 81 83) [0,2,0,1,2,6,7,8],⟨none,.store 1 92 89,none,[11,8,0,1,2,6,7,8]⟩,zd 93 (.idxAddr 1 84 86) [3,5,0,1,2,3,4,5,6,7,8,9,10,11,12],⟨none,.store 1 93 91,none,[13,10,12,0,1,2,3,4,5,6,7,8,9,10,11,12]⟩]
def r256_14:zI:=[zm 100 12,i_ 101 (.bin .rem 100 (.const (.int .u32 10000))),zm 13 101]
def r256_15:zI:=[zm 102 12,i_ 103 (.bin .quo 102 (.const (.int .u32 10000))),zm 12 103]
def r256_16:zI:=[zm 104 13,i_ 105 (.bin .quo 104 (.const (.int .u32 100))),i_ 106 (.bin .mul 105 (.const (.int .u32 2))),zm 107 13,i_ 108 (.bin .rem 107 (.const (.int .u32 100))),i_ 109 (.bin .mul 108 (.const (.int .u32 2))),zm 14 106,zm 15 109]
def r256_17:zI:=[zm 110 0,zm 111 4,zd 112 (.bin .sub 111 (.const (int 1))) [1],zm 113 0,zm 114 4,zd 115 (.bin .sub 114 (.const (int 2))) [4],zm 116 15,zd 117 (.bin .add 116 (.const (.int .u32 1))) [6],zd 118 (.strIdx (.const (str [48,48,48,49,48,50,48,51,48,52,48,53,48,54,48,55,48,56,48,57,49,48,49,49,49,50,49,51,49,52,49,53,49,54,49,55,49,56,49,57,50,48,50,49,50,50,50,51,50,52,50,53,50,54,50,55,50,56,50,57,51,48,51,49,51,50,51,51,51,52,51,53,51,54,51,55,51,56,51,57,52,48,52,49,52,50,52,51,52,52,52,53,52,54,52,55,52,56,52,57,53,48,53,49,53,50,53,51,53,52,53,53,53,54,53,55,53,56,53,57,54,48,54,49,54,50,54,51,54,52,54,53,54,54,54,55,54,56,54,57,55,48,55,49,55,50,55,51,55,52,55,53,55,54,55,55,55,56,55,57,56,48,56,49,56,50,56,51,56,52,56,53,56,54,56,55,56,56,56,57,57,48,57,49,57,50,57,51,57,52,57,53,57,54,57,55,57,56,57,57])) 117) [7],zm 119 15,zd 120 (.strIdx (.const (str [48,48,48,49,48,50,48,51,48,52,48,53,48,54,48,55,48,56,48,57,49,48,49,49,49,50,49,51,49,52,49,53,49,54,49,55,49,56,49,57,50,48,50,49,50,50,50,51,50,52,50,53,50,54,50,55,50,56,50,57,51,48,51,49,51,50,51,51,51,52,51,53,51,54,51,55,51,56,51,57,52,48,52,49,52,50,52,51,52,52,52,53,52,54,52,55,52,56,52,57,53,48,53,49,53,50,53,51,53,52,53,53,53,54,53,55,53,56,53,57,54,48,54,49,54,50,54,51,54,52,54,53,54,54,54,55,54,56,54,57,55,48,55,49,55,50,55,51,55,52,55,53,55,54,55,55,55,56,55,57,56,48,56,49,56,50,56,51,56,52,56,53,56,54,56,55,56,56,56,57,57,48,57,49,57,50,57,51,57,52,57,53,57,54,57,55,57,56,57,57])) 119) [9],zd 121 (.idxAddr 1 110 112) [0,2,0,1,2,6,7,8],⟨none,.store 1 121 118,none,[11,8,0,1,2,6,7,8]⟩,zd 122 (.idxAddr 1 113 115) [3,5,0,1,2,3,4,5,6,7,8,9,10,11,12],⟨none,.store 1 122 120,none,[13,10,12,0,1,2,3,4,5,6,7,8,9,10,11,12]⟩]
def r256_18:zI:=[zm 123 0,zm 124 4,zd 125 (.bin .sub 124 (.const (int 3))) [1],zm 126 0,zm 127 4,zd 128 (.bin .sub 127 (.const (int 4))) [4],zm 129 14,zd 130 (.bin .add 129 (.const (.int .u32 1))) [6],zd 131 (.strIdx (.const (str [48,48,48,49,48,50,48,51,48,52,48,53,48,54,48,55,48,56,48,57,49,48,49,49,49,50,49,51,49,52,49,53,49,54,49,55,49,56,49,57,50,48,50,49,50,50,50,51,50,52,50,53,50,54,50,55,50,56,50,57,51,48,51,49,51,50,51,51,51,52,51,53,51,54,51,55,51,56,51,57,52,48,52,49,52,50,52,51,52,52,52,53,52,54,52,55,52,56,52,57,53,48,53,49,53,50,53,51,53,52,53,53,53,54,53,55,53,56,53,57,54,48,54,49,54,50,54,51,54,52,54,53,54,54,54,55,54,56,54,57,55,48,55,49,55,50,55,51,55,52,55,53,55,54,55,55,55,56,55,57,56,48,56,49,56,50,56,51,56,52,56,53,56,54,56,55,56,56,56,57,57,48,57,49,57,50,57,51,57,52,57,53,57,54,57,55,57,56,57,57])) 130) [7],zm 132 14,zd 133 (.strIdx (.const (str [48,48,48,49,48,50,48,51,48,52,48,53,48,54,48,55,48,56,48,57,49,48,49,49,49,50,49,51,49,52,49,53,49,54,49,55,49,56,49,57,50,48,50,49,50,50,50,51,50,52,50,53,50,54,50,55,50,56,50,57,51,48,51,49,51,50,51,51,51,52,51,53,51,54,51,55,51,56,51,57,52,48,52,49,52,50,52,51,52,52,52,53,52,54,52,55,52,56,52,57,53,48,53,49,53,50,53,51,53,52,53,53,53,54,53,55,53,56,53,57,54,48,54,49,54,50,54,51,54,52,54,53,54,54,54,55,54,56,54,57,55,48,55,49,55,50,55,51,55,52,55,53,55,54,55,55,55,56,55,57,56,48,56,49,56,50,56,51,56,52,56,53,56,54,56,55,56,56,56,57,57,48,57,49,57,50,57,51,57,52,57,53,57,54,57,55,57,56,57,57])) 132) [9],zd 134 (.idxAddr 1 123 125) [0,2,0,1,2,6,7,8],⟨none,.store 1 134 131,none,[11,8,0,1,2,6,7,8]⟩,zd 135 (.idxAddr 1 126 128) [3,5,0,1,2,3,4,5,6,7,8,9,10,11,12],⟨none,.store 1 135 133,none,[13,10,12,0,1,2,3,4,5,6,7,8,9,10,11,12]⟩]
def r256_21:zI:=[zm 140 12,i_ 141 (.bin .rem 140 (.const (.int .u32 100))),i_ 142 (.bin .mul 141 (.const (.int .u32 2))),zm 16 142]
def r256_23:zI:=[zm 145 0,zm 146 4,zd 147 (.bin .sub 146 (.const (int 1))) [1],zm 148 0,zm 149 4,zd 150 (.bin .sub 149 (.const (int 2))) [4],zm 151 16,zd 152 (.bin .add 151 (.const (.int .u32 1))) [6],zd 153 (.strIdx (.const (str [48,48,48,49,48,50,48,51,48,52,48,53,48,54,48,55,48,56,48,57,49,48,49,49,49,50,49,51,49,52,49,53,49,54,49,55,49,56,49,57,50,48,50,49,50,50,50,51,50,52,50,53,50,54,50,55,50,56,50,57,51,48,51,49,51,50,51,51,51,52,51,53,51,54,51,55,51,56,51,57,52,48,52,49,52,50,52,51,52,52,52,53,52,54,52,55,52,56,52,57,53,48,53,49,53,50,53,51,53,52,53,53,53,54,53,55,53,56,53,57,54,48,54,49,54,50,54,51,54,52,54,53,54,54,54,55,54,56,54,57,55,48,55,49,55,50,55,51,55,52,55,53,55,54,55,55,55,56,55,57,56,48,56,49,56,50,56,51,56,52,56,53,56,54,56,55,56,56,56,57,57,48,57,49,57,50,57,51,57,52,57,53,57,54,57,55,57,56,57,57])) 152) [7],zm 154 16,zd 155 (.strIdx (.const (str [48,48,48,49,48,50,48,51,48,52,48,53,48,54,48,55,48,56,48,57,49,48,49,49,49,50,49,51,49,52,49,53,49,54,49,55,49,56,49,57,50,48,50,49,50,50,50,51,50,52,50,53,50,54,50,55,50,56,50,57,51,48,51,49,51,50,51,51,51,52,51,53,51,54,51,55,51,56,51,57,52,48,52,49,52,50,52,51,52,52,52,53,52,54,52,55,52,56,52,57,53,48,53,49,53,50,53,51,53,52,53,53,53,54,53,55,53,56,53,57,54,48,54,49,54,50,54,51,54,52,54,53,54,54,54,55,54,56,54,57,55,48,55,49,55,50,55,51,55,52,55,53,55,54,55,55,55,56,55,57,56,48,56,49,56,50,56,51,56,52,56,53,56,54,56,55,56,56,56,57,57,48,57,49,57,50,57,51,57,52,57,53,57,54,57,55,57,56,57,57])) 154) [9],zd 156 (.idxAddr 1 145 147) [0,2,0,1,2,6,7,8],⟨none,.store 1 156 153,none,[11,8,0,1,2,6,7,8]⟩,zd 157 (.idxAddr 1 148 150) [3,5,0,1,2,3,4,5,6,7,8,9,10,11,12],⟨none,.store 1 157 155,none,[13,10,12,0,1,2,3,4,5,6,7,8,9,10,11,12]⟩]
def r256_26:zI:=[zm 162 0,zm 163 12,i_ 164 (.bin .add (.const (.int .u32 48)) 163),i_ 165 (.conv .u8 164),i_ 166 (.idxAddr 1 162 (.const (int 0))),zs 1 166 165]
def s256:SFn:=⟨167,(zQ [zm 17 0,i_ 18 (.lenL 17),zm 4 18] (.seq (.block 0 (.loop (.seq (zQ [zm 19 4,zk 20 .geq 19 8] (.cond 20 .skip (.exit 0))) (.block 1 (zQ r256_2 (zQ [zm 24 1,i_ 25 (.bin .quo 24 (.const (.int .u64 100000000))),zm 1 25] (zQ r256_4 (zQ r256_5 (zQ r256_6 (.seq (.draw r256_7) (.seq (.draw r256_8) (.seq (.draw r256_9) (.seq (.draw r256_10) (.run [zm 94 4,zk 95 .sub 94 8,zm 4 95])))))))))))))) (zQ [zm 96 1,i_ 97 (.conv .u32 96),zm 12 97] (.seq (zQ [zm 98 4,zk 99 .geq 98 4] (.cond 99 (zQ r256_14 (zQ r256_15 (zQ r256_16 (.seq (.draw r256_17) (.seq (.draw r256_18) (.run [zm 136 4,zk 137 .sub 136 4,zm 4 137])))))) .skip)) (.seq (zQ [zm 138 4,zk 139 .geq 138 2] (.cond 139 (zQ r256_21 (zQ [zm 143 12,i_ 144 (.bin .quo 143 (.const (.int .u32 100))),zm 12 144] (.seq (.draw r256_23) (.run [zm 158 4,zk 159 .sub 158 2,zm 4 159])))) .skip)) (zQ [zm 160 4,zk 161 .gtr 160 0] (.cond 161 (.run r256_26) .skip))))))),[]⟩
def r260_1:zI:=[zm 3 0,zk 4 .mul 3 78913,i_ 5 (.raw (.binOp .shr 3 4 (.const (.int .u64 18)) 229) 3),zm 2 5]
def s260:SFn:=⟨6,(zQ [zc 2 (int 0)] (zQ r260_1 .ret)),[.tmp 2]⟩
def r261_2:zI:=[zm 5 0,i_ 6 (.raw (.binOp .shr 246 5 (.const (.int .u64 32)) 229) 246),zm 0 6]
def r261_5:zI:=[zm 9 0,i_ 10 (.raw (.binOp .shr 246 9 (.const (.int .u64 16)) 229) 246),zm 0 10]
def r261_8:zI:=[zm 15 0,i_ 16 (.raw (.binOp .shr 246 15 (.const (.int .u64 8)) 229) 246),zm 0 16]
def r261_10:zI:=[zm 19 2,zm 20 0,i_ 21 (.conv .u8 20),i_ 22 (.strIdx (.const (str [0,1,2,2,3,3,3,3,4,4,4,4,4,4,4,4,5,5,5,5,5,5,5,5,5,5,5,5,5,5,5,5,6,6,6,6,6,6,6,6,6,6,6,6,6,6,6,6,6,6,6,6,6,6,6,6,6,6,6,6,6,6,6,6,7,7,7,7,7,7,7,7,7,7,7,7,7,7,7,7,7,7,7,7,7,7,7,7,7,7,7,7,7,7,7,7,7,7,7,7,7,7,7,7,7,7,7,7,7,7,7,7,7,7,7,7,7,7,7,7,7,7,7,7,7,7,7,7,8,8,8,8,8,8,8,8,8,8,8,8,8,8,8,8,8,8,8,8,8,8,8,8,8,8,8,8,8,8,8,8,8,8,8,8,8,8,8,8,8,8,8,8,8,8,8,8,8,8,8,8,8,8,8,8,8,8,8,8,8,8,8,8,8,8,8,8,8,8,8,8,8,8,8,8,8,8,8,8,8,8,8,8,8,8,8,8,8,8,8,8,8,8,8,8,8,8,8,8,8,8,8,8,8,8,8,8,8,8,8,8,8,8,8,8,8,8,8,8,8,8,8,8,8,8,8,8])) 21),i_ 23 (.conv .i64 22),zb 24 .add 19 23,zm 2 24]
def s261:SFn:=⟨25,(zQ [zc 2 (int 0)] (.seq (zQ [zm 3 0,i_ 4 (.bin .geq 3 (.const (.int .u64 4294967296)))] (.cond 4 (zQ r261_2 (.run [zc 2 (int 32)])) .skip)) (.seq (zQ [zm 7 0,i_ 8 (.bin .geq 7 (.const (.int .u64 65536)))] (.cond 8 (zQ r261_5 (.run [zm 11 2,zk 12 .add 11 16,zm 2 12])) .skip)) (.seq (zQ [zm 13 0,i_ 14 (.bin .geq 13 (.const (.int .u64 256)))] (.cond 14 (zQ r261_8 (.run [zm 17 2,zk 18 .add 17 8,zm 2 18])) .skip)) (zQ r261_10 .ret))))),[.tmp 2]⟩
def s262:SFn:=⟨4,(zQ [zc 2 (int 0)] (.seq (zQ [zm 3 0] (.cond 3 (zQ [zc 2 (int 1)] .ret) .skip)) (zQ [zc 2 (int 0)] .ret))),[.tmp 2]⟩
end
section
def r16_1:zI:=[zl 5 1 2,zd 6 (.call 61 [5]) [0],zd 7 (.raw (.field 101 6 0) 98) [1],zl 8 2 3,zd 9 (.raw (.lookup 98 7 8 false) 3) [2,3],zd 4 (.mv 9) [4,1,0,1,2,3,4]]
def s16:SFn:=⟨10,(zQ [i_ 2 (.box 26 0),i_ 3 (.box 31 1),zc 4 (int 0)] (.seq (.draw r16_1) .ret)),[.tmp 4]⟩
def r17_1:zI:=[zf 5 0 1,zo 6 5,i_ 7 (.call 62 [6]),i_ 8 (.not 7),zm 9 8,g_ 10 9 false (.fieldAddr 1 1),g_ 11 9 false (.loadN 1 10),g_ 12 9 false (.call 63 [11]),g_ 13 9 false (.not 12),zq 14 9 13,zm 15 14,g_ 16 15 false (.fieldAddr 2 1),g_ 17 15 false (.load1 16),g_ 18 15 false (.lenL 17),g_ 19 15 false (.bin .gtr 18 (.const (int 3))),zq 20 15 19]
def r17_5:zI:=[zm 26 24,i_ 27 (.idxAddr 7 22 24),zl 28 7 27,i_ 4 (.alloc 49 (.agg #[int 0,int 0,int 0,int 0,str [],str [],str []])),zm 3 26,zs 7 4 28]
def r17_6:zI:=[zl 29 7 4,zf 30 1 1,zl 31 1 30,i_ 32 (.call 64 [29,31]),i_ 33 (.not 32),zm 34 33,g_ 35 34 false (.loadN 3 1),g_ 36 34 false (.fieldAddr 0 4),g_ 37 34 false (.loadN 2 36),g_ 38 34 false (.fieldAddr 2 4),g_ 39 34 false (.loadN 2 38),g_ 40 34 false (.call 65 [35,37,39]),g_ 41 34 false (.mv 3),g_ 42 34 false (.bin .neq 40 41),zq 43 34 42]
def s17:SFn:=⟨45,(zQ [i_ 1 (.box 29 0),zc 2 (.bool false)] (.seq (zQ r17_1 (.cond 20 (zQ [zc 2 (.bool false)] .ret) .skip)) (.seq (zQ [zf 21 2 1,zo 22 21,i_ 23 (.lenL 22),zc 24 (int 0)] (.block 0 (.loop (zQ [zb 25 .lss 24 23] (.seq (.cond 25 .skip (.exit 0)) (.seq (.block 1 (zQ r17_5 (zQ r17_6 (.cond 43 (zQ [zc 2 (.bool false)] .ret) .skip)))) (.run [zk 44 .add 24 1,zm 24 44]))))))) (zQ [zc 2 (.bool true)] .ret)))),[.tmp 2]⟩
def r21_1:zI:=[zf 5 4 3,zo 6 5,zm 7 0,i_ 8 (.lenS 7),i_ 9 (.call 70 [6,.const (int 0),8]),i_ 10 (.not 9),zm 11 10,g_ 12 11 false (.fieldAddr 4 3),g_ 13 11 false (.load1 12),g_ 14 11 false (.fieldAddr 6 3),g_ 15 11 false (.load1 14),g_ 16 11 false (.lenS 15),g_ 17 11 false (.bin .add 13 16),g_ 18 11 false (.mv 0),g_ 19 11 false (.lenS 18),g_ 20 11 false (.bin .leq 17 19),zq 21 11 20]
def r21_3:zI:=[zm 23 0,zf 24 6 3,zo 25 24,zm 26 0,i_ 27 (.lenS 26),zf 28 4 3,zo 29 28,zb 30 .sub 27 29,i_ 31 (.sliceS 25 (some 30) none),zb 32 .add 23 31,i_ 33 (.call 71 [32]),zm 4 33]
def s21:SFn:=⟨34,(zQ [i_ 3 (.box 33 1),zc 4 (str [])] (.seq (zQ r21_1 (.cond 21 (zQ [zm 22 0,zm 4 22] .ret) .skip)) (zQ r21_3 .ret))),[.tmp 4]⟩
def r24_0:zI:=[i_ 2 (.box 29 0),i_ 3 (.box 33 1),i_ 4 (.alloc 29 zB3),zc 5 (.slice none 0 0)]
def r24_2:zI:=[i_ 9 (.build #[.slice none 0 0,.slice none 0 0,.slice none 0 0] [(0,1),(1,1),(2,1)] []),zs 3 4 9,zc 5 (.slice none 0 0)]
def r24_3:zI:=[zl 10 3 2,i_ 11 (.build #[.slice none 0 0,.slice none 0 0,.slice none 0 0,.nilFunc] [(0,3),(3,1)] [(0,10),(1,.func 75)]),zl 12 7 3,i_ 13 (.call 76 [11,12]),zx 14 13 0,zx 15 13 1,zs 3 4 14,zm 5 15]
def s24:SFn:=⟨16,(zQ r24_0 (.seq (zQ [zl 6 3 2,i_ 7 (.call 17 [6]),i_ 8 (.not 7)] (.cond 8 (zQ r24_2 .ret) .skip)) (zQ r24_3 .ret))),[.cellN 4 3,.tmp 5]⟩
def r25_1:zI:=[zl 9 1 2,i_ 10 (.call 61 [9]),i_ 11 (.raw (.field 101 10 1) 99),zm 12 1,i_ 13 (.raw (.lookup 99 11 12 true) 51),zm 8 13,zx 14 8 0,zx 15 8 1,i_ 6 (.alloc 31 zE2),zs 2 6 14,zm 7 15]
def s25:SFn:=⟨18,(zQ [i_ 2 (.box 26 0),i_ 4 (.alloc 31 zE2),zc 5 (.bool false)] (zQ r25_1 (zQ [zl 16 2 6,zm 17 7,zs 2 4 16,zm 5 17] .ret))),[.cellN 4 2,.tmp 5]⟩
def r31_4:zI:=[zm 13 4,i_ 14 (.call 88 [13]),i_ 15 (.not 14),zm 16 15,g_ 17 16 true (.mv 4),g_ 18 16 true (.conv .i32 17),g_ 19 16 true (.raw (.convert 21 9 18) 9),g_ 20 16 true (.bin .neq 19 (.const (str [59]))),zp 21 16 20]
def r31_7:zI:=[zf 23 0 1,zl 24 2 23,i_ 25 (.call 89 [24]),zm 26 25,g_ 27 26 true (.fieldAddr 2 1),g_ 28 26 true (.loadN 2 27),g_ 29 26 true (.call 89 [28]),zp 30 26 29,zm 31 30,g_ 32 31 true (.fieldAddr 4 1),g_ 33 31 true (.load1 32),g_ 34 31 true (.call 70 [33,.const (int 0),.const (int 240)]),zp 35 31 34,zm 36 35,g_ 37 36 true (.fieldAddr 5 1),g_ 38 36 true (.load1 37),g_ 39 36 true (.call 70 [38,.const (int 0),.const (int 240)]),zp 40 36 39,zm 41 40,g_ 42 41 true (.fieldAddr 6 1),g_ 43 41 true (.load1 42),g_ 44 41 true (.lenS 43),g_ 45 41 true (.bin .leq 44 (.const (int 12))),zp 46 41 45,zm 2 46]
def s31:SFn:=⟨47,(zQ [i_ 1 (.box 33 0),zc 2 (.bool false)] (.seq (zQ [zf 5 6 1,zo 6 5,i_ 7 (.strBytes 5 6),i_ 8 (.lenL 7),zc 9 (int 0)] (.block 0 (.loop (zQ [zb 10 .lss 9 8] (.seq (.cond 10 .skip (.exit 0)) (.seq (.block 1 (zQ [i_ 11 (.idxAddr 1 7 9),zo 12 11,zm 4 12] (zQ r31_4 (.cond 21 (zQ [zc 2 (.bool false)] .ret) .skip)))) (.run [zk 22 .add 9 1,zm 9 22]))))))) (zQ r31_7 .ret))),[.tmp 2]⟩
def r38_1:zI:=[zm 7 0,zm 8 1,i_ 9 (.call 99 [7,8]),zm 10 2,i_ 11 (.call 100 [9,10]),zm 6 11]
def s38:SFn:=⟨12,(zQ [zc 6 (int 0)] (zQ r38_1 .ret)),[.tmp 6]⟩
def r56_1:zI:=[zf 10 0 2,zl 11 3 10,i_ 12 (.call 66 [11]),i_ 6 (.alloc 29 zB3),zs 3 6 12]
def r56_2:zI:=[i_ 13 (.raw (.makeChan 158 (.const (int 0))) 158),i_ 7 (.alloc 158 (.chan none)),zs 1 7 13]
def r56_4:zI:=[i_ 15 (.buildSlice 33 7 0 #[] []),zm 8 15]
def r56_5:zI:=[zo 16 7]
def r56_6:zI:=[i_ 17 (.raw (.recv 158 16 true) 0),zx 18 17 1]
def r56_7:zI:=[zx 19 17 0,i_ 9 (.alloc 33 zS7),zs 7 9 19]
def r56_8:zI:=[zm 20 8,zl 21 7 9,i_ 22 (.buildSlice 33 7 1 #[int 0,int 0,int 0,int 0,int 0,int 0,str []] [(0,21)]),i_ 23 (.append 33 7 64 zS7 20 22),zm 8 23]
def r56_9:zI:=[zl 24 3 6,zm 25 8,zd 26 (.call 135 [25]) [1],⟨none,.store 3 4 24,none,[0,2,0]⟩,zd 5 (.mv 26) [2,3,0,1,2,3]]
def s60:SFn:=⟨19,(zQ [zc 2 (.bool false)] (.seq (zQ [zm 5 0,i_ 6 (.strBytes 5 5),i_ 7 (.lenL 6),zc 8 (int 0)] (.block 0 (.loop (zQ [zb 9 .lss 8 7] (.seq (.cond 9 .skip (.exit 0)) (.seq (.block 1 (zQ [i_ 10 (.idxAddr 1 6 8),zo 11 10,zm 4 11] (zQ [zm 12 4,i_ 13 (.call 88 [12]),i_ 14 (.not 13)] (.cond 14 (zQ [zc 2 (.bool false)] .ret) .skip)))) (.run [zk 15 .add 8 1,zm 8 15]))))))) (zQ [zm 16 0,i_ 17 (.lenS 16),zk 18 .leq 17 16,zm 2 18] .ret))),[.tmp 2]⟩
def r61_1:zI:=[i_ 6 .mkMap,i_ 7 .mkMap,i_ 8 (.build #[.map none,.map none] [(0,1),(1,1)] [(0,6),(1,7)]),i_ 3 (.alloc 101 (.agg #[.map none,.map none])),zs 2 3 8]
def r61_4:zI:=[zm 14 12,i_ 15 (.idxAddr 2 10 12),zl 16 2 15,i_ 5 (.alloc 31 zE2),zm 4 14,zs 2 5 16]
def r61_5:zI:=[zl 17 2 3,zl 18 2 5,zm 19 4,i_ 20 (.bin .add (.const (int 500)) 19),i_ 21 (.call 141 [17,18,20])]
def r61_6:zI:=[zf 22 1 3,zo 23 22,zm 24 4,i_ 25 (.bin .add (.const (int 500)) 24),zl 26 2 5,n_ (.raw (.mapUpdate 99 23 25 26) 0)]
def s61:SFn:=⟨29,(zQ [i_ 1 (.box 26 0),i_ 2 (.alloc 101 (.agg #[.map none,.map none]))] (zQ r61_1 (.seq (zQ [zf 9 0 1,zo 10 9,i_ 11 (.lenL 10),zc 12 (int 0)] (.block 0 (.loop (zQ [zb 13 .lss 12 11] (.seq (.cond 13 .skip (.exit 0)) (.seq (.block 1 (zQ r61_4 (zQ r61_5 (.run r61_6)))) (.run [zk 27 .add 12 1,zm 12 27]))))))) (zQ [zl 28 2 3,zs 2 2 28] .ret)))),[.cellN 2 2]⟩
def r62_1:zI:=[zm 3 0,i_ 4 (.lenL 3),zk 5 .leq 4 5,zm 6 5,g_ 7 6 true (.mv 0),g_ 8 6 true (.call 142 [7,.func 143]),g_ 9 6 true (.not 8),zp 10 6 9,zm 2 10]
def s62:SFn:=⟨11,(zQ [zc 2 (.bool false)] (zQ r62_1 .ret)),[.tmp 2]⟩
def r63_3:zI:=[zm 10 8,i_ 11 (.idxAddr 2 6 8),zl 12 2 11,i_ 4 (.alloc 31 zE2),zm 3 10,zs 2 4 12]
def r63_4:zI:=[zl 13 2 4,zd 14 (.call 67 [13]) [0],zd 15 (.not 14) [1],zd 16 (.mv 15) [2,1],zg 17 16 false (.fieldAddr 0 1) [3],zg 18 16 false (.load1 17) [4,3],zg 19 16 false (.mv 3) [3],zg 20 16 false (.sliceL 2 18 none (some 19) none) [5,6,3],zg 21 16 false (.loadN 2 4) [3],zg 22 16 false (.call 145 [20,21]) [7,8,3,3],zd 23 (.pick 16 (.const (.bool true)) 22) [3,9]]
def s63:SFn:=⟨29,(zQ [i_ 1 (.box 26 0),zc 2 (.bool false)] (.seq (zQ [zf 5 0 1,zo 6 5,i_ 7 (.lenL 6),zc 8 (int 0)] (.block 0 (.loop (zQ [zb 9 .lss 8 7] (.seq (.cond 9 .skip (.exit 0)) (.seq (.block 1 (zQ r63_3 (.seq (.draw r63_4) (.cond 23 (zQ [zc 2 (.bool false)] .ret) .skip)))) (.run [zk 24 .add 8 1,zm 8 24]))))))) (zQ [zf 25 0 1,zo 26 25,i_ 27 (.lenL 26),zk 28 .leq 27 6,zm 2 28] .ret))),[.tmp 2]⟩
def r64_1:zI:=[zl 5 1 3,zf 6 0 2,zl 7 2 6,i_ 8 (.call 16 [5,7]),zk 9 .neq 8 0,zm 10 9,g_ 11 10 true (.fieldAddr 2 2),g_ 12 10 true (.loadN 2 11),g_ 13 10 true (.call 146 [12]),zp 14 10 13,zm 15 14,g_ 16 15 true (.fieldAddr 2 2),g_ 17 15 true (.fieldAddr 1 16),g_ 18 15 true (.load1 17),g_ 19 15 true (.bin .eql 18 (.const (int 21))),zp 20 15 19,zm 21 20,g_ 22 21 true (.fieldAddr 4 2),g_ 23 21 true (.load1 22),g_ 24 21 true (.call 147 [23]),zp 25 21 24,zm 26 25,g_ 27 26 true (.fieldAddr 5 2),g_ 28 26 true (.load1 27),g_ 29 26 true (.call 147 [28]),zp 30 26 29,zm 31 30,g_ 32 31 true (.loadN 1 3),g_ 33 31 true (.fieldAddr 4 2),g_ 34 31 true (.load1 33),g_ 35 31 true (.call 148 [32,34]),zp 36 31 35,zm 37 36,g_ 38 37 true (.loadN 1 3),g_ 39 37 true (.fieldAddr 5 2),g_ 40 37 true (.load1 39),g_ 41 37 true (.fieldAddr 6 2),g_ 42 37 true (.load1 41),g_ 43 37 true (.call 149 [38,40,42]),zp 44 37 43,zm 4 44]
def s64:SFn:=⟨45,(zQ [i_ 2 (.box 49 0),i_ 3 (.box 26 1),zc 4 (.bool false)] (zQ r64_1 .ret)),[.tmp 4]⟩
def r65_1:zI:=[zf 7 2 3,zo 8 7,i_ 9 (.mkFunc (.func 151) [] [4,5]),i_ 10 (.call 150 [8,9]),zm 6 10]
def s65:SFn:=⟨11,(zQ [i_ 3 (.box 29 0),i_ 4 (.box 31 1),i_ 5 (.box 31 2),zc 6 (int 0)] (zQ r65_1 .ret)),[.tmp 6]⟩
def r66_1:zI:=[zf 3 0 1,zd 4 (.load1 3) [0],zd 5 (.call 153 [4]) [1],zd 6 (.call 152 [5]) [2,2],zf 7 1 1,zd 8 (.loadN 1 7) [4],zd 9 (.call 154 [8]) [5,3],zf 10 2 1,zd 11 (.load1 10) [7],zd 12 (.call 155 [11]) [8,6],zd 13 (.call 129 [12]) [9,9],zd 14 (.build #[.slice none 0 0,.slice none 0 0,.slice none 0 0] [(0,1),(1,1),(2,1)] [(0,6),(1,9),(2,13)]) [3,6,10],⟨none,.store 3 2 14,none,[11,10,0,1,2,3,4,5,6,7,8,9,10,11]⟩]
def s66:SFn:=⟨15,(zQ [i_ 1 (.box 29 0),i_ 2 (.alloc 29 zB3)] (.seq (.draw r66_1) .ret)),[.cellN 2 3]⟩
def r67_1:zI:=[zf 3 0 1,zo 4 3,i_ 5 (.call 156 [4]),zm 6 5,g_ 7 6 true (.fieldAddr 1 1),g_ 8 6 true (.load1 7),g_ 9 6 true (.call 157 [8]),zp 10 6 9,zm 2 10]
def s67:SFn:=⟨11,(zQ [i_ 1 (.box 31 0),zc 2 (.bool false)] (zQ r67_1 .ret)),[.tmp 2]⟩
def r68_0:zI:=[i_ 2 (.box 26 0),i_ 3 (.box 31 1),i_ 4 (.alloc 26 (.agg #[.slice none 0 0])),zc 5 (int 0)]
def r68_1:zI:=[zl 8 1 2,i_ 9 (.call 154 [8]),i_ 6 (.alloc 26 (.agg #[.slice none 0 0])),zs 1 6 9]
def r68_3:zI:=[zm 13 7,zk 14 .neq 13 0,zm 15 14,g_ 16 15 false (.fieldAddr 0 2),g_ 17 15 false (.load1 16),g_ 18 15 false (.lenL 17),g_ 19 15 false (.bin .geq 18 (.const (int 6))),zq 20 15 19]
def r68_5:zI:=[zf 23 0 6,zo 24 23,zl 25 2 3,i_ 26 (.buildSlice 31 2 1 #[int 0,int 0] [(0,25)]),i_ 27 (.append 31 2 16 zE2 24 26),i_ 28 (.call 158 [27]),zf 29 0 6,zs 1 29 28]
def r68_6:zI:=[zl 30 1 6,zf 31 0 2,zd 32 (.load1 31) [1],zd 33 (.lenL 32) [2],zd 34 (.bin .add (.const (int 500)) 33) [3],⟨none,.store 1 4 30,none,[0,0]⟩,zd 5 (.mv 34) [4,5,0,1,2,3,4,5]]
def s68:SFn:=⟨35,(zQ r68_0 (zQ r68_1 (.seq (zQ [zl 10 1 2,zl 11 2 3,i_ 12 (.call 16 [10,11]),zm 7 12] (zQ r68_3 (.cond 20 (zQ [zl 21 1 6,zm 22 7,zs 1 4 21,zm 5 22] .ret) .skip))) (zQ r68_5 (.seq (.draw r68_6) .ret))))),[.cellN 4 1,.tmp 5]⟩
def r70_1:zI:=[zm 7 0,zm 8 1,zb 9 .geq 7 8,zm 10 9,g_ 11 10 true (.mv 0),g_ 12 10 true (.mv 2),g_ 13 10 true (.bin .leq 11 12),zp 14 10 13,zm 6 14]
def s70:SFn:=⟨15,(zQ [zc 6 (.bool false)] (zQ r70_1 .ret)),[.tmp 6]⟩
def r75_1:zI:=[zm 20 0,zd 21 (.nilchk 20) [0],zd 22 (.fieldAddr 1 21) [1],zd 23 (.loadN 1 22) [2],zf 24 2 4,zd 25 (.fieldAddr 1 24) [4],zd 26 (.load1 25) [5],zd 27 (.call 25 [23,26]) [3,6],zd 19 (.mv 27) [7],zd 28 (.extract 19 0) [8],zd 29 (.extract 19 1) [8],i_ 6 (.alloc 31 zE2),⟨none,.store 2 6 28,none,[11,9,7,0,1,2,3,4,5,6,7,8,9,11]⟩,zd 7 (.mv 29) [10,12,0,1,2,3,4,5,6,7,8,9,10,11,12]]
def r75_2:zI:=[zl 30 7 4,zd 31 (.call 31 [30]) [0],zd 32 (.not 31) [1],zd 33 (.mv 32) [2,1],zg 34 33 false (.fieldAddr 2 4) [3],zg 35 33 false (.fieldAddr 0 34) [4,3],zg 36 33 false (.load1 35) [5,3],zg 37 33 false (.bin .neq 36 (.const (int 50))) [6,3],zd 38 (.pick 33 (.const (.bool true)) 37) [3,7],zd 39 (.mv 38) [8,3],zg 40 39 false (.mv 7) [9],zg 41 39 false (.not 40) [10,9],zd 42 (.pick 39 (.const (.bool true)) 41) [9,11],zd 43 (.mv 42) [12,9],zg 44 43 false (.mv 0) [13],zg 45 43 false (.nilchk 44) [14,13],zg 46 43 false (.fieldAddr 0 45) [15,13],zg 47 43 false (.load1 46) [16,13],zg 48 43 false (.loadN 2 6) [13],zg 49 43 false (.fieldAddr 0 4) [13],zg 50 43 false (.loadN 2 49) [19,13],zg 51 43 false (.call 87 [47,48,50]) [17,18,20,13,13],zg 52 43 false (.not 51) [21,13],zd 53 (.pick 43 (.const (.bool true)) 52) [13,22]]
def r75_4:zI:=[zm 56 0,zd 57 (.nilchk 56) [0],zd 58 (.loadN 3 57) [1],zl 59 2 6,zf 60 0 4,zd 61 (.loadN 2 60) [4],zd 62 (.call 65 [58,59,61]) [2,3,5],zd 8 (.mv 62) [6,6,0,1,2,3,4,5,6]]
def r75_8:zI:=[zm 71 0,i_ 72 (.nilchk 71),zf 73 2 72,zo 74 73,zm 75 8,i_ 76 (.idxAddr 7 74 75),zm 9 76]
def r75_9:zI:=[zm 78 9,i_ 79 (.nilchk 78),zf 80 5 79,zo 81 80,i_ 82 (.call 35 [81]),zm 77 82,zx 83 77 0,zx 84 77 1,zm 10 83,zm 11 84]
def r75_10:zI:=[zm 85 9,zm 86 9,zd 87 (.nilchk 86) [1],zd 88 (.fieldAddr 5 87) [2],zd 89 (.load1 88) [3],zl 90 7 4,zd 91 (.call 130 [89,90]) [4,5],zd 92 (.nilchk 85) [0,0,1,2,3,4,5,6],zd 93 (.fieldAddr 5 92) [7,0,1,2,3,4,5,6],⟨none,.store 1 93 91,none,[8,6,6,0,1,2,3,4,5,6]⟩]
def r75_11:zI:=[zm 95 9,i_ 96 (.nilchk 95),zf 97 5 96,zo 98 97,i_ 99 (.call 35 [98]),zm 94 99,zx 100 94 0,zx 101 94 1,zm 12 100,zm 13 101]
def r75_12:zI:=[zm 102 12,zm 103 10,i_ 104 (.lenL 103),i_ 105 (.sliceL 1 102 (some 104) none none),i_ 106 (.lenL 105),zc 107 (int 0)]
def r75_15:zI:=[zm 111 9,zd 112 (.nilchk 111) [0],zd 113 (.fieldAddr 6 112) [1],zd 114 (.load1 113) [2],zm 115 0,zd 116 (.nilchk 115) [4],zd 117 (.fieldAddr 1 116) [5],zd 118 (.loadN 1 117) [6],zm 119 15,zd 120 (.call 98 [118,119]) [7,8],zd 121 (.bin .add 120 (.const (str [59]))) [9],zd 122 (.bin .add 114 121) [3,10],zd 123 (.nilchk 111) [0,0,1,2,3,4,5,6,7,8,9,10,11],zd 124 (.fieldAddr 6 123) [12,0,1,2,3,4,5,6,7,8,9,10,11],⟨none,.store 1 124 122,none,[13,11,9,0,1,2,3,4,5,6,7,8,9,10,11]⟩]
def r75_17:zI:=[zm 126 9,zd 127 (.nilchk 126) [0],zd 128 (.fieldAddr 5 127) [1],zd 129 (.load1 128) [2],zm 130 9,zd 131 (.nilchk 130) [4],zd 132 (.fieldAddr 6 131) [5],zd 133 (.load1 132) [6],zd 134 (.call 99 [129,133]) [3,7],zf 135 4 4,zd 136 (.load1 135) [9],zd 137 (.call 132 [134,136]) [8,10,8],zd 16 (.mv 137) [11,11,0,1,2,3,4,5,6,7,8,9,10,11]]
def r75_18:zI:=[zm 138 9,zd 139 (.nilchk 138) [0],zd 140 (.fieldAddr 4 139) [1],zd 141 (.load1 140) [2],zm 142 0,zd 143 (.nilchk 142) [4],zd 144 (.loadN 3 143) [5],zm 145 8,zd 146 (.call 101 [144,145]) [6,7],zf 147 5 4,zd 148 (.load1 147) [9],zd 149 (.call 38 [141,146,148]) [3,8,10,8],zd 150 (.fieldAddr 5 4) [0,1,2,3,4,5,6,7,8,9,10,11],⟨none,.store 1 150 149,none,[12,11,11,0,1,2,3,4,5,6,7,8,9,10,11]⟩]
def r75_19:zI:=[zl 151 7 4,zm 152 9,zd 153 (.nilchk 152) [1],zd 154 (.fieldAddr 6 153) [2],zd 155 (.load1 154) [3],zm 156 16,zd 157 (.call 133 [151,155,156]) [0,4,5],zd 158 (.lenL 157) [6],zc 159 (int 0)]
def r75_21:zI:=[i_ 161 (.idxAddr 7 157 159),zl 162 7 161,i_ 18 (.alloc 33 zS7),zs 7 18 162]
def s75:SFn:=⟨166,(zQ [i_ 4 (.box 33 1)] (.seq (.draw r75_1) (.seq (.seq (.draw r75_2) (.cond 53 .ret .skip)) (zQ [zl 54 2 6,zf 55 2 4,zs 2 55 54] (.seq (.draw r75_4) (.seq (zQ [zm 63 8,zk 64 .lss 63 0] (.cond 64 (.seq (zQ [zf 65 0 4,zf 66 1 65,zo 67 66,zk 68 .neq 67 21] (.cond 68 (.run [zm 69 2,zl 70 7 4,n_ (.raw (.send 69 70) 0)]) .skip)) .ret) .skip)) (zQ r75_8 (zQ r75_9 (.seq (.draw r75_10) (zQ r75_11 (.seq (zQ r75_12 (.block 0 (.loop (zQ [zb 108 .lss 107 106] (.seq (.cond 108 .skip (.exit 0)) (.seq (.block 1 (zQ [i_ 109 (.idxAddr 1 105 107),zo 110 109,zm 15 110] (.draw r75_15))) (.run [zk 125 .add 107 1,zm 107 125]))))))) (.seq (.draw r75_17) (.seq (.draw r75_18) (.seq (.draw r75_19) (.block 2 (.loop (zQ [zb 160 .lss 159 158] (.seq (.cond 160 .skip (.exit 2)) (.seq (.block 3 (zQ r75_21 (.run [zm 163 2,zl 164 7 18,n_ (.raw (.send 163 164) 0)]))) (.run [zk 165 .add 159 1,zm 159 165])))))))))))))))))))),[]⟩
def r76_0:zI:=[i_ 2 (.box 111 0),i_ 3 (.box 33 1),i_ 4 (.alloc 29 zB3),zc 5 (.slice none 0 0)]
def r76_1:zI:=[zf 10 0 2,zl 11 3 10,i_ 12 (.call 66 [11]),i_ 6 (.alloc 29 zB3),zs 3 6 12]
def r76_2:zI:=[i_ 13 (.raw (.makeChan 158 (.const (int 0))) 158),i_ 7 (.alloc 158 (.chan none)),zs 1 7 13]
def r76_3:zI:=[i_ 14 (.mkFunc (.func 160) [] [7,2,6,3]),n_ (.raw (.go ⟨.value 14,#[],#[]⟩) 0)]
def r76_8:zI:=[zm 20 8,zl 21 7 9,i_ 22 (.buildSlice 33 7 1 #[int 0,int 0,int 0,int 0,int 0,int 0,str []] [(0,21)]),i_ 23 (.append 33 7 64 zS7 20 22),zm 8 23]
def r76_9:zI:=[zl 24 3 6,zm 25 8,zd 26 (.call 135 [25]) [1],⟨none,.store 3 4 24,none,[0,2,0]⟩,zd 5 (.mv 26) [2,3,0,1,2,3]]
def c76:SCode:=(zQ r76_0 (zQ r76_1 (zQ r76_2 (zQ r76_3 (zQ [i_ 15 (.buildSlice 33 7 0 #[] []),zm 8 15] (.seq (zQ [zo 16 7] (.block 0 (.loop (zQ [i_ 17 (.raw (.recv 158 16 true) 0),zx 18 17 1] (.seq (.cond 18 .skip (.exit 0)) (.block 1 (zQ [zx 19 17 0,i_ 9 (.alloc 33 zS7),zs 7 9 19] (.run r76_8)))))))) (.seq (.draw r76_9) .ret)))))))
def s76:SFn:=⟨27,c76,[.cellN 4 3,.tmp 5]⟩
theorem k76:slimFn Tryz.prog Tryz.f76=some s76:=by kernel_rfl
def r88_1:zI:=[zm 3 0,i_ 4 (.bin .geq 3 (.const (.int .u8 97))),zm 5 4,g_ 6 5 true (.mv 0),g_ 7 5 true (.bin .leq 6 (.const (.int .u8 122))),zp 8 5 7,zm 9 8,g_ 10 9 false (.mv 0),g_ 11 9 false (.bin .geq 10 (.const (.int .u8 48))),g_ 12 9 false (.mv 11),g_ 13 12 true (.mv 0),g_ 14 12 true (.bin .leq 13 (.const (.int .u8 57))),g_ 15 9 false (.pick 12 14 (.const (.bool false))),zq 16 9 15,zm 17 16,g_ 18 17 false (.mv 0),g_ 19 17 false (.bin .eql 18 (.const (.int .u8 32))),zq 20 17 19,zm 2 20]
def s88:SFn:=⟨21,(zQ [zc 2 (.bool false)] (zQ r88_1 .ret)),[.tmp 2]⟩
def r89_1:zI:=[zf 3 0 1,zo 4 3,i_ 5 (.call 156 [4]),zm 6 5,g_ 7 6 false (.fieldAddr 0 1),g_ 8 6 false (.load1 7),g_ 9 6 false (.call 173 [8]),zq 10 6 9,zm 11 10,g_ 12 11 false (.fieldAddr 0 1),g_ 13 11 false (.load1 12),g_ 14 11 false (.bin .eql 13 (.const (int 50))),zq 15 11 14,zm 16 15,g_ 17 16 true (.fieldAddr 1 1),g_ 18 16 true (.load1 17),g_ 19 16 true (.call 157 [18]),zp 20 16 19,zm 2 20]
def s89:SFn:=⟨21,(zQ [i_ 1 (.box 31 0),zc 2 (.bool false)] (zQ r89_1 .ret)),[.tmp 2]⟩
def s96:SFn:=⟨4,(zQ [i_ 1 (.box 9 0),i_ 2 (.mv (.const .nilFunc))] (zQ [i_ 3 (.mkFunc (.func 179) [] [1]),zm 2 3] .ret)),[.tmp 2]⟩
def r98_1:zI:=[zm 10 1,i_ 11 (.call 183 [10]),zm 9 11,zx 12 9 0,zx 13 9 1,zm 5 12,zm 6 13]
def r98_3:zI:=[zl 16 1 2,zm 17 5,i_ 18 (.call 25 [16,17]),zm 15 18,zx 19 15 0,zx 20 15 1,i_ 7 (.alloc 31 zE2),zs 2 7 19,zm 8 20]
def s98:SFn:=⟨25,(zQ [i_ 2 (.box 26 0),zc 4 (str [])] (.seq (zQ r98_1 (zQ [zm 14 6] (.cond 14 (zQ r98_3 (zQ [zm 21 8] (.cond 21 (zQ [zl 22 2 7,i_ 23 (.call 184 [22]),zm 4 23] .ret) .skip))) .skip))) (zQ [zm 24 1,zm 4 24] .ret))),[.tmp 4]⟩
def r99_1:zI:=[zm 16 0,i_ 17 (.call 35 [16]),zm 15 17,zx 18 15 0,zx 19 15 1,zm 5 18,zm 6 19]
def r99_2:zI:=[zm 21 1,i_ 22 (.call 35 [21]),zm 20 22,zx 23 20 0,zx 24 20 1,zm 7 23,zm 8 24]
def r99_3:zI:=[zm 25 5,i_ 26 (.lenL 25),zm 27 7,i_ 28 (.lenL 27),i_ 29 (.min2 26 28),zm 9 29]
def r99_4:zI:=[zm 30 9,i_ 31 (.mkSlice 195 5 40 (.agg #[int 0,int 0,int 0,int 0,.bool false]) (.const (int 0)) 30),zm 10 31]
def r99_9:zI:=[zm 36 11,zm 37 11,zm 38 5,zm 39 13,zd 40 (.idxAddr 1 38 39) [2,3],zd 41 (.load1 40) [4],zd 42 (.lenS 41) [5],zd 43 (.bin .add 37 42) [1,6],zd 44 (.bin .add 43 (.const (int 1))) [7],zm 45 12,zm 46 12,zm 47 7,zm 48 13,zd 49 (.idxAddr 1 47 48) [11,12],zd 50 (.load1 49) [13],zd 51 (.lenS 50) [14],zd 52 (.bin .add 46 51) [10,15],zd 53 (.bin .add 52 (.const (int 1))) [16],zm 54 5,zm 55 13,zd 56 (.idxAddr 1 54 55) [18,19],zd 57 (.load1 56) [20],zm 58 7,zm 59 13,zd 60 (.idxAddr 1 58 59) [22,23],zd 61 (.load1 60) [24],zd 62 (.bin .eql 57 61) [21,25],zd 63 (.build #[int 0,int 0,int 0,int 0,.bool false] [(0,1),(1,1),(2,1),(3,1),(4,1)] [(0,36),(1,44),(2,45),(3,53),(4,62)]) [0,8,9,17,26],i_ 14 (.alloc 195 (.agg #[int 0,int 0,int 0,int 0,.bool false])),⟨none,.store 5 14 63,none,[28,27,0,1,2,3,4,5,6,7,8,9,10,11,12,13,14,15,16,17,18,19,20,21,22,23,24,25,26,27,28]⟩]
def r99_10:zI:=[zf 64 1 14,zd 65 (.load1 64) [0],zf 66 3 14,zd 67 (.load1 66) [2],zd 11 (.mv 65) [1,0,1],zd 12 (.mv 67) [3,4,0,1,2,3,4]]
def r99_11:zI:=[zm 68 10,zl 69 5 14,i_ 70 (.buildSlice 195 5 1 #[int 0,int 0,int 0,int 0,.bool false] [(0,69)]),i_ 71 (.append 195 5 40 (.agg #[int 0,int 0,int 0,int 0,.bool false]) 68 70),zm 10 71]
def s99:SFn:=⟨74,(zQ [zc 4 (.slice none 0 0)] (zQ r99_1 (zQ r99_2 (zQ r99_3 (zQ r99_4 (zQ [zc 11 (int 0),zc 12 (int 0)] (.seq (zQ [zm 32 9,zc 33 (int 0)] (.block 0 (.loop (zQ [zb 34 .lss 33 32] (.seq (.cond 34 .skip (.exit 0)) (.seq (.block 1 (zQ [zm 35 33,zm 13 35] (.seq (.draw r99_9) (.seq (.draw r99_10) (.run r99_11))))) (.run [zk 72 .add 33 1,zm 33 72]))))))) (zQ [zm 73 10,zm 4 73] .ret)))))))),[.tmp 4]⟩
def r100_1:zI:=[zo 6 2,i_ 7 (.lenL 6),i_ 8 (.mkFunc (.func 186) [] [2,3]),i_ 9 (.call 185 [7,8]),zm 5 9]
def r100_2:zI:=[zm 11 5,zo 12 2,zd 13 (.lenL 12) [1],zd 14 (.bin .lss 11 13) [0,2],zd 15 (.mv 14) [3],zg 16 15 true (.load1 2) [4],zg 17 15 true (.mv 5) [4],zg 18 15 true (.idxAddr 5 16 17) [5,6,4],zg 19 15 true (.fieldAddr 4 18) [7,4],zg 20 15 true (.load1 19) [8,4],zd 21 (.pick 15 20 (.const (.bool false))) [4,9],zd 22 (.mv 21) [10,4],zg 23 22 true (.load1 3) [11],zg 24 22 true (.load1 2) [11],zg 25 22 true (.mv 5) [11],zg 26 22 true (.idxAddr 5 24 25) [13,14,11],zg 27 22 true (.fieldAddr 2 26) [15,11],zg 28 22 true (.load1 27) [16,11],zg 29 22 true (.bin .gtr 23 28) [12,17,11],zd 30 (.pick 22 29 (.const (.bool false))) [11,18],zd 10 (.mv 30) [19,11]]
def r100_3:zI:=[zo 31 2,zm 32 5,zd 33 (.idxAddr 5 31 32) [0,1],zd 34 (.fieldAddr 0 33) [2],zd 35 (.load1 34) [3],zo 36 3,zd 37 (.bin .add 35 36) [4,5],zo 38 2,zm 39 5,zd 40 (.idxAddr 5 38 39) [7,8],zd 41 (.fieldAddr 2 40) [9],zd 42 (.load1 41) [10],zd 43 (.bin .sub 37 42) [6,11],zd 4 (.mv 43) [12,0,1,2,3,4,5,6,7,8,9,10,11,12]]
def r100_7:zI:=[zo 57 2,zm 58 5,zk 59 .sub 58 1,i_ 60 (.idxAddr 5 57 59),zf 61 1 60,zo 62 61,zm 4 62]
def s100:SFn:=⟨63,(zQ [i_ 2 (.box 124 0),i_ 3 (.box 3 1),zc 4 (int 0)] (zQ r100_1 (.seq (.block 0 (.seq (.draw r100_2) (.cond 10 (.seq (.draw r100_3) .ret) (zQ [zm 45 5,zo 46 2,i_ 47 (.lenL 46),zb 48 .lss 45 47,zm 44 48] (.cond 44 (zQ [zo 49 2,zm 50 5,i_ 51 (.idxAddr 5 49 50),zf 52 0 51,zo 53 52,zm 4 53] .ret) (zQ [zm 55 5,zk 56 .gtr 55 0,zm 54 56] (.cond 54 (zQ r100_7 .ret) .skip))))))) (zQ [zc 4 (int 0)] .ret)))),[.tmp 4]⟩
def r101_1:zI:=[zf 8 1 2,zd 9 (.loadN 1 8) [0],zf 10 2 2,zd 11 (.load1 10) [2],zm 12 1,zd 13 (.idxAddr 7 11 12) [3,4],zd 14 (.fieldAddr 4 13) [5],zd 15 (.load1 14) [6],zd 16 (.call 131 [9,15]) [1,7],zd 7 (.mv 16) [8],zd 17 (.extract 7 0) [9],zd 18 (.extract 7 1) [9],i_ 5 (.alloc 26 (.agg #[.slice none 0 0])),⟨none,.store 1 5 17,none,[12,10,8,0,1,2,3,4,5,6,7,8,9,10,12]⟩,zd 6 (.mv 18) [11,13,0,1,2,3,4,5,6,7,8,9,10,11,12,13]]
def s101:SFn:=⟨20,(zQ [i_ 2 (.box 29 0),zc 4 (str [])] (.seq (.draw r101_1) (zQ [zm 19 6,zm 4 19] .ret))),[.tmp 4]⟩
def s130:SFn:=⟨13,(zQ [i_ 3 (.box 33 1),zc 4 (str [])] (.seq (zQ [zm 6 0,zl 7 7 3,i_ 8 (.call 21 [6,7]),zm 5 8] (zQ [zm 9 5,i_ 10 (.call 147 [9])] (.cond 10 (zQ [zm 11 5,zm 4 11] .ret) .skip))) (zQ [zm 12 0,zm 4 12] .ret))),[.tmp 4]⟩
def r132_1:zI:=[zo 6 2,i_ 7 (.lenL 6),i_ 8 (.mkFunc (.func 206) [] [2,3]),i_ 9 (.call 185 [7,8]),zm 5 9]
def r132_5:zI:=[zo 23 2,zm 24 5,zk 25 .sub 24 1,i_ 26 (.idxAddr 5 23 25),zf 27 3 26,zo 28 27,zm 4 28]
def s132:SFn:=⟨29,(zQ [i_ 2 (.box 124 0),i_ 3 (.box 3 1),zc 4 (int 0)] (zQ r132_1 (.seq (.block 0 (zQ [zm 11 5,zo 12 2,i_ 13 (.lenL 12),zb 14 .lss 11 13,zm 10 14] (.cond 10 (zQ [zo 15 2,zm 16 5,i_ 17 (.idxAddr 5 15 16),zf 18 2 17,zo 19 18,zm 4 19] .ret) (zQ [zm 21 5,zk 22 .gtr 21 0,zm 20 22] (.cond 20 (zQ r132_5 .ret) .skip))))) (zQ [zc 4 (int 0)] .ret)))),[.tmp 4]⟩
def r133_1:zI:=[zl 7 7 3,i_ 8 (.call 31 [7]),i_ 9 (.not 8),zm 10 9,g_ 11 10 false (.mv 1),g_ 12 10 false (.lenS 11),g_ 13 10 false (.bin .gtr 12 (.const (int 240))),zq 14 10 13,zm 15 14,g_ 16 15 false (.mv 2),g_ 17 15 false (.bin .lss 16 (.const (int 0))),zq 18 15 17]
def s133:SFn:=⟨23,(zQ [i_ 3 (.box 33 0),zc 6 (.slice none 0 0)] (.seq (zQ r133_1 (.cond 18 (zQ [zc 6 (.slice none 0 0)] .ret) .skip)) (zQ [zl 19 7 3,zm 20 1,zm 21 2,i_ 22 (.call 207 [19,20,21]),zm 6 22] .ret))),[.tmp 6]⟩
def r141_1:zI:=[zf 11 0 3,zo 12 11,zl 13 2 4,i_ 14 (.raw (.lookup 98 12 13 true) 191),zm 10 14,zx 15 10 0,zx 16 10 1,zm 6 15,zm 7 16]
def r141_3:zI:=[zf 19 0 3,zo 20 19,zl 21 2 4,zm 22 2,n_ (.raw (.mapUpdate 98 20 21 22) 0)]
def r141_4:zI:=[zf 24 1 3,zo 25 24,zm 26 2,i_ 27 (.raw (.lookup 99 25 26 true) 51),zm 23 27,zx 28 23 0,zx 29 23 1,i_ 8 (.alloc 31 zE2),zs 2 8 28,zm 9 29]
def r141_6:zI:=[zf 32 1 3,zo 33 32,zm 34 2,zl 35 2 4,n_ (.raw (.mapUpdate 99 33 34 35) 0)]
def s141:SFn:=⟨36,(zQ [i_ 3 (.box 101 0),i_ 4 (.box 31 1)] (.seq (zQ r141_1 (zQ [zm 17 7,i_ 18 (.not 17)] (.cond 18 (.run r141_3) .skip))) (zQ r141_4 (zQ [zm 30 9,i_ 31 (.not 30)] (.cond 31 (.run r141_6) .skip))))),[]⟩
def s143:SFn:=⟨6,(zQ [i_ 1 (.box 162 0),zc 2 (.bool false)] (zQ [zl 3 7 1,i_ 4 (.call 144 [3]),i_ 5 (.not 4),zm 2 5] .ret)),[.tmp 2]⟩
def r144_1:zI:=[zf 3 1 1,zo 4 3,i_ 5 (.call 156 [4]),zm 6 5,g_ 7 6 true (.fieldAddr 2 1),g_ 8 6 true (.load1 7),g_ 9 6 true (.call 156 [8]),zp 10 6 9,zm 11 10,g_ 12 11 true (.fieldAddr 1 1),g_ 13 11 true (.load1 12),g_ 14 11 true (.fieldAddr 2 1),g_ 15 11 true (.load1 14),g_ 16 11 true (.bin .leq 13 15),zp 17 11 16,zm 18 17,g_ 19 18 true (.fieldAddr 3 1),g_ 20 18 true (.load1 19),g_ 21 18 true (.call 173 [20]),zp 22 18 21,zm 23 22,g_ 24 23 true (.fieldAddr 4 1),g_ 25 23 true (.load1 24),g_ 26 23 true (.call 173 [25]),zp 27 23 26,zm 28 27,g_ 29 28 true (.fieldAddr 3 1),g_ 30 28 true (.load1 29),g_ 31 28 true (.fieldAddr 4 1),g_ 32 28 true (.load1 31),g_ 33 28 true (.bin .leq 30 32),zp 34 28 33,zm 35 34,g_ 36 35 true (.fieldAddr 5 1),g_ 37 35 true (.load1 36),g_ 38 35 true (.call 157 [37]),zp 39 35 38,zm 40 39,g_ 41 40 true (.fieldAddr 6 1),g_ 42 40 true (.load1 41),g_ 43 40 true (.call 157 [42]),zp 44 40 43,zm 45 44,g_ 46 45 true (.fieldAddr 5 1),g_ 47 45 true (.load1 46),g_ 48 45 true (.fieldAddr 6 1),g_ 49 45 true (.load1 48),g_ 50 45 true (.bin .leq 47 49),zp 51 45 50,zm 2 51]
def s144:SFn:=⟨52,(zQ [i_ 1 (.box 162 0),zc 2 (.bool false)] (zQ r144_1 .ret)),[.tmp 2]⟩
def r146_1:zI:=[zf 3 0 1,zo 4 3,i_ 5 (.call 173 [4]),zm 6 5,g_ 7 6 true (.fieldAddr 1 1),g_ 8 6 true (.load1 7),g_ 9 6 true (.call 157 [8]),zp 10 6 9,zm 2 10]
def s146:SFn:=⟨11,(zQ [i_ 1 (.box 31 0),zc 2 (.bool false)] (zQ r146_1 .ret)),[.tmp 2]⟩
def r147_1:zI:=[zm 8 0,i_ 9 (.call 35 [8]),zm 7 9,zx 10 7 0,zx 11 7 1,zm 3 10,zm 4 11]
def r147_2:zI:=[zm 12 3,zm 13 4,i_ 14 (.buildSlice 9 1 1 #[str []] [(0,13)]),i_ 15 (.append 9 1 16 (str []) 12 14),i_ 16 (.lenL 15),zc 17 (int 0)]
def s147:SFn:=⟨28,(zQ [zc 2 (.bool false)] (zQ r147_1 (.seq (zQ r147_2 (.block 0 (.loop (zQ [zb 18 .lss 17 16] (.seq (.cond 18 .skip (.exit 0)) (.seq (.block 1 (zQ [i_ 19 (.idxAddr 1 15 17),zo 20 19,zm 6 20] (zQ [zm 21 6,i_ 22 (.call 60 [21]),i_ 23 (.not 22)] (.cond 23 (zQ [zc 2 (.bool false)] .ret) .skip)))) (.run [zk 24 .add 17 1,zm 17 24]))))))) (zQ [zm 25 0,i_ 26 (.lenS 25),zk 27 .leq 26 120,zm 2 27] .ret)))),[.tmp 2]⟩
def r149_1:zI:=[zm 14 1,i_ 15 (.call 35 [14]),zm 13 15,zx 16 13 0,zx 17 13 1,zm 7 16,zm 8 17]
def r149_2:zI:=[zm 19 2,i_ 20 (.call 35 [19]),zm 18 20,zx 21 18 0,zx 22 18 1,zm 9 21,zm 10 22]
def r149_3:zI:=[zm 23 9,i_ 24 (.lenL 23),zm 25 7,i_ 26 (.lenL 25),zb 27 .neq 24 26,zm 28 27,g_ 29 28 false (.mv 10),g_ 30 28 false (.bin .neq 29 (.const (str []))),zq 31 28 30,zm 32 31,g_ 33 32 false (.mv 2),g_ 34 32 false (.lenS 33),g_ 35 32 false (.bin .gtr 34 (.const (int 240))),zq 36 32 35]
def r149_8:zI:=[zm 44 9,zm 45 11,zd 46 (.idxAddr 1 44 45) [0,1],zd 47 (.load1 46) [2],zm 48 12,zd 49 (.bin .neq 47 48) [3,4],zd 50 (.mv 49) [5],zg 51 50 true (.mv 9) [6],zg 52 50 true (.mv 11) [6],zg 53 50 true (.idxAddr 1 51 52) [7,8,6],zg 54 50 true (.load1 53) [9,6],zg 55 50 true (.loadN 1 3) [6],zg 56 50 true (.mv 12) [6],zg 57 50 true (.call 98 [55,56]) [11,12,6,6],zg 58 50 true (.bin .neq 54 57) [10,13,6],zd 59 (.pick 50 58 (.const (.bool false))) [6,14]]
def s149:SFn:=⟨61,(zQ [i_ 3 (.box 26 0),zc 6 (.bool false)] (zQ r149_1 (zQ r149_2 (.seq (zQ r149_3 (.cond 36 (zQ [zc 6 (.bool false)] .ret) .skip)) (.seq (zQ [zm 37 7,i_ 38 (.lenL 37),zc 39 (int 0)] (.block 0 (.loop (zQ [zb 40 .lss 39 38] (.seq (.cond 40 .skip (.exit 0)) (.seq (.block 1 (zQ [zm 41 39,i_ 42 (.idxAddr 1 37 39),zo 43 42,zm 11 41,zm 12 43] (.seq (.draw r149_8) (.cond 59 (zQ [zc 6 (.bool false)] .ret) .skip)))) (.run [zk 60 .add 39 1,zm 39 60]))))))) (zQ [zc 6 (.bool true)] .ret)))))),[.tmp 6]⟩
def r151_1:zI:=[zf 5 0 3,zl 6 2 5,zl 7 2 1,i_ 8 (.eqv false 31 6 7),zm 9 8,g_ 10 9 true (.fieldAddr 2 3),g_ 11 9 true (.loadN 2 10),g_ 12 9 true (.loadN 2 2),g_ 13 9 true (.eqv false 31 11 12),zp 14 9 13,zm 4 14]
def s151:SFn:=⟨15,(zQ [i_ 3 (.box 49 0),zc 4 (.bool false)] (zQ r151_1 .ret)),[.tmp 4]⟩
def r154_1:zI:=[zf 3 0 1,zo 4 3,i_ 5 (.call 212 [4]),i_ 6 (.call 158 [5]),i_ 7 (.build #[.slice none 0 0] [(0,1)] [(0,6)]),zs 1 2 7]
def s154:SFn:=⟨8,(zQ [i_ 1 (.box 26 0),i_ 2 (.alloc 26 (.agg #[.slice none 0 0]))] (zQ r154_1 .ret)),[.cellN 2 1]⟩
def s156:SFn:=⟨5,(zQ [zc 2 (.bool false)] (zQ [zm 3 0,i_ 4 (.call 70 [3,.const (int 1),.const (int 9)]),zm 2 4] .ret)),[.tmp 2]⟩
def s157:SFn:=⟨5,(zQ [zc 2 (.bool false)] (zQ [zm 3 0,i_ 4 (.call 70 [3,.const (int 1),.const (int 999)]),zm 2 4] .ret)),[.tmp 2]⟩
def s170:SFn:=⟨5,(zQ [i_ 2 (.box 31 0),i_ 3 (.box 31 1),zc 4 (.bool false)] (zQ [zc 4 (.bool true)] .ret)),[.tmp 4]⟩
def s172:SFn:=⟨6,(zQ [i_ 2 (.box 162 0),i_ 3 (.box 179 1),i_ 4 (.mv (.const .nilFunc))] (zQ [i_ 5 (.mkFunc (.func 215) [] [2,3]),zm 4 5] .ret)),[.tmp 4]⟩
def r173_1:zI:=[zm 3 0,i_ 4 (.call 70 [3,.const (int 100),.const (int 109)]),zm 2 4]
def s173:SFn:=⟨5,(zQ [zc 2 (.bool false)] (zQ r173_1 .ret)),[.tmp 2]⟩
def r179_0:zI:=[zo 7 1,i_ 8 (.call 180 [7,.const (str [59])]),zm 6 8,zx 9 6 0,zx 10 6 1,zx 11 6 2,zm 3 9,zm 4 10,zm 5 11]
def r179_1:zI:=[zm 12 5,i_ 13 (.not 12),zm 14 13,g_ 15 14 false (.mv 0),g_ 16 14 false (.mv 3),g_ 17 14 false (.callv 15 [16]),g_ 18 14 false (.not 17),zq 19 14 18]
def c179:SCode:=(.block 0 (.loop (.block 1 (zQ r179_0 (.seq (zQ r179_1 (.cond 19 .ret .skip)) (.run [zm 20 4,zs 1 1 20]))))))
def s179:SFn:=⟨21,c179,[]⟩
theorem k179:slimFn Tryz.prog Tryz.f179=some s179:=by kernel_rfl
def r183_1:zI:=[zm 7 0,i_ 8 (.call 220 [7]),zm 6 8,zx 9 6 0,zx 10 6 1,i_ 4 (.alloc 31 zE2),zs 2 4 9,zm 5 10]
def r183_2:zI:=[zm 11 5,i_ 12 (.not 11),zm 13 12,g_ 14 13 false (.fieldAddr 0 4),g_ 15 13 false (.load1 14),g_ 16 13 false (.bin .neq 15 (.const (int 50))),zq 17 13 16]
def s183:SFn:=⟨20,(zQ [zc 2 (int 0),zc 3 (.bool false)] (zQ r183_1 (.seq (zQ r183_2 (.cond 17 (zQ [zc 2 (int 0),zc 3 (.bool false)] .ret) .skip)) (zQ [zf 18 1 4,zo 19 18,zm 2 19,zc 3 (.bool true)] .ret)))),[.tmp 2,.tmp 3]⟩
def r184_3:zI:=[zl 6 2 1,i_ 7 (.call 221 [6]),i_ 8 (.bin .add (.const (str [112,111,114,116,32])) 7),zm 2 8]
def s184:SFn:=⟨9,(zQ [i_ 1 (.box 31 0),zc 2 (str [])] (.seq (zQ [zl 3 2 1,i_ 4 (.call 89 [3]),i_ 5 (.not 4)] (.cond 5 (zQ [zc 2 (str [])] .ret) .skip)) (zQ r184_3 .ret))),[.tmp 2]⟩
def r186_1:zI:=[zo 5 1,zm 6 0,zd 7 (.idxAddr 5 5 6) [0,1],zd 8 (.fieldAddr 3 7) [2],zd 9 (.load1 8) [3],zo 10 2,zd 11 (.bin .gtr 9 10) [4,5],zd 4 (.mv 11) [6,0,1,2,3,4,5,6]]
def s186:SFn:=⟨12,(zQ [zc 4 (.bool false)] (.seq (.draw r186_1) .ret)),[.tmp 4]⟩
def r203_0:zI:=[i_ 2 (.box 26 0),i_ 4 (.alloc 26 (.agg #[.slice none 0 0])),zc 5 (str [])]
def r203_1:zI:=[zm 11 1,i_ 12 (.call 211 [11]),zm 10 12,zx 13 10 0,zx 14 10 1,i_ 6 (.alloc 31 zE2),zs 2 6 13,zm 7 14]
def r203_4:zI:=[zl 21 1 2,zl 22 2 6,i_ 23 (.call 68 [21,22]),zm 20 23,zx 24 20 0,zx 25 20 1,i_ 8 (.alloc 26 (.agg #[.slice none 0 0])),zs 1 8 24,zm 9 25]
def r203_7:zI:=[zl 29 1 8,zm 30 9,zd 31 (.build #[int 0,int 0] [(0,1),(1,1)] [(0,.const (int 50)),(1,30)]) [1],zd 32 (.call 184 [31]) [2],⟨none,.store 1 4 29,none,[0,3,0]⟩,zd 5 (.mv 32) [3,4,0,1,2,3,4]]
def s203:SFn:=⟨33,(zQ r203_0 (zQ r203_1 (.seq (zQ [zm 15 7,i_ 16 (.not 15)] (.cond 16 (zQ [zl 17 1 2,i_ 18 (.call 154 [17]),zm 19 1,zs 1 4 18,zm 5 19] .ret) .skip)) (zQ r203_4 (.seq (zQ [zm 26 9,zk 27 .eql 26 0] (.cond 27 (zQ [zl 28 1 8,zs 1 4 28,zc 5 (str [110,111,110,101])] .ret) .skip)) (.seq (.draw r203_7) .ret)))))),[.cellN 4 1,.tmp 5]⟩
def r206_1:zI:=[zo 5 1,zm 6 0,zd 7 (.idxAddr 5 5 6) [0,1],zd 8 (.fieldAddr 1 7) [2],zd 9 (.load1 8) [3],zo 10 2,zd 11 (.bin .gtr 9 10) [4,5],zd 4 (.mv 11) [6,0,1,2,3,4,5,6]]
def s206:SFn:=⟨12,(zQ [zc 4 (.bool false)] (.seq (.draw r206_1) .ret)),[.tmp 4]⟩
def r207_4:zI:=[zm 15 1,zm 16 2,zm 17 2,zk 18 .add 17 12,zm 19 1,i_ 20 (.lenS 19),i_ 21 (.min2 18 20),i_ 22 (.sliceS 15 (some 16) (some 21)),zf 23 6 3,zs 1 23 22]
def r207_5:zI:=[zm 24 7,zl 25 7 3,i_ 26 (.buildSlice 33 7 1 #[int 0,int 0,int 0,int 0,int 0,int 0,str []] [(0,25)]),i_ 27 (.append 33 7 64 zS7 24 26),zm 7 27]
def r207_8:zI:=[zm 33 1,i_ 34 (.lenS 33),zf 35 4 3,zs 1 35 34,zf 36 6 3,n_ (.store 1 36 (.const (str [])))]
def r207_9:zI:=[zm 37 7,zl 38 7 3,i_ 39 (.buildSlice 33 7 1 #[int 0,int 0,int 0,int 0,int 0,int 0,str []] [(0,38)]),i_ 40 (.append 33 7 64 zS7 37 39),zm 7 40]
def r207_10:zI:=[zm 41 7,zm 42 7,i_ 43 (.lenL 42),zm 44 7,i_ 45 (.lenL 44),i_ 46 (.sliceL 7 41 none (some 43) (some 45)),zm 6 46]
def s207:SFn:=⟨47,(zQ [i_ 3 (.box 33 0),zc 6 (.slice none 0 0)] (zQ [i_ 8 (.buildSlice 33 7 0 #[] []),zm 7 8] (.seq (.block 0 (.loop (.seq (zQ [zm 9 2,zm 10 1,i_ 11 (.lenS 10),zb 12 .lss 9 11] (.cond 12 .skip (.exit 0))) (.block 1 (zQ [zm 13 2,zf 14 4 3,zs 1 14 13] (zQ r207_4 (zQ r207_5 (.run [zm 28 2,zk 29 .add 28 12,zm 2 29])))))))) (.seq (zQ [zm 30 7,i_ 31 (.lenL 30),zk 32 .eql 31 0] (.cond 32 (zQ r207_8 (.run r207_9)) .skip)) (zQ r207_10 .ret))))),[.tmp 6]⟩
def r211_1:zI:=[zm 7 0,i_ 8 (.call 220 [7]),zm 6 8,zx 9 6 0,zx 10 6 1,i_ 4 (.alloc 31 zE2),zs 2 4 9,zm 5 10]
def r211_2:zI:=[zm 11 5,i_ 12 (.not 11),zm 13 12,g_ 14 13 false (.loadN 2 4),g_ 15 13 false (.call 67 [14]),g_ 16 13 false (.not 15),zq 17 13 16]
def r211_3:zI:=[i_ 18 (.build #[int 0,int 0] [(0,1),(1,1)] []),zs 2 2 18,zc 3 (.bool false)]
def s211:SFn:=⟨20,(zQ [i_ 2 (.alloc 31 zE2),zc 3 (.bool false)] (zQ r211_1 (.seq (zQ r211_2 (.cond 17 (zQ r211_3 .ret) .skip)) (zQ [zl 19 2 4,zs 2 2 19,zc 3 (.bool true)] .ret)))),[.cellN 2 2,.tmp 3]⟩
def r215_1:zI:=[zf 7 0 4,zo 8 7,zf 9 1 2,zo 10 9,zf 11 2 2,zo 12 11,i_ 13 (.call 70 [8,10,12]),zm 14 13,g_ 15 14 true (.fieldAddr 0 5),g_ 16 14 true (.load1 15),g_ 17 14 true (.fieldAddr 3 2),g_ 18 14 true (.load1 17),g_ 19 14 true (.fieldAddr 4 2),g_ 20 14 true (.load1 19),g_ 21 14 true (.call 70 [16,18,20]),zp 22 14 21,zm 23 22,g_ 24 23 true (.fieldAddr 1 5),g_ 25 23 true (.load1 24),g_ 26 23 true (.fieldAddr 5 2),g_ 27 23 true (.load1 26),g_ 28 23 true (.fieldAddr 6 2),g_ 29 23 true (.load1 28),g_ 30 23 true (.call 70 [25,27,29]),zp 31 23 30]
def s215:SFn:=⟨38,(zQ [i_ 4 (.box 31 0),i_ 5 (.box 31 1),zc 6 (.bool false)] (.seq (zQ r215_1 (.cond 31 (zQ [zf 32 0 2,zo 33 32,zm 6 33] .ret) .skip)) (zQ [zo 34 3,zl 35 2 4,zl 36 2 5,i_ 37 (.callv 34 [35,36]),zm 6 37] .ret))),[.tmp 6]⟩
def r220_1:zI:=[zm 9 0,i_ 10 (.call 231 [9,.const (str [112,111,114,116,32])]),zm 8 10,zx 11 8 0,zx 12 8 1,zm 4 11,zm 5 12]
def r220_2:zI:=[zm 14 4,i_ 15 (.call 232 [14]),zm 13 15,zx 16 13 0,zx 17 13 1,i_ 6 (.alloc 31 zE2),zs 2 6 16,zm 7 17]
def r220_3:zI:=[zl 18 2 6,zm 19 5,zd 20 (.mv 19) [1],zg 21 20 true (.mv 7) [2],zg 22 20 true (.eqv false 215 21 (.const .nilIface)) [3,2],zd 23 (.pick 20 22 (.const (.bool false))) [2,4],⟨none,.store 2 2 18,none,[0,2,0]⟩,zd 3 (.mv 23) [5,6,0,1,2,3,4,5,6]]
def s220:SFn:=⟨24,(zQ [i_ 2 (.alloc 31 zE2),zc 3 (.bool false)] (zQ r220_1 (zQ r220_2 (.seq (.draw r220_3) .ret)))),[.cellN 2 2,.tmp 3]⟩
def r221_3:zI:=[zf 6 0 1,zd 7 (.load1 6) [0],zd 8 (.call 233 [7]) [1],zd 9 (.bin .add 8 (.const (str [32]))) [2],zf 10 1 1,zd 11 (.load1 10) [4],zd 12 (.call 233 [11]) [5,2],zd 13 (.bin .add 9 12) [3,6],zd 2 (.mv 13) [7,6,0,1,2,3,4,5,6,7]]
def s221:SFn:=⟨14,(zQ [i_ 1 (.box 31 0),zc 2 (str [])] (.seq (zQ [zl 3 2 1,i_ 4 (.call 89 [3]),i_ 5 (.not 4)] (.cond 5 (zQ [zc 2 (str [])] .ret) .skip)) (.seq (.draw r221_3) .ret))),[.tmp 2]⟩
def r223_0:zI:=[zm 2 0,i_ 3 (.nilchk 2),zf 4 0 3,zo 5 4,i_ 6 (.eqv false 211 5 (.const (.pointer none)))]
def r223_1:zI:=[zm 7 0,zm 8 0,i_ 9 (.raw (.convert 211 234 8) 234),i_ 10 (.raw (.call ⟨.value (.func 234),#[9],#[234]⟩) 234),i_ 11 (.raw (.convert 234 211 10) 211),i_ 12 (.nilchk 7),zf 13 0 12,zs 1 13 11]
def r223_2:zI:=[zm 14 0,i_ 15 (.nilchk 14),zf 16 0 15,zo 17 16,zm 18 0,i_ 19 (.eqv true 211 17 18)]
def s223:SFn:=⟨20,(zQ r223_0 (.cond 6 (.run r223_1) (zQ r223_2 (.cond 19 .bad .skip)))),[]⟩
def r232_1:zI:=[zm 13 0,i_ 14 (.call 180 [13,.const (str [32])]),zm 12 14,zx 15 12 0,zx 16 12 1,zx 17 12 2,zm 4 15,zm 5 16,zm 6 17]
def r232_2:zI:=[zm 19 4,i_ 20 (.call 240 [19]),zm 18 20,zx 21 18 0,zx 22 18 1,zm 7 21,zm 8 22]
def r232_3:zI:=[zm 24 5,i_ 25 (.call 240 [24]),zm 23 25,zx 26 23 0,zx 27 23 1,zm 9 26,zm 10 27]
def r232_4:zI:=[zm 28 7,zm 29 9,i_ 30 (.build #[int 0,int 0] [(0,1),(1,1)] [(0,28),(1,29)]),i_ 11 (.alloc 31 zE2),zs 2 11 30]
def r232_5:zI:=[zm 31 8,i_ 32 (.eqv true 215 31 (.const .nilIface)),zm 33 32,g_ 34 33 false (.mv 10),g_ 35 33 false (.eqv true 215 34 (.const .nilIface)),zq 36 33 35,zm 37 36,g_ 38 37 false (.loadN 2 11),g_ 39 37 false (.call 221 [38]),g_ 40 37 false (.mv 0),g_ 41 37 false (.bin .neq 39 40),zq 42 37 41]
def r232_6:zI:=[i_ 43 (.build #[int 0,int 0] [(0,1),(1,1)] []),i_ 44 (.load1 (.global 1)),⟨none,.store 2 2 43,none,[0,0]⟩,zd 3 (.mv 44) [1,2,0,1,2]]
def s232:SFn:=⟨46,(zQ [i_ 2 (.alloc 31 zE2),i_ 3 (.mv (.const .nilIface))] (zQ r232_1 (zQ r232_2 (zQ r232_3 (zQ r232_4 (.seq (zQ r232_5 (.cond 42 (.seq (.draw r232_6) .ret) .skip)) (zQ [zl 45 2 11,zs 2 2 45,i_ 3 (.mv (.const .nilIface))] .ret))))))),[.cellN 2 2,.tmp 3]⟩
end
section
def r14_1:zI:=[zf 4 1 1,zl 5 1 4,i_ 6 (.call 57 [5]),i_ 7 (.not 6),zm 8 7,g_ 9 8 false (.fieldAddr 0 1),g_ 10 8 false (.load1 9),g_ 11 8 false (.call 58 [10]),g_ 12 8 false (.not 11),zq 13 8 12,zm 14 13,g_ 15 14 false (.fieldAddr 2 1),g_ 16 14 false (.load1 15),g_ 17 14 false (.lenL 16),g_ 18 14 false (.bin .gtr 17 (.const (int 3))),zq 19 14 18]
def s14:SFn:=⟨31,(zQ [i_ 1 (.box 29 0),zc 2 (.bool false)] (.seq (zQ r14_1 (.cond 19 (zQ [zc 2 (.bool false)] .ret) .skip)) (.seq (zQ [zc 3 (int 0)] (.block 0 (.loop (.seq (zQ [zm 20 3,zf 21 2 1,zo 22 21,i_ 23 (.lenL 22),zb 24 .lss 20 23] (.cond 24 .skip (.exit 0))) (.seq (.block 1 (zQ [zl 27 3 1,zm 28 3,i_ 29 (.call 59 [27,28]),i_ 30 (.not 29)] (.cond 30 (zQ [zc 2 (.bool false)] .ret) .skip))) (.run [zm 25 3,zk 26 .add 25 1,zm 3 26])))))) (zQ [zc 2 (.bool true)] .ret)))),[.tmp 2]⟩
def r22_3:zI:=[zm 10 0,i_ 11 (.call 72 [10]),zm 9 11,zx 12 9 0,zx 13 9 1,zm 3 12,zm 4 13]
def r22_6:zI:=[zm 20 3,zm 21 5,i_ 22 (.idxAddr 1 20 21),zo 23 22,i_ 24 (.call 73 [23]),i_ 25 (.not 24)]
def s22:SFn:=⟨28,(zQ [zc 2 (.bool false)] (.seq (zQ [zm 6 0,i_ 7 (.lenS 6),zk 8 .gtr 7 120] (.cond 8 (zQ [zc 2 (.bool false)] .ret) .skip)) (zQ r22_3 (.seq (zQ [zc 5 (int 0)] (.block 0 (.loop (.seq (zQ [zm 14 5,zm 15 3,i_ 16 (.lenL 15),zb 17 .lss 14 16] (.cond 17 .skip (.exit 0))) (.seq (.block 1 (zQ r22_6 (.cond 25 (zQ [zc 2 (.bool false)] .ret) .skip))) (.run [zm 18 5,zk 19 .add 18 1,zm 5 19])))))) (zQ [zm 26 4,i_ 27 (.call 73 [26]),zm 2 27] .ret))))),[.tmp 2]⟩
def r26_0:zI:=[i_ 2 (.box 29 0),i_ 3 (.box 33 1),i_ 4 (.alloc 29 zB3),zc 5 (.slice none 0 0)]
def r26_1:zI:=[zl 10 3 2,i_ 11 (.call 14 [10]),i_ 12 (.not 11),zm 13 12,g_ 14 13 false (.loadN 7 3),g_ 15 13 false (.call 29 [14]),g_ 16 13 false (.not 15),zq 17 13 16,zm 18 17,g_ 19 18 false (.fieldAddr 0 3),g_ 20 18 false (.loadN 2 19),g_ 21 18 false (.call 77 [20]),g_ 22 18 false (.not 21),zq 23 18 22,zm 24 23,g_ 25 24 false (.fieldAddr 2 3),g_ 26 24 false (.fieldAddr 0 25),g_ 27 24 false (.load1 26),g_ 28 24 false (.bin .neq 27 (.const (int 50))),zq 29 24 28]
def r26_2:zI:=[zl 30 3 2,i_ 31 (.call 78 [30]),i_ 32 (.buildSlice 33 7 0 #[] []),zs 3 4 31,zm 5 32]
def r26_4:zI:=[zf 36 1 2,zl 37 1 36,zf 38 2 3,zf 39 1 38,zo 40 39,i_ 41 (.call 80 [37,40]),zm 35 41,zx 42 35 0,zx 43 35 1,i_ 7 (.alloc 31 zE2),zs 2 7 42,zm 8 43]
def r26_5:zI:=[zm 44 8,i_ 45 (.not 44),zm 46 45,g_ 47 46 false (.fieldAddr 0 2),g_ 48 46 false (.load1 47),g_ 49 46 false (.loadN 2 7),g_ 50 46 false (.fieldAddr 0 3),g_ 51 46 false (.loadN 2 50),g_ 52 46 false (.call 81 [48,49,51]),g_ 53 46 false (.not 52),zq 54 46 53]
def r26_7:zI:=[zf 57 2 2,zo 58 57,zl 59 2 7,zf 60 0 3,zl 61 2 60,i_ 62 (.call 82 [58,59,61]),zm 9 62]
def r26_9:zI:=[zl 65 3 6,zl 66 7 3,zm 67 9,i_ 68 (.call 83 [65,66,67]),zx 69 68 0,zx 70 68 1,zs 3 4 69,zm 5 70]
def r26_13:zI:=[zl 79 3 6,zl 80 7 3,zd 81 (.buildSlice 33 7 1 #[int 0,int 0,int 0,int 0,int 0,int 0,str []] [(0,80)]) [1],⟨none,.store 3 4 79,none,[0,0]⟩,zd 5 (.mv 81) [2,3,0,1,2,3]]
def s26:SFn:=⟨82,(zQ r26_0 (.seq (zQ r26_1 (.cond 29 (zQ r26_2 .ret) .skip)) (zQ [zl 33 3 2,i_ 34 (.call 79 [33]),i_ 6 (.alloc 29 zB3),zs 3 6 34] (zQ r26_4 (.seq (zQ r26_5 (.cond 54 (zQ [zl 55 3 6,i_ 56 (.buildSlice 33 7 0 #[] []),zs 3 4 55,zm 5 56] .ret) .skip)) (zQ r26_7 (.seq (zQ [zm 63 9,zk 64 .geq 63 0] (.cond 64 (zQ r26_9 .ret) .skip)) (.seq (zQ [zf 71 0 3,zf 72 1 71,zo 73 72,zk 74 .eql 73 21] (.cond 74 (zQ [zl 75 3 6,i_ 76 (.buildSlice 33 7 0 #[] []),zs 3 4 75,zm 5 76] .ret) .skip)) (zQ [zl 77 2 7,zf 78 2 3,zs 2 78 77] (.seq (.draw r26_13) .ret)))))))))),[.cellN 4 3,.tmp 5]⟩
def r29_1:zI:=[zf 4 0 1,zl 5 2 4,i_ 6 (.call 84 [5]),i_ 7 (.not 6),zm 8 7,g_ 9 8 false (.fieldAddr 2 1),g_ 10 8 false (.loadN 2 9),g_ 11 8 false (.call 84 [10]),g_ 12 8 false (.not 11),zq 13 8 12,zm 14 13,g_ 15 14 false (.fieldAddr 4 1),g_ 16 14 false (.load1 15),g_ 17 14 false (.call 85 [16,.const (int 0),.const (int 240)]),g_ 18 14 false (.not 17),zq 19 14 18,zm 20 19,g_ 21 20 false (.fieldAddr 5 1),g_ 22 20 false (.load1 21),g_ 23 20 false (.call 85 [22,.const (int 0),.const (int 240)]),g_ 24 20 false (.not 23),zq 25 20 24,zm 26 25,g_ 27 26 false (.fieldAddr 6 1),g_ 28 26 false (.load1 27),g_ 29 26 false (.lenS 28),g_ 30 26 false (.bin .gtr 29 (.const (int 12))),zq 31 26 30]
def r29_5:zI:=[zf 39 6 1,zo 40 39,zm 41 3,i_ 42 (.strIdx 40 41),i_ 43 (.call 86 [42]),i_ 44 (.not 43),zm 45 44,g_ 46 45 true (.fieldAddr 6 1),g_ 47 45 true (.load1 46),g_ 48 45 true (.mv 3),g_ 49 45 true (.strIdx 47 48),g_ 50 45 true (.bin .neq 49 (.const (.int .u8 59))),zp 51 45 50]
def s29:SFn:=⟨52,(zQ [i_ 1 (.box 33 0),zc 2 (.bool false)] (.seq (zQ r29_1 (.cond 31 (zQ [zc 2 (.bool false)] .ret) .skip)) (.seq (zQ [zc 3 (int 0)] (.block 0 (.loop (.seq (zQ [zm 32 3,zf 33 6 1,zo 34 33,i_ 35 (.lenS 34),zb 36 .lss 32 35] (.cond 36 .skip (.exit 0))) (.seq (.block 1 (zQ r29_5 (.cond 51 (zQ [zc 2 (.bool false)] .ret) .skip))) (.run [zm 37 3,zk 38 .add 37 1,zm 3 38])))))) (zQ [zc 2 (.bool true)] .ret)))),[.tmp 2]⟩
def r57_5:zI:=[zf 15 0 1,zd 16 (.load1 15) [0],zm 17 3,zd 18 (.idxAddr 2 16 17) [1,2],zd 19 (.loadN 2 18) [3],zd 20 (.call 90 [19]) [4],zd 21 (.not 20) [5],zd 22 (.mv 21) [6,5],zg 23 22 false (.fieldAddr 0 1) [7],zg 24 22 false (.load1 23) [8,7],zg 25 22 false (.mv 3) [7],zg 26 22 false (.sliceL 2 24 none (some 25) none) [9,10,7],zg 27 22 false (.build #[.slice none 0 0] [(0,1)] [(0,26)]) [11,7],zg 28 22 false (.fieldAddr 0 1) [7],zg 29 22 false (.load1 28) [13,7],zg 30 22 false (.mv 3) [7],zg 31 22 false (.idxAddr 2 29 30) [14,15,7],zg 32 22 false (.loadN 2 31) [16,7],zg 33 22 false (.call 136 [27,32]) [12,17,7,7],zg 34 22 false (.bin .geq 33 (.const (int 0))) [18,7],zd 35 (.pick 22 (.const (.bool true)) 34) [7,19]]
def s57:SFn:=⟨36,(zQ [i_ 1 (.box 26 0),zc 2 (.bool false)] (.seq (zQ [zf 4 0 1,zo 5 4,i_ 6 (.lenL 5),zk 7 .gtr 6 6] (.cond 7 (zQ [zc 2 (.bool false)] .ret) .skip)) (.seq (zQ [zc 3 (int 0)] (.block 0 (.loop (.seq (zQ [zm 8 3,zf 9 0 1,zo 10 9,i_ 11 (.lenL 10),zb 12 .lss 8 11] (.cond 12 .skip (.exit 0))) (.seq (.block 1 (.seq (.draw r57_5) (.cond 35 (zQ [zc 2 (.bool false)] .ret) .skip))) (.run [zm 13 3,zk 14 .add 13 1,zm 3 14])))))) (zQ [zc 2 (.bool true)] .ret)))),[.tmp 2]⟩
def r58_5:zI:=[zm 13 0,zm 14 3,i_ 15 (.idxAddr 7 13 14),zl 16 7 15,i_ 17 (.call 137 [16]),i_ 18 (.not 17)]
def s58:SFn:=⟨19,(zQ [zc 2 (.bool false)] (.seq (zQ [zm 4 0,i_ 5 (.lenL 4),zk 6 .gtr 5 5] (.cond 6 (zQ [zc 2 (.bool false)] .ret) .skip)) (.seq (zQ [zc 3 (int 0)] (.block 0 (.loop (.seq (zQ [zm 7 3,zm 8 0,i_ 9 (.lenL 8),zb 10 .lss 7 9] (.cond 10 .skip (.exit 0))) (.seq (.block 1 (zQ r58_5 (.cond 18 (zQ [zc 2 (.bool false)] .ret) .skip))) (.run [zm 11 3,zk 12 .add 11 1,zm 3 12])))))) (zQ [zc 2 (.bool true)] .ret)))),[.tmp 2]⟩
def r59_1:zI:=[zf 6 2 2,zo 7 6,zm 8 1,i_ 9 (.idxAddr 7 7 8),zl 10 7 9,i_ 5 (.alloc 49 (.agg #[int 0,int 0,int 0,int 0,str [],str [],str []])),zs 7 5 10]
def r59_2:zI:=[zf 11 0 5,zl 12 2 11,i_ 13 (.call 90 [12]),i_ 14 (.not 13),zm 15 14,g_ 16 15 false (.fieldAddr 2 5),g_ 17 15 false (.loadN 2 16),g_ 18 15 false (.call 77 [17]),g_ 19 15 false (.not 18),zq 20 15 19,zm 21 20,g_ 22 21 false (.fieldAddr 2 5),g_ 23 21 false (.fieldAddr 1 22),g_ 24 21 false (.load1 23),g_ 25 21 false (.bin .neq 24 (.const (int 21))),zq 26 21 25,zm 27 26,g_ 28 27 false (.fieldAddr 1 2),g_ 29 27 false (.loadN 1 28),g_ 30 27 false (.fieldAddr 0 5),g_ 31 27 false (.loadN 2 30),g_ 32 27 false (.call 138 [29,31]),g_ 33 27 false (.bin .eql 32 (.const (int 0))),zq 34 27 33,zm 35 34,g_ 36 35 false (.fieldAddr 4 5),g_ 37 35 false (.load1 36),g_ 38 35 false (.call 22 [37]),g_ 39 35 false (.not 38),zq 40 35 39,zm 41 40,g_ 42 41 false (.fieldAddr 5 5),g_ 43 41 false (.load1 42),g_ 44 41 false (.call 22 [43]),g_ 45 41 false (.not 44),zq 46 41 45]
def r59_4:zI:=[zf 47 1 2,zd 48 (.loadN 1 47) [0],zf 49 4 5,zd 50 (.load1 49) [2],zd 51 (.call 139 [48,50]) [1,3],zd 52 (.mv 51) [4,4],zg 53 52 true (.fieldAddr 1 2) [5],zg 54 52 true (.loadN 1 53) [6,5],zg 55 52 true (.fieldAddr 5 5) [5],zg 56 52 true (.load1 55) [8,5],zg 57 52 true (.fieldAddr 6 5) [5],zg 58 52 true (.load1 57) [10,5],zg 59 52 true (.call 140 [54,56,58]) [7,9,11,5,5],zd 60 (.pick 52 59 (.const (.bool false))) [5,12],zd 61 (.mv 60) [13,12],zg 62 61 true (.fieldAddr 2 2) [14],zg 63 61 true (.load1 62) [15,14],zg 64 61 true (.mv 1) [14],zg 65 61 true (.sliceL 7 63 none (some 64) none) [16,17,14],zg 66 61 true (.fieldAddr 0 5) [14],zg 67 61 true (.loadN 2 66) [19,14],zg 68 61 true (.fieldAddr 2 5) [14],zg 69 61 true (.loadN 2 68) [21,14],zg 70 61 true (.call 82 [65,67,69]) [18,20,22,14,14],zg 71 61 true (.bin .lss 70 (.const (int 0))) [23,14],zd 72 (.pick 61 71 (.const (.bool false))) [14,24],zd 4 (.mv 72) [25,23,0,1,2,3,4,5,6,7,8,9,10,11,12,13,14,15,16,17,18,19,20,21,22,23,24,25]]
def s59:SFn:=⟨73,(zQ [i_ 2 (.box 29 0),zc 4 (.bool false)] (zQ r59_1 (.seq (zQ r59_2 (.cond 46 (zQ [zc 4 (.bool false)] .ret) .skip)) (.seq (.draw r59_4) .ret)))),[.tmp 4]⟩
def r72_5:zI:=[zm 14 0,zm 15 6,i_ 16 (.strIdx 14 15),i_ 17 (.bin .eql 16 (.const (.int .u8 59)))]
def r72_6:zI:=[zm 18 4,zm 19 0,zm 20 5,zm 21 6,i_ 22 (.sliceS 19 (some 20) (some 21)),i_ 23 (.buildSlice 9 1 1 #[str []] [(0,22)]),i_ 24 (.append 9 1 16 (str []) 18 23),zm 4 24]
def r72_9:zI:=[zm 27 4,zm 28 0,zm 29 5,zd 30 (.sliceS 28 (some 29) none) [1,2],zd 2 (.mv 27) [0,0],zd 3 (.mv 30) [3,4,0,1,2,3,4]]
def s72:SFn:=⟨31,(zQ [zc 2 (.slice none 0 0),zc 3 (str [])] (zQ [i_ 7 (.buildSlice 9 1 0 #[] []),zm 4 7] (zQ [zc 5 (int 0)] (.seq (zQ [zc 6 (int 0)] (.block 0 (.loop (.seq (zQ [zm 8 6,zm 9 0,i_ 10 (.lenS 9),zb 11 .lss 8 10] (.cond 11 .skip (.exit 0))) (.seq (.block 1 (zQ r72_5 (.cond 17 (zQ r72_6 (.run [zm 25 6,zk 26 .add 25 1,zm 5 26])) .skip))) (.run [zm 12 6,zk 13 .add 12 1,zm 6 13])))))) (.seq (.draw r72_9) .ret))))),[.tmp 2,.tmp 3]⟩
def r73_5:zI:=[zm 13 0,zm 14 3,i_ 15 (.strIdx 13 14),i_ 16 (.call 86 [15]),i_ 17 (.not 16)]
def s73:SFn:=⟨18,(zQ [zc 2 (.bool false)] (.seq (zQ [zm 4 0,i_ 5 (.lenS 4),zk 6 .gtr 5 16] (.cond 6 (zQ [zc 2 (.bool false)] .ret) .skip)) (.seq (zQ [zc 3 (int 0)] (.block 0 (.loop (.seq (zQ [zm 7 3,zm 8 0,i_ 9 (.lenS 8),zb 10 .lss 7 9] (.cond 10 .skip (.exit 0))) (.seq (.block 1 (zQ r73_5 (.cond 17 (zQ [zc 2 (.bool false)] .ret) .skip))) (.run [zm 11 3,zk 12 .add 11 1,zm 3 12])))))) (zQ [zc 2 (.bool true)] .ret)))),[.tmp 2]⟩
def r77_1:zI:=[zf 3 0 1,zo 4 3,i_ 5 (.call 85 [4,.const (int 100),.const (int 109)]),zm 6 5,g_ 7 6 true (.fieldAddr 1 1),g_ 8 6 true (.load1 7),g_ 9 6 true (.call 85 [8,.const (int 1),.const (int 999)]),zp 10 6 9,zm 2 10]
def s77:SFn:=⟨11,(zQ [i_ 1 (.box 31 0),zc 2 (.bool false)] (zQ r77_1 .ret)),[.tmp 2]⟩
def r78_2:zI:=[i_ 6 (.build #[.slice none 0 0,.slice none 0 0,.slice none 0 0] [(0,1),(1,1),(2,1)] []),zs 3 2 6]
def s78:SFn:=⟨9,(zQ [i_ 1 (.box 29 0),i_ 2 (.alloc 29 zB3)] (.seq (zQ [zl 3 3 1,i_ 4 (.call 14 [3]),i_ 5 (.not 4)] (.cond 5 (zQ r78_2 .ret) .skip)) (zQ [zl 7 3 1,i_ 8 (.call 79 [7]),zs 3 2 8] .ret))),[.cellN 2 3]⟩
def r79_1:zI:=[i_ 3 (.buildSlice 162 7 0 #[] []),zf 4 0 1,zd 5 (.load1 4) [1],zd 6 (.append 162 7 56 (.agg #[.bool false,int 0,int 0,int 0,int 0,int 0,int 0]) 3 5) [0,2],zf 7 1 1,zd 8 (.loadN 1 7) [4],zd 9 (.call 161 [8]) [5,3],i_ 10 (.buildSlice 49 7 0 #[] []),zf 11 2 1,zd 12 (.load1 11) [8],zd 13 (.append 49 7 80 (.agg #[int 0,int 0,int 0,int 0,str [],str [],str []]) 10 12) [7,9,6],zd 14 (.build #[.slice none 0 0,.slice none 0 0,.slice none 0 0] [(0,1),(1,1),(2,1)] [(0,6),(1,9),(2,13)]) [3,6,10],⟨none,.store 3 2 14,none,[11,10,0,1,2,3,4,5,6,7,8,9,10,11]⟩]
def s79:SFn:=⟨15,(zQ [i_ 1 (.box 29 0),i_ 2 (.alloc 29 zB3)] (.seq (.draw r79_1) .ret)),[.cellN 2 3]⟩
def r80_1:zI:=[zm 6 1,zf 7 0 2,zo 8 7,i_ 9 (.lenL 8),i_ 10 (.bin .add (.const (int 500)) 9),zk 11 .sub 10 1,i_ 12 (.call 85 [6,.const (int 500),11]),i_ 13 (.not 12)]
def r80_2:zI:=[i_ 14 (.build #[int 0,int 0] [(0,1),(1,1)] []),zs 2 4 14,zc 5 (.bool false)]
def r80_3:zI:=[zf 15 0 2,zo 16 15,zm 17 1,zk 18 .sub 17 500,i_ 19 (.idxAddr 2 16 18),zl 20 2 19,zs 2 4 20,zc 5 (.bool true)]
def s80:SFn:=⟨21,(zQ [i_ 2 (.box 26 0),i_ 4 (.alloc 31 zE2),zc 5 (.bool false)] (.seq (zQ r80_1 (.cond 13 (zQ r80_2 .ret) .skip)) (zQ r80_3 .ret))),[.cellN 4 2,.tmp 5]⟩
def r81_3:zI:=[zm 14 0,zm 15 7,zd 16 (.idxAddr 7 14 15) [0,1],zd 17 (.loadN 7 16) [2],zl 18 2 4,zl 19 2 5,zd 20 (.call 162 [17,18,19]) [3,4,5]]
def s81:SFn:=⟨26,(zQ [i_ 4 (.box 31 1),i_ 5 (.box 31 2),zc 6 (.bool false)] (.seq (zQ [zc 7 (int 0)] (.block 0 (.loop (.seq (zQ [zm 8 7,zm 9 0,i_ 10 (.lenL 9),zb 11 .lss 8 10] (.cond 11 .skip (.exit 0))) (.seq (.block 1 (.seq (.draw r81_3) (.cond 20 (zQ [zm 21 0,zm 22 7,i_ 23 (.idxAddr 7 21 22),zf 24 0 23,zo 25 24,zm 6 25] .ret) .skip))) (.run [zm 12 7,zk 13 .add 12 1,zm 7 13])))))) (zQ [zc 6 (.bool true)] .ret))),[.tmp 6]⟩
def r82_3:zI:=[zm 14 0,zm 15 7,zd 16 (.idxAddr 7 14 15) [0,1],zd 17 (.fieldAddr 0 16) [2],zd 18 (.loadN 2 17) [3],zl 19 2 4,zd 20 (.eqv false 31 18 19) [4,5],zd 21 (.mv 20) [6],zg 22 21 true (.mv 0) [7],zg 23 21 true (.mv 7) [7],zg 24 21 true (.idxAddr 7 22 23) [8,9,7],zg 25 21 true (.fieldAddr 2 24) [10,7],zg 26 21 true (.loadN 2 25) [11,7],zg 27 21 true (.loadN 2 5) [7],zg 28 21 true (.eqv false 31 26 27) [12,13,7],zd 29 (.pick 21 28 (.const (.bool false))) [7,14]]
def s82:SFn:=⟨31,(zQ [i_ 4 (.box 31 1),i_ 5 (.box 31 2),zc 6 (int 0)] (.seq (zQ [zc 7 (int 0)] (.block 0 (.loop (.seq (zQ [zm 8 7,zm 9 0,i_ 10 (.lenL 9),zb 11 .lss 8 10] (.cond 11 .skip (.exit 0))) (.seq (.block 1 (.seq (.draw r82_3) (.cond 29 (zQ [zm 30 7,zm 6 30] .ret) .skip))) (.run [zm 12 7,zk 13 .add 12 1,zm 7 13])))))) (zQ [zc 6 (int (-1))] .ret))),[.tmp 6]⟩
def r83_0:zI:=[i_ 3 (.box 29 0),i_ 4 (.box 33 1),i_ 6 (.alloc 29 zB3),zc 7 (.slice none 0 0)]
def r83_1:zI:=[zf 16 2 3,zo 17 16,zm 18 2,i_ 19 (.idxAddr 7 17 18),zl 20 7 19,i_ 8 (.alloc 49 (.agg #[int 0,int 0,int 0,int 0,str [],str [],str []])),zs 7 8 20]
def r83_4:zI:=[zf 28 5 8,zo 29 28,i_ 30 (.call 72 [29]),zm 27 30,zx 31 27 0,zx 32 27 1,zm 10 31,zm 11 32]
def r83_5:zI:=[zm 34 9,i_ 35 (.call 72 [34]),zm 33 35,zx 36 33 0,zx 37 33 1,zm 12 36,zm 13 37]
def r83_7:zI:=[zf 40 6 8,zd 41 (.load1 40) [0],zf 42 1 3,zd 43 (.loadN 1 42) [2],zm 44 12,zm 45 10,zd 46 (.lenL 45) [5],zd 47 (.sliceL 1 44 (some 46) none none) [4,6],zd 48 (.call 164 [43,47]) [3,7],zd 49 (.bin .add 41 48) [1,8],zd 50 (.fieldAddr 6 8) [0,1,2,3,4,5,6,7,8,9],⟨none,.store 1 50 49,none,[10,9,8,0,1,2,3,4,5,6,7,8,9]⟩]
def r83_8:zI:=[zf 51 2 3,zo 52 51,zm 53 2,zl 54 7 8,i_ 55 (.idxAddr 7 52 53),zs 7 55 54]
def r83_9:zI:=[zf 56 1 3,zl 57 1 56,zf 58 4 8,zo 59 58,i_ 60 (.call 165 [57,59]),zm 14 60]
def r83_10:zI:=[zf 61 5 8,zd 62 (.load1 61) [0],zf 63 6 8,zd 64 (.load1 63) [2],zd 65 (.call 167 [62,64]) [1,3],zf 66 4 4,zd 67 (.load1 66) [5],zd 68 (.call 166 [65,67]) [4,6,4],zd 15 (.mv 68) [7,7,0,1,2,3,4,5,6,7]]
def r83_11:zI:=[zf 69 4 8,zd 70 (.load1 69) [0],zm 71 14,zd 72 (.call 167 [70,71]) [1,2],zf 73 5 4,zd 74 (.load1 73) [4],zd 75 (.call 168 [72,74]) [3,5,3],zd 76 (.fieldAddr 5 4) [0,1,2,3,4,5,6],⟨none,.store 1 76 75,none,[7,6,6,0,1,2,3,4,5,6]⟩]
def r83_13:zI:=[zl 80 3 3,zl 81 7 4,zf 82 6 8,zd 83 (.load1 82) [2],zm 84 15,zd 85 (.call 169 [81,83,84]) [1,3,4],⟨none,.store 3 6 80,none,[0,5,0]⟩,zd 7 (.mv 85) [5,6,0,1,2,3,4,5,6]]
def s83:SFn:=⟨86,(zQ r83_0 (zQ r83_1 (zQ [zf 21 5 8,zo 22 21,zl 23 7 4,i_ 24 (.call 163 [22,23]),zm 9 24] (.seq (zQ [zm 25 9,i_ 26 (.call 22 [25])] (.cond 26 (zQ r83_4 (zQ r83_5 (zQ [zm 38 9,zf 39 5 8,zs 1 39 38] (.draw r83_7)))) .skip)) (zQ r83_8 (zQ r83_9 (.seq (.draw r83_10) (.seq (.draw r83_11) (zQ [zf 77 0 8,zl 78 2 77,zf 79 2 4,zs 2 79 78] (.seq (.draw r83_13) .ret)))))))))),[.cellN 6 3,.tmp 7]⟩
def r84_1:zI:=[zl 3 2 1,i_ 4 (.call 90 [3]),zm 5 4,g_ 6 5 false (.loadN 2 1),g_ 7 5 false (.call 77 [6]),zq 8 5 7,zm 9 8,g_ 10 9 false (.fieldAddr 0 1),g_ 11 9 false (.load1 10),g_ 12 9 false (.bin .eql 11 (.const (int 50))),g_ 13 9 false (.mv 12),g_ 14 13 true (.fieldAddr 1 1),g_ 15 13 true (.load1 14),g_ 16 13 true (.call 85 [15,.const (int 1),.const (int 999)]),g_ 17 9 false (.pick 13 16 (.const (.bool false))),zq 18 9 17,zm 2 18]
def s84:SFn:=⟨19,(zQ [i_ 1 (.box 31 0),zc 2 (.bool false)] (zQ r84_1 .ret)),[.tmp 2]⟩
def r85_1:zI:=[zm 7 0,zm 8 1,zb 9 .geq 7 8,zm 10 9,g_ 11 10 true (.mv 0),g_ 12 10 true (.mv 2),g_ 13 10 true (.bin .leq 11 12),zp 14 10 13,zm 6 14]
def s85:SFn:=⟨15,(zQ [zc 6 (.bool false)] (zQ r85_1 .ret)),[.tmp 6]⟩
def r86_1:zI:=[zm 3 0,i_ 4 (.bin .geq 3 (.const (.int .u8 97))),zm 5 4,g_ 6 5 true (.mv 0),g_ 7 5 true (.bin .leq 6 (.const (.int .u8 122))),zp 8 5 7,zm 9 8,g_ 10 9 false (.mv 0),g_ 11 9 false (.bin .geq 10 (.const (.int .u8 48))),g_ 12 9 false (.mv 11),g_ 13 12 true (.mv 0),g_ 14 12 true (.bin .leq 13 (.const (.int .u8 57))),g_ 15 9 false (.pick 12 14 (.const (.bool false))),zq 16 9 15,zm 17 16,g_ 18 17 false (.mv 0),g_ 19 17 false (.bin .eql 18 (.const (.int .u8 32))),zq 20 17 19,zm 2 20]
def s86:SFn:=⟨21,(zQ [zc 2 (.bool false)] (zQ r86_1 .ret)),[.tmp 2]⟩
def r90_1:zI:=[zf 3 0 1,zo 4 3,i_ 5 (.call 85 [4,.const (int 1),.const (int 9)]),zm 6 5,g_ 7 6 true (.fieldAddr 1 1),g_ 8 6 true (.load1 7),g_ 9 6 true (.call 85 [8,.const (int 1),.const (int 999)]),zp 10 6 9,zm 2 10]
def s90:SFn:=⟨11,(zQ [i_ 1 (.box 31 0),zc 2 (.bool false)] (zQ r90_1 .ret)),[.tmp 2]⟩
def r91_0:zI:=[i_ 2 (.box 26 0),i_ 3 (.box 31 1),i_ 4 (.alloc 26 (.agg #[.slice none 0 0])),zc 5 (int 0)]
def r91_6:zI:=[i_ 19 (.buildSlice 31 2 0 #[] []),zf 20 0 2,zd 21 (.load1 20) [1],zd 22 (.append 31 2 16 zE2 19 21) [0,2],zl 23 2 3,zd 24 (.buildSlice 31 2 1 #[int 0,int 0] [(0,23)]) [4],zd 25 (.append 31 2 16 zE2 22 24) [3,5,3],zd 26 (.fieldAddr 0 2) [0,1,2,3,4,5,6],⟨none,.store 1 26 25,none,[7,6,6,0,1,2,3,4,5,6]⟩]
def r91_7:zI:=[zl 27 1 2,zf 28 0 2,zd 29 (.load1 28) [1],zd 30 (.lenL 29) [2],zd 31 (.bin .add (.const (int 500)) 30) [3],zd 32 (.bin .sub 31 (.const (int 1))) [4],⟨none,.store 1 4 27,none,[0,0]⟩,zd 5 (.mv 32) [5,6,0,1,2,3,4,5,6]]
def s91:SFn:=⟨33,(zQ r91_0 (zQ [zl 7 1 2,zl 8 2 3,i_ 9 (.call 138 [7,8]),zm 6 9] (.seq (zQ [zm 10 6,zk 11 .gtr 10 0] (.cond 11 (zQ [zl 12 1 2,zm 13 6,zs 1 4 12,zm 5 13] .ret) .skip)) (.seq (zQ [zf 14 0 2,zo 15 14,i_ 16 (.lenL 15),zk 17 .eql 16 6] (.cond 17 (zQ [zl 18 1 2,zs 1 4 18,zc 5 (int 0)] .ret) .skip)) (.seq (.draw r91_6) (.seq (.draw r91_7) .ret)))))),[.cellN 4 1,.tmp 5]⟩
def r136_3:zI:=[zf 13 0 2,zd 14 (.load1 13) [0],zm 15 5,zd 16 (.idxAddr 2 14 15) [1,2],zd 17 (.loadN 2 16) [3],zl 18 2 3,zd 19 (.eqv false 31 17 18) [4,5]]
def s136:SFn:=⟨21,(zQ [i_ 2 (.box 26 0),i_ 3 (.box 31 1),zc 4 (int 0)] (.seq (zQ [zc 5 (int 0)] (.block 0 (.loop (.seq (zQ [zm 6 5,zf 7 0 2,zo 8 7,i_ 9 (.lenL 8),zb 10 .lss 6 9] (.cond 10 .skip (.exit 0))) (.seq (.block 1 (.seq (.draw r136_3) (.cond 19 (zQ [zm 20 5,zm 4 20] .ret) .skip))) (.run [zm 11 5,zk 12 .add 11 1,zm 5 12])))))) (zQ [zc 4 (int (-1))] .ret))),[.tmp 4]⟩
def r137_1:zI:=[zf 3 1 1,zo 4 3,zf 5 2 1,zo 6 5,i_ 7 (.call 85 [4,.const (int 1),6]),zm 8 7,g_ 9 8 true (.fieldAddr 2 1),g_ 10 8 true (.load1 9),g_ 11 8 true (.bin .leq 10 (.const (int 9))),zp 12 8 11,zm 13 12,g_ 14 13 true (.fieldAddr 3 1),g_ 15 13 true (.load1 14),g_ 16 13 true (.fieldAddr 4 1),g_ 17 13 true (.load1 16),g_ 18 13 true (.call 85 [15,.const (int 100),17]),zp 19 13 18,zm 20 19,g_ 21 20 true (.fieldAddr 4 1),g_ 22 20 true (.load1 21),g_ 23 20 true (.bin .leq 22 (.const (int 109))),zp 24 20 23,zm 25 24,g_ 26 25 true (.fieldAddr 5 1),g_ 27 25 true (.load1 26),g_ 28 25 true (.fieldAddr 6 1),g_ 29 25 true (.load1 28),g_ 30 25 true (.call 85 [27,.const (int 1),29]),zp 31 25 30,zm 32 31,g_ 33 32 true (.fieldAddr 6 1),g_ 34 32 true (.load1 33),g_ 35 32 true (.bin .leq 34 (.const (int 999))),zp 36 32 35,zm 2 36]
def s137:SFn:=⟨37,(zQ [i_ 1 (.box 162 0),zc 2 (.bool false)] (zQ r137_1 .ret)),[.tmp 2]⟩
def s138:SFn:=⟨13,(zQ [i_ 2 (.box 26 0),i_ 3 (.box 31 1),zc 4 (int 0)] (zQ [zl 6 1 2,zl 7 2 3,i_ 8 (.call 136 [6,7]),zm 5 8] (.seq (zQ [zm 9 5,zk 10 .lss 9 0] (.cond 10 (zQ [zc 4 (int 0)] .ret) .skip)) (zQ [zm 11 5,i_ 12 (.bin .add (.const (int 500)) 11),zm 4 12] .ret)))),[.tmp 4]⟩
def r139_1:zI:=[zl 8 1 2,zm 9 1,i_ 10 (.call 175 [8,9]),zm 7 10,zx 11 7 0,zx 12 7 1,i_ 5 (.alloc 26 (.agg #[.slice none 0 0])),zs 1 5 11,zm 6 12]
def r139_2:zI:=[zf 13 0 5,zo 14 13,i_ 15 (.lenL 14),zf 16 0 2,zo 17 16,i_ 18 (.lenL 17),zb 19 .eql 15 18,zm 4 19]
def s139:SFn:=⟨20,(zQ [i_ 2 (.box 26 0),zc 4 (.bool false)] (zQ r139_1 (zQ r139_2 .ret))),[.tmp 4]⟩
def r140_1:zI:=[zm 13 1,i_ 14 (.call 72 [13]),zm 12 14,zx 15 12 0,zx 16 12 1,zm 7 15,zm 8 16]
def r140_2:zI:=[zm 18 2,i_ 19 (.call 72 [18]),zm 17 19,zx 20 17 0,zx 21 17 1,zm 9 20,zm 10 21]
def r140_3:zI:=[zm 22 7,i_ 23 (.lenL 22),zm 24 9,i_ 25 (.lenL 24),zb 26 .neq 23 25,zm 27 26,g_ 28 27 false (.mv 10),g_ 29 27 false (.bin .neq 28 (.const (str []))),zq 30 27 29,zm 31 30,g_ 32 31 false (.mv 2),g_ 33 31 false (.lenS 32),g_ 34 31 false (.bin .gtr 33 (.const (int 240))),zq 35 31 34]
def r140_7:zI:=[zm 42 9,zm 43 11,zd 44 (.idxAddr 1 42 43) [0,1],zd 45 (.load1 44) [2],zm 46 7,zm 47 11,zd 48 (.idxAddr 1 46 47) [4,5],zd 49 (.load1 48) [6],zd 50 (.bin .neq 45 49) [3,7],zd 51 (.mv 50) [8],zg 52 51 true (.mv 9) [9],zg 53 51 true (.mv 11) [9],zg 54 51 true (.idxAddr 1 52 53) [10,11,9],zg 55 51 true (.load1 54) [12,9],zg 56 51 true (.loadN 1 3) [9],zg 57 51 true (.mv 7) [9],zg 58 51 true (.mv 11) [9],zg 59 51 true (.idxAddr 1 57 58) [15,16,9],zg 60 51 true (.load1 59) [17,9],zg 61 51 true (.call 208 [56,60]) [14,18,9,9],zg 62 51 true (.bin .neq 55 61) [13,19,9],zd 63 (.pick 51 62 (.const (.bool false))) [9,20]]
def s140:SFn:=⟨64,(zQ [i_ 3 (.box 26 0),zc 6 (.bool false)] (zQ r140_1 (zQ r140_2 (.seq (zQ r140_3 (.cond 35 (zQ [zc 6 (.bool false)] .ret) .skip)) (.seq (zQ [zc 11 (int 0)] (.block 0 (.loop (.seq (zQ [zm 36 11,zm 37 7,i_ 38 (.lenL 37),zb 39 .lss 36 38] (.cond 39 .skip (.exit 0))) (.seq (.block 1 (.seq (.draw r140_7) (.cond 63 (zQ [zc 6 (.bool false)] .ret) .skip))) (.run [zm 40 11,zk 41 .add 40 1,zm 11 41])))))) (zQ [zc 6 (.bool true)] .ret)))))),[.tmp 6]⟩
def r161_1:zI:=[i_ 3 (.buildSlice 31 2 0 #[] []),zf 4 0 1,zo 5 4,i_ 6 (.append 31 2 16 zE2 3 5),i_ 7 (.build #[.slice none 0 0] [(0,1)] [(0,6)]),zs 1 2 7]
def s161:SFn:=⟨8,(zQ [i_ 1 (.box 26 0),i_ 2 (.alloc 26 (.agg #[.slice none 0 0]))] (zQ r161_1 .ret)),[.cellN 2 1]⟩
def r162_0:zI:=[i_ 3 (.box 162 0),i_ 4 (.box 31 1),i_ 5 (.box 31 2),zc 6 (.bool false)]
def r162_1:zI:=[zf 7 0 4,zo 8 7,zf 9 1 3,zo 10 9,zf 11 2 3,zo 12 11,i_ 13 (.call 85 [8,10,12]),zm 14 13,g_ 15 14 true (.fieldAddr 0 5),g_ 16 14 true (.load1 15),g_ 17 14 true (.fieldAddr 3 3),g_ 18 14 true (.load1 17),g_ 19 14 true (.fieldAddr 4 3),g_ 20 14 true (.load1 19),g_ 21 14 true (.call 85 [16,18,20]),zp 22 14 21,zm 23 22,g_ 24 23 true (.fieldAddr 1 5),g_ 25 23 true (.load1 24),g_ 26 23 true (.fieldAddr 5 3),g_ 27 23 true (.load1 26),g_ 28 23 true (.fieldAddr 6 3),g_ 29 23 true (.load1 28),g_ 30 23 true (.call 85 [25,27,29]),zp 31 23 30,zm 6 31]
def s162:SFn:=⟨32,(zQ r162_0 (zQ r162_1 .ret)),[.tmp 6]⟩
def r163_1:zI:=[zf 5 4 3,zo 6 5,zk 7 .lss 6 0,zm 8 7,g_ 9 8 false (.fieldAddr 4 3),g_ 10 8 false (.load1 9),g_ 11 8 false (.mv 0),g_ 12 8 false (.lenS 11),g_ 13 8 false (.bin .gtr 10 12),zq 14 8 13,zm 15 14,g_ 16 15 false (.fieldAddr 4 3),g_ 17 15 false (.load1 16),g_ 18 15 false (.fieldAddr 6 3),g_ 19 15 false (.load1 18),g_ 20 15 false (.lenS 19),g_ 21 15 false (.bin .add 17 20),g_ 22 15 false (.mv 0),g_ 23 15 false (.lenS 22),g_ 24 15 false (.bin .leq 21 23),zq 25 15 24]
def r163_3:zI:=[zm 27 0,zf 28 6 3,zo 29 28,zm 30 0,i_ 31 (.lenS 30),zf 32 4 3,zo 33 32,zb 34 .sub 31 33,i_ 35 (.sliceS 29 (some 34) none),zb 36 .add 27 35,zm 4 36]
def s163:SFn:=⟨37,(zQ [i_ 3 (.box 33 1),zc 4 (str [])] (.seq (zQ r163_1 (.cond 25 (zQ [zm 26 0,zm 4 26] .ret) .skip)) (zQ r163_3 .ret))),[.tmp 4]⟩
def r164_4:zI:=[zm 13 5,zl 14 1 2,zm 15 1,zm 16 6,zd 17 (.idxAddr 1 15 16) [2,3],zd 18 (.load1 17) [4],zd 19 (.call 208 [14,18]) [1,5],zd 20 (.bin .add 13 19) [0,6],zd 21 (.bin .add 20 (.const (str [59]))) [7],zd 5 (.mv 21) [8,6,0,1,2,3,4,5,6,7,8]]
def s164:SFn:=⟨23,(zQ [i_ 2 (.box 26 0),zc 4 (str [])] (zQ [zc 5 (str [])] (.seq (zQ [zc 6 (int 0)] (.block 0 (.loop (.seq (zQ [zm 7 6,zm 8 1,i_ 9 (.lenL 8),zb 10 .lss 7 9] (.cond 10 .skip (.exit 0))) (.seq (.block 1 (.draw r164_4)) (.run [zm 11 6,zk 12 .add 11 1,zm 6 12])))))) (zQ [zm 22 5,zm 4 22] .ret)))),[.tmp 4]⟩
def r165_1:zI:=[zl 8 1 2,zm 9 1,i_ 10 (.call 175 [8,9]),zm 7 10,zx 11 7 0,zx 12 7 1,i_ 5 (.alloc 26 (.agg #[.slice none 0 0])),zs 1 5 11,zm 6 12]
def s165:SFn:=⟨14,(zQ [i_ 2 (.box 26 0),zc 4 (str [])] (zQ r165_1 (zQ [zm 13 6,zm 4 13] .ret))),[.tmp 4]⟩
def r166_4:zI:=[zm 13 1,zm 14 0,zm 15 6,i_ 16 (.idxAddr 5 14 15),zf 17 1 16,zo 18 17,zb 19 .lss 13 18]
def s166:SFn:=⟨31,(zQ [zc 4 (int 0)] (zQ [zc 5 (int 0)] (.seq (zQ [zc 6 (int 0)] (.block 0 (.loop (.seq (zQ [zm 7 6,zm 8 0,i_ 9 (.lenL 8),zb 10 .lss 7 9] (.cond 10 .skip (.exit 0))) (.seq (.block 1 (.seq (zQ r166_4 (.cond 19 (zQ [zm 20 0,zm 21 6,i_ 22 (.idxAddr 5 20 21),zf 23 2 22,zo 24 23,zm 4 24] .ret) .skip)) (.run [zm 25 0,zm 26 6,i_ 27 (.idxAddr 5 25 26),zf 28 3 27,zo 29 28,zm 5 29]))) (.run [zm 11 6,zk 12 .add 11 1,zm 6 12])))))) (zQ [zm 30 5,zm 4 30] .ret)))),[.tmp 4]⟩
def r167_1:zI:=[zm 10 0,i_ 11 (.call 72 [10]),zm 9 11,zx 12 9 0,zx 13 9 1,zm 5 12,zm 6 13]
def r167_2:zI:=[zm 15 1,i_ 16 (.call 72 [15]),zm 14 16,zx 17 14 0,zx 18 14 1,zm 7 17,zm 8 18]
def s167:SFn:=⟨22,(zQ [zc 4 (.slice none 0 0)] (zQ r167_1 (zQ r167_2 (zQ [zm 19 5,zm 20 7,i_ 21 (.call 213 [19,20]),zm 4 21] .ret)))),[.tmp 4]⟩
def r168_4:zI:=[zm 14 0,zm 15 6,i_ 16 (.idxAddr 5 14 15),zl 17 5 16,i_ 7 (.alloc 195 (.agg #[int 0,int 0,int 0,int 0,.bool false])),zs 5 7 17]
def r168_7:zI:=[zf 24 4 7,zo 25 24,zm 26 25,g_ 27 26 true (.mv 1),g_ 28 26 true (.fieldAddr 2 7),g_ 29 26 true (.load1 28),g_ 30 26 true (.bin .gtr 27 29),zp 31 26 30]
def r168_8:zI:=[zf 32 0 7,zo 33 32,zm 34 1,zb 35 .add 33 34,zf 36 2 7,zo 37 36,zb 38 .sub 35 37,zm 4 38]
def s168:SFn:=⟨42,(zQ [zc 4 (int 0)] (zQ [zc 5 (int 0)] (.seq (zQ [zc 6 (int 0)] (.block 0 (.loop (.seq (zQ [zm 8 6,zm 9 0,i_ 10 (.lenL 9),zb 11 .lss 8 10] (.cond 11 .skip (.exit 0))) (.seq (.block 1 (zQ r168_4 (.seq (zQ [zm 18 1,zf 19 3 7,zo 20 19,zb 21 .geq 18 20] (.cond 21 (zQ [zf 22 1 7,zo 23 22,zm 5 23] (.exit 1)) .skip)) (.seq (zQ r168_7 (.cond 31 (zQ r168_8 .ret) .skip)) (zQ [zf 39 0 7,zo 40 39,zm 4 40] .ret))))) (.run [zm 12 6,zk 13 .add 12 1,zm 6 13])))))) (zQ [zm 41 5,zm 4 41] .ret)))),[.tmp 4]⟩
def r169_3:zI:=[zm 15 1,i_ 16 (.lenS 15),zm 17 2,zk 18 .add 17 12,i_ 19 (.min2 16 18),zm 8 19]
def r169_6:zI:=[zm 23 1,zm 24 2,zm 25 8,i_ 26 (.sliceS 23 (some 24) (some 25)),zf 27 6 9,zs 1 27 26]
def r169_7:zI:=[zm 28 7,zl 29 7 9,i_ 30 (.buildSlice 33 7 1 #[int 0,int 0,int 0,int 0,int 0,int 0,str []] [(0,29)]),i_ 31 (.append 33 7 64 zS7 28 30),zm 7 31]
def r169_12:zI:=[zm 40 7,zl 41 7 3,i_ 42 (.buildSlice 33 7 1 #[int 0,int 0,int 0,int 0,int 0,int 0,str []] [(0,41)]),i_ 43 (.append 33 7 64 zS7 40 42),zm 7 43]
def s169:SFn:=⟨45,(zQ [i_ 3 (.box 33 0),zc 6 (.slice none 0 0)] (zQ [i_ 10 (.buildSlice 33 7 0 #[] []),zm 7 10] (.seq (.block 0 (.loop (.seq (zQ [zm 11 2,zm 12 1,i_ 13 (.lenS 12),zb 14 .lss 11 13] (.cond 14 .skip (.exit 0))) (.block 1 (zQ r169_3 (zQ [zl 20 7 3,i_ 9 (.alloc 33 zS7),zs 7 9 20] (zQ [zm 21 2,zf 22 4 9,zs 1 22 21] (zQ r169_6 (zQ r169_7 (.run [zm 32 8,zm 2 32])))))))))) (.seq (zQ [zm 33 7,i_ 34 (.lenL 33),zk 35 .eql 34 0] (.cond 35 (zQ [zm 36 1,i_ 37 (.lenS 36),zf 38 4 3,zs 1 38 37] (zQ [zf 39 6 3,n_ (.store 1 39 (.const (str [])))] (.run r169_12))) .skip)) (zQ [zm 44 7,zm 6 44] .ret))))),[.tmp 6]⟩
def r175_0:zI:=[i_ 2 (.box 26 0),i_ 4 (.alloc 26 (.agg #[.slice none 0 0])),zc 5 (str [])]
def r175_1:zI:=[zm 13 1,i_ 14 (.call 72 [13]),zm 12 14,zx 15 12 0,zx 16 12 1,zm 6 15,zm 7 16]
def r175_5:zI:=[zl 24 1 2,zm 25 6,zm 26 9,zd 27 (.idxAddr 1 25 26) [1,2],zd 28 (.load1 27) [3],zd 29 (.call 216 [24,28]) [0,4],zd 23 (.mv 29) [5],zd 30 (.extract 23 0) [6],zd 31 (.extract 23 1) [6],i_ 10 (.alloc 26 (.agg #[.slice none 0 0])),⟨none,.store 1 10 30,none,[9,7,5,0,1,2,3,4,5,6,7,9]⟩,zd 11 (.mv 31) [8,10,0,1,2,3,4,5,6,7,8,9,10]]
def r175_7:zI:=[zm 33 8,zm 34 11,zb 35 .add 33 34,i_ 36 (.bin .add 35 (.const (str [59]))),zm 8 36]
def s175:SFn:=⟨39,(zQ r175_0 (zQ r175_1 (zQ [zc 8 (str [])] (.seq (zQ [zc 9 (int 0)] (.block 0 (.loop (.seq (zQ [zm 17 9,zm 18 6,i_ 19 (.lenL 18),zb 20 .lss 17 19] (.cond 20 .skip (.exit 0))) (.seq (.block 1 (.seq (.draw r175_5) (zQ [zl 32 1 10,zs 1 2 32] (.run r175_7)))) (.run [zm 21 9,zk 22 .add 21 1,zm 9 22])))))) (zQ [zl 37 1 2,zm 38 8,zs 1 4 37,zm 5 38] .ret))))),[.cellN 4 1,.tmp 5]⟩
def r208_1:zI:=[zm 10 1,i_ 11 (.call 224 [10]),zm 9 11,zx 12 9 0,zx 13 9 1,zm 5 12,zm 6 13]
def r208_4:zI:=[zl 18 1 2,zm 19 5,i_ 20 (.call 80 [18,19]),zm 17 20,zx 21 17 0,zx 22 17 1,i_ 7 (.alloc 31 zE2),zs 2 7 21,zm 8 22]
def s208:SFn:=⟨28,(zQ [i_ 2 (.box 26 0),zc 4 (str [])] (zQ r208_1 (.seq (zQ [zm 14 6,i_ 15 (.not 14)] (.cond 15 (zQ [zm 16 1,zm 4 16] .ret) .skip)) (zQ r208_4 (.seq (zQ [zm 23 8,i_ 24 (.not 23)] (.cond 24 (zQ [zm 25 1,zm 4 25] .ret) .skip)) (zQ [zl 26 2 7,i_ 27 (.call 225 [26]),zm 4 27] .ret)))))),[.tmp 4]⟩
def r213_5:zI:=[zm 11 8,zm 12 0,i_ 13 (.lenL 12),zb 14 .lss 11 13,zm 15 14,g_ 16 15 true (.mv 8),g_ 17 15 true (.mv 1),g_ 18 15 true (.lenL 17),g_ 19 15 true (.bin .lss 16 18),zp 20 15 19]
def r213_7:zI:=[zm 27 5,zm 28 6,zm 29 6,zm 30 0,zm 31 8,zd 32 (.idxAddr 1 30 31) [3,4],zd 33 (.load1 32) [5],zd 34 (.lenS 33) [6],zd 35 (.bin .add 29 34) [2,7],zd 36 (.bin .add 35 (.const (int 1))) [8],zm 37 7,zm 38 7,zm 39 9,zd 40 (.lenS 39) [12],zd 41 (.bin .add 38 40) [11,13],zd 42 (.bin .add 41 (.const (int 1))) [14],zm 43 9,zm 44 0,zm 45 8,zd 46 (.idxAddr 1 44 45) [17,18],zd 47 (.load1 46) [19],zd 48 (.bin .eql 43 47) [16,20],zd 49 (.build #[int 0,int 0,int 0,int 0,.bool false] [(0,1),(1,1),(2,1),(3,1),(4,1)] [(0,28),(1,36),(2,37),(3,42),(4,48)]) [1,9,10,15,21],zd 50 (.buildSlice 195 5 1 #[int 0,int 0,int 0,int 0,.bool false] [(0,49)]) [22],zd 51 (.append 195 5 40 (.agg #[int 0,int 0,int 0,int 0,.bool false]) 27 50) [0,23],zd 5 (.mv 51) [24,24,0,1,2,3,4,5,6,7,8,9,10,11,12,13,14,15,16,17,18,19,20,21,22,23,24]]
def r213_8:zI:=[zm 52 6,zm 53 0,zm 54 8,i_ 55 (.idxAddr 1 53 54),zo 56 55,i_ 57 (.lenS 56),zb 58 .add 52 57,zk 59 .add 58 1,zm 6 59]
def r213_9:zI:=[zm 60 7,zm 61 9,i_ 62 (.lenS 61),zb 63 .add 60 62,zk 64 .add 63 1,zm 7 64]
def s213:SFn:=⟨66,(zQ [zc 4 (.slice none 0 0)] (zQ [i_ 10 (.buildSlice 195 5 0 #[] []),zm 5 10] (zQ [zc 6 (int 0)] (zQ [zc 7 (int 0)] (.seq (zQ [zc 8 (int 0)] (.block 0 (.loop (.seq (zQ r213_5 (.cond 20 .skip (.exit 0))) (.seq (.block 1 (zQ [zm 23 1,zm 24 8,i_ 25 (.idxAddr 1 23 24),zo 26 25,zm 9 26] (.seq (.draw r213_7) (zQ r213_8 (.run r213_9))))) (.run [zm 21 8,zk 22 .add 21 1,zm 8 22])))))) (zQ [zm 65 5,zm 4 65] .ret)))))),[.tmp 4]⟩
def r216_0:zI:=[i_ 2 (.box 26 0),i_ 4 (.alloc 26 (.agg #[.slice none 0 0])),zc 5 (str [])]
def r216_1:zI:=[zm 11 1,i_ 12 (.call 226 [11]),zm 10 12,zx 13 10 0,zx 14 10 1,i_ 6 (.alloc 31 zE2),zs 2 6 13,zm 7 14]
def r216_4:zI:=[zl 20 1 2,zl 21 2 6,i_ 22 (.call 91 [20,21]),zm 19 22,zx 23 19 0,zx 24 19 1,i_ 8 (.alloc 26 (.agg #[.slice none 0 0])),zs 1 8 23,zm 9 24]
def r216_7:zI:=[zl 28 1 8,zm 29 9,zd 30 (.build #[int 0,int 0] [(0,1),(1,1)] [(0,.const (int 50)),(1,29)]) [1],zd 31 (.call 225 [30]) [2],⟨none,.store 1 4 28,none,[0,3,0]⟩,zd 5 (.mv 31) [3,4,0,1,2,3,4]]
def s216:SFn:=⟨32,(zQ r216_0 (zQ r216_1 (.seq (zQ [zm 15 7,i_ 16 (.not 15)] (.cond 16 (zQ [zl 17 1 2,zm 18 1,zs 1 4 17,zm 5 18] .ret) .skip)) (zQ r216_4 (.seq (zQ [zm 25 9,zk 26 .eql 25 0] (.cond 26 (zQ [zl 27 1 8,zs 1 4 27,zc 5 (str [110,111,110,101])] .ret) .skip)) (.seq (.draw r216_7) .ret)))))),[.cellN 4 1,.tmp 5]⟩
def r224_1:zI:=[zm 6 0,i_ 7 (.lenS 6),zk 8 .lss 7 5,zm 9 8,g_ 10 9 false (.mv 0),g_ 11 9 false (.sliceS 10 none (some (.const (int 5)))),g_ 12 9 false (.bin .neq 11 (.const (str [112,111,114,116,32]))),zq 13 9 12]
def r224_3:zI:=[zm 15 0,i_ 16 (.sliceS 15 (some (.const (int 5))) none),i_ 17 (.call 235 [16]),zm 14 17,zx 18 14 0,zx 19 14 1,i_ 4 (.alloc 31 zE2),zs 2 4 18,zm 5 19]
def r224_4:zI:=[zm 20 5,i_ 21 (.not 20),zm 22 21,g_ 23 22 false (.fieldAddr 0 4),g_ 24 22 false (.load1 23),g_ 25 22 false (.bin .neq 24 (.const (int 50))),zq 26 22 25]
def s224:SFn:=⟨29,(zQ [zc 2 (int 0),zc 3 (.bool false)] (.seq (zQ r224_1 (.cond 13 (zQ [zc 2 (int 0),zc 3 (.bool false)] .ret) .skip)) (zQ r224_3 (.seq (zQ r224_4 (.cond 26 (zQ [zc 2 (int 0),zc 3 (.bool false)] .ret) .skip)) (zQ [zf 27 1 4,zo 28 27,zm 2 28,zc 3 (.bool true)] .ret))))),[.tmp 2,.tmp 3]⟩
def r225_3:zI:=[zl 6 2 1,i_ 7 (.call 236 [6]),i_ 8 (.bin .add (.const (str [112,111,114,116,32])) 7),zm 2 8]
def s225:SFn:=⟨9,(zQ [i_ 1 (.box 31 0),zc 2 (str [])] (.seq (zQ [zl 3 2 1,i_ 4 (.call 84 [3]),i_ 5 (.not 4)] (.cond 5 (zQ [zc 2 (str [])] .ret) .skip)) (zQ r225_3 .ret))),[.tmp 2]⟩
def r226_1:zI:=[zm 6 0,i_ 7 (.lenS 6),zk 8 .lss 7 5,zm 9 8,g_ 10 9 false (.mv 0),g_ 11 9 false (.sliceS 10 none (some (.const (int 5)))),g_ 12 9 false (.bin .neq 11 (.const (str [112,111,114,116,32]))),zq 13 9 12]
def r226_2:zI:=[i_ 14 (.build #[int 0,int 0] [(0,1),(1,1)] []),zs 2 2 14,zc 3 (.bool false)]
def r226_3:zI:=[zm 16 0,i_ 17 (.sliceS 16 (some (.const (int 5))) none),i_ 18 (.call 235 [17]),zm 15 18,zx 19 15 0,zx 20 15 1,i_ 4 (.alloc 31 zE2),zs 2 4 19,zm 5 20]
def r226_4:zI:=[zm 21 5,i_ 22 (.not 21),zm 23 22,g_ 24 23 false (.loadN 2 4),g_ 25 23 false (.call 90 [24]),g_ 26 23 false (.not 25),zq 27 23 26]
def r226_5:zI:=[i_ 28 (.build #[int 0,int 0] [(0,1),(1,1)] []),zs 2 2 28,zc 3 (.bool false)]
def s226:SFn:=⟨30,(zQ [i_ 2 (.alloc 31 zE2),zc 3 (.bool false)] (.seq (zQ r226_1 (.cond 13 (zQ r226_2 .ret) .skip)) (zQ r226_3 (.seq (zQ r226_4 (.cond 27 (zQ r226_5 .ret) .skip)) (zQ [zl 29 2 4,zs 2 2 29,zc 3 (.bool true)] .ret))))),[.cellN 2 2,.tmp 3]⟩
def r235_3:zI:=[i_ 11 (.build #[int 0,int 0] [(0,1),(1,1)] []),zs 2 2 11,zc 3 (.bool false)]
def r235_4:zI:=[zm 12 4,zd 13 (.idxAddr 1 12 (.const (int 0))) [0],zd 14 (.load1 13) [1],zd 15 (.call 243 [14]) [2],zm 16 4,zd 17 (.idxAddr 1 16 (.const (int 1))) [4],zd 18 (.load1 17) [5],zd 19 (.call 243 [18]) [6,3],zd 20 (.build #[int 0,int 0] [(0,1),(1,1)] [(0,15),(1,19)]) [3,7],i_ 5 (.alloc 31 zE2),⟨none,.store 2 5 20,none,[9,8,7,0,1,2,3,4,5,6,7,8,9]⟩]
def r235_6:zI:=[i_ 24 (.build #[int 0,int 0] [(0,1),(1,1)] []),zs 2 2 24,zc 3 (.bool false)]
def s235:SFn:=⟨26,(zQ [i_ 2 (.alloc 31 zE2),zc 3 (.bool false)] (zQ [zm 6 0,i_ 7 (.call 242 [6]),zm 4 7] (.seq (zQ [zm 8 4,i_ 9 (.lenL 8),zk 10 .neq 9 2] (.cond 10 (zQ r235_3 .ret) .skip)) (.seq (.draw r235_4) (.seq (zQ [zl 21 2 5,i_ 22 (.call 84 [21]),i_ 23 (.not 22)] (.cond 23 (zQ r235_6 .ret) .skip)) (zQ [zl 25 2 5,zs 2 2 25,zc 3 (.bool true)] .ret)))))),[.cellN 2 2,.tmp 3]⟩
def r236_3:zI:=[zf 6 0 1,zd 7 (.load1 6) [0],zd 8 (.call 244 [7]) [1],zd 9 (.bin .add 8 (.const (str [32]))) [2],zf 10 1 1,zd 11 (.load1 10) [4],zd 12 (.call 244 [11]) [5,2],zd 13 (.bin .add 9 12) [3,6],zd 2 (.mv 13) [7,6,0,1,2,3,4,5,6,7]]
def s236:SFn:=⟨14,(zQ [i_ 1 (.box 31 0),zc 2 (str [])] (.seq (zQ [zl 3 2 1,i_ 4 (.call 84 [3]),i_ 5 (.not 4)] (.cond 5 (zQ [zc 2 (str [])] .ret) .skip)) (.seq (.draw r236_3) .ret))),[.tmp 2]⟩
def r242_5:zI:=[zm 13 0,zm 14 5,i_ 15 (.strIdx 13 14),i_ 16 (.bin .eql 15 (.const (.int .u8 32)))]
def r242_6:zI:=[zm 17 3,zm 18 4,i_ 19 (.buildSlice 9 1 1 #[str []] [(0,18)]),i_ 20 (.append 9 1 16 (str []) 17 19),zm 3 20]
def r242_8:zI:=[zm 21 4,zm 22 0,zm 23 5,zm 24 5,zk 25 .add 24 1,i_ 26 (.sliceS 22 (some 23) (some 25)),zb 27 .add 21 26,zm 4 27]
def r242_10:zI:=[zm 28 3,zm 29 4,i_ 30 (.buildSlice 9 1 1 #[str []] [(0,29)]),i_ 31 (.append 9 1 16 (str []) 28 30),zm 2 31]
def s242:SFn:=⟨32,(zQ [zc 2 (.slice none 0 0)] (zQ [i_ 6 (.buildSlice 9 1 0 #[] []),zm 3 6] (zQ [zc 4 (str [])] (.seq (zQ [zc 5 (int 0)] (.block 0 (.loop (.seq (zQ [zm 7 5,zm 8 0,i_ 9 (.lenS 8),zb 10 .lss 7 9] (.cond 10 .skip (.exit 0))) (.seq (.block 1 (zQ r242_5 (.cond 16 (zQ r242_6 (.run [zc 4 (str [])])) (.run r242_8)))) (.run [zm 11 5,zk 12 .add 11 1,zm 5 12])))))) (zQ r242_10 .ret))))),[.tmp 2]⟩
def r243_1:zI:=[zm 5 0,i_ 6 (.lenS 5),zk 7 .eql 6 0,zm 8 7,g_ 9 8 false (.mv 0),g_ 10 8 false (.lenS 9),g_ 11 8 false (.bin .gtr 10 (.const (int 4))),zq 12 8 11]
def r243_6:zI:=[zm 19 0,zm 20 4,i_ 21 (.strIdx 19 20),i_ 22 (.bin .lss 21 (.const (.int .u8 48))),zm 23 22,g_ 24 23 false (.mv 0),g_ 25 23 false (.mv 4),g_ 26 23 false (.strIdx 24 25),g_ 27 23 false (.bin .gtr 26 (.const (.int .u8 57))),zq 28 23 27]
def r243_8:zI:=[zm 29 3,zk 30 .mul 29 10,zm 31 0,zm 32 4,i_ 33 (.strIdx 31 32),i_ 34 (.bin .sub 33 (.const (.int .u8 48))),i_ 35 (.conv .i64 34),zb 36 .add 30 35,zm 3 36]
def s243:SFn:=⟨42,(zQ [zc 2 (int 0)] (.seq (zQ r243_1 (.cond 12 (zQ [zc 2 (int (-1))] .ret) .skip)) (zQ [zc 3 (int 0)] (.seq (zQ [zc 4 (int 0)] (.block 0 (.loop (.seq (zQ [zm 13 4,zm 14 0,i_ 15 (.lenS 14),zb 16 .lss 13 15] (.cond 16 .skip (.exit 0))) (.seq (.block 1 (.seq (zQ r243_6 (.cond 28 (zQ [zc 2 (int (-1))] .ret) .skip)) (.run r243_8))) (.run [zm 17 4,zk 18 .add 17 1,zm 4 18])))))) (.seq (zQ [zm 37 3,i_ 38 (.call 244 [37]),zm 39 0,zb 40 .neq 38 39] (.cond 40 (zQ [zc 2 (int (-1))] .ret) .skip)) (zQ [zm 41 3,zm 2 41] .ret)))))),[.tmp 2]⟩
def r244_3:zI:=[zm 6 0,zk 7 .rem 6 10,i_ 8 (.bin .add (.const (int 48)) 7),i_ 9 (.conv .u8 8),i_ 10 (.buildSlice 5 1 1 #[.int .u8 0] [(0,9)]),i_ 11 (.bytesStr 10),zm 12 3,zb 13 .add 11 12,zm 3 13]
def r244_5:zI:=[zm 16 0,i_ 17 (.bin .add (.const (int 48)) 16),i_ 18 (.conv .u8 17),i_ 19 (.buildSlice 5 1 1 #[.int .u8 0] [(0,18)]),i_ 20 (.bytesStr 19),zm 21 3,zb 22 .add 20 21,zm 2 22]
def s244:SFn:=⟨23,(zQ [zc 2 (str [])] (zQ [zc 3 (str [])] (.seq (.block 0 (.loop (.seq (zQ [zm 4 0,zk 5 .gtr 4 9] (.cond 5 .skip (.exit 0))) (.block 1 (zQ r244_3 (.run [zm 14 0,zk 15 .quo 14 10,zm 0 15])))))) (zQ r244_5 .ret)))),[.tmp 2]⟩
end
section
def r12_2:zI:=[zm 8 4,i_ 9 (.call 51 [8,.const (int 16)]),i_ 5 (.alloc 29 zB3),zs 3 5 9]
def r12_4:zI:=[zl 12 3 5,zm 13 4,zd 14 (.call 53 [13,.const (int 3)]) [1],⟨none,.store 3 2 12,none,[0,2,0]⟩,⟨none,.store 7 3 14,none,[2,3,0,1,2,3]⟩]
def r12_5:zI:=[zl 15 3 5,zm 16 4,zl 17 3 5,zd 18 (.call 54 [16,17]) [1,2],⟨none,.store 3 2 15,none,[0,3,0]⟩,⟨none,.store 7 3 18,none,[3,4,0,1,2,3,4]⟩]
def r121_1:zI:=[zm 7 0,zm 8 0,i_ 9 (.nilchk 8),zf 10 1 9,zo 11 10,zk 12 .add 11 1,i_ 13 (.nilchk 7),zf 14 1 13,zs 1 14 12]
def r121_2:zI:=[zm 15 1,zk 16 .lss 15 1,zm 17 16,g_ 18 17 false (.mv 0),g_ 19 17 false (.nilchk 18),g_ 20 17 false (.fieldAddr 0 19),g_ 21 17 false (.load1 20),g_ 22 17 false (.lenL 21),g_ 23 17 false (.bin .eql 22 (.const (int 0))),zq 24 17 23]
def r121_4:zI:=[zm 25 0,i_ 26 (.nilchk 25),zf 27 1 26,zo 28 27,zk 29 .sub 28 1,zm 5 29]
def r121_5:zI:=[zm 30 5,zm 31 0,i_ 32 (.nilchk 31),zf 33 0 32,zo 34 33,i_ 35 (.lenL 34),zb 36 .lss 30 35]
def r121_6:zI:=[zm 37 0,i_ 38 (.nilchk 37),zf 39 0 38,zo 40 39,zm 41 5,i_ 42 (.idxAddr 1 40 41),zo 43 42,i_ 44 (.conv .i64 43),zm 45 1,zb 46 .rem 44 45,zm 4 46]
def r121_7:zI:=[zm 47 0,zd 48 (.nilchk 47) [0],zd 49 (.fieldAddr 0 48) [1],zd 50 (.load1 49) [2],zm 51 5,zm 52 0,zd 53 (.nilchk 52) [5],zd 54 (.fieldAddr 0 53) [6],zd 55 (.load1 54) [7],zd 56 (.lenL 55) [8],zd 57 (.bin .rem 51 56) [4,9],zd 58 (.idxAddr 1 50 57) [3,10],zd 59 (.load1 58) [11],zd 60 (.conv .i64 59) [12],zd 61 (.bin .mul 60 (.const (int 131))) [13],zm 62 0,zd 63 (.nilchk 62) [15],zd 64 (.fieldAddr 0 63) [16],zd 65 (.load1 64) [17],zm 66 5,zd 67 (.bin .mul 66 (.const (int 7))) [19],zd 68 (.bin .add 67 (.const (int 3))) [20],zm 69 0,zd 70 (.nilchk 69) [22],zd 71 (.fieldAddr 0 70) [23],zd 72 (.load1 71) [24],zd 73 (.lenL 72) [25],zd 74 (.bin .rem 68 73) [21,26],zd 75 (.idxAddr 1 65 74) [18,27],zd 76 (.load1 75) [28],zd 77 (.conv .i64 76) [29],zd 78 (.bin .mul 77 (.const (int 1117))) [30],zd 79 (.bin .add 61 78) [14,31],zm 80 5,zd 81 (.bin .mul 80 (.const (int 29))) [33],zd 82 (.bin .add 79 81) [32,34],zm 83 5,zm 84 0,zd 85 (.nilchk 84) [37],zd 86 (.fieldAddr 0 85) [38],zd 87 (.load1 86) [39],zd 88 (.lenL 87) [40],zd 89 (.bin .quo 83 88) [36,41],zd 90 (.bin .mul 89 (.const (int 53))) [42],zd 91 (.bin .add 82 90) [35,43],zd 6 (.mv 91) [44,0,1,2,3,4,5,6,7,8,9,10,11,12,13,14,15,16,17,18,19,20,21,22,23,24,25,26,27,28,29,30,31,32,33,34,35,36,37,38,39,40,41,42,43,44]]
def s121:SFn:=⟨99,(zQ [zc 4 (int 0)] (zQ r121_1 (.seq (zQ r121_2 (.cond 24 (zQ [zc 4 (int 0)] .ret) .skip)) (zQ r121_4 (.seq (zQ r121_5 (.cond 36 (zQ r121_6 .ret) .skip)) (.seq (.draw r121_7) (zQ [zm 92 6,zm 93 6,zk 94 .quo 93 64,zb 95 .xor 92 94,zm 6 95] (zQ [zm 96 6,zm 97 1,zb 98 .rem 96 97,zm 4 98] .ret)))))))),[.tmp 4]⟩
end
section
def r35_1:zI:=[zm 6 0,i_ 7 (.call 95 [6,.const (str [59])]),i_ 8 (.mkSlice 9 1 16 (str []) (.const (int 0)) 7),i_ 4 (.alloc 59 (.slice none 0 0)),zs 1 4 8]
def r35_4:zI:=[zo 12 4,zm 13 5,i_ 14 (.buildSlice 9 1 1 #[str []] [(0,13)]),i_ 15 (.append 9 1 16 (str []) 12 14),zs 1 4 15]
def r35_5:zI:=[zo 16 4,zm 17 0,zm 18 0,zd 19 (.call 97 [18,.const (str [59])]) [2],zd 20 (.bin .add 19 (.const (int 1))) [3],zd 21 (.sliceS 17 (some 20) none) [1,4],zd 2 (.mv 16) [0,3,0],zd 3 (.mv 21) [5,6,0,1,2,3,4,5,6]]
def c35:XCode:=(.seq (.slim (.run [zc 2 (.slice none 0 0),zc 3 (str [])])) (.seq (.slim (.run r35_1)) (.seq (.seq (.slim (.run [zm 9 0,i_ 10 (.call 96 [9])])) (.block 0 (.range 10 [11] (.run [zm 5 11]) (.block 1 (.run r35_4))))) (.slim (.seq (.draw r35_5) .ret)))))
def s35:XFn:=⟨22,c35,[.tmp 2,.tmp 3]⟩
theorem k35:slimX Tryz.prog Tryz.f35=some s35:=by kernel_rfl
def r87_3:zI:=[i_ 9 (.alloc 162 (.agg #[.bool false,int 0,int 0,int 0,int 0,int 0,int 0])),zs 7 9 13]
def r87_5:zI:=[zl 17 2 4,i_ 18 (.call 67 [17]),zm 19 18,g_ 20 19 true (.loadN 2 5),g_ 21 19 true (.call 146 [20]),zp 22 19 21,zm 23 22,g_ 24 23 true (.load1 7),g_ 25 23 true (.loadN 2 4),g_ 26 23 true (.loadN 2 5),g_ 27 23 true (.callv 24 [25,26]),zp 28 23 27,zm 6 28]
def c87:XCode:=(.seq (.slim (.run [i_ 4 (.box 31 1),i_ 5 (.box 31 2),zc 6 (.bool false)])) (.seq (.slim (.run [i_ 7 (.alloc 179 .nilFunc),n_ (.store 1 7 (.func 170))])) (.seq (.seq (.slim (.run [zm 10 0,i_ 11 (.call 171 [10])])) (.block 0 (.range 11 [12,13] (.run r87_3) (.block 1 (.run [zl 14 7 9,zo 15 7,i_ 16 (.call 172 [14,15]),zs 1 7 16]))))) (.slim (zQ r87_5 .ret)))))
def s87:XFn:=⟨29,c87,[.tmp 6]⟩
theorem k87:slimX Tryz.prog Tryz.f87=some s87:=by kernel_rfl
def r131_0:zI:=[i_ 2 (.box 26 0),i_ 4 (.alloc 26 (.agg #[.slice none 0 0])),zc 5 (str [])]
def r131_1:zI:=[zl 11 1 2,i_ 12 (.call 154 [11]),i_ 6 (.alloc 26 (.agg #[.slice none 0 0])),zs 1 6 12]
def r131_5:zI:=[zl 17 1 6,zm 18 8,i_ 19 (.call 203 [17,18]),zm 16 19,zx 20 16 0,zx 21 16 1,i_ 9 (.alloc 26 (.agg #[.slice none 0 0])),zs 1 9 20,zm 10 21]
def r131_7:zI:=[zm 23 10,i_ 24 (.bin .add 23 (.const (str [59]))),i_ 25 (.call 204 [7,24])]
def r131_8:zI:=[zl 26 1 6,i_ 27 (.call 205 [7]),⟨none,.store 1 4 26,none,[0,1,0]⟩,zd 5 (.mv 27) [1,2,0,1,2]]
def c131:XCode:=(.seq (.slim (.run r131_0)) (.seq (.slim (.run r131_1)) (.seq (.slim (.run [i_ 7 (.alloc 213 (.agg #[.pointer none,.slice none 0 0]))])) (.seq (.seq (.slim (.run [zm 13 1,i_ 14 (.call 96 [13])])) (.block 0 (.range 14 [15] (.run [zm 8 15]) (.block 1 (zQ r131_5 (zQ [zl 22 1 9,zs 1 6 22] (.run r131_7))))))) (.slim (.seq (.draw r131_8) .ret))))))
def s131:XFn:=⟨28,c131,[.cellN 4 1,.tmp 5]⟩
theorem k131:slimX Tryz.prog Tryz.f131=some s131:=by kernel_rfl
def r148_3:zI:=[zm 12 5,i_ 13 (.call 211 [12]),zm 11 13,zx 14 11 0,zx 15 11 1,i_ 6 (.alloc 31 zE2),zs 2 6 14,zm 7 15]
def r148_4:zI:=[zm 16 7,zm 17 16,g_ 18 17 true (.loadN 1 2),g_ 19 17 true (.loadN 2 6),g_ 20 17 true (.call 16 [18,19]),g_ 21 17 true (.bin .eql 20 (.const (int 0))),zp 22 17 21,zm 23 22,g_ 24 23 true (.fieldAddr 0 2),g_ 25 23 true (.load1 24),g_ 26 23 true (.lenL 25),g_ 27 23 true (.bin .lss 26 (.const (int 6))),zp 28 23 27]
def c148:XCode:=(.seq (.slim (.run [i_ 2 (.box 26 0),i_ 4 (.alloc 4 (.bool false))])) (.seq (.seq (.slim (.run [zm 8 1,i_ 9 (.call 96 [8])])) (.block 0 (.range 9 [10] (.run [zm 5 10]) (.block 1 (zQ r148_3 (zQ r148_4 (.cond 28 (zQ [n_ (.store 1 4 (.const (.bool false)))] .ret) .skip))))))) (.slim (zQ [n_ (.store 1 4 (.const (.bool true)))] .ret))))
def s148:XFn:=⟨29,c148,[.cell1 4]⟩
theorem k148:slimX Tryz.prog Tryz.f148=some s148:=by kernel_rfl
end
section
def r3_3:zI:=[zm 14 0,i_ 15 (.call 12 [14]),zm 13 15,zx 16 13 0,zx 17 13 1,i_ 3 (.alloc 29 zB3),i_ 4 (.alloc 33 zS7),zs 3 3 16,zs 7 4 17]
def r3_4:zI:=[zl 19 3 3,zl 20 7 4,i_ 21 (.call 13 [19,20]),zm 18 21,zx 22 18 0,zx 23 18 1,i_ 5 (.alloc 29 zB3),zs 3 5 22,zm 6 23]
def r3_6:zI:=[zm 27 6,i_ 28 (.lenL 27),zk 29 .eql 28 0,zm 30 29,g_ 31 30 true (.call 15 []),zp 32 30 31,zm 2 32]
def r3_7:zI:=[zf 33 1 3,zf 34 0 33,zo 35 34,i_ 36 (.lenL 35),zk 37 .lss 36 6,zm 38 37,g_ 39 38 false (.fieldAddr 1 3),g_ 40 38 false (.loadN 1 39),g_ 41 38 false (.fieldAddr 0 4),g_ 42 38 false (.loadN 2 41),g_ 43 38 false (.call 16 [40,42]),g_ 44 38 false (.bin .gtr 43 (.const (int 0))),zq 45 38 44]
def r3_9:zI:=[i_ 48 (.build #[int 0,int 0] [(0,1),(1,1)] [(0,.const (int 50)),(1,.const (int 500))]),zf 49 2 4,zs 2 49 48]
def r3_10:zI:=[zl 51 3 3,zl 52 7 4,i_ 53 (.call 18 [51,52]),zm 50 53,zx 54 50 0,zx 55 50 1,zx 56 50 2,i_ 7 (.alloc 29 zB3),i_ 8 (.alloc 33 zS7),zs 3 7 54,zs 7 8 55,zm 9 56]
def r3_11:zI:=[zm 57 6,i_ 58 (.lenL 57),zk 59 .eql 58 0,zm 60 59,g_ 61 60 true (.loadN 3 5),g_ 62 60 true (.loadN 3 3),g_ 63 60 true (.call 19 [61,62]),zp 64 60 63,zm 65 64,g_ 66 65 true (.mv 9),g_ 67 65 true (.not 66),zp 68 65 67,zm 69 68,g_ 70 69 true (.loadN 3 7),g_ 71 69 true (.loadN 3 3),g_ 72 69 true (.call 19 [70,71]),zp 73 69 72,zm 2 73]
def c3:SCode:=(zQ [zc 2 (.bool false)] (.seq (zQ [zm 10 0,i_ 11 (.lenL 10),zk 12 .gtr 11 1048576] (.cond 12 (zQ [zc 2 (.bool true)] .ret) .skip)) (zQ r3_3 (zQ r3_4 (.seq (zQ [zl 24 3 3,i_ 25 (.call 14 [24]),i_ 26 (.not 25)] (.cond 26 (zQ r3_6 .ret) .skip)) (.seq (zQ r3_7 (.cond 45 (zQ [zl 46 3 5,i_ 47 (.call 17 [46]),zm 2 47] .ret) .skip)) (zQ r3_9 (zQ r3_10 (zQ r3_11 .ret)))))))))
def s3:SFn:=⟨74,c3,[.tmp 2]⟩
theorem k3:slimFn Tryz.prog Tryz.f3=some s3:=by kernel_rfl
def r4_1:zI:=[zm 19 0,i_ 20 (.lenL 19),zk 21 .gtr 20 1048576,zm 22 21,g_ 23 22 false (.mv 1),g_ 24 22 false (.lenL 23),g_ 25 22 false (.bin .gtr 24 (.const (int 1048576))),zq 26 22 25]
def r4_3:zI:=[zm 28 0,i_ 29 (.call 12 [28]),zm 27 29,zx 30 27 0,zx 31 27 1,i_ 5 (.alloc 29 zB3),i_ 6 (.alloc 33 zS7),zs 3 5 30,zs 7 6 31]
def r4_4:zI:=[zl 33 3 5,zl 34 7 6,i_ 35 (.call 13 [33,34]),zm 32 35,zx 36 32 0,zx 37 32 1,i_ 7 (.alloc 29 zB3),zs 3 7 36,zm 8 37]
def r4_5:zI:=[zl 38 3 5,zf 39 0 6,zl 40 2 39,zf 41 2 6,zl 42 2 41,i_ 43 (.call 20 [38,40,42]),zm 9 43]
def r4_6:zI:=[zl 44 3 5,i_ 45 (.call 14 [44]),zm 46 45,g_ 47 46 true (.mv 9),g_ 48 46 true (.bin .geq 47 (.const (int 0))),zp 49 46 48,zm 50 49,g_ 51 50 true (.mv 8),g_ 52 50 true (.lenL 51),g_ 53 50 true (.bin .gtr 52 (.const (int 0))),zp 54 50 53,zm 55 54,g_ 56 55 true (.fieldAddr 2 6),g_ 57 55 true (.fieldAddr 1 56),g_ 58 55 true (.load1 57),g_ 59 55 true (.bin .eql 58 (.const (int 21))),zp 60 55 59]
def r4_7:zI:=[zf 61 2 5,zd 62 (.load1 61) [0],zm 63 9,zd 64 (.idxAddr 7 62 63) [1,2],zd 65 (.fieldAddr 4 64) [3],zd 66 (.load1 65) [4],zl 67 7 6,zd 68 (.call 21 [66,67]) [5,6],zd 10 (.mv 68) [7,7,0,1,2,3,4,5,6,7]]
def r4_9:zI:=[zf 72 2 5,zo 73 72,zm 74 9,i_ 75 (.idxAddr 7 73 74),zf 76 4 75,zo 77 76,zm 10 77]
def r4_10:zI:=[zf 78 2 7,zo 79 78,zm 80 9,i_ 81 (.idxAddr 7 79 80),zf 82 4 81,zo 83 82,zm 84 10,zb 85 .neq 83 84]
def r4_12:zI:=[zm 87 1,i_ 88 (.call 23 [87]),zm 86 88,zx 89 86 0,zx 90 86 1,i_ 11 (.alloc 29 zB3),i_ 12 (.alloc 33 zS7),zs 3 11 89,zs 7 12 90]
def r4_13:zI:=[zl 92 3 11,zl 93 7 12,i_ 94 (.call 24 [92,93]),zm 91 94,zx 95 91 0,zx 96 91 1,i_ 13 (.alloc 29 zB3),zs 3 13 95,zm 14 96]
def r4_14:zI:=[zf 98 1 11,zl 99 1 98,zf 100 2 12,zf 101 1 100,zo 102 101,i_ 103 (.call 25 [99,102]),zm 97 103,zx 104 97 0,zx 105 97 1,i_ 15 (.alloc 31 zE2),zs 2 15 104,zm 16 105]
def r4_15:zI:=[zl 106 3 11,zl 107 2 15,zf 108 0 12,zl 109 2 108,i_ 110 (.call 20 [106,107,109]),zm 17 110]
def r4_16:zI:=[zl 111 3 11,i_ 112 (.call 14 [111]),zm 113 112,g_ 114 113 true (.mv 16),zp 115 113 114,zm 116 115,g_ 117 116 true (.mv 17),g_ 118 116 true (.bin .geq 117 (.const (int 0))),zp 119 116 118,zm 120 119,g_ 121 120 true (.mv 14),g_ 122 120 true (.lenL 121),g_ 123 120 true (.bin .gtr 122 (.const (int 0))),zp 124 120 123]
def r4_17:zI:=[zf 125 2 11,zd 126 (.load1 125) [0],zm 127 17,zd 128 (.idxAddr 7 126 127) [1,2],zd 129 (.fieldAddr 5 128) [3],zd 130 (.load1 129) [4],zl 131 7 12,zd 132 (.call 21 [130,131]) [5,6],zd 18 (.mv 132) [7,7,0,1,2,3,4,5,6,7]]
def r4_19:zI:=[zf 136 2 11,zo 137 136,zm 138 17,i_ 139 (.idxAddr 7 137 138),zf 140 5 139,zo 141 140,zm 18 141]
def r4_20:zI:=[zf 142 2 13,zo 143 142,zm 144 17,i_ 145 (.idxAddr 7 143 144),zf 146 5 145,zo 147 146,zm 148 18,zb 149 .neq 147 148]
def s4:SFn:=⟨151,(zQ [zc 4 (.bool false)] (.seq (zQ r4_1 (.cond 26 (zQ [zc 4 (.bool true)] .ret) .skip)) (zQ r4_3 (zQ r4_4 (zQ r4_5 (.seq (zQ r4_6 (.cond 60 (.seq (.draw r4_7) (.seq (zQ [zm 69 10,i_ 70 (.call 22 [69]),i_ 71 (.not 70)] (.cond 71 (.run r4_9) .skip)) (zQ r4_10 (.cond 85 (zQ [zc 4 (.bool false)] .ret) .skip)))) .skip)) (zQ r4_12 (zQ r4_13 (zQ r4_14 (zQ r4_15 (.seq (zQ r4_16 (.cond 124 (.seq (.draw r4_17) (.seq (zQ [zm 133 18,i_ 134 (.call 22 [133]),i_ 135 (.not 134)] (.cond 135 (.run r4_19) .skip)) (zQ r4_20 (.cond 149 (zQ [zc 4 (.bool false)] .ret) .skip)))) .skip)) (zQ [i_ 150 (.call 15 []),zm 4 150] .ret)))))))))))),[.tmp 4]⟩
theorem k4:slimFn Tryz.prog Tryz.f4=some s4:=by kernel_rfl
def r5_3:zI:=[zm 16 0,i_ 17 (.call 23 [16]),zm 15 17,zx 18 15 0,zx 19 15 1,i_ 3 (.alloc 29 zB3),i_ 4 (.alloc 33 zS7),zs 3 3 18,zs 7 4 19]
def r5_4:zI:=[zl 21 3 3,zl 22 7 4,i_ 23 (.call 24 [21,22]),zm 20 23,zx 24 20 0,zx 25 20 1,i_ 5 (.alloc 29 zB3),zs 3 5 24,zm 6 25]
def r5_5:zI:=[zl 27 3 3,zl 28 7 4,i_ 29 (.call 26 [27,28]),zm 26 29,zx 30 26 0,zx 31 26 1,i_ 7 (.alloc 29 zB3),zs 3 7 30,zm 8 31]
def r5_6:zI:=[zl 32 3 5,zl 33 3 7,i_ 34 (.call 19 [32,33]),i_ 35 (.not 34),zm 36 35,g_ 37 36 false (.mv 6),g_ 38 36 false (.mv 8),g_ 39 36 false (.call 27 [37,38]),g_ 40 36 false (.not 39),zq 41 36 40]
def r5_9:zI:=[zm 45 6,i_ 46 (.lenL 45),zk 47 .eql 46 0,zm 48 47,g_ 49 48 true (.fieldAddr 2 5),g_ 50 48 true (.load1 49),g_ 51 48 true (.lenL 50),g_ 52 48 true (.bin .eql 51 (.const (int 0))),zp 53 48 52,zm 54 53,g_ 55 54 true (.call 15 []),zp 56 54 55,zm 2 56]
def r5_10:zI:=[zf 58 1 3,zl 59 1 58,zf 60 2 4,zf 61 1 60,zo 62 61,i_ 63 (.call 25 [59,62]),zm 57 63,zx 64 57 0,zx 65 57 1,i_ 9 (.alloc 31 zE2),zs 2 9 64,zm 10 65]
def r5_11:zI:=[zl 66 3 5,i_ 67 (.call 17 [66]),i_ 68 (.not 67),zm 69 68,g_ 70 69 false (.fieldAddr 1 5),g_ 71 69 false (.fieldAddr 0 70),g_ 72 69 false (.load1 71),g_ 73 69 false (.fieldAddr 1 3),g_ 74 69 false (.fieldAddr 0 73),g_ 75 69 false (.load1 74),g_ 76 69 false (.call 28 [72,75]),g_ 77 69 false (.not 76),zq 78 69 77]
def r5_13:zI:=[zm 79 10,i_ 80 (.not 79),zm 81 80,g_ 82 81 false (.loadN 7 4),g_ 83 81 false (.call 29 [82]),g_ 84 81 false (.not 83),zq 85 81 84,zm 86 85,g_ 87 86 false (.fieldAddr 2 4),g_ 88 86 false (.fieldAddr 0 87),g_ 89 86 false (.load1 88),g_ 90 86 false (.bin .neq 89 (.const (int 50))),zq 91 86 90,zm 92 91,g_ 93 92 false (.fieldAddr 0 3),g_ 94 92 false (.load1 93),g_ 95 92 false (.loadN 2 9),g_ 96 92 false (.fieldAddr 0 4),g_ 97 92 false (.loadN 2 96),g_ 98 92 false (.call 30 [94,95,97]),g_ 99 92 false (.not 98),zq 100 92 99]
def r5_14:zI:=[zm 101 6,i_ 102 (.lenL 101),zk 103 .eql 102 0,zm 104 103,g_ 105 104 true (.loadN 3 5),g_ 106 104 true (.loadN 3 3),g_ 107 104 true (.call 19 [105,106]),zp 108 104 107,zm 2 108]
def r5_17:zI:=[zm 115 6,zm 116 11,zd 117 (.idxAddr 7 115 116) [0,1],zd 118 (.fieldAddr 2 117) [2],zd 119 (.loadN 2 118) [3],zl 120 2 9,zd 121 (.eqv true 31 119 120) [4,5],zd 122 (.mv 121) [6],zg 123 122 false (.mv 6) [7],zg 124 122 false (.mv 11) [7],zg 125 122 false (.idxAddr 7 123 124) [8,9,7],zg 126 122 false (.fieldAddr 0 125) [10,7],zg 127 122 false (.loadN 2 126) [11,7],zg 128 122 false (.fieldAddr 0 4) [7],zg 129 122 false (.loadN 2 128) [13,7],zg 130 122 false (.eqv true 31 127 129) [12,14,7],zd 131 (.pick 122 (.const (.bool true)) 130) [7,15],zd 132 (.mv 131) [16,7],zg 133 132 false (.mv 6) [17],zg 134 132 false (.mv 11) [17],zg 135 132 false (.idxAddr 7 133 134) [18,19,17],zg 136 132 false (.loadN 7 135) [20,17],zg 137 132 false (.call 31 [136]) [21,17,17],zg 138 132 false (.not 137) [22,17],zd 139 (.pick 132 (.const (.bool true)) 138) [17,23]]
def r5_20:zI:=[zm 140 6,i_ 141 (.lenL 140),zk 142 .gtr 141 0,zf 143 0 4,zf 144 1 143,zo 145 144,zk 146 .neq 145 21,zm 147 146,g_ 148 147 false (.loadN 3 3),g_ 149 147 false (.loadN 2 9),g_ 150 147 false (.fieldAddr 0 4),g_ 151 147 false (.loadN 2 150),g_ 152 147 false (.call 20 [148,149,151]),g_ 153 147 false (.bin .geq 152 (.const (int 0))),zq 154 147 153,i_ 155 (.eqv false 4 142 154),zm 2 155]
def s5:SFn:=⟨156,(zQ [zc 2 (.bool false)] (.seq (zQ [zm 12 0,i_ 13 (.lenL 12),zk 14 .gtr 13 1048576] (.cond 14 (zQ [zc 2 (.bool true)] .ret) .skip)) (zQ r5_3 (zQ r5_4 (zQ r5_5 (.seq (zQ r5_6 (.cond 41 (zQ [zc 2 (.bool false)] .ret) .skip)) (.seq (zQ [zl 42 3 3,i_ 43 (.call 14 [42]),i_ 44 (.not 43)] (.cond 44 (zQ r5_9 .ret) .skip)) (zQ r5_10 (.seq (zQ r5_11 (.cond 78 (zQ [zc 2 (.bool false)] .ret) .skip)) (.seq (zQ r5_13 (.cond 100 (zQ r5_14 .ret) .skip)) (.seq (zQ [zc 11 (int 0)] (.block 0 (.loop (.seq (zQ [zm 109 11,zm 110 6,i_ 111 (.lenL 110),zb 112 .lss 109 111] (.cond 112 .skip (.exit 0))) (.seq (.block 1 (.seq (.draw r5_17) (.cond 139 (zQ [zc 2 (.bool false)] .ret) .skip))) (.run [zm 113 11,zk 114 .add 113 1,zm 11 114])))))) (zQ r5_20 .ret)))))))))))),[.tmp 2]⟩
theorem k5:slimFn Tryz.prog Tryz.f5=some s5:=by kernel_rfl
def r6_3:zI:=[zm 15 0,i_ 16 (.call 12 [15]),zm 14 16,zx 17 14 0,zx 18 14 1,i_ 3 (.alloc 29 zB3),i_ 4 (.alloc 33 zS7),zs 3 3 17,zs 7 4 18]
def r6_4:zI:=[zl 20 3 3,zl 21 7 4,i_ 22 (.call 13 [20,21]),zm 19 22,zx 23 19 0,zx 24 19 1,i_ 5 (.alloc 29 zB3),zs 3 5 23,zm 6 24]
def r6_5:zI:=[zl 26 3 3,zl 27 7 4,i_ 28 (.call 32 [26,27]),zm 25 28,zx 29 25 0,zx 30 25 1,i_ 7 (.alloc 29 zB3),zs 3 7 29,zm 8 30]
def r6_6:zI:=[zl 31 3 5,zl 32 3 7,zd 33 (.call 19 [31,32]) [0,1],zd 34 (.not 33) [2],zd 35 (.mv 34) [3,2],zg 36 35 false (.mv 6) [4],zg 37 35 false (.mv 8) [4],zg 38 35 false (.call 27 [36,37]) [5,6,4,4],zg 39 35 false (.not 38) [7,4],zd 40 (.pick 35 (.const (.bool true)) 39) [4,8],zd 41 (.mv 40) [9,7],zg 42 41 false (.loadN 3 3) [10],zg 43 41 false (.call 17 [42]) [11,10,10],zg 44 41 false (.loadN 3 3) [10],zg 45 41 false (.call 14 [44]) [13,12,10],zg 46 41 false (.eqv true 4 43 45) [12,14,10],zd 47 (.pick 41 (.const (.bool true)) 46) [10,15]]
def r6_9:zI:=[zm 51 6,i_ 52 (.lenL 51),zk 53 .eql 52 0,zm 54 53,g_ 55 54 true (.fieldAddr 2 5),g_ 56 54 true (.load1 55),g_ 57 54 true (.lenL 56),g_ 58 54 true (.bin .eql 57 (.const (int 0))),zp 59 54 58,zm 60 59,g_ 61 60 true (.call 15 []),zp 62 60 61,zm 2 62]
def r6_10:zI:=[zl 63 3 5,i_ 64 (.call 17 [63]),i_ 65 (.not 64),zm 66 65,g_ 67 66 false (.loadN 3 5),g_ 68 66 false (.loadN 3 3),g_ 69 66 false (.call 33 [67,68]),g_ 70 66 false (.not 69),zq 71 66 70]
def r6_12:zI:=[zf 72 0 3,zo 73 72,zf 74 0 4,zl 75 2 74,zf 76 2 4,zl 77 2 76,i_ 78 (.call 30 [73,75,77]),i_ 79 (.not 78)]
def r6_13:zI:=[zm 80 6,i_ 81 (.lenL 80),zk 82 .eql 81 0,zm 83 82,g_ 84 83 true (.loadN 3 5),g_ 85 83 true (.loadN 3 3),g_ 86 83 true (.call 19 [84,85]),zp 87 83 86,zm 2 87]
def r6_16:zI:=[zm 94 6,zm 95 9,i_ 96 (.idxAddr 7 94 95),zl 97 7 96,i_ 10 (.alloc 33 zS7),zs 7 10 97]
def r6_17:zI:=[zl 98 7 10,zd 99 (.call 31 [98]) [0],zd 100 (.not 99) [1],zd 101 (.mv 100) [2,1],zg 102 101 false (.fieldAddr 0 10) [3],zg 103 101 false (.fieldAddr 0 102) [4,3],zg 104 101 false (.load1 103) [5,3],zg 105 101 false (.bin .neq 104 (.const (int 50))) [6,3],zd 106 (.pick 101 (.const (.bool true)) 105) [3,7],zd 107 (.mv 106) [8,3],zg 108 107 false (.fieldAddr 0 10) [9],zg 109 107 false (.fieldAddr 1 108) [10,9],zg 110 107 false (.load1 109) [11,9],zg 111 107 false (.fieldAddr 1 5) [9],zg 112 107 false (.loadN 1 111) [13,9],zg 113 107 false (.fieldAddr 0 4) [9],zg 114 107 false (.loadN 2 113) [15,9],zg 115 107 false (.call 16 [112,114]) [14,16,9,9],zg 116 107 false (.bin .neq 110 115) [12,17,9],zd 117 (.pick 107 (.const (.bool true)) 116) [9,18],zd 118 (.mv 117) [19,17],zg 119 118 false (.fieldAddr 2 10) [20],zg 120 118 false (.loadN 2 119) [21,20],zg 121 118 false (.fieldAddr 2 4) [20],zg 122 118 false (.loadN 2 121) [23,20],zg 123 118 false (.eqv true 31 120 122) [22,24,20],zd 124 (.pick 118 (.const (.bool true)) 123) [20,25]]
def s6:SFn:=⟨125,(zQ [zc 2 (.bool false)] (.seq (zQ [zm 11 0,i_ 12 (.lenL 11),zk 13 .gtr 12 1048576] (.cond 13 (zQ [zc 2 (.bool true)] .ret) .skip)) (zQ r6_3 (zQ r6_4 (zQ r6_5 (.seq (.seq (.draw r6_6) (.cond 47 (zQ [zc 2 (.bool false)] .ret) .skip)) (.seq (zQ [zl 48 3 3,i_ 49 (.call 14 [48]),i_ 50 (.not 49)] (.cond 50 (zQ r6_9 .ret) .skip)) (.seq (zQ r6_10 (.cond 71 (zQ [zc 2 (.bool false)] .ret) .skip)) (.seq (zQ r6_12 (.cond 79 (zQ r6_13 .ret) .skip)) (.seq (zQ [zc 9 (int 0)] (.block 0 (.loop (.seq (zQ [zm 88 9,zm 89 6,i_ 90 (.lenL 89),zb 91 .lss 88 90] (.cond 91 .skip (.exit 0))) (.seq (.block 1 (zQ r6_16 (.seq (.draw r6_17) (.cond 124 (zQ [zc 2 (.bool false)] .ret) .skip)))) (.run [zm 92 9,zk 93 .add 92 1,zm 9 93])))))) (zQ [zc 2 (.bool true)] .ret))))))))))),[.tmp 2]⟩
theorem k6:slimFn Tryz.prog Tryz.f6=some s6:=by kernel_rfl
def r7_1:zI:=[zm 19 0,i_ 20 (.lenL 19),zk 21 .gtr 20 1048576,zm 22 21,g_ 23 22 false (.mv 1),g_ 24 22 false (.lenL 23),g_ 25 22 false (.bin .gtr 24 (.const (int 1048576))),zq 26 22 25]
def r7_3:zI:=[zm 28 0,i_ 29 (.call 12 [28]),zm 27 29,zx 30 27 0,zx 31 27 1,i_ 5 (.alloc 29 zB3),i_ 6 (.alloc 33 zS7),zs 3 5 30,zs 7 6 31]
def r7_4:zI:=[zm 33 1,i_ 34 (.call 23 [33]),zm 32 34,zx 35 32 0,zx 36 32 1,i_ 7 (.alloc 29 zB3),i_ 8 (.alloc 33 zS7),zs 3 7 35,zs 7 8 36]
def r7_5:zI:=[zl 37 3 5,i_ 38 (.call 14 [37]),i_ 39 (.not 38),zm 40 39,g_ 41 40 false (.loadN 3 7),g_ 42 40 false (.call 14 [41]),g_ 43 40 false (.not 42),zq 44 40 43]
def r7_6:zI:=[zl 46 3 5,zl 47 7 6,i_ 48 (.call 13 [46,47]),zm 45 48,zx 49 45 0,zx 50 45 1,i_ 9 (.alloc 29 zB3),zs 3 9 49,zm 10 50]
def r7_7:zI:=[zl 51 3 5,i_ 52 (.call 14 [51]),zm 53 52,g_ 54 53 false (.mv 10),g_ 55 53 false (.lenL 54),g_ 56 53 false (.bin .eql 55 (.const (int 0))),zq 57 53 56,zm 58 57,g_ 59 58 true (.call 15 []),zp 60 58 59,zm 4 60]
def r7_8:zI:=[zl 62 3 5,zl 63 7 6,i_ 64 (.call 13 [62,63]),zm 61 64,zx 65 61 0,zx 66 61 1,i_ 11 (.alloc 29 zB3),zs 3 11 65,zm 12 66]
def r7_9:zI:=[zl 68 3 11,zl 69 7 6,i_ 70 (.call 13 [68,69]),zm 67 70,zx 71 67 0,zx 72 67 1,i_ 13 (.alloc 29 zB3),zs 3 13 71,zm 14 72]
def r7_10:zI:=[zl 73 3 13,zl 74 3 11,i_ 75 (.call 19 [73,74]),i_ 76 (.not 75),zm 77 76,g_ 78 77 false (.mv 14),g_ 79 77 false (.mv 12),g_ 80 77 false (.call 27 [78,79]),g_ 81 77 false (.not 80),zq 82 77 81]
def r7_12:zI:=[zl 84 3 7,zl 85 7 8,i_ 86 (.call 24 [84,85]),zm 83 86,zx 87 83 0,zx 88 83 1,i_ 15 (.alloc 29 zB3),zs 3 15 87,zm 16 88]
def r7_13:zI:=[zl 90 3 15,zl 91 7 8,i_ 92 (.call 24 [90,91]),zm 89 92,zx 93 89 0,zx 94 89 1,i_ 17 (.alloc 29 zB3),zs 3 17 93,zm 18 94]
def r7_14:zI:=[zl 95 3 17,zl 96 3 15,i_ 97 (.call 19 [95,96]),zm 98 97,g_ 99 98 true (.mv 18),g_ 100 98 true (.mv 16),g_ 101 98 true (.call 27 [99,100]),zp 102 98 101,zm 4 102]
def r10_8:zI:=[zl 27 3 2,zd 28 (.call 42 [27]) [0],zl 29 7 3,zd 30 (.call 43 [29]) [2,1],zd 31 (.call 26 [28,30]) [1,3,3],zd 26 (.mv 31) [4],zd 32 (.extract 26 0) [5],zd 33 (.extract 26 1) [5],i_ 6 (.alloc 29 zB3),⟨none,.store 3 6 32,none,[8,6,4,0,1,2,3,4,5,6,8]⟩,zd 7 (.mv 33) [7,9,0,1,2,3,4,5,6,7,8,9]]
def r10_10:zI:=[zl 37 3 8,zl 38 7 3,zd 39 (.call 43 [38]) [1],zd 40 (.call 24 [37,39]) [0,2,2],zd 36 (.mv 40) [3],zd 41 (.extract 36 0) [4],zd 42 (.extract 36 1) [4],i_ 9 (.alloc 29 zB3),⟨none,.store 3 9 41,none,[7,5,3,0,1,2,3,4,5,7]⟩,zd 10 (.mv 42) [6,8,0,1,2,3,4,5,6,7,8]]
def r10_11:zI:=[zl 43 3 9,zl 44 3 6,i_ 45 (.call 44 [43,44]),i_ 46 (.not 45),zm 47 46,g_ 48 47 false (.mv 10),g_ 49 47 false (.mv 7),g_ 50 47 false (.call 45 [48,49]),g_ 51 47 false (.not 50),zq 52 47 51]
def r10_13:zI:=[zl 53 3 8,zl 54 3 2,zd 55 (.call 42 [54]) [1],zd 56 (.call 44 [53,55]) [0,2,2],zd 57 (.not 56) [3]]
def r10_17:zI:=[zm 61 11,zk 62 .lss 61 0,zm 63 62,g_ 64 63 false (.loadN 3 9),g_ 65 63 false (.loadN 3 6),g_ 66 63 false (.call 44 [64,65]),g_ 67 63 false (.not 66),zq 68 63 67,zm 69 68,g_ 70 69 false (.mv 10),g_ 71 69 false (.mv 7),g_ 72 69 false (.call 45 [70,71]),g_ 73 69 false (.not 72),zq 74 69 73]
def r10_31:zI:=[zl 95 3 2,zd 96 (.call 42 [95]) [0],zl 97 7 3,zd 98 (.call 43 [97]) [2,1],zd 99 (.call 24 [96,98]) [1,3,3],zd 94 (.mv 99) [4],zd 100 (.extract 94 0) [5],zd 101 (.extract 94 1) [5],i_ 14 (.alloc 29 zB3),⟨none,.store 3 14 100,none,[8,6,4,0,1,2,3,4,5,6,8]⟩,zd 15 (.mv 101) [7,9,0,1,2,3,4,5,6,7,8,9]]
def r10_32:zI:=[zl 102 3 14,zl 103 3 6,i_ 104 (.call 44 [102,103]),i_ 105 (.not 104),zm 106 105,g_ 107 106 false (.mv 15),g_ 108 106 false (.mv 7),g_ 109 106 false (.call 45 [107,108]),g_ 110 106 false (.not 109),zq 111 106 110]
def s10:SFn:=⟨125,(zQ [i_ 2 (.box 72 0),i_ 3 (.box 75 1),zc 4 (.bool false)] (zQ [zc 5 (int 1048576)] (zQ [zl 16 3 2,zm 17 5,i_ 18 (.call 40 [16,17]),zm 5 18] (.seq (zQ [zm 19 5,zk 20 .lss 19 0] (.cond 20 (zQ [zc 4 (.bool true)] .ret) .skip)) (zQ [zl 21 7 3,zm 22 5,i_ 23 (.call 41 [21,22]),zm 5 23] (.seq (zQ [zm 24 5,zk 25 .lss 24 0] (.cond 25 (zQ [zc 4 (.bool true)] .ret) .skip)) (.seq (.draw r10_8) (zQ [zl 34 3 2,i_ 35 (.call 42 [34]),i_ 8 (.alloc 29 zB3),zs 3 8 35] (.seq (.draw r10_10) (.seq (zQ r10_11 (.cond 52 (zQ [zc 4 (.bool false)] .ret) .skip)) (.seq (.seq (.draw r10_13) (.cond 57 (zQ [zc 4 (.bool false)] .ret) .skip)) (zQ [zc 11 (int 1)] (zQ [zl 58 3 8,zm 59 11,i_ 60 (.call 46 [58,59]),zm 11 60] (.seq (zQ r10_17 (.cond 74 (zQ [zc 4 (.bool false)] .ret) .skip)) (zQ [zc 12 (int 1)] (zQ [zl 75 3 9,zm 76 12,i_ 77 (.call 46 [75,76]),zm 12 77] (zQ [zm 78 10,zm 79 12,i_ 80 (.call 47 [78,79]),zm 12 80] (zQ [zc 13 (int 1)] (zQ [zl 81 3 9,zm 82 13,i_ 83 (.call 48 [81,82]),zm 13 83] (.seq (zQ [zm 84 13,zk 85 .lss 84 0] (.cond 85 (zQ [zc 4 (.bool false)] .ret) .skip)) (zQ [zm 86 10,zm 87 13,i_ 88 (.call 49 [86,87]),zm 13 88] (.seq (zQ [zm 89 13,zk 90 .lss 89 0] (.cond 90 (zQ [zc 4 (.bool false)] .ret) .skip)) (.seq (zQ [zm 91 13,zm 92 12,zb 93 .neq 91 92] (.cond 93 (zQ [zc 4 (.bool false)] .ret) .skip)) (.seq (.draw r10_31) (.seq (zQ r10_32 (.cond 111 (zQ [zc 4 (.bool false)] .ret) .skip)) (zQ [zc 13 (int 1)] (zQ [zl 112 3 9,zm 113 13,i_ 114 (.call 48 [112,113]),zm 13 114] (.seq (zQ [zm 115 13,zk 116 .lss 115 0] (.cond 116 (zQ [zc 4 (.bool false)] .ret) .skip)) (zQ [zm 117 10,zm 118 13,i_ 119 (.call 49 [117,118]),zm 13 119] (.seq (zQ [zm 120 13,zk 121 .lss 120 0] (.cond 121 (zQ [zc 4 (.bool false)] .ret) .skip)) (.seq (zQ [zm 122 13,zm 123 12,zb 124 .neq 122 123] (.cond 124 (zQ [zc 4 (.bool false)] .ret) .skip)) (zQ [zc 4 (.bool true)] .ret)))))))))))))))))))))))))))))))),[.tmp 4]⟩
def s40:SFn:=⟨24,(zQ [i_ 2 (.box 72 0),zc 4 (int 0)] (zQ [zf 5 0 2,zo 6 5,zm 7 1,i_ 8 (.call 102 [6,7]),zm 1 8] (.seq (zQ [zm 9 1,zk 10 .lss 9 0] (.cond 10 (zQ [zc 4 (int (-1))] .ret) .skip)) (zQ [zf 11 1 2,zl 12 1 11,zm 13 1,i_ 14 (.call 103 [12,13]),zm 1 14] (.seq (zQ [zm 15 1,zk 16 .lss 15 0] (.cond 16 (zQ [zc 4 (int (-1))] .ret) .skip)) (zQ [zf 17 2 2,zo 18 17,zm 19 1,i_ 20 (.call 104 [18,19]),zm 1 20] (.seq (zQ [zm 21 1,zk 22 .lss 21 0] (.cond 22 (zQ [zc 4 (int (-1))] .ret) .skip)) (zQ [zm 23 1,zm 4 23] .ret)))))))),[.tmp 4]⟩
def s41:SFn:=⟨13,(zQ [i_ 2 (.box 75 0),zc 4 (int 0)] (zQ [zm 5 1,zf 6 6 2,zo 7 6,i_ 8 (.lenS 7),zb 9 .sub 5 8,zm 1 9] (.seq (zQ [zm 10 1,zk 11 .lss 10 0] (.cond 11 (zQ [zc 4 (int (-1))] .ret) .skip)) (zQ [zm 12 1,zm 4 12] .ret)))),[.tmp 4]⟩
def s42:SFn:=⟨17,(zQ [i_ 1 (.box 72 0),i_ 2 (.alloc 29 zB3)] (zQ [i_ 3 (.alloc 29 zB3)] (zQ [zf 4 0 1,zo 5 4,i_ 6 (.call 105 [5]),zf 7 0 3,zs 1 7 6] (zQ [zf 8 1 1,zl 9 1 8,i_ 10 (.call 106 [9]),zf 11 1 3,zs 1 11 10] (zQ [zf 12 2 1,zo 13 12,i_ 14 (.call 107 [13]),zf 15 2 3,zs 1 15 14] (zQ [zl 16 3 3,zs 3 2 16] .ret)))))),[.cellN 2 3]⟩
def s43:SFn:=⟨22,(zQ [i_ 1 (.box 75 0),i_ 2 (.alloc 33 zS7)] (zQ [i_ 3 (.alloc 33 zS7)] (zQ [zf 4 0 1,zl 5 2 4,i_ 6 (.call 108 [5]),zf 7 0 3,zs 2 7 6] (zQ [zf 8 2 1,zl 9 2 8,i_ 10 (.call 108 [9]),zf 11 2 3,zs 2 11 10] (zQ [zf 12 4 1,zo 13 12,zf 14 4 3,zs 1 14 13] (zQ [zf 15 5 1,zo 16 15,zf 17 5 3,zs 1 17 16] (zQ [zf 18 6 1,zo 19 18,zf 20 6 3,zs 1 20 19] (zQ [zl 21 7 3,zs 7 2 21] .ret)))))))),[.cellN 2 7]⟩
def r44_1:zI:=[zf 5 0 2,zo 6 5,zf 7 0 3,zo 8 7,i_ 9 (.call 109 [6,8]),i_ 10 (.not 9)]
def r44_3:zI:=[zf 11 1 2,zl 12 1 11,zf 13 1 3,zl 14 1 13,i_ 15 (.call 110 [12,14]),i_ 16 (.not 15)]
def r44_5:zI:=[zf 17 2 2,zo 18 17,zf 19 2 3,zo 20 19,i_ 21 (.call 111 [18,20]),i_ 22 (.not 21)]
def s44:SFn:=⟨23,(zQ [i_ 2 (.box 29 0),i_ 3 (.box 29 1),zc 4 (.bool false)] (.seq (zQ r44_1 (.cond 10 (zQ [zc 4 (.bool false)] .ret) .skip)) (.seq (zQ r44_3 (.cond 16 (zQ [zc 4 (.bool false)] .ret) .skip)) (.seq (zQ r44_5 (.cond 22 (zQ [zc 4 (.bool false)] .ret) .skip)) (zQ [zc 4 (.bool true)] .ret))))),[.tmp 4]⟩
def r45_5:zI:=[zm 17 0,zm 18 5,zd 19 (.idxAddr 7 17 18) [0,1],zd 20 (.loadN 7 19) [2],zm 21 1,zm 22 5,zd 23 (.idxAddr 7 21 22) [4,5],zd 24 (.loadN 7 23) [6],zd 25 (.call 112 [20,24]) [3,7],zd 26 (.not 25) [8]]
def s45:SFn:=⟨27,(zQ [zc 4 (.bool false)] (.seq (zQ [zm 6 0,i_ 7 (.lenL 6),zm 8 1,i_ 9 (.lenL 8),zb 10 .neq 7 9] (.cond 10 (zQ [zc 4 (.bool false)] .ret) .skip)) (.seq (zQ [zc 5 (int 0)] (.block 0 (.loop (.seq (zQ [zm 11 5,zm 12 0,i_ 13 (.lenL 12),zb 14 .lss 11 13] (.cond 14 .skip (.exit 0))) (.seq (.block 1 (.seq (.draw r45_5) (.cond 26 (zQ [zc 4 (.bool false)] .ret) .skip))) (.run [zm 15 5,zk 16 .add 15 1,zm 5 16])))))) (zQ [zc 4 (.bool true)] .ret)))),[.tmp 4]⟩
def c46:SCode:=(zQ [i_ 2 (.box 29 0),zc 4 (int 0)] (zQ [zf 5 0 2,zo 6 5,zm 7 1,i_ 8 (.call 113 [6,7]),zm 1 8] (zQ [zf 9 1 2,zl 10 1 9,zm 11 1,i_ 12 (.call 114 [10,11]),zm 1 12] (zQ [zf 13 2 2,zo 14 13,zm 15 1,i_ 16 (.call 115 [14,15]),zm 1 16] (zQ [zm 17 1,zm 4 17] .ret)))))
def s46:SFn:=⟨18,c46,[.tmp 4]⟩
theorem k46:slimFn Tryz.prog Tryz.f46=some s46:=by kernel_rfl
def r47_3:zI:=[zm 12 0,zm 13 5,zm 14 1,i_ 15 (.idxAddr 7 12 13),zf 16 0 15,zf 17 0 16,zs 1 17 14]
def r47_5:zI:=[zm 20 0,zm 21 5,zm 22 1,i_ 23 (.idxAddr 7 20 21),zf 24 0 23,zf 25 1 24,zs 1 25 22]
def r47_7:zI:=[zm 28 0,zm 29 5,zm 30 1,i_ 31 (.idxAddr 7 28 29),zf 32 2 31,zf 33 0 32,zs 1 33 30]
def r47_9:zI:=[zm 36 0,zm 37 5,zm 38 1,i_ 39 (.idxAddr 7 36 37),zf 40 2 39,zf 41 1 40,zs 1 41 38]
def r47_11:zI:=[zm 44 0,zm 45 5,zm 46 1,i_ 47 (.idxAddr 7 44 45),zf 48 4 47,zs 1 48 46]
def r47_13:zI:=[zm 51 0,zm 52 5,zm 53 1,i_ 54 (.idxAddr 7 51 52),zf 55 5 54,zs 1 55 53]
def r47_15:zI:=[zm 58 0,zm 59 5,zm 60 1,i_ 61 (.call 116 [60]),i_ 62 (.idxAddr 7 58 59),zf 63 6 62,zs 1 63 61]
def s47:SFn:=⟨67,(zQ [zc 4 (int 0)] (.seq (zQ [zc 5 (int 0)] (.block 0 (.loop (.seq (zQ [zm 6 5,zm 7 0,i_ 8 (.lenL 7),zb 9 .lss 6 8] (.cond 9 .skip (.exit 0))) (.seq (.block 1 (zQ r47_3 (zQ [zm 18 1,zk 19 .add 18 1,zm 1 19] (zQ r47_5 (zQ [zm 26 1,zk 27 .add 26 1,zm 1 27] (zQ r47_7 (zQ [zm 34 1,zk 35 .add 34 1,zm 1 35] (zQ r47_9 (zQ [zm 42 1,zk 43 .add 42 1,zm 1 43] (zQ r47_11 (zQ [zm 49 1,zk 50 .add 49 1,zm 1 50] (zQ r47_13 (zQ [zm 56 1,zk 57 .add 56 1,zm 1 57] (zQ r47_15 (.run [zm 64 1,zk 65 .add 64 1,zm 1 65]))))))))))))))) (.run [zm 10 5,zk 11 .add 10 1,zm 5 11])))))) (zQ [zm 66 1,zm 4 66] .ret))),[.tmp 4]⟩
def s48:SFn:=⟨24,(zQ [i_ 2 (.box 29 0),zc 4 (int 0)] (zQ [zf 5 0 2,zo 6 5,zm 7 1,i_ 8 (.call 117 [6,7]),zm 1 8] (.seq (zQ [zm 9 1,zk 10 .lss 9 0] (.cond 10 (zQ [zc 4 (int (-1))] .ret) .skip)) (zQ [zf 11 1 2,zl 12 1 11,zm 13 1,i_ 14 (.call 118 [12,13]),zm 1 14] (.seq (zQ [zm 15 1,zk 16 .lss 15 0] (.cond 16 (zQ [zc 4 (int (-1))] .ret) .skip)) (zQ [zf 17 2 2,zo 18 17,zm 19 1,i_ 20 (.call 119 [18,19]),zm 1 20] (.seq (zQ [zm 21 1,zk 22 .lss 21 0] (.cond 22 (zQ [zc 4 (int (-1))] .ret) .skip)) (zQ [zm 23 1,zm 4 23] .ret)))))))),[.tmp 4]⟩
def r49_3:zI:=[zm 12 0,zm 13 5,i_ 14 (.idxAddr 7 12 13),zf 15 0 14,zf 16 0 15,zo 17 16,zm 18 1,zb 19 .neq 17 18]
def r49_6:zI:=[zm 22 0,zm 23 5,i_ 24 (.idxAddr 7 22 23),zf 25 0 24,zf 26 1 25,zo 27 26,zm 28 1,zb 29 .neq 27 28]
def r49_9:zI:=[zm 32 0,zm 33 5,i_ 34 (.idxAddr 7 32 33),zf 35 2 34,zf 36 0 35,zo 37 36,zm 38 1,zb 39 .neq 37 38]
def r49_12:zI:=[zm 42 0,zm 43 5,i_ 44 (.idxAddr 7 42 43),zf 45 2 44,zf 46 1 45,zo 47 46,zm 48 1,zb 49 .neq 47 48]
def r49_15:zI:=[zm 52 0,zm 53 5,i_ 54 (.idxAddr 7 52 53),zf 55 4 54,zo 56 55,zm 57 1,zb 58 .neq 56 57]
def r49_18:zI:=[zm 61 0,zm 62 5,i_ 63 (.idxAddr 7 61 62),zf 64 5 63,zo 65 64,zm 66 1,zb 67 .neq 65 66]
def r49_21:zI:=[zm 70 0,zm 71 5,zd 72 (.idxAddr 7 70 71) [0,1],zd 73 (.fieldAddr 6 72) [2],zd 74 (.load1 73) [3],zm 75 1,zd 76 (.call 116 [75]) [5],zd 77 (.bin .neq 74 76) [4,6]]
def s49:SFn:=⟨81,(zQ [zc 4 (int 0)] (.seq (zQ [zc 5 (int 0)] (.block 0 (.loop (.seq (zQ [zm 6 5,zm 7 0,i_ 8 (.lenL 7),zb 9 .lss 6 8] (.cond 9 .skip (.exit 0))) (.seq (.block 1 (.seq (zQ r49_3 (.cond 19 (zQ [zc 4 (int (-1))] .ret) .skip)) (zQ [zm 20 1,zk 21 .add 20 1,zm 1 21] (.seq (zQ r49_6 (.cond 29 (zQ [zc 4 (int (-1))] .ret) .skip)) (zQ [zm 30 1,zk 31 .add 30 1,zm 1 31] (.seq (zQ r49_9 (.cond 39 (zQ [zc 4 (int (-1))] .ret) .skip)) (zQ [zm 40 1,zk 41 .add 40 1,zm 1 41] (.seq (zQ r49_12 (.cond 49 (zQ [zc 4 (int (-1))] .ret) .skip)) (zQ [zm 50 1,zk 51 .add 50 1,zm 1 51] (.seq (zQ r49_15 (.cond 58 (zQ [zc 4 (int (-1))] .ret) .skip)) (zQ [zm 59 1,zk 60 .add 59 1,zm 1 60] (.seq (zQ r49_18 (.cond 67 (zQ [zc 4 (int (-1))] .ret) .skip)) (zQ [zm 68 1,zk 69 .add 68 1,zm 1 69] (.seq (.seq (.draw r49_21) (.cond 77 (zQ [zc 4 (int (-1))] .ret) .skip)) (.run [zm 78 1,zk 79 .add 78 1,zm 1 79]))))))))))))))) (.run [zm 10 5,zk 11 .add 10 1,zm 5 11])))))) (zQ [zm 80 1,zm 4 80] .ret))),[.tmp 4]⟩
def s102:SFn:=⟨12,(zQ [zc 4 (int 0)] (zQ [zm 5 1,zm 6 0,i_ 7 (.lenL 6),zb 8 .sub 5 7,zm 1 8] (.seq (zQ [zm 9 1,zk 10 .lss 9 0] (.cond 10 (zQ [zc 4 (int (-1))] .ret) .skip)) (zQ [zm 11 1,zm 4 11] .ret)))),[.tmp 4]⟩
def s103:SFn:=⟨12,(zQ [i_ 2 (.box 69 0),zc 4 (int 0)] (zQ [zf 5 0 2,zo 6 5,zm 7 1,i_ 8 (.call 187 [6,7]),zm 1 8] (.seq (zQ [zm 9 1,zk 10 .lss 9 0] (.cond 10 (zQ [zc 4 (int (-1))] .ret) .skip)) (zQ [zm 11 1,zm 4 11] .ret)))),[.tmp 4]⟩
def r104_6:zI:=[zm 18 0,zm 19 5,i_ 20 (.idxAddr 7 18 19),zl 21 7 20,zm 22 1,i_ 23 (.call 188 [21,22]),zm 1 23]
def s104:SFn:=⟨27,(zQ [zc 4 (int 0)] (zQ [zm 6 1,zm 7 0,i_ 8 (.lenL 7),zb 9 .sub 6 8,zm 1 9] (.seq (zQ [zm 10 1,zk 11 .lss 10 0] (.cond 11 (zQ [zc 4 (int (-1))] .ret) .skip)) (.seq (zQ [zc 5 (int 0)] (.block 0 (.loop (.seq (zQ [zm 12 5,zm 13 0,i_ 14 (.lenL 13),zb 15 .lss 12 14] (.cond 15 .skip (.exit 0))) (.seq (.block 1 (zQ r104_6 (zQ [zm 24 1,zk 25 .lss 24 0] (.cond 25 (zQ [zc 4 (int (-1))] .ret) .skip)))) (.run [zm 16 5,zk 17 .add 16 1,zm 5 17])))))) (zQ [zm 26 1,zm 4 26] .ret))))),[.tmp 4]⟩
def r105_1:zI:=[zm 5 0,i_ 6 (.lenL 5),i_ 7 (.mkSlice 162 7 56 (.agg #[.bool false,int 0,int 0,int 0,int 0,int 0,int 0]) 6 6),zm 3 7]
def r105_4:zI:=[zm 14 3,zm 15 4,zm 16 0,zm 17 4,i_ 18 (.idxAddr 7 16 17),zl 19 7 18,i_ 20 (.call 189 [19]),i_ 21 (.idxAddr 7 14 15),zs 7 21 20]
def s105:SFn:=⟨23,(zQ [zc 2 (.slice none 0 0)] (zQ r105_1 (.seq (zQ [zc 4 (int 0)] (.block 0 (.loop (.seq (zQ [zm 8 4,zm 9 0,i_ 10 (.lenL 9),zb 11 .lss 8 10] (.cond 11 .skip (.exit 0))) (.seq (.block 1 (.run r105_4)) (.run [zm 12 4,zk 13 .add 12 1,zm 4 13])))))) (zQ [zm 22 3,zm 2 22] .ret)))),[.tmp 2]⟩
def s106:SFn:=⟨9,(zQ [i_ 1 (.box 69 0),i_ 2 (.alloc 26 (.agg #[.slice none 0 0]))] (zQ [i_ 3 (.alloc 26 (.agg #[.slice none 0 0]))] (zQ [zf 4 0 1,zo 5 4,i_ 6 (.call 190 [5]),zf 7 0 3,zs 1 7 6] (zQ [zl 8 1 3,zs 1 2 8] .ret)))),[.cellN 2 1]⟩
def r107_1:zI:=[zm 5 0,i_ 6 (.lenL 5),i_ 7 (.mkSlice 49 7 80 (.agg #[int 0,int 0,int 0,int 0,str [],str [],str []]) 6 6),zm 3 7]
def r107_4:zI:=[zm 14 3,zm 15 4,zm 16 0,zm 17 4,i_ 18 (.idxAddr 7 16 17),zl 19 7 18,i_ 20 (.call 191 [19]),i_ 21 (.idxAddr 7 14 15),zs 7 21 20]
def s107:SFn:=⟨23,(zQ [zc 2 (.slice none 0 0)] (zQ r107_1 (.seq (zQ [zc 4 (int 0)] (.block 0 (.loop (.seq (zQ [zm 8 4,zm 9 0,i_ 10 (.lenL 9),zb 11 .lss 8 10] (.cond 11 .skip (.exit 0))) (.seq (.block 1 (.run r107_4)) (.run [zm 12 4,zk 13 .add 12 1,zm 4 13])))))) (zQ [zm 22 3,zm 2 22] .ret)))),[.tmp 2]⟩
def s108:SFn:=⟨11,(zQ [i_ 1 (.box 73 0),i_ 2 (.alloc 31 zE2)] (zQ [i_ 3 (.alloc 31 zE2)] (zQ [zf 4 0 1,zo 5 4,zf 6 0 3,zs 1 6 5] (zQ [zf 7 1 1,zo 8 7,zf 9 1 3,zs 1 9 8] (zQ [zl 10 2 3,zs 2 2 10] .ret))))),[.cellN 2 2]⟩
def r109_5:zI:=[zm 17 0,zm 18 5,zd 19 (.idxAddr 7 17 18) [0,1],zd 20 (.loadN 7 19) [2],zm 21 1,zm 22 5,zd 23 (.idxAddr 7 21 22) [4,5],zd 24 (.loadN 7 23) [6],zd 25 (.call 192 [20,24]) [3,7],zd 26 (.not 25) [8]]
def s109:SFn:=⟨27,(zQ [zc 4 (.bool false)] (.seq (zQ [zm 6 0,i_ 7 (.lenL 6),zm 8 1,i_ 9 (.lenL 8),zb 10 .neq 7 9] (.cond 10 (zQ [zc 4 (.bool false)] .ret) .skip)) (.seq (zQ [zc 5 (int 0)] (.block 0 (.loop (.seq (zQ [zm 11 5,zm 12 0,i_ 13 (.lenL 12),zb 14 .lss 11 13] (.cond 14 .skip (.exit 0))) (.seq (.block 1 (.seq (.draw r109_5) (.cond 26 (zQ [zc 4 (.bool false)] .ret) .skip))) (.run [zm 15 5,zk 16 .add 15 1,zm 5 16])))))) (zQ [zc 4 (.bool true)] .ret)))),[.tmp 4]⟩
def r110_1:zI:=[zf 5 0 2,zo 6 5,zf 7 0 3,zo 8 7,i_ 9 (.call 193 [6,8]),i_ 10 (.not 9)]
def s110:SFn:=⟨11,(zQ [i_ 2 (.box 26 0),i_ 3 (.box 26 1),zc 4 (.bool false)] (.seq (zQ r110_1 (.cond 10 (zQ [zc 4 (.bool false)] .ret) .skip)) (zQ [zc 4 (.bool true)] .ret))),[.tmp 4]⟩
def r111_5:zI:=[zm 17 0,zm 18 5,zd 19 (.idxAddr 7 17 18) [0,1],zd 20 (.loadN 7 19) [2],zm 21 1,zm 22 5,zd 23 (.idxAddr 7 21 22) [4,5],zd 24 (.loadN 7 23) [6],zd 25 (.call 194 [20,24]) [3,7],zd 26 (.not 25) [8]]
def s111:SFn:=⟨27,(zQ [zc 4 (.bool false)] (.seq (zQ [zm 6 0,i_ 7 (.lenL 6),zm 8 1,i_ 9 (.lenL 8),zb 10 .neq 7 9] (.cond 10 (zQ [zc 4 (.bool false)] .ret) .skip)) (.seq (zQ [zc 5 (int 0)] (.block 0 (.loop (.seq (zQ [zm 11 5,zm 12 0,i_ 13 (.lenL 12),zb 14 .lss 11 13] (.cond 14 .skip (.exit 0))) (.seq (.block 1 (.seq (.draw r111_5) (.cond 26 (zQ [zc 4 (.bool false)] .ret) .skip))) (.run [zm 15 5,zk 16 .add 15 1,zm 5 16])))))) (zQ [zc 4 (.bool true)] .ret)))),[.tmp 4]⟩
def r112_1:zI:=[zf 5 0 2,zl 6 2 5,zf 7 0 3,zl 8 2 7,i_ 9 (.call 195 [6,8]),i_ 10 (.not 9)]
def r112_3:zI:=[zf 11 2 2,zl 12 2 11,zf 13 2 3,zl 14 2 13,i_ 15 (.call 195 [12,14]),i_ 16 (.not 15)]
def s112:SFn:=⟨32,(zQ [i_ 2 (.box 33 0),i_ 3 (.box 33 1),zc 4 (.bool false)] (.seq (zQ r112_1 (.cond 10 (zQ [zc 4 (.bool false)] .ret) .skip)) (.seq (zQ r112_3 (.cond 16 (zQ [zc 4 (.bool false)] .ret) .skip)) (.seq (zQ [zf 17 4 2,zo 18 17,zf 19 4 3,zo 20 19,zb 21 .neq 18 20] (.cond 21 (zQ [zc 4 (.bool false)] .ret) .skip)) (.seq (zQ [zf 22 5 2,zo 23 22,zf 24 5 3,zo 25 24,zb 26 .neq 23 25] (.cond 26 (zQ [zc 4 (.bool false)] .ret) .skip)) (.seq (zQ [zf 27 6 2,zo 28 27,zf 29 6 3,zo 30 29,zb 31 .neq 28 30] (.cond 31 (zQ [zc 4 (.bool false)] .ret) .skip)) (zQ [zc 4 (.bool true)] .ret))))))),[.tmp 4]⟩
def r113_3:zI:=[zm 12 0,zm 13 5,zm 14 1,zk 15 .rem 14 3,zk 16 .eql 15 0,i_ 17 (.idxAddr 7 12 13),zf 18 0 17,zs 1 18 16]
def r113_5:zI:=[zm 21 0,zm 22 5,zm 23 1,i_ 24 (.idxAddr 7 21 22),zf 25 1 24,zs 1 25 23]
def r113_7:zI:=[zm 28 0,zm 29 5,zm 30 1,i_ 31 (.idxAddr 7 28 29),zf 32 2 31,zs 1 32 30]
def r113_9:zI:=[zm 35 0,zm 36 5,zm 37 1,i_ 38 (.idxAddr 7 35 36),zf 39 3 38,zs 1 39 37]
def r113_11:zI:=[zm 42 0,zm 43 5,zm 44 1,i_ 45 (.idxAddr 7 42 43),zf 46 4 45,zs 1 46 44]
def r113_13:zI:=[zm 49 0,zm 50 5,zm 51 1,i_ 52 (.idxAddr 7 49 50),zf 53 5 52,zs 1 53 51]
def r113_15:zI:=[zm 56 0,zm 57 5,zm 58 1,i_ 59 (.idxAddr 7 56 57),zf 60 6 59,zs 1 60 58]
def s113:SFn:=⟨64,(zQ [zc 4 (int 0)] (.seq (zQ [zc 5 (int 0)] (.block 0 (.loop (.seq (zQ [zm 6 5,zm 7 0,i_ 8 (.lenL 7),zb 9 .lss 6 8] (.cond 9 .skip (.exit 0))) (.seq (.block 1 (zQ r113_3 (zQ [zm 19 1,zk 20 .add 19 1,zm 1 20] (zQ r113_5 (zQ [zm 26 1,zk 27 .add 26 1,zm 1 27] (zQ r113_7 (zQ [zm 33 1,zk 34 .add 33 1,zm 1 34] (zQ r113_9 (zQ [zm 40 1,zk 41 .add 40 1,zm 1 41] (zQ r113_11 (zQ [zm 47 1,zk 48 .add 47 1,zm 1 48] (zQ r113_13 (zQ [zm 54 1,zk 55 .add 54 1,zm 1 55] (zQ r113_15 (.run [zm 61 1,zk 62 .add 61 1,zm 1 62]))))))))))))))) (.run [zm 10 5,zk 11 .add 10 1,zm 5 11])))))) (zQ [zm 63 1,zm 4 63] .ret))),[.tmp 4]⟩
def c114:SCode:=(zQ [i_ 2 (.box 26 0),zc 4 (int 0)] (zQ [zf 5 0 2,zo 6 5,zm 7 1,i_ 8 (.call 196 [6,7]),zm 1 8] (zQ [zm 9 1,zm 4 9] .ret)))
def s114:SFn:=⟨10,c114,[.tmp 4]⟩
theorem k114:slimFn Tryz.prog Tryz.f114=some s114:=by kernel_rfl
def r115_3:zI:=[zm 12 0,zm 13 5,zm 14 1,i_ 15 (.idxAddr 7 12 13),zf 16 0 15,zf 17 0 16,zs 1 17 14]
def r115_5:zI:=[zm 20 0,zm 21 5,zm 22 1,i_ 23 (.idxAddr 7 20 21),zf 24 0 23,zf 25 1 24,zs 1 25 22]
def r115_7:zI:=[zm 28 0,zm 29 5,zm 30 1,i_ 31 (.idxAddr 7 28 29),zf 32 2 31,zf 33 0 32,zs 1 33 30]
def r115_9:zI:=[zm 36 0,zm 37 5,zm 38 1,i_ 39 (.idxAddr 7 36 37),zf 40 2 39,zf 41 1 40,zs 1 41 38]
def r115_11:zI:=[zm 44 0,zm 45 5,zm 46 1,i_ 47 (.call 116 [46]),i_ 48 (.idxAddr 7 44 45),zf 49 4 48,zs 1 49 47]
def r115_13:zI:=[zm 52 0,zm 53 5,zm 54 1,i_ 55 (.call 116 [54]),i_ 56 (.idxAddr 7 52 53),zf 57 5 56,zs 1 57 55]
def r115_15:zI:=[zm 60 0,zm 61 5,zm 62 1,i_ 63 (.call 116 [62]),i_ 64 (.idxAddr 7 60 61),zf 65 6 64,zs 1 65 63]
def s115:SFn:=⟨69,(zQ [zc 4 (int 0)] (.seq (zQ [zc 5 (int 0)] (.block 0 (.loop (.seq (zQ [zm 6 5,zm 7 0,i_ 8 (.lenL 7),zb 9 .lss 6 8] (.cond 9 .skip (.exit 0))) (.seq (.block 1 (zQ r115_3 (zQ [zm 18 1,zk 19 .add 18 1,zm 1 19] (zQ r115_5 (zQ [zm 26 1,zk 27 .add 26 1,zm 1 27] (zQ r115_7 (zQ [zm 34 1,zk 35 .add 34 1,zm 1 35] (zQ r115_9 (zQ [zm 42 1,zk 43 .add 42 1,zm 1 43] (zQ r115_11 (zQ [zm 50 1,zk 51 .add 50 1,zm 1 51] (zQ r115_13 (zQ [zm 58 1,zk 59 .add 58 1,zm 1 59] (zQ r115_15 (.run [zm 66 1,zk 67 .add 66 1,zm 1 67]))))))))))))))) (.run [zm 10 5,zk 11 .add 10 1,zm 5 11])))))) (zQ [zm 68 1,zm 4 68] .ret))),[.tmp 4]⟩
def r116_5:zI:=[zm 8 0,zk 9 .rem 8 10,i_ 10 (.bin .add (.const (int 48)) 9),i_ 11 (.conv .u8 10),i_ 12 (.buildSlice 5 1 1 #[.int .u8 0] [(0,11)]),i_ 13 (.bytesStr 12),zm 14 3,zb 15 .add 13 14,zm 3 15]
def s116:SFn:=⟨20,(zQ [zc 2 (str [])] (.seq (zQ [zm 4 0,zk 5 .leq 4 0] (.cond 5 (zQ [zc 2 (str [109,48])] .ret) .skip)) (zQ [zc 3 (str [])] (.seq (.block 0 (.loop (.seq (zQ [zm 6 0,zk 7 .gtr 6 0] (.cond 7 .skip (.exit 0))) (.block 1 (zQ r116_5 (.run [zm 16 0,zk 17 .quo 16 10,zm 0 17])))))) (zQ [zm 18 3,i_ 19 (.bin .add (.const (str [109])) 18),zm 2 19] .ret))))),[.tmp 2]⟩
def r117_3:zI:=[zm 12 0,zm 13 5,i_ 14 (.idxAddr 7 12 13),zf 15 0 14,zo 16 15,zm 17 1,zk 18 .rem 17 3,zk 19 .eql 18 0,i_ 20 (.eqv true 4 16 19)]
def r117_6:zI:=[zm 23 0,zm 24 5,i_ 25 (.idxAddr 7 23 24),zf 26 1 25,zo 27 26,zm 28 1,zb 29 .neq 27 28]
def r117_9:zI:=[zm 32 0,zm 33 5,i_ 34 (.idxAddr 7 32 33),zf 35 2 34,zo 36 35,zm 37 1,zb 38 .neq 36 37]
def r117_12:zI:=[zm 41 0,zm 42 5,i_ 43 (.idxAddr 7 41 42),zf 44 3 43,zo 45 44,zm 46 1,zb 47 .neq 45 46]
def r117_15:zI:=[zm 50 0,zm 51 5,i_ 52 (.idxAddr 7 50 51),zf 53 4 52,zo 54 53,zm 55 1,zb 56 .neq 54 55]
def r117_18:zI:=[zm 59 0,zm 60 5,i_ 61 (.idxAddr 7 59 60),zf 62 5 61,zo 63 62,zm 64 1,zb 65 .neq 63 64]
def r117_21:zI:=[zm 68 0,zm 69 5,i_ 70 (.idxAddr 7 68 69),zf 71 6 70,zo 72 71,zm 73 1,zb 74 .neq 72 73]
def s117:SFn:=⟨78,(zQ [zc 4 (int 0)] (.seq (zQ [zc 5 (int 0)] (.block 0 (.loop (.seq (zQ [zm 6 5,zm 7 0,i_ 8 (.lenL 7),zb 9 .lss 6 8] (.cond 9 .skip (.exit 0))) (.seq (.block 1 (.seq (zQ r117_3 (.cond 20 (zQ [zc 4 (int (-1))] .ret) .skip)) (zQ [zm 21 1,zk 22 .add 21 1,zm 1 22] (.seq (zQ r117_6 (.cond 29 (zQ [zc 4 (int (-1))] .ret) .skip)) (zQ [zm 30 1,zk 31 .add 30 1,zm 1 31] (.seq (zQ r117_9 (.cond 38 (zQ [zc 4 (int (-1))] .ret) .skip)) (zQ [zm 39 1,zk 40 .add 39 1,zm 1 40] (.seq (zQ r117_12 (.cond 47 (zQ [zc 4 (int (-1))] .ret) .skip)) (zQ [zm 48 1,zk 49 .add 48 1,zm 1 49] (.seq (zQ r117_15 (.cond 56 (zQ [zc 4 (int (-1))] .ret) .skip)) (zQ [zm 57 1,zk 58 .add 57 1,zm 1 58] (.seq (zQ r117_18 (.cond 65 (zQ [zc 4 (int (-1))] .ret) .skip)) (zQ [zm 66 1,zk 67 .add 66 1,zm 1 67] (.seq (zQ r117_21 (.cond 74 (zQ [zc 4 (int (-1))] .ret) .skip)) (.run [zm 75 1,zk 76 .add 75 1,zm 1 76]))))))))))))))) (.run [zm 10 5,zk 11 .add 10 1,zm 5 11])))))) (zQ [zm 77 1,zm 4 77] .ret))),[.tmp 4]⟩
def s118:SFn:=⟨12,(zQ [i_ 2 (.box 26 0),zc 4 (int 0)] (zQ [zf 5 0 2,zo 6 5,zm 7 1,i_ 8 (.call 197 [6,7]),zm 1 8] (.seq (zQ [zm 9 1,zk 10 .lss 9 0] (.cond 10 (zQ [zc 4 (int (-1))] .ret) .skip)) (zQ [zm 11 1,zm 4 11] .ret)))),[.tmp 4]⟩
def r119_3:zI:=[zm 12 0,zm 13 5,i_ 14 (.idxAddr 7 12 13),zf 15 0 14,zf 16 0 15,zo 17 16,zm 18 1,zb 19 .neq 17 18]
def r119_6:zI:=[zm 22 0,zm 23 5,i_ 24 (.idxAddr 7 22 23),zf 25 0 24,zf 26 1 25,zo 27 26,zm 28 1,zb 29 .neq 27 28]
def r119_9:zI:=[zm 32 0,zm 33 5,i_ 34 (.idxAddr 7 32 33),zf 35 2 34,zf 36 0 35,zo 37 36,zm 38 1,zb 39 .neq 37 38]
def r119_12:zI:=[zm 42 0,zm 43 5,i_ 44 (.idxAddr 7 42 43),zf 45 2 44,zf 46 1 45,zo 47 46,zm 48 1,zb 49 .neq 47 48]
def r119_15:zI:=[zm 52 0,zm 53 5,zd 54 (.idxAddr 7 52 53) [0,1],zd 55 (.fieldAddr 4 54) [2],zd 56 (.load1 55) [3],zm 57 1,zd 58 (.call 116 [57]) [5],zd 59 (.bin .neq 56 58) [4,6]]
def r119_18:zI:=[zm 62 0,zm 63 5,zd 64 (.idxAddr 7 62 63) [0,1],zd 65 (.fieldAddr 5 64) [2],zd 66 (.load1 65) [3],zm 67 1,zd 68 (.call 116 [67]) [5],zd 69 (.bin .neq 66 68) [4,6]]
def r119_21:zI:=[zm 72 0,zm 73 5,zd 74 (.idxAddr 7 72 73) [0,1],zd 75 (.fieldAddr 6 74) [2],zd 76 (.load1 75) [3],zm 77 1,zd 78 (.call 116 [77]) [5],zd 79 (.bin .neq 76 78) [4,6]]
def s119:SFn:=⟨83,(zQ [zc 4 (int 0)] (.seq (zQ [zc 5 (int 0)] (.block 0 (.loop (.seq (zQ [zm 6 5,zm 7 0,i_ 8 (.lenL 7),zb 9 .lss 6 8] (.cond 9 .skip (.exit 0))) (.seq (.block 1 (.seq (zQ r119_3 (.cond 19 (zQ [zc 4 (int (-1))] .ret) .skip)) (zQ [zm 20 1,zk 21 .add 20 1,zm 1 21] (.seq (zQ r119_6 (.cond 29 (zQ [zc 4 (int (-1))] .ret) .skip)) (zQ [zm 30 1,zk 31 .add 30 1,zm 1 31] (.seq (zQ r119_9 (.cond 39 (zQ [zc 4 (int (-1))] .ret) .skip)) (zQ [zm 40 1,zk 41 .add 40 1,zm 1 41] (.seq (zQ r119_12 (.cond 49 (zQ [zc 4 (int (-1))] .ret) .skip)) (zQ [zm 50 1,zk 51 .add 50 1,zm 1 51] (.seq (.seq (.draw r119_15) (.cond 59 (zQ [zc 4 (int (-1))] .ret) .skip)) (zQ [zm 60 1,zk 61 .add 60 1,zm 1 61] (.seq (.seq (.draw r119_18) (.cond 69 (zQ [zc 4 (int (-1))] .ret) .skip)) (zQ [zm 70 1,zk 71 .add 70 1,zm 1 71] (.seq (.seq (.draw r119_21) (.cond 79 (zQ [zc 4 (int (-1))] .ret) .skip)) (.run [zm 80 1,zk 81 .add 80 1,zm 1 81]))))))))))))))) (.run [zm 10 5,zk 11 .add 10 1,zm 5 11])))))) (zQ [zm 82 1,zm 4 82] .ret))),[.tmp 4]⟩
def s187:SFn:=⟨12,(zQ [zc 4 (int 0)] (zQ [zm 5 1,zm 6 0,i_ 7 (.lenL 6),zb 8 .sub 5 7,zm 1 8] (.seq (zQ [zm 9 1,zk 10 .lss 9 0] (.cond 10 (zQ [zc 4 (int (-1))] .ret) .skip)) (zQ [zm 11 1,zm 4 11] .ret)))),[.tmp 4]⟩
def s188:SFn:=⟨27,(zQ [i_ 2 (.box 200 0),zc 4 (int 0)] (zQ [zm 5 1,zf 6 4 2,zo 7 6,i_ 8 (.lenS 7),zb 9 .sub 5 8,zm 1 9] (.seq (zQ [zm 10 1,zk 11 .lss 10 0] (.cond 11 (zQ [zc 4 (int (-1))] .ret) .skip)) (zQ [zm 12 1,zf 13 5 2,zo 14 13,i_ 15 (.lenS 14),zb 16 .sub 12 15,zm 1 16] (.seq (zQ [zm 17 1,zk 18 .lss 17 0] (.cond 18 (zQ [zc 4 (int (-1))] .ret) .skip)) (zQ [zm 19 1,zf 20 6 2,zo 21 20,i_ 22 (.lenS 21),zb 23 .sub 19 22,zm 1 23] (.seq (zQ [zm 24 1,zk 25 .lss 24 0] (.cond 25 (zQ [zc 4 (int (-1))] .ret) .skip)) (zQ [zm 26 1,zm 4 26] .ret)))))))),[.tmp 4]⟩
def r189_0:zI:=[i_ 1 (.box 202 0),i_ 2 (.alloc 162 (.agg #[.bool false,int 0,int 0,int 0,int 0,int 0,int 0]))]
def r189_1:zI:=[i_ 3 (.alloc 162 (.agg #[.bool false,int 0,int 0,int 0,int 0,int 0,int 0]))]
def s189:SFn:=⟨26,(zQ r189_0 (zQ r189_1 (zQ [zf 4 0 1,zo 5 4,zf 6 0 3,zs 1 6 5] (zQ [zf 7 1 1,zo 8 7,zf 9 1 3,zs 1 9 8] (zQ [zf 10 2 1,zo 11 10,zf 12 2 3,zs 1 12 11] (zQ [zf 13 3 1,zo 14 13,zf 15 3 3,zs 1 15 14] (zQ [zf 16 4 1,zo 17 16,zf 18 4 3,zs 1 18 17] (zQ [zf 19 5 1,zo 20 19,zf 21 5 3,zs 1 21 20] (zQ [zf 22 6 1,zo 23 22,zf 24 6 3,zs 1 24 23] (zQ [zl 25 7 3,zs 7 2 25] .ret)))))))))),[.cellN 2 7]⟩
def r190_4:zI:=[zm 14 3,zm 15 4,zm 16 0,zm 17 4,i_ 18 (.idxAddr 2 16 17),zl 19 2 18,i_ 20 (.call 108 [19]),i_ 21 (.idxAddr 2 14 15),zs 2 21 20]
def s190:SFn:=⟨23,(zQ [zc 2 (.slice none 0 0)] (zQ [zm 5 0,i_ 6 (.lenL 5),i_ 7 (.mkSlice 31 2 16 zE2 6 6),zm 3 7] (.seq (zQ [zc 4 (int 0)] (.block 0 (.loop (.seq (zQ [zm 8 4,zm 9 0,i_ 10 (.lenL 9),zb 11 .lss 8 10] (.cond 11 .skip (.exit 0))) (.seq (.block 1 (.run r190_4)) (.run [zm 12 4,zk 13 .add 12 1,zm 4 13])))))) (zQ [zm 22 3,zm 2 22] .ret)))),[.tmp 2]⟩
def r191_0:zI:=[i_ 1 (.box 200 0),i_ 2 (.alloc 49 (.agg #[int 0,int 0,int 0,int 0,str [],str [],str []]))]
def r191_1:zI:=[i_ 3 (.alloc 49 (.agg #[int 0,int 0,int 0,int 0,str [],str [],str []]))]
def s191:SFn:=⟨22,(zQ r191_0 (zQ r191_1 (zQ [zf 4 0 1,zl 5 2 4,i_ 6 (.call 108 [5]),zf 7 0 3,zs 2 7 6] (zQ [zf 8 2 1,zl 9 2 8,i_ 10 (.call 108 [9]),zf 11 2 3,zs 2 11 10] (zQ [zf 12 4 1,zo 13 12,zf 14 4 3,zs 1 14 13] (zQ [zf 15 5 1,zo 16 15,zf 17 5 3,zs 1 17 16] (zQ [zf 18 6 1,zo 19 18,zf 20 6 3,zs 1 20 19] (zQ [zl 21 7 3,zs 7 2 21] .ret)))))))),[.cellN 2 7]⟩
def s192:SFn:=⟨40,(zQ [i_ 2 (.box 162 0),i_ 3 (.box 162 1),zc 4 (.bool false)] (.seq (zQ [zf 5 0 2,zo 6 5,zf 7 0 3,zo 8 7,i_ 9 (.eqv true 4 6 8)] (.cond 9 (zQ [zc 4 (.bool false)] .ret) .skip)) (.seq (zQ [zf 10 1 2,zo 11 10,zf 12 1 3,zo 13 12,zb 14 .neq 11 13] (.cond 14 (zQ [zc 4 (.bool false)] .ret) .skip)) (.seq (zQ [zf 15 2 2,zo 16 15,zf 17 2 3,zo 18 17,zb 19 .neq 16 18] (.cond 19 (zQ [zc 4 (.bool false)] .ret) .skip)) (.seq (zQ [zf 20 3 2,zo 21 20,zf 22 3 3,zo 23 22,zb 24 .neq 21 23] (.cond 24 (zQ [zc 4 (.bool false)] .ret) .skip)) (.seq (zQ [zf 25 4 2,zo 26 25,zf 27 4 3,zo 28 27,zb 29 .neq 26 28] (.cond 29 (zQ [zc 4 (.bool false)] .ret) .skip)) (.seq (zQ [zf 30 5 2,zo 31 30,zf 32 5 3,zo 33 32,zb 34 .neq 31 33] (.cond 34 (zQ [zc 4 (.bool false)] .ret) .skip)) (.seq (zQ [zf 35 6 2,zo 36 35,zf 37 6 3,zo 38 37,zb 39 .neq 36 38] (.cond 39 (zQ [zc 4 (.bool false)] .ret) .skip)) (zQ [zc 4 (.bool true)] .ret))))))))),[.tmp 4]⟩
def r193_5:zI:=[zm 17 0,zm 18 5,zd 19 (.idxAddr 2 17 18) [0,1],zd 20 (.loadN 2 19) [2],zm 21 1,zm 22 5,zd 23 (.idxAddr 2 21 22) [4,5],zd 24 (.loadN 2 23) [6],zd 25 (.call 195 [20,24]) [3,7],zd 26 (.not 25) [8]]
def s193:SFn:=⟨27,(zQ [zc 4 (.bool false)] (.seq (zQ [zm 6 0,i_ 7 (.lenL 6),zm 8 1,i_ 9 (.lenL 8),zb 10 .neq 7 9] (.cond 10 (zQ [zc 4 (.bool false)] .ret) .skip)) (.seq (zQ [zc 5 (int 0)] (.block 0 (.loop (.seq (zQ [zm 11 5,zm 12 0,i_ 13 (.lenL 12),zb 14 .lss 11 13] (.cond 14 .skip (.exit 0))) (.seq (.block 1 (.seq (.draw r193_5) (.cond 26 (zQ [zc 4 (.bool false)] .ret) .skip))) (.run [zm 15 5,zk 16 .add 15 1,zm 5 16])))))) (zQ [zc 4 (.bool true)] .ret)))),[.tmp 4]⟩
def r194_1:zI:=[zf 5 0 2,zl 6 2 5,zf 7 0 3,zl 8 2 7,i_ 9 (.call 195 [6,8]),i_ 10 (.not 9)]
def r194_3:zI:=[zf 11 2 2,zl 12 2 11,zf 13 2 3,zl 14 2 13,i_ 15 (.call 195 [12,14]),i_ 16 (.not 15)]
def s194:SFn:=⟨32,(zQ [i_ 2 (.box 49 0),i_ 3 (.box 49 1),zc 4 (.bool false)] (.seq (zQ r194_1 (.cond 10 (zQ [zc 4 (.bool false)] .ret) .skip)) (.seq (zQ r194_3 (.cond 16 (zQ [zc 4 (.bool false)] .ret) .skip)) (.seq (zQ [zf 17 4 2,zo 18 17,zf 19 4 3,zo 20 19,zb 21 .neq 18 20] (.cond 21 (zQ [zc 4 (.bool false)] .ret) .skip)) (.seq (zQ [zf 22 5 2,zo 23 22,zf 24 5 3,zo 25 24,zb 26 .neq 23 25] (.cond 26 (zQ [zc 4 (.bool false)] .ret) .skip)) (.seq (zQ [zf 27 6 2,zo 28 27,zf 29 6 3,zo 30 29,zb 31 .neq 28 30] (.cond 31 (zQ [zc 4 (.bool false)] .ret) .skip)) (zQ [zc 4 (.bool true)] .ret))))))),[.tmp 4]⟩
def s195:SFn:=⟨15,(zQ [i_ 2 (.box 31 0),i_ 3 (.box 31 1),zc 4 (.bool false)] (.seq (zQ [zf 5 0 2,zo 6 5,zf 7 0 3,zo 8 7,zb 9 .neq 6 8] (.cond 9 (zQ [zc 4 (.bool false)] .ret) .skip)) (.seq (zQ [zf 10 1 2,zo 11 10,zf 12 1 3,zo 13 12,zb 14 .neq 11 13] (.cond 14 (zQ [zc 4 (.bool false)] .ret) .skip)) (zQ [zc 4 (.bool true)] .ret)))),[.tmp 4]⟩
def r196_3:zI:=[zm 12 0,zm 13 5,zm 14 1,i_ 15 (.idxAddr 2 12 13),zf 16 0 15,zs 1 16 14]
def r196_5:zI:=[zm 19 0,zm 20 5,zm 21 1,i_ 22 (.idxAddr 2 19 20),zf 23 1 22,zs 1 23 21]
def s196:SFn:=⟨27,(zQ [zc 4 (int 0)] (.seq (zQ [zc 5 (int 0)] (.block 0 (.loop (.seq (zQ [zm 6 5,zm 7 0,i_ 8 (.lenL 7),zb 9 .lss 6 8] (.cond 9 .skip (.exit 0))) (.seq (.block 1 (zQ r196_3 (zQ [zm 17 1,zk 18 .add 17 1,zm 1 18] (zQ r196_5 (.run [zm 24 1,zk 25 .add 24 1,zm 1 25]))))) (.run [zm 10 5,zk 11 .add 10 1,zm 5 11])))))) (zQ [zm 26 1,zm 4 26] .ret))),[.tmp 4]⟩
def r197_3:zI:=[zm 12 0,zm 13 5,i_ 14 (.idxAddr 2 12 13),zf 15 0 14,zo 16 15,zm 17 1,zb 18 .neq 16 17]
def r197_6:zI:=[zm 21 0,zm 22 5,i_ 23 (.idxAddr 2 21 22),zf 24 1 23,zo 25 24,zm 26 1,zb 27 .neq 25 26]
def s197:SFn:=⟨31,(zQ [zc 4 (int 0)] (.seq (zQ [zc 5 (int 0)] (.block 0 (.loop (.seq (zQ [zm 6 5,zm 7 0,i_ 8 (.lenL 7),zb 9 .lss 6 8] (.cond 9 .skip (.exit 0))) (.seq (.block 1 (.seq (zQ r197_3 (.cond 18 (zQ [zc 4 (int (-1))] .ret) .skip)) (zQ [zm 19 1,zk 20 .add 19 1,zm 1 20] (.seq (zQ r197_6 (.cond 27 (zQ [zc 4 (int (-1))] .ret) .skip)) (.run [zm 28 1,zk 29 .add 28 1,zm 1 29]))))) (.run [zm 10 5,zk 11 .add 10 1,zm 5 11])))))) (zQ [zm 30 1,zm 4 30] .ret))),[.tmp 4]⟩
end
section
variable {P:Program} {S:St} {E:Env} {K:Value→St→Prop}
theorem W_ext {f:FuncId} {fn:Func} {e:Array Value→Sem Value} {args:Array Operand} {at':Array TypeId} {ty:TypeId} {vs:List Value} (hf:P.funcs[f]? = some fn) (hname:(fn.name == "runtime.NumGoroutine")=false) (hb:fn.body.isNone=true)
    (hn:Extern.findNext fn=none) (he:Extern.find fn=some e) (hx:E.evs args.toList=some vs) (h:vu P (e vs.toArray) S K (fun _ _=>False)):(SOp.raw (.call ⟨.value (.func f),args,at'⟩) ty).W P E S K:=by
  refine .mk fun ρ hρ=>?_
  have hf0:ρ (.func f)=.func (.func f) #[] #[]:=hρ (.func f) (by simp [Op.operands,Call.operands]) _ rfl
  have key:∀ (xs:List Operand) (vs:List Value),(∀ x∈xs,∀ v,E.ev x=some v→ρ x=v)→E.evs xs=some vs→xs.map ρ=vs:=by
    intro xs
    induction xs with
    | nil=>intro vs _ h;cases h;rfl
    | cons x xs ih=>
      intro vs hr h
      simp only [Env.evs] at h
      split at h
      · rename_i v ws h1 h2
        cases h
        simp [hr x (by simp) v h1,ih ws (fun y hy=>hr y (by simp [hy])) h2]
      · cases h
  have hm:=key _ _ (fun x hx=>hρ x (by simp [Op.operands,Call.operands] at hx ⊢;exact .inr hx)) hx
  have h1:args.map ρ=vs.toArray:=by rw [← hm,← Array.toList_map,Array.toArray_toList]
  simp only [execOp,resolve,hf0,Deferred.ofValue,zy,zA,invoke,callFunc,program,vu,hf,hname,hb,Bool.false_eq_true,if_false,if_true,mark,hn,he,h1,Array.empty_append,Array.append_empty]
  exact ⟨trivial,semW_mono (fun v S' q=>q) (fun _ _ q=>q) _ _ h⟩
def idx1 (l:Bs) (c:UInt8):Int:=if c∈l then (l.idxOf c:Nat) else -1
theorem ba_get (l:Bs) (i:Nat) (h:i<l.length):(⟨l.toArray⟩:ByteArray)[i]! = l[i]:=by
 have hs:i<(⟨l.toArray⟩:ByteArray).size:=by simpa [ByteArray.size] using h
 rw [getElem!_pos (⟨l.toArray⟩:ByteArray) i hs]
 rfl
theorem find_idx (l:Bs) (c:UInt8):(List.range (⟨l.toArray⟩:ByteArray).size).find? (fun i=>(⟨l.toArray⟩:ByteArray)[i]! == c)=if c∈l then some (l.idxOf c) else none:=by
 have hs:(⟨l.toArray⟩:ByteArray).size=l.length:=by simp [ByteArray.size]
 rw [hs]
 split
 ·rename_i hc
  rw [List.find?_range_eq_some]
  have hi:=List.idxOf_lt_length_of_mem hc
  refine ⟨?_,by simpa using hi,fun j hj=>?_⟩
  ·rw [ba_get _ _ hi];simp
  ·have hjl:j<l.length:=by omega
   rw [ba_get _ _ hjl]
   simp only [Bool.not_eq_true',beq_eq_false_iff_ne,ne_eq]
   intro e
   have:=List.not_of_lt_findIdx (p:=(· == c)) (xs:=l) (i:=j) (by simpa [List.idxOf] using hj)
   simp [e] at this
 ·rename_i hc
  rw [List.find?_eq_none]
  intro x hx
  have hx':x<l.length:=by simpa using hx
  rw [ba_get _ _ hx']
  simp only [beq_iff_eq]
  rintro rfl
  exact hc (List.getElem_mem _)
theorem im2 {a b:Value} {f:Value→Value→Sem Value} {g:Array Value→Sem Value}:Extern.BytealgIndexByte.indexByte.match_2 (fun _=>Sem Value) [a,b].toArray f g=f a b:=rfl
theorem cm1 {a b:Value} {f:Value→Value→Sem Value} {g:Array Value→Sem Value}:Extern.BytealgCount.count.match_1 (fun _=>Sem Value) [a,b].toArray f g=f a b:=rfl
theorem W_x237 {x y:Operand} {at':Array TypeId} {ty:TypeId} {l:Bs} {c:UInt8} (hx:E.ev x=some (str l)) (hy:E.ev y=some (byt c)) (k:K (int (idx1 l c)) S):(SOp.raw (.call ⟨.value (.func 237),#[x,y],at'⟩) ty).W Tryz.prog E S K:=by
 refine W_ext (vs:=[str l,byt c]) (e:=Extern.BytealgIndexByte.indexByte) Tryz.func237 (by kernel_rfl) (by kernel_rfl) (by kernel_rfl) (by kernel_rfl) (by simp [Env.evs,hx,hy]) ?_
 have hb:c.toNat.toUInt8=c:=by simp
 delta Extern.BytealgIndexByte.indexByte
 rw [im2]
 simp only [Extern.Bytes.bytesOf,Extern.Bytes.asByte,zy,zA,Int.toNat_natCast,hb,find_idx]
 unfold idx1 at k
 by_cases hc:c∈l
 ·simp only [hc,if_true] at k ⊢;exact k
 ·simp only [hc,if_false] at k ⊢;exact k
theorem loopk (f:Int→UInt8→Int) (l:List UInt8) (stop:Nat) (h:stop≤(⟨l.toArray⟩:ByteArray).size):∀ (i j:Nat) (b:Int),i=stop-j→ByteArray.foldlM.loop (m:=_root_.Id) f ⟨l.toArray⟩ stop h i j b=((l.take stop).drop j).foldl f b:=by
 intro i
 induction i with
 | zero=>intro j b hj;unfold ByteArray.foldlM.loop;rw [List.drop_eq_nil_of_le (by simp;omega)];split<;>rfl
 | succ i ih=>
  intro j b hj
  have hs:(⟨l.toArray⟩:ByteArray).size=l.length:=by simp [ByteArray.size]
  unfold ByteArray.foldlM.loop
  rw [dif_pos (by omega)]
  simp only
  have hl:j<(l.take stop).length:=by simp;omega
  rw [List.drop_eq_getElem_cons hl,List.foldl_cons]
  refine (ih (j+1) _ (by omega)).trans ?_
  simp
  rfl
theorem ba_foldl (f:Int→UInt8→Int) (l:Bs) (b:Int):(⟨l.toArray⟩:ByteArray).foldl f b=l.foldl f b:=by
 unfold ByteArray.foldl ByteArray.foldlM
 simp only [Nat.le_refl]
 refine (loopk f l _ _ _ 0 b rfl).trans ?_
 have hs:(⟨l.toArray⟩:ByteArray).size=l.length:=by simp [ByteArray.size]
 rw [hs];simp
theorem count_foldl (c:UInt8) (l:Bs) (b:Int):l.foldl (fun n x=>if x==c then n+1 else n) b=b+l.count c:=by
 induction l generalizing b with
 | nil=>simp
 | cons x l ih=>simp only [List.foldl_cons,ih,List.count_cons];split<;>omega
theorem W_x177 {x y:Operand} {at':Array TypeId} {ty:TypeId} {l:Bs} {c:UInt8} (hx:E.ev x=some (str l)) (hy:E.ev y=some (byt c)) (k:K (int (l.count c:Nat)) S):(SOp.raw (.call ⟨.value (.func 177),#[x,y],at'⟩) ty).W Tryz.prog E S K:=by
 refine W_ext (vs:=[str l,byt c]) (e:=Extern.BytealgCount.count) Tryz.func177 (by kernel_rfl) (by kernel_rfl) (by kernel_rfl) (by kernel_rfl) (by simp [Env.evs,hx,hy]) ?_
 have hb:c.toNat.toUInt8=c:=by simp
 delta Extern.BytealgCount.count
 rw [cm1]
 simp only [Extern.Bytes.bytesOf,Extern.Bytes.asByte,zy,zA,Int.toNat_natCast,hb,ba_foldl,count_foldl]
 have e:((0:Nat):Int)+((l.count c:Nat):Int)=((l.count c:Nat):Int):=by simp
 rw [e];exact k
def bef (l:Bs) (c:UInt8):Bs:=l.take (l.idxOf c)
def aft (l:Bs) (c:UInt8):Bs:=l.drop (l.idxOf c+1)
theorem idx1_pos {l:Bs} {c:UInt8} (h:0≤idx1 l c):c∈l∧idx1 l c=(l.idxOf c:Nat)∧l.idxOf c<l.length:=by
 unfold idx1 at h ⊢
 split at h
 ·rename_i hc;exact ⟨hc,if_pos hc,List.idxOf_lt_length_of_mem hc⟩
 ·omega
theorem idx1_neg {l:Bs} {c:UInt8} (h:¬ 0≤idx1 l c):c∉l∧bef l c=l∧aft l c=[]:=by
 unfold idx1 at h
 split at h
 ·omega
 ·rename_i hc
  have h1:l.idxOf c=l.length:=List.idxOf_eq_length hc
  exact ⟨hc,by unfold bef;rw [h1,List.take_length],by unfold aft;rw [h1];simp⟩
def LastI (l:Bs) (c:UInt8) (r:Int):Prop:=(r=-1∧c∉l)∨∃ n:Nat,r=n∧l[n]? = some c∧c∉l.drop (n+1)
end
section
variable {P:Program} {S:St} {E:Env} {K:Value→St→Prop}
structure EqF (P:Program) (d:Nat) (t:TypeId) (x y:Value) (r:Bool):Prop where
 go:∀ (S:St) (K:Bool→St→Prop) (Kp:Value→St→Prop),K r S→vu P (Op.equalIn d t x y) S K Kp
structure PartF (P:Program) (t:TypeId) (cs:Array Value) (off:Nat) (v:Value):Prop where
 go:∀ (S:St) (K:Value→St→Prop) (Kp:Value→St→Prop),K v S→vu P (part t cs off) S K Kp
theorem eqF_int {d:Nat} {t:TypeId} {k:IntKind} (hu:P.underlying t=some (.int k)) (a b:Int):EqF P (d+1) t (.int k a) (.int k b) (decide (a=b)):=by
 constructor
 intro S K Kp h
 unfold Op.equalIn
 simp only [zy,zO hu,if_true,zA]
 have e:(a==b)=decide (a=b):=by by_cases h:a=b<;>simp [h]
 rw [e];exact h
theorem eqF_bool {d:Nat} {t:TypeId} (hu:P.underlying t=some .bool) (a b:Bool):EqF P (d+1) t (.bool a) (.bool b) (decide (a=b)):=by
 constructor
 intro S K Kp h
 unfold Op.equalIn
 simp only [zy,zO hu,zA]
 have e:(a==b)=decide (a=b):=by by_cases h:a=b<;>simp [h]
 rw [e];exact h
theorem eqF_str {d:Nat} {t:TypeId} (hu:P.underlying t=some .string) (a b:Bs):EqF P (d+1) t (str a) (str b) (decide (a=b)):=by
 constructor
 intro S K Kp h
 unfold Op.equalIn
 simp only [zy,zO hu,zA]
 have e:((⟨a.toArray⟩:ByteArray)==⟨b.toArray⟩)=decide (a=b):=by
  rw [Bool.eq_iff_iff,Go.MapKept.bytes_beq,decide_eq_true_iff]
  exact ⟨fun h=>by simpa using congrArg (fun x:ByteArray=>x.data.toList) h,fun h=>by rw [h]⟩
 rw [e];exact h
theorem partF_one {t:TypeId} {cs:Array Value} {off:Nat} {v:Value} (ha:aggT P t=some false) (hv:cs[off]? = some v):PartF P t cs off v:=by
 constructor
 intro S K Kp h
 simp only [part,zy,semW_isAgg ha,Bool.false_eq_true,if_false,hv,zA];exact h
inductive FE (P:Program) (d:Nat) (xs ys:Array Value):List Field→Bool→Prop
 | nil:FE P d xs ys [] true
 | cons {f:Field} {fs:List Field} {vx vy:Value} {r r':Bool}:f.name ≠ "_"→PartF P f.type xs f.offset vx→PartF P f.type ys f.offset vy→EqF P d f.type vx vy r→FE P d xs ys fs r'→FE P d xs ys (f::fs) (r&&r')
theorem eqF_struct {d:Nat} {t:TypeId} {fs:Array Field} {xs ys:Array Value} {r:Bool} (hu:P.underlying t=some (.struct fs)) (hs:P.stoodInHeld t=false) (h:FE P d xs ys fs.toList r):EqF P (d+1) t (.agg xs) (.agg ys) r:=by
  constructor
  intro S K Kp hK
  unfold Op.equalIn
  simp only [zy,zO hu,program,vu,hs,Bool.false_eq_true,if_false]
  rw [← Array.toArray_toList (xs:=fs)]
  simp only [List.forIn_toArray]
  generalize fs.toList=l at h
  have key:∀ (l:List Field) (r:Bool) (K':Option Bool × Unit→St→Prop),FE P d xs ys l r→K' (if r then (none,()) else (some false,())) S →
      vu P (forIn (m:=Sem) l (none,()) fun f _=>
        if f.name ≠ "_" then do
          let a ← part f.type xs f.offset
          let b ← part f.type ys f.offset
          let c ← Op.equalIn d f.type a b
          if (!c)=true then pure (ForInStep.done (some false,())) else pure (ForInStep.yield (none,()))
        else pure (ForInStep.yield (none,()))) S K' Kp:=by
    intro l
    induction l with
    | nil=>intro r K' h hk;cases h;simpa [zA] using hk
    | cons f l ih=>
      intro r K' h hk
      cases h with
      | cons hn hx hy he hr=>
        rename_i vx vy r1 r2
        simp only [List.forIn_cons,zy]
        rw [if_pos hn]
        simp only [zy]
        refine hx.go _ _ _ (hy.go _ _ _ (he.go _ _ _ ?_))
        cases r1 with
        | true=>simp only [Bool.not_true,Bool.false_eq_true,if_false,zA];exact ih r2 K' hr (by simpa using hk)
        | false=>simp only [Bool.not_false,if_true,zA];simpa using hk
  refine key l r _ h ?_
  cases r<;>simpa [zA] using hK
theorem W_eqvD {t:TypeId} {x y:Operand} {xs ys:Array Value} {r neg:Bool} (hx:E.ev x=some (.agg xs)) (hy:E.ev y=some (.agg ys)) (hg:P.eqGuardType P.depth t=false) (he:EqF P Op.maxDepth t (.agg xs) (.agg ys) r) (k:K (.bool (r != neg)) S):(SOp.eqv neg t x y).W P E S K:=by
 simp only [SOp.W,hx,hy]
 refine ⟨rfl,?_⟩
 have hge:∀ (op:BinOp) (K':Unit→St→Prop),K' () S→vu P (eqGuard op t x y (.agg xs) (.agg ys)) S K' (fun _ _=>False):=by
  intro op K' h
  unfold eqGuard
  cases op<;>first
   | exact h
   | (simp only [zy,program,vu,hg,Bool.not_true,Bool.not_false,Bool.false_eq_true,if_true,if_false,zA];exact h)
 simp only [zy]
 exact hge _ _ (he.go _ _ _ k)
structure End where
 a:Int
 p:Int
 deriving DecidableEq
structure Conn where
 i:End
 o:End
 kn:Bs
 he:Bs
 ne:Bs
 deriving DecidableEq
structure Rule where
 al:Bool
 i:Int
 j:Int
 o:Int
 q:Int
 p:Int
 r:Int
 deriving DecidableEq
structure Seg where
 s:End
 d:End
 sq:Int
 ak:Int
 dt:Bs
 deriving DecidableEq
@[reducible] def End.row (e:End):List Value:=[int e.a,int e.p]
@[reducible] def Conn.row (c:Conn):List Value:=[int c.i.a,int c.i.p,int c.o.a,int c.o.p,str c.kn,str c.he,str c.ne]
@[reducible] def Rule.row (r:Rule):List Value:=[.bool r.al,int r.i,int r.j,int r.o,int r.q,int r.p,int r.r]
@[reducible] def Seg.row (s:Seg):List Value:=[int s.s.a,int s.s.p,int s.d.a,int s.d.p,int s.sq,int s.ak,str s.dt]
@[reducible] def End.v (e:End):Value:=.agg #[int e.a,int e.p]
@[reducible] def Conn.v (c:Conn):Value:=.agg #[int c.i.a,int c.i.p,int c.o.a,int c.o.p,str c.kn,str c.he,str c.ne]
@[reducible] def Rule.v (r:Rule):Value:=.agg #[.bool r.al,int r.i,int r.j,int r.o,int r.q,int r.p,int r.r]
@[reducible] def Seg.v (s:Seg):Value:=.agg #[int s.s.a,int s.s.p,int s.d.a,int s.d.p,int s.sq,int s.ak,str s.dt]
theorem agg3:aggT Tryz.prog 3=some false:=by kernel_rfl
theorem agg4:aggT Tryz.prog 4=some false:=by kernel_rfl
theorem agg9:aggT Tryz.prog 9=some false:=by kernel_rfl
theorem p3 {cs:Array Value} {off:Nat} {v:Value} (hv:cs[off]? = some v):PartF Tryz.prog 3 cs off v:=@partF_one Tryz.prog 3 cs off v agg3 hv
theorem p4 {cs:Array Value} {off:Nat} {v:Value} (hv:cs[off]? = some v):PartF Tryz.prog 4 cs off v:=@partF_one Tryz.prog 4 cs off v agg4 hv
theorem p9 {cs:Array Value} {off:Nat} {v:Value} (hv:cs[off]? = some v):PartF Tryz.prog 9 cs off v:=@partF_one Tryz.prog 9 cs off v agg9 hv
theorem e3 {d:Nat} (a b:Int):EqF Tryz.prog (d+1) 3 (int a) (int b) (decide (a=b)):=@eqF_int Tryz.prog d 3 .i64 Tryz.underlying3 a b
theorem e4 {d:Nat} (a b:Bool):EqF Tryz.prog (d+1) 4 (.bool a) (.bool b) (decide (a=b)):=@eqF_bool Tryz.prog d 4 Tryz.underlying4 a b
theorem e9 {d:Nat} (a b:Bs):EqF Tryz.prog (d+1) 9 (str a) (str b) (decide (a=b)):=@eqF_str Tryz.prog d 9 Tryz.underlying9 a b
theorem std31:Tryz.prog.stoodInHeld 31=false:=by kernel_rfl
theorem grd31:Tryz.prog.eqGuardType Tryz.prog.depth 31=false:=by kernel_rfl
theorem eqF31 {d:Nat} (a p c q:Int):EqF Tryz.prog (d+2) 31 (.agg #[int a,int p]) (.agg #[int c,int q]) (decide (a=c)&&(decide (p=q)&&true)):=by
 refine @eqF_struct Tryz.prog (d+1) 31 _ _ _ _ Tryz.underlying31 std31 ?_
 show FE Tryz.prog (d+1) _ _ [_,_] _
 refine FE.cons (by decide) (p3 rfl) (p3 rfl) (e3 _ _) ?_
 refine FE.cons (by decide) (p3 rfl) (p3 rfl) (e3 _ _) ?_
 exact FE.nil
theorem W_eqE {x y:Operand} {a p c q:Int} (hx:E.ev x=some (.agg #[int a,int p])) (hy:E.ev y=some (.agg #[int c,int q])) (k:K (.bool (decide (a=c∧p=q))) S):(SOp.eqv false 31 x y).W Tryz.prog E S K:=by
 refine W_eqvD hx hy grd31 (eqF31 (d:=9998) a p c q) ?_
 have e:(((decide (a=c)&&(decide (p=q)&&true))) != false)=decide (a=c∧p=q):=by simp
 rw [e];exact k
end
section
variable {P:Program} {S S0:St} {E:Env} {K:Value→St→Prop} {X:List Nat} {L L':List (Nat × Obj)}
theorem W_shr {t yt ty:TypeId} {x y:Operand} {k k2:IntKind} {a n:Int} (hx:E.ev x=some (.int k a)) (hy:E.ev y=some (.int k2 n)) (h0:0≤n) (h1:n≤k.bits) (hk:K (.int k (a.fdiv (2 ^ n.toNat))) S):(SOp.raw (.binOp .shr t x y yt) ty).W P E S K:=by
 refine .mk fun ρ hρ=>?_
 have h2:=hρ x (by simp [Op.operands]) _ hx
 have h3:=hρ y (by simp [Op.operands]) _ hy
 have e:min n.toNat k.bits=n.toNat:=by omega
 simp only [execOp,h2,h3,eqGuard,binOp,Op.shift,zy,zA,e,Bool.not_false,if_true]
 refine semW_ite_neg (by omega) ?_
 simp only [zA,UponS]
 exact hk
theorem W_neg3 {t ty:TypeId} {x:Operand} {a:Int} (hx:E.ev x=some (int a)) (h0:-9223372036854775807≤a) (h1:a≤9223372036854775807) (hk:K (int (-a)) S):(SOp.raw (.unOp .neg t x) ty).W P E S K:=by
 refine .mk fun ρ hρ=>?_
 have h2:=hρ x (by simp [Op.operands]) _ hx
 simp only [execOp,h2,Op.unary,Op.intArith,zy,zA,UponS]
 have e:IntKind.i64.wrap (0-a)=-a:=by rw [wrap64_in (by omega) (by omega)];omega
 rw [e];exact hk
theorem W_arrAddr {t ty e:TypeId} {n:Nat} {ti:TypeInfo} {x y:Operand} {a:Addr} {kd:IntKind} {i:Int} (ht:P.underlying t=some (.array n e)) (he:P.info? e=some ti) (hx:E.ev x=some (.pointer (some a))) (hy:E.ev y=some (.int kd i)) (h0:0≤i) (h1:i<n)
    (hk:K (.pointer (some (a.add (i.toNat*ti.size)))) S):(SOp.raw (.indexAddr t x y) ty).W P E S K:=by
  refine .mk fun ρ hρ=>?_
  have h2:=hρ x (by simp [Op.operands]) _ hx
  have h3:=hρ y (by simp [Op.operands]) _ hy
  simp only [execOp,h2,h3,Instr.indexAt,asIntOf,zy,zA,zO ht,Instr.sureAddr]
  rw [if_pos ⟨h0,h1⟩]
  simp only [zy,semW_sizeOf he,zA,UponS]
  exact hk
theorem W_arrSlice {t ty e:TypeId} {n:Nat} {ti:TypeInfo} {x:Operand} {lo hi:Option Operand} {a:Addr} {l h:Option Value} {r:Nat × Nat × Nat} (ht:P.underlying t=some (.array n e)) (he:P.info? e=some ti) (hx:E.ev x=some (.pointer (some a))) (hl:E.evo lo=some l) (hh:E.evo hi=some h)
    (hr:bnds n n l h none=some r) (hk:K (.slice (some (if r.2.2=r.1 then a else a.add (r.1*ti.size))) (r.2.1-r.1) (r.2.2-r.1)) S):(SOp.raw (.slice t x lo hi none) ty).W P E S K:=by
  refine .mk fun ρ hρ=>?_
  have h2:=hρ x (by simp [Op.operands]) _ hx
  have hlo:lo.map ρ=l:=by
    cases lo with
    | none=>cases hl;rfl
    | some y=>
      simp only [Env.evo,Option.map_eq_some_iff] at hl
      obtain ⟨v,hv,rfl⟩:=hl
      rw [Option.map_some,hρ y (by simp [Op.operands]) _ hv]
  have hhi:hi.map ρ=h:=by
    cases hi with
    | none=>cases hh;rfl
    | some y=>
      simp only [Env.evo,Option.map_eq_some_iff] at hh
      obtain ⟨v,hv,rfl⟩:=hh
      rw [Option.map_some,hρ y (by simp [Op.operands]) _ hv]
  simp only [execOp,h2,hlo,hhi,Option.map_none,Instr.sliceAt,zy,zO ht,Instr.sureAddr,zA]
  refine semW_bounds _ _ _ _ _ _ _ hr ?_
  simp only [zy,semW_sizeOf he,zA,UponS]
  exact hk
theorem W_arrSl {t ty e:TypeId} {n:Nat} {ti:TypeInfo} {x lo hi:Operand} {b off i j:Nat} {kd kd':IntKind} {i' j':Int} (ht:P.underlying t=some (.array n e)) (he:P.info? e=some ti) (hs:ti.size=1) (hx:E.ev x=some (ptr b off)) (hl:E.ev lo=some (.int kd i')) (hh:E.ev hi=some (.int kd' j'))
    (hi':i'=i) (hj':j'=j) (h1:i≤j) (h2:j≤n) (h3:i<n) (hk:K (sl b (off+i) (j-i) (n-i)) S):(SOp.raw (.slice t x (some lo) (some hi) none) ty).W P E S K:=by
  subst hi' hj'
  refine W_arrSlice (r:=(i,j,n)) ht he hx (l:=some (.int kd i)) (h:=some (.int kd' j)) (by simp [Env.evo,hl]) (by simp [Env.evo,hh]) ?_ ?_
  · have e1:(0:Int)≤j∧(j:Int)≤n:=by omega
    have e2:(0:Int)≤i∧(i:Int)≤j:=by omega
    simp [bnds,bnd,h1,h2]
  · simp only
    rw [if_neg (by omega),hs,addr_add,Nat.mul_one]
    exact hk
theorem W_eqnil {neg:Bool} {t:TypeId} {ms:Array (String × TypeId)} {x y:Operand} {tx:TypeId} {vx:Value} (ht:P.underlying t=some (.interface ms)) (hx:E.ev x=some (.iface tx vx)) (hy:E.ev y=some .nilIface) (hk:K (.bool (false != neg)) S):(SOp.eqv neg t x y).W P E S K:=by
 simp only [SOp.W,hx,hy]
 refine ⟨rfl,?_⟩
 have hg:∀ (op:BinOp),eqGuard op t x y (.iface tx vx) .nilIface=pure ():=by intro op;cases op<;>rfl
 simp only [hg,zy,zA,Op.equal,Op.maxDepth]
 unfold Op.equalIn
 simp only [zy,zO ht,zA]
 exact hk
theorem W_eqnn {neg:Bool} {t:TypeId} {ms:Array (String × TypeId)} {x:Operand} {v:Value} (ht:P.underlying t=some (.interface ms)) (hv:v=.nilIface) (hx:E.ev x=some v) (hk:K (.bool (true != neg)) S):(SOp.eqv neg t x (.const .nilIface)).W P E S K:=by
 subst hv
 have hy:E.ev (.const .nilIface)=some .nilIface:=rfl
 simp only [SOp.W,hx,hy]
 refine ⟨rfl,?_⟩
 have hg:∀ (op:BinOp),vu P (eqGuard op t x (.const .nilIface) .nilIface .nilIface) S (fun _ S'=>vu P (Op.equal t .nilIface .nilIface) S' (fun r S'=>K (.bool (r != neg)) S') (fun _ _=>False)) (fun _ _=>False):=by
  intro op
  have he:vu P (Op.equal t .nilIface .nilIface) S (fun r S'=>K (.bool (r != neg)) S') (fun _ _=>False):=by
   simp only [Op.equal,Op.maxDepth]
   unfold Op.equalIn
   simp only [zy,zO ht,zA]
   exact hk
  unfold eqGuard
  cases op<;>first
   | exact he
   | (simp only [zy,zA,Bool.not_true,Bool.not_false,Bool.false_eq_true,if_false,Bool.or_true,if_true];exact he)
 simp only [zy]
 exact hg _
theorem W_eqII {t:TypeId} {ms:Array (String × TypeId)} {ti:TypeInfo} {x y:Operand} {tx:TypeId} {a b:Int} (ht:P.underlying t=some (.interface ms)) (hi:P.info? tx=some ti) (hc:ti.comparable=true) (hu:P.underlying tx=some (.int .i64)) (hx:E.ev x=some (.iface tx (int a))) (hy:E.ev y=some (.iface tx (int b)))
    (hk:K (.bool (decide (a=b))) S):(SOp.eqv false t x y).W P E S K:=by
  simp only [SOp.W,hx,hy]
  refine ⟨rfl,?_⟩
  have hg:∀ (op:BinOp),eqGuard op t x y (.iface tx (int a)) (.iface tx (int b))=pure ():=by intro op;cases op<;>rfl
  simp only [hg,zy,zA,Op.equal,Op.maxDepth]
  unfold Op.equalIn
  simp only [zy,zO ht]
  refine semW_ite_neg (by simp) ?_
  simp only [zy,semW_typeInfo hi,hc,Bool.not_true,Bool.false_eq_true,if_false]
  refine (eqF_int (d:=9998) hu a b).go _ _ _ ?_
  simpa using hk
theorem W_sliceNil {t e:TypeId} {x:Operand} {a:Option Addr} {n c:Nat} (ht:P.underlying t=some (.slice e)) (hx:E.ev x=some (.slice a n c)) (hk:∀ t:Bool,(t=true↔a=none)→K (.bool t) S):(SOp.eqv false t x (.const (.slice none 0 0))).W P E S K:=by
 have hy:E.ev (.const (.slice none 0 0))=some (.slice none 0 0):=rfl
 simp only [SOp.W,hx,hy]
 refine ⟨rfl,?_⟩
 have hg:∀ (op:BinOp),eqGuard op t x (.const (.slice none 0 0)) (.slice a n c) (.slice none 0 0)=pure ():=by intro op;cases op<;>rfl
 simp only [hg,zy,zA,Op.equal,Op.maxDepth]
 unfold Op.equalIn
 cases a with
 | none=>
  simp only [zy,zO ht,zA]
  exact hk _ (by simp)
 | some a=>
  simp only [zy,zO ht,zA]
  exact hk _ (by simp)
theorem W_ptrNil {t e:TypeId} {x:Operand} {a:Option Addr} (ht:P.underlying t=some (.pointer e)) (hx:E.ev x=some (.pointer a)) (hk:K (.bool a.isNone) S):(SOp.eqv false t x (.const (.pointer none))).W P E S K:=by
 have hy:E.ev (.const (.pointer none))=some (.pointer none):=rfl
 simp only [SOp.W,hx,hy]
 refine ⟨rfl,?_⟩
 have hg:∀ (op:BinOp),eqGuard op t x (.const (.pointer none)) (.pointer a) (.pointer none)=pure ():=by intro op;cases op<;>rfl
 simp only [hg,zy,zA,Op.equal,Op.maxDepth]
 unfold Op.equalIn
 cases a<;>(simp only [zy,zO ht,zA];exact hk)
theorem W_callv {x:Operand} {args:List Operand} {vs:List Value} {f:FuncId} {fn:Func} {first captured:Array Value} (hx:E.ev x=some (.func (.func f) first captured)) (hv:E.evs args=some vs) (hf:P.funcs[f]? = some fn) (hb:fn.body.isSome=true) (hn:(fn.name == "runtime.NumGoroutine")=false)
    (h:Calls1 P f (first++vs.toArray++captured) S K):(SOp.callv x args).W P E S K:=by
  simp only [SOp.W,hx,hv]
  exact ⟨callFunc_calls hf hb hn h⟩
theorem W_yield {x:Operand} {args:List Operand} {vs:List Value} {l:Nat} {c:Array Value} (hx:E.ev x=some (.func (.yield l) #[] c)) (hv:E.evs args=some vs) (h:Yields P l vs S K):(SOp.callv x args).W P E S K:=by
 simp only [SOp.W,hx,hv]
 exact ⟨⟨rfl,h.h⟩⟩
theorem W_field {t ty:TypeId} {fs:Array Field} {f:Field} {x:Operand} {i:Nat} {cs:Array Value} {v:Value} (ht:P.underlying t=some (.struct fs)) (hf:fs[i]? = some f) (hx:E.ev x=some (.agg cs)) (hp:PartF P f.type cs f.offset v) (hk:K v S):(SOp.raw (.field t x i) ty).W P E S K:=by
 refine .mk fun ρ hρ=>?_
 have h2:=hρ x (by simp [Op.operands]) _ hx
 simp only [execOp,h2,Instr.field,zy,zO ht,hf,asAgg,zA]
 exact hp.go _ _ _ hk
end
section
variable {P:Program} {S S0:St} {E:Env} {K:Value→St→Prop} {X:List Nat} {L L':List (Nat × Obj)}
def kvs (es:Array MapEntry):List (Value × Value):=es.toList.map fun e=>(e.key,e.val)
def findM {α β:Type} [DecidableEq α]:List (α × β)→α→Nat→Option (Nat × β)
 | [],_,_=>none
 | (a,b)::r,x,i=>if x=a then some (i,b) else findM r x (i+1)
structure PT (P:Program):Prop where
 u3:P.underlying 3=some (.int .i64)
 u31:∃ f1 f2:Field,P.underlying 31=some (.struct #[f1,f2])∧f1.name ≠ "_"∧f2.name ≠ "_"∧f1.type=3∧f2.type=3∧f1.offset=0∧f2.offset=1
 u98:P.underlying 98=some (.map 31 3)
 u99:P.underlying 99=some (.map 3 31)
 p3:∀ (cs:Array Value) (off:Nat) (v:Value),cs[off]? = some v→PartF P 3 cs off v
 e31:∀ (d:Nat) (a p c q:Int),EqF P (d+2) 31 (.agg #[int a,int p]) (.agg #[int c,int q]) (decide (a=c)&&(decide (p=q)&&true))
 z3:(P.info? 3).bind (fun i=>i.zero)=some (int 0)
 z31:(P.info? 31).bind (fun i=>i.zero)=some (.agg #[int 0,int 0])
 l5:∀ (cells off n:Nat),off+n≤cells→liesAt P P.depth 5 (cells / P.cellsOf 5) off 5 n=true
 l213:liesAt P P.depth 213 (2 / P.cellsOf 213) 0 213 1=true
 s5:(P.info? 5).map (·.size)=some 1
 s213:(P.info? 213).map (·.size)=some 2
 u22:P.underlying 22=some (.slice 5)
 u211:P.underlying 211=some (.pointer 213)
 u223:P.underlying 223=some (.pointer 5)
 u234:P.underlying 234=some .unsafePointer
 f234:∃ fn,P.funcs[234]? = some fn∧(fn.name == "runtime.NumGoroutine")=false∧fn.body.isNone=true∧Extern.findNext fn=none∧Extern.find fn=some Extern.AbiNoEscape.same
variable (T:PT P)
include T
structure CkF (P:Program) (t:TypeId) (v:Value):Prop where
 go:∀ (b:Bool) (S:St) (K:Unit→St→Prop) (Kp:Value→St→Prop),K () S→vu P (Instr.checkKey b 10000 t v) S K Kp
theorem ck3 (n:Int) (m:Nat) (b:Bool) (S:St) (K:Unit→St→Prop) (Kp:Value→St→Prop) (k:K () S):vu P (Instr.checkKey b (m+1) 3 (int n)) S K Kp:=by
 unfold Instr.checkKey
 simp only [zy,zO T.u3,zA]
 exact k
theorem ckI (n:Int):CkF P 3 (int n):=⟨fun b S K Kp k=>ck3 T n 9999 b S K Kp k⟩
theorem ckE (e:End):CkF P 31 e.v:=by
 refine ⟨fun b S K Kp k=>?_⟩
 obtain ⟨f1,f2,hu,n1,n2,t1,t2,o1,o2⟩:=T.u31
 unfold Instr.checkKey
 simp only [zy,zO hu]
 have p1:PartF P 3 #[int e.a,int e.p] 0 (int e.a):=T.p3 _ _ _ rfl
 have p2:PartF P 3 #[int e.a,int e.p] 1 (int e.p):=T.p3 _ _ _ rfl
 simp only [List.forIn_toArray,List.forIn_cons,List.forIn_nil,zy,zA]
 rw [if_pos n1]
 simp only [zy,t1,o1]
 refine p1.go _ _ _ (ck3 T _ _ _ _ _ _ ?_)
 simp only [zA]
 rw [if_pos n2]
 simp only [zy,t2,o2]
 refine p2.go _ _ _ (ck3 T _ _ _ _ _ _ ?_)
 simp only [zA]
 exact k
theorem findA_E (e:End):∀ (es:List MapEntry) (kv:List (End × Int)) (i:Nat) (S:St) (K:Option (Nat × Value)→St→Prop) (Kp:Value→St→Prop),es.map (fun e=>(e.key,e.val))=kv.map (fun p=>(p.1.v,int p.2)) →
    K ((findM kv e i).map fun r=>(r.1,int r.2)) S→vu P (Instr.findAsking 31 e.v es i) S K Kp:=by
  intro es
  induction es with
  | nil=>
    intro kv i S K Kp h k
    cases kv with
    | nil=>exact k
    | cons p kv=>cases h
  | cons x es ih=>
    intro kv i S K Kp h k
    cases kv with
    | nil=>cases h
    | cons p kv=>
      simp only [List.map_cons,List.cons.injEq,Prod.mk.injEq] at h
      obtain ⟨⟨h1,h2⟩,h3⟩:=h
      unfold Instr.findAsking
      simp only [zy,Op.equal,Op.maxDepth,h1]
      refine (T.e31 9998 e.a e.p p.1.a p.1.p).go _ _ _ ?_
      have e1:(decide (e.a=p.1.a)&&(decide (e.p=p.1.p)&&true))=decide (e=p.1):=by
        rw [Bool.eq_iff_iff]
        simp only [Bool.and_eq_true,decide_eq_true_eq,and_true]
        exact ⟨fun h=>End.mk.injEq .. ▸ (by cases e;obtain ⟨⟨_,_⟩,_⟩:=p;simp_all),fun h=>by rw [h];exact ⟨rfl,rfl⟩⟩
      rw [e1]
      by_cases hep:e=p.1
      · simp only [hep,decide_true,if_true,zA,h2]
        simp only [findM,hep,if_true,Option.map_some] at k
        exact k
      · simp only [hep,decide_false,Bool.false_eq_true,if_false]
        refine ih kv (i+1) S K Kp h3 ?_
        simp only [findM,hep,if_false] at k
        exact k
theorem findK_E {e:End} {es:Array MapEntry} {kv:List (End × Int)} {S:St} {K:Option (Nat × Value)→St→Prop} {Kp:Value→St→Prop} (h:kvs es=kv.map fun p=>(p.1.v,int p.2))
    (k:K ((findM kv e 0).map fun r=>(r.1,int r.2)) S):vu P (Instr.findKey 31 e.v es.toList) S K Kp:=by
  simp only [Instr.findKey,zy,zO T.u31.choose_spec.choose_spec.1]
  unfold kvs at h
  generalize es.toList=l at h ⊢
  cases l with
  | nil=>
    cases kv with
    | nil=>exact k
    | cons p kv=>cases h
  | cons x l=>
    have hx:x.key=(kv.head (by rintro rfl;cases h)).1.v:=by
      cases kv with
      | nil=>cases h
      | cons p kv=>simp only [List.map_cons,List.cons.injEq,Prod.mk.injEq] at h;exact h.1.1
    have hs:∀ d,Instr.findNow (.struct d) e.v (x::l) 0=none:=by
      intro d
      simp only [Instr.findNow,Instr.sameNow]
    simp only [hs]
    exact findA_E T e _ kv 0 S K Kp h k
omit T in
theorem findN_I (n:Int):∀ (l:List MapEntry) (kv:List (Int × End)) (i:Nat),l.map (fun e=>(e.key,e.val))=kv.map (fun p=>(int p.1,p.2.v))→Instr.findNow (.int .i64) (int n) l i=some ((findM kv n i).map fun r=>(r.1,r.2.v)):=by
 intro l
 induction l with
 | nil=>
  intro kv i h
  cases kv with
  | nil=>rfl
  | cons p kv=>cases h
 | cons x l ih=>
  intro kv i h
  cases kv with
  | nil=>cases h
  | cons p kv=>
   simp only [List.map_cons,List.cons.injEq,Prod.mk.injEq] at h
   obtain ⟨⟨h1,h2⟩,h3⟩:=h
   simp only [Instr.findNow,h1,Instr.sameNow,if_true,findM]
   by_cases hn:n=p.1
   ·simp [hn,h2]
   ·have:(n==p.1)=false:=by simpa using hn
    simp only [this,hn,if_false]
    exact ih kv (i+1) h3
theorem findK_I {n:Int} {es:Array MapEntry} {kv:List (Int × End)} {S:St} {K:Option (Nat × Value)→St→Prop} {Kp:Value→St→Prop} (h:kvs es=kv.map fun p=>(int p.1,p.2.v))
    (k:K ((findM kv n 0).map fun r=>(r.1,r.2.v)) S):vu P (Instr.findKey 3 (int n) es.toList) S K Kp:=by
  simp only [Instr.findKey,zy,zO T.u3,findN_I n es.toList kv 0 h,zA]
  exact k
omit T in
theorem semW_getMap {r:Nat} {es:Array MapEntry} {clock:Nat} {wr:Bool} {S:St} {K:Obj→St→Prop} {Kp:Value→St→Prop} (h:S r=some ⟨.map es clock,wr⟩) (k:K (.map es clock) S):vu P (getObj r) S K Kp:=⟨_,h,rfl,rfl,k⟩
theorem zero3 {S:St} {K:Value→St→Prop} {Kp:Value→St→Prop} (k:K (int 0) S):vu P (zeroValue 3) S K Kp:=by
 obtain ⟨i,h1,h2⟩:=Option.bind_eq_some_iff.1 T.z3
 rw [semW_zeroValue h1 h2];exact k
theorem zero31 {S:St} {K:Value→St→Prop} {Kp:Value→St→Prop} (k:K (.agg #[int 0,int 0]) S):vu P (zeroValue 31) S K Kp:=by
 obtain ⟨i,h1,h2⟩:=Option.bind_eq_some_iff.1 T.z31
 rw [semW_zeroValue h1 h2];exact k
theorem W_lookE_ {ty:TypeId} {x y:Operand} {ok:Bool} {r clock:Nat} {wr:Bool} {es:Array MapEntry} {kv:List (End × Int)} {e:End} (hx:E.ev x=some (.map (some r))) (hy:E.ev y=some e.v) (hm:S r=some ⟨.map es clock,wr⟩) (h:kvs es=kv.map fun p=>(p.1.v,int p.2))
    (k:K (bif ok then .tuple #[int (((findM kv e 0).map (·.2)).getD 0),.bool (findM kv e 0).isSome] else int (((findM kv e 0).map (·.2)).getD 0)) S):(SOp.raw (.lookup 98 x y ok) ty).W P E S K:=by
  refine .mk fun ρ hρ=>?_
  have h2:=hρ x (by simp [Op.operands]) _ hx
  have h3:=hρ y (by simp [Op.operands]) _ hy
  simp only [execOp,h2,h3,Instr.lookup,zy,zO T.u98]
  refine semW_getMap hm ?_
  simp only [zy,zA]
  refine (ckE T e).go _ _ _ _ ?_
  refine findK_E T h ?_
  cases hf:findM kv e 0 with
  | none=>
    rw [hf] at k
    simp only [Option.map_none,zy]
    refine zero3 T ?_
    cases ok<;>exact k
  | some q=>
    rw [hf] at k
    cases ok<;>exact k
theorem W_lookI_ {ty:TypeId} {x y:Operand} {r clock:Nat} {wr:Bool} {es:Array MapEntry} {kv:List (Int × End)} {n:Int} (hx:E.ev x=some (.map (some r))) (hy:E.ev y=some (int n)) (hm:S r=some ⟨.map es clock,wr⟩) (h:kvs es=kv.map fun p=>(int p.1,p.2.v))
    (k:K (.tuple #[(((findM kv n 0).map (·.2)).getD (⟨0,0⟩:End)).v,.bool (findM kv n 0).isSome]) S):(SOp.raw (.lookup 99 x y true) ty).W P E S K:=by
  refine .mk fun ρ hρ=>?_
  have h2:=hρ x (by simp [Op.operands]) _ hx
  have h3:=hρ y (by simp [Op.operands]) _ hy
  simp only [execOp,h2,h3,Instr.lookup,zy,zO T.u99]
  refine semW_getMap hm ?_
  simp only [zy,zA]
  refine (ckI T n).go _ _ _ _ ?_
  refine findK_I T h ?_
  cases hf:findM kv n 0 with
  | none=>
    rw [hf] at k
    simp only [Option.map_none,zy]
    refine zero31 T ?_
    simp only [zA];exact k
  | some q=>
    rw [hf] at k
    simp only [Option.map_some,zA]
    exact k
theorem W_updE_ {ty:TypeId} {x y z:Operand} {r clock:Nat} {es:Array MapEntry} {kv:List (End × Int)} {e:End} {p:Int} (H:Loc X S0 S L) (hx:E.ev x=some (.map (some r))) (hy:E.ev y=some e.v) (hz:E.ev z=some (int p)) (h:kvs es=kv.map fun p=>(p.1.v,int p.2)) (hf:findM kv e 0=none)
    (hU:Upd L r (.map es clock) (.map (es.push {key:=e.v,val:=int p,born:=clock}) (clock+1)) L') (k:∀ S',Ext [r] S S'→Loc X S0 S' L'→K undef S'):(SOp.raw (.mapUpdate 98 x y z) ty).W P E S K:=by
  refine .mk fun ρ hρ=>?_
  have h1:=hρ x (by simp [Op.operands]) _ hx
  have h2:=hρ y (by simp [Op.operands]) _ hy
  have h3:=hρ z (by simp [Op.operands]) _ hz
  have hm:=H.own _ _ hU.mem
  simp only [execOp,h1,h2,h3,Instr.mapUpdate,zy,zO T.u98]
  refine semW_getMap hm ?_
  simp only [zy]
  refine (ckE T e).go _ _ _ _ ?_
  refine findK_E T h ?_
  simp only [hf,Option.map_none,setObj,vu,zA,UponS]
  exact ⟨_,hm,rfl,rfl,rfl,rfl,k _ (.put_old (H.own _ _ hU.mem) _) (H.put hU)⟩
theorem W_updI_ {ty:TypeId} {x y z:Operand} {r clock:Nat} {es:Array MapEntry} {kv:List (Int × End)} {n:Int} {e:End} (H:Loc X S0 S L) (hx:E.ev x=some (.map (some r))) (hy:E.ev y=some (int n)) (hz:E.ev z=some e.v) (h:kvs es=kv.map fun p=>(int p.1,p.2.v)) (hf:findM kv n 0=none)
    (hU:Upd L r (.map es clock) (.map (es.push {key:=int n,val:=e.v,born:=clock}) (clock+1)) L') (k:∀ S',Ext [r] S S'→Loc X S0 S' L'→K undef S'):(SOp.raw (.mapUpdate 99 x y z) ty).W P E S K:=by
  refine .mk fun ρ hρ=>?_
  have h1:=hρ x (by simp [Op.operands]) _ hx
  have h2:=hρ y (by simp [Op.operands]) _ hy
  have h3:=hρ z (by simp [Op.operands]) _ hz
  have hm:=H.own _ _ hU.mem
  simp only [execOp,h1,h2,h3,Instr.mapUpdate,zy,zO T.u99]
  refine semW_getMap hm ?_
  simp only [zy]
  refine (ckI T n).go _ _ _ _ ?_
  refine findK_I T h ?_
  simp only [hf,Option.map_none,setObj,vu,zA,UponS]
  exact ⟨_,hm,rfl,rfl,rfl,rfl,k _ (.put_old (H.own _ _ hU.mem) _) (H.put hU)⟩
theorem W_updI2_ {ty:TypeId} {x y z:Operand} {r clock i:Nat} {es:Array MapEntry} {kv:List (Int × End)} {n:Int} {e e0:End} (H:Loc X S0 S L) (hx:E.ev x=some (.map (some r))) (hy:E.ev y=some (int n)) (hz:E.ev z=some e.v) (h:kvs es=kv.map fun p=>(int p.1,p.2.v)) (hf:findM kv n 0=some (i,e0)) (hi:kv[i]? = some (n,e0))
    (hU:Upd L r (.map es clock) (.map (es.modify i fun x=>{x with key:=int n,val:=e.v}) clock) L') (k:∀ S',Ext [r] S S'→Loc X S0 S' L'→K undef S'):(SOp.raw (.mapUpdate 99 x y z) ty).W P E S K:=by
  refine .mk fun ρ hρ=>?_
  have h1:=hρ x (by simp [Op.operands]) _ hx
  have h2:=hρ y (by simp [Op.operands]) _ hy
  have h3:=hρ z (by simp [Op.operands]) _ hz
  have hm:=H.own _ _ hU.mem
  have hkey:((es[i]?).map (·.key)).getD (int n)=int n:=by
    have h4:=congrArg (·[i]?) h
    simp only [kvs,List.getElem?_map,Array.getElem?_toList,hi,Option.map_some] at h4
    cases he:es[i]? with
    | none=>rfl
    | some q=>
      rw [he] at h4
      simp only [Option.map_some,Option.some.injEq,Prod.mk.injEq] at h4
      simpa using h4.1
  simp only [execOp,h1,h2,h3,Instr.mapUpdate,zy,zO T.u99]
  refine semW_getMap hm ?_
  simp only [zy]
  refine (ckI T n).go _ _ _ _ ?_
  refine findK_I T h ?_
  have hsb:Instr.sameBits 10000 (int n) (int n)=true:=by simp [Instr.sameBits]
  simp only [hf,Option.map_some,hkey,Instr.keyThatStays,hsb,if_true,zy,zA,setObj,vu,UponS]
  exact ⟨_,hm,rfl,rfl,rfl,rfl,k _ (.put_old (H.own _ _ hU.mem) _) (H.put hU)⟩
omit T in
theorem kvs_push (es:Array MapEntry) (k v:Value) (b:Nat):kvs (es.push {key:=k,val:=v,born:=b})=kvs es++[(k,v)]:=by simp [kvs]
omit T in
theorem kvs_modify {es:Array MapEntry} {i:Nat} {k v:Value}:kvs (es.modify i fun x=>{x with key:=k,val:=v})=(kvs es).set i (k,v):=by
 unfold kvs
 apply List.ext_getElem?
 intro j
 simp only [List.getElem?_map,Array.getElem?_toList,Array.getElem?_modify,List.getElem?_set,List.length_map,Array.length_toList]
 by_cases hij:i=j
 ·subst hij
  simp only [if_true]
  by_cases hl:i<es.size
  ·simp [hl]
  ·have:es[i]? = none:=by simp;omega
   simp [this,hl]
 ·simp [hij]
omit T in
theorem usd0 (at':Array TypeId) (ty:TypeId) (n c:Nat):Builtin.unsafeSliceData_ at' ty #[.slice none n c]=pure (.pointer none):=rfl
omit T in
theorem usd1 (at':Array TypeId) (ty:TypeId) (a:Addr) (n c:Nat) (hc:c≠0):Builtin.unsafeSliceData_ at' ty #[.slice (some a) n c]=pure (.pointer (some a)):=if_pos hc
omit T in
theorem um3 {p:Option Addr} {v:Value} {f:Option Addr→Value→Sem Value} {g:Array Value→Sem Value}:Builtin.unsafeString_.match_3 (fun _=>Sem Value) #[.pointer p,v] f g=f p v:=rfl
omit T in
theorem um2 {f:TypeId→Sem Value} {g:Option TypeId→Sem Value}:Builtin.unsafeString_.match_2 (fun _=>Sem Value) (#[223,3]:Array TypeId)[0]? f g=f 223:=rfl
omit T in
theorem asInt_int (n:Int):asInt (int n)=pure n:=rfl
omit T in
theorem W_sliceData0 {ty:TypeId} {at':Array TypeId} {x:Operand} {n c:Nat} (hx:E.ev x=some (.slice none n c)) (k:K (.pointer none) S):(SOp.raw (.call ⟨.builtin .unsafeSliceData,#[x],at'⟩) ty).W P E S K:=by
 refine .mk fun ρ hρ=>?_
 have h1:=hρ x (by simp [Op.operands,Call.operands]) _ hx
 simp only [execOp,resolve,List.map_toArray,List.map_cons,List.map_nil,h1,zy,zA,invoke,builtin,usd0,UponS]
 exact k
omit T in
theorem W_sliceData {ty:TypeId} {at':Array TypeId} {x:Operand} {a:Addr} {n c:Nat} (hx:E.ev x=some (.slice (some a) n c)) (hc:c≠0) (k:K (.pointer (some a)) S):(SOp.raw (.call ⟨.builtin .unsafeSliceData,#[x],at'⟩) ty).W P E S K:=by
 refine .mk fun ρ hρ=>?_
 have h1:=hρ x (by simp [Op.operands,Call.operands]) _ hx
 simp only [execOp,resolve,List.map_toArray,List.map_cons,List.map_nil,h1,zy,zA,invoke,builtin,usd1 _ _ _ _ _ hc,UponS]
 exact k
omit T in
theorem W_unsafeStr0 {ty:TypeId} {x y:Operand} {a:Option Addr} (hx:E.ev x=some (.pointer a)) (hy:E.ev y=some (int 0)) (k:K (str []) S):(SOp.raw (.call ⟨.builtin .unsafeString,#[x,y],#[223,3]⟩) ty).W P E S K:=by
 refine .mk fun ρ hρ=>?_
 have h1:=hρ x (by simp [Op.operands,Call.operands]) _ hx
 have h2:=hρ y (by simp [Op.operands,Call.operands]) _ hy
 have e:(¬ (0:Int)>IntKind.i64.max):=by have:IntKind.i64.max=9223372036854775807:=rfl;omega
 simp only [execOp,resolve,List.map_toArray,List.map_cons,List.map_nil,h1,h2,zy,zA,invoke,builtin]
 delta Builtin.unsafeString_
 rw [um3,asInt_int]
 simp only [zy,zA]
 rw [um2]
 refine semW_ite_neg (by omega) ?_
 refine semW_ite_neg e ?_
 cases a<;>exact k
omit T in
theorem loadBytesF {S:St}:∀ (l:Bs) (b off:Nat) (acc:ByteArray) (K:ByteArray→St→Prop) (Kp:Value→St→Prop),S.cells? ⟨b,off,none⟩ l.length=some (l.map byt)→K ⟨acc.data++l.toArray⟩ S→vu P (loadBytes ⟨b,off,none⟩ acc l.length) S K Kp:=by
 intro l
 induction l with
 | nil=>intro b off acc K Kp _ k;simp only [List.length_nil,loadBytes,zA];simpa using k
 | cons c l ih=>
  intro b off acc K Kp h k
  have h0:S.cell? ⟨b,off+0,none⟩=some (byt c):=vv h rfl
  have h1:S.cells? ⟨b,off+1,none⟩ l.length=some (l.map byt):=cells_at h (by simp only [subl,List.map_cons,List.length_cons,List.length_map,List.drop_succ_cons,List.drop_zero];rw [if_pos (by omega)];rw [List.take_of_length_le (by simp)])
  simp only [List.length_cons,loadBytes,zy]
  refine semW_load h0 ?_
  simp only [addr_add]
  refine ih b (off+1) _ K Kp h1 ?_
  have e:((c.toNat:Int).toNat.toUInt8)=c:=by simp
  rw [e]
  have e2:(acc.push c).data++l.toArray=acc.data++(c::l).toArray:=by
   rw [ByteArray.data_push,← Array.toList_inj];simp
  rw [e2];exact k
theorem W_unsafeStr_ {ty:TypeId} {x y:Operand} {b:Nat} {cs:List Value} {l:Bs} (H:Loc X S0 S L) (hx:E.ev x=some (ptr b 0)) (hy:E.ev y=some (int l.length)) (hl:0<l.length) (hll:l.length≤1099527356416) (hc:cs.take l.length=l.map byt)
    (hU:Upd L b (Cs cs 5) (.cells cs.toArray 5 (0,l.length)) L') (k:∀ S',Ext [b] S S'→Loc X S0 S' L'→K (str l) S'):(SOp.raw (.call ⟨.builtin .unsafeString,#[x,y],#[223,3]⟩) ty).W P E S K:=by
  refine .mk fun ρ hρ=>?_
  have h1:=hρ x (by simp [Op.operands,Call.operands]) _ hx
  have h2:=hρ y (by simp [Op.operands,Call.operands]) _ hy
  have hb:=H.own _ _ hU.mem
  have hlen:l.length≤cs.length:=by
    have:=congrArg List.length hc
    simp at this;omega
  have hcs:S.cells? ⟨b,0,none⟩ l.length=some (l.map byt):=cells_own hb (by simp [subl,hlen,hc])
  have e:(¬ (l.length:Int)>IntKind.i64.max):=by have:IntKind.i64.max=9223372036854775807:=rfl;omega
  simp only [execOp,resolve,List.map_toArray,List.map_cons,List.map_nil,h1,h2,zy,zA,invoke,builtin]
  delta Builtin.unsafeString_
  rw [um3,asInt_int]
  simp only [zy,zA]
  rw [um2]
  refine semW_ite_neg (by omega) ?_
  refine semW_ite_neg e ?_
  refine semW_ite_neg (by omega) ?_
  have hla:=T.l5 cs.length 0 l.length (by omega)
  simp only [zy,elemOf,zO T.u223,zA,variablesAt,program,shape,vu,hb,List.size_toArray,Int.toNat_natCast,hla,if_true]
  refine loadBytesF l b 0 .empty _ _ hcs ?_
  simp only [freeze,vu]
  refine ⟨_,hb,?_⟩
  rw [if_neg (by omega)]
  have e3:freezeObj (Cs cs 5) 0 l.length=.cells cs.toArray 5 (0,l.length):=by simp only [freezeObj,beq_self_eq_true,if_true,Nat.zero_add]
  simp only [e3]
  have e4:(⟨ByteArray.empty.data++l.toArray⟩:ByteArray)=⟨l.toArray⟩:=by rw [show ByteArray.empty.data=#[] from rfl,Array.empty_append]
  simp only [zA,UponS,e4]
  exact k _ (.put_old (H.own _ _ hU.mem) _) (H.put hU)
theorem W_copy_ {ty:TypeId} {x y:Operand} {b n cap:Nat} {cs cs':List Value} {l:Bs} (H:Loc X S0 S L) (hx:E.ev x=some (sl b 0 n cap)) (hy:E.ev y=some (str l)) (hn:l.length=n) (hl:n≤cs.length) (hl0:0<n) (hc:setl cs 0 (l.map byt)=cs')
    (hU:Upd L b (Cs cs 5) (Cs cs' 5) L') (k:∀ S',Ext [b] S S'→Loc X S0 S' L'→K (int n) S'):(SOp.raw (.call ⟨.builtin .copy,#[x,y],#[22,9]⟩) ty).W P E S K:=by
  refine .mk fun ρ hρ=>?_
  have h1:=hρ x (by simp [Op.operands,Call.operands]) _ hx
  have h2:=hρ y (by simp [Op.operands,Call.operands]) _ hy
  have hb:=H.own _ _ hU.mem
  obtain ⟨i5,hi5,hs5⟩:=Option.map_eq_some_iff.1 T.s5
  have hsz:(⟨l.toArray⟩:ByteArray).size=l.length:=by simp [ByteArray.size]
  have emin:l.length.min n=n:=by rw [hn];exact Nat.min_self _
  have eext:((⟨l.toArray⟩:ByteArray).extract 0 n).data.map (fun c:UInt8=>Value.int .u8 c.toNat)=(l.map byt).toArray:=by
    rw [ba_extract];simp [← hn]
  simp only [execOp,resolve,List.map_toArray,List.map_cons,List.map_nil,h1,h2,zy,zA,invoke,builtin,Builtin.copy_,List.getElem?_toArray,List.getElem?_cons_zero,List.getElem?_cons_succ,zO T.u22,Builtin.lenOf,hsz,emin,semW_sizeOf hi5,Builtin.firstCells,eext]
  refine semW_storeCells (a:=⟨b,0,none⟩) rfl (l.map byt) 0 S cs.toArray 5 (0,0) hb (Nat.le_refl _) (by simp;omega) (by simp [oneCell]) ?_
  rw [if_neg (by rintro h;have:=congrArg List.length h;simp at this;subst this;simp at hn;omega)]
  have e1:setCells cs.toArray (0+0) (l.map byt)=cs'.toArray:=by
    rw [setCells_take _ cs _ _ rfl (by simp;omega)]
    rw [← hc]
  simp only [e1,UponS]
  exact k _ (.put_old (H.own _ _ hU.mem) _) (H.put hU)
theorem W_toUnsafe_ {ty:TypeId} {x:Operand} {b:Nat} {cs:List Value} {wr:Bool} {fz:Nat × Nat} (hx:E.ev x=some (ptr b 0)) (hb:S b=some ⟨.cells cs.toArray 213 fz,wr⟩) (hl:cs.length=2) (k:K (ptr b 0) S):(SOp.raw (.convert 211 234 x) ty).W P E S K:=by
 refine .mk fun ρ hρ=>?_
 have h1:=hρ x (by simp [Op.operands]) _ hx
 obtain ⟨i,hi,hs⟩:=Option.map_eq_some_iff.1 T.s213
 simp only [execOp,h1,convert,zy,zO T.u211,zO T.u234,Conv.unsafePointer,Conv.seenAt,viewAt,shape,vu,hb,Option.isSome_some,if_true,zA,cellsIn,semW_sizeOf hi,hs]
 refine semW_ite_neg (by simp [hl]) ?_
 simp only [zA,UponS]
 exact k
theorem W_noEscape_ {ty:TypeId} {x:Operand} {at':Array TypeId} {v:Value} (hx:E.ev x=some v) (k:K v S):(SOp.raw (.call ⟨.value (.func 234),#[x],at'⟩) ty).W P E S K:=by
 obtain ⟨fn,h1,h2,h3,h4,h5⟩:=T.f234
 refine W_ext h1 h2 h3 h4 h5 (vs:=[v]) (by simp [Env.evs,hx]) ?_
 exact k
theorem W_fromUnsafe_ {ty:TypeId} {x:Operand} {b:Nat} {cs:List Value} {wr:Bool} {fz:Nat × Nat} (hx:E.ev x=some (ptr b 0)) (hb:S b=some ⟨.cells cs.toArray 213 fz,wr⟩) (hl:cs.length=2) (k:K (ptr b 0) S):(SOp.raw (.convert 234 211 x) ty).W P E S K:=by
 refine .mk fun ρ hρ=>?_
 have h1:=hρ x (by simp [Op.operands]) _ hx
 obtain ⟨i,hi,hs⟩:=Option.map_eq_some_iff.1 T.s213
 have hla:=T.l213
 simp only [execOp,h1,convert,zy,zO T.u211,zO T.u234,Conv.unsafePointer,Conv.seenAt,viewAt,shape,vu,hb,Option.isSome_some,if_true,zA,variablesAt,program,semW_sizeOf hi,hs,List.size_toArray,hl,hla,Bool.or_true]
 exact k
omit T in
theorem W_ptrEq {t e:TypeId} {i:TypeInfo} {neg:Bool} {x y:Operand} {a:Addr} (ht:P.underlying t=some (.pointer e)) (hi:P.info? e=some i) (hs:i.size≠0) (hx:E.ev x=some (.pointer (some a))) (hy:E.ev y=some (.pointer (some a))) (k:K (.bool (true != neg)) S):(SOp.eqv neg t x y).W P E S K:=by
 simp only [SOp.W,hx,hy]
 refine ⟨rfl,?_⟩
 have hg:∀ (op:BinOp),eqGuard op t x y (.pointer (some a)) (.pointer (some a))=pure ():=by intro op;cases op<;>rfl
 simp only [hg,zy,zA,Op.equal,Op.maxDepth]
 unfold Op.equalIn
 simp only [zy,zO ht,semW_sizeOf hi]
 rw [if_pos hs]
 simp only [sameAddr,beq_self_eq_true,if_true,zy,zA]
 exact k
omit T
theorem liesAt_own {t:TypeId} {d cells off n:Nat} (h1:P.cellsOf t=1) (hd:P.depth=d+1) (hs:sameLayout P P.depth t t=true) (h:off+n≤cells):liesAt P P.depth t (cells / P.cellsOf t) off t n=true:=by
 rw [hd] at hs ⊢
 unfold liesAt
 rw [hd]
 unfold rowAt
 simp only [h1,Nat.div_one,Nat.mod_one,hs,beq_self_eq_true,Bool.true_and,Bool.and_true]
 rw [if_neg (by decide)]
 simp [h]
theorem tryzPT:PT Tryz.prog where
 u3:=Tryz.underlying3
 u31:=⟨_,_,Tryz.underlying31,by decide,by decide,rfl,rfl,rfl,rfl⟩
 u98:=Tryz.underlying98
 u99:=Tryz.underlying99
 p3 cs off v h:=p3 h
 e31 d a p c q:=eqF31 a p c q
 z3:=by kernel_rfl
 z31:=by kernel_rfl
 l5 cells off n h:=liesAt_own (d:=Tryz.prog.depth-1) (by kernel_rfl) (by kernel_rfl) (by kernel_rfl) h
 l213:=by kernel_rfl
 s5:=by kernel_rfl
 s213:=by kernel_rfl
 u22:=Tryz.underlying22
 u211:=Tryz.underlying211
 u223:=Tryz.underlying223
 u234:=Tryz.underlying234
 f234:=⟨_,Tryz.func234,by kernel_rfl,by kernel_rfl,by kernel_rfl,by kernel_rfl⟩
end
section
def PORT:Bs:=[112,111,114,116,32]
def NONE:Bs:=[110,111,110,101]
def End.ok (e:End):Prop:=OkE e.a e.p
def End.inn (e:End):Prop:=InE e.a e.p
def End.out (e:End):Prop:=OutE e.a e.p
instance (e:End):Decidable e.ok:=by unfold End.ok;exact inferInstance
instance (e:End):Decidable e.inn:=by unfold End.inn;exact inferInstance
instance (e:End):Decidable e.out:=by unfold End.out;exact inferInstance
def End.txt (e:End):Bs:=eTxt e.a e.p
def End.line (e:End):Bs:=if e.ok then PORT++e.txt else []
noncomputable def rd (l:Bs):Option End:=open Classical in if h:∃ e:End,RdE l e.a e.p then some (Classical.choose h) else none
theorem rd_some {l:Bs} {e:End} (h:RdE l e.a e.p):rd l=some e:=by
 unfold rd
 have hx:∃ e:End,RdE l e.a e.p:=⟨e,h⟩
 rw [dif_pos hx]
 have:=RdE.uniq (Classical.choose_spec hx) h
 congr 1
 rcases hc:Classical.choose hx with ⟨a,p⟩
 rw [hc] at this
 obtain ⟨a',p'⟩:=e
 simp only at this
 rw [this.1,this.2]
theorem rd_none {l:Bs} (h:∀ a p,¬ RdE l a p):rd l=none:=by
 unfold rd
 rw [dif_neg]
 rintro ⟨e,he⟩;exact h _ _ he
theorem rd_spec {l:Bs} {e:End} (h:rd l=some e):RdE l e.a e.p:=by
 unfold rd at h
 split at h
 ·rename_i hx;cases h;exact Classical.choose_spec hx
 ·cases h
theorem rd_txt {e:End} (h:e.ok):rd e.txt=some e:=rd_some ⟨h,rfl⟩
noncomputable def said (l:Bs):Option End:=if PORT <+: l then rd (l.drop 5) else none
noncomputable def says (l:Bs):Option End:=(said l).bind fun e=>if e.inn then some e else none
noncomputable def boxP (l:Bs):Option Int:=(said l).bind fun e=>if e.a=50 then some e.p else none
def findE (es:List End) (e:End):Int:=if e∈es then (es.idxOf e:Nat) else -1
def portE (es:List End) (e:End):Int:=if e∈es then 500+(es.idxOf e:Nat) else 0
def endP (es:List End) (p:Int):Option End:=if 500≤p then es[(p-500).toNat]? else none
def putE (es:List End) (e:End):List End:=if e∈es∨6≤es.length then es else es++[e]
def putP (es:List End) (e:End):Int:=if e∈es then portE es e else if 6≤es.length then 0 else 500+es.length
def TabP (es:List End):Prop:=es.length≤6∧(∀ e∈es,e.inn)∧es.Nodup
noncomputable def lineOut (es:List End) (l:Bs):List End × Bs:=match says l with
 | none=>(es,l)
 | some e=>(putE es e,if putP es e=0 then NONE else (⟨50,putP es e⟩:End).line)
noncomputable def linesOut:List End→List Bs→List End × Bs
 | es,[]=>(es,[])
 | es,l::ls=>let r:=lineOut es l;let q:=linesOut r.1 ls;(q.1,r.2++[59]++q.2)
noncomputable def streamO (es:List End) (s:Bs):List End × Bs:=linesOut es (zu s).1
noncomputable def lineIn (es:List End) (l:Bs):Bs:=match boxP l with
 | none=>l
 | some p=>match endP es p with
  | none=>l
  | some e=>e.line
theorem linesOut_snoc (es:List End) (ls:List Bs) (l:Bs):linesOut es (ls++[l])=((lineOut (linesOut es ls).1 l).1,(linesOut es ls).2++(lineOut (linesOut es ls).1 l).2++[59]):=by
 induction ls generalizing es with
 | nil=>simp [linesOut]
 | cons x ls ih=>simp [linesOut,ih]
theorem End.ext' {e f:End} (h:e.a=f.a∧e.p=f.p):e=f:=by
 cases e;cases f;simp at h;simp [h]
theorem End.ne' {e f:End} (h:¬ (e.a=f.a∧e.p=f.p)):e≠f:=by rintro rfl;exact h ⟨rfl,rfl⟩
theorem idxOf_at {es:List End} {e:End} {i:Nat} (h:es[i]? = some e) (hn:e∉es.take i):es.idxOf e=i:=by
 obtain ⟨hi,he⟩:=List.getElem?_eq_some_iff.1 h
 have hm:e∈es:=he ▸ List.getElem_mem hi
 rcases Nat.lt_trichotomy (es.idxOf e) i with h1 | h1 | h1
 ·exfalso
  apply hn
  have hlt:=List.idxOf_lt_length_of_mem hm
  have h2:es[es.idxOf e]=e:=List.getElem_idxOf hlt
  rw [List.mem_take_iff_getElem]
  exact ⟨es.idxOf e,by omega,h2⟩
 ·exact h1
 ·exfalso
  have h3:=List.not_of_lt_findIdx (p:=(· == e)) (xs:=es) (i:=i) (by simpa [List.idxOf] using h1)
  simp [he] at h3
theorem findE_at {es:List End} {e:End} {i:Nat} (h:es[i]? = some e) (hn:e∉es.take i):findE es e=i:=by
 have hm:e∈es:=List.mem_of_getElem? h
 unfold findE;rw [if_pos hm,idxOf_at h hn]
theorem findE_no {es:List End} {e:End} (h:e∉es):findE es e=-1:=by unfold findE;rw [if_neg h]
theorem findE_bd (es:List End) (e:End):-1≤findE es e∧findE es e<es.length:=by
 unfold findE
 split
 ·rename_i h;have:=List.idxOf_lt_length_of_mem h;omega
 ·omega
theorem portE_eq (es:List End) (e:End):portE es e=if findE es e<0 then 0 else 500+findE es e:=by
 unfold portE findE
 split
 ·rw [if_neg (by omega)]
 ·rfl
theorem endP_some {es:List End} {q:Int} {x:End} (h:es[(q-500).toNat]? = some x) (h0:500≤q):endP es q=some x:=by unfold endP;rw [if_pos h0,h]
theorem endP_none {es:List End} {q:Int} (h:¬ (500≤q∧q≤500+es.length-1)):endP es q=none:=by
 unfold endP
 split
 ·rw [List.getElem?_eq_none (by omega)]
 ·rfl
theorem putE_mem {es:List End} {e:End} (h:e∈es):putE es e=es∧putP es e=portE es e:=by
 unfold putE putP;rw [if_pos (.inl h),if_pos h];exact ⟨rfl,rfl⟩
theorem putE_full {es:List End} {e:End} (h:e∉es) (hf:6≤es.length):putE es e=es∧putP es e=0:=by
 unfold putE putP;rw [if_pos (.inr hf),if_neg h,if_pos hf];exact ⟨rfl,rfl⟩
theorem putE_new {es:List End} {e:End} (h:e∉es) (hf:¬ 6≤es.length):putE es e=es++[e]∧putP es e=500+es.length:=by
 unfold putE putP;rw [if_neg (by simp [h];omega),if_neg h,if_neg hf];exact ⟨rfl,rfl⟩
theorem not_mem_take_succ {es:List End} {e x:End} {i:Nat} (h:es[i]? = some x) (hn:e∉es.take i) (hx:x≠e):e∉es.take (i+1):=by
 rw [vA h]
 simp only [List.mem_append,List.mem_singleton,not_or]
 exact ⟨hn,fun h=>hx h.symm⟩
@[reducible] def zS (es:List End):List (List Value):=es.map End.row
theorem vH {es:List End}:∀ r∈zS es,r.length=2:=by
 intro r hr
 obtain ⟨x,_,rfl⟩:=List.mem_map.1 hr
 rfl
theorem endRows_len (es:List End):(zS es).length=es.length:=by simp
theorem endRows_flat_len (es:List End):(zS es).flatten.length=es.length*2:=by rw [flat_len vH,endRows_len]
theorem endRows_one {es:List End}:∀ u∈(zS es).flatten,oneCell u=true:=by
 intro u hu
 simp only [List.mem_flatten,List.mem_map] at hu
 obtain ⟨r,⟨e,_,rfl⟩,hu⟩:=hu
 simp at hu;rcases hu with rfl | rfl<;>rfl
theorem endRows_at {es:List End} {i:Nat} {e:End} (h:es[i]? = some e):(zS es)[i]? = some e.row:=by simp [h]
theorem Sl.takeE {S:St} {a:Option Addr} {es:List End} (h:Sl S 2 a (zS es)) (i:Nat):Sl S 2 a (zS (es.take i)):=by
 have:=h.take i
 simpa [zS,List.map_take] using this
theorem sl_put {X:List Nat} {S0 S:St} {L:List (Nat × Obj)} {b:Nat} {cs cs1:List Value} {es:List End} {e:End} (H:Loc X S0 S L) (hb:Has L b (Cs cs 31)) (h1:cs1.take ((0+es.length)*2)=(zS es).flatten) (h2:cs.take ((0+es.length+1)*2)=cs1.take ((0+es.length)*2)++e.row) :
    Sl S 2 (some ⟨b,0,none⟩) (zS (es++[e])):=by
  refine vn (H.get hb) (n:=(0+es.length+1)*2) (by simp) ?_ vH
  rw [h2,h1];simp
theorem own_put {X:List Nat} {S0 S:St} {L:List (Nat × Obj)} {b cap:Nat} {cs cs1:List Value} {es:List End} {e:End} (H:Loc X S0 S L) (hb:Has L b (Cs cs 31)) (h1:cs1.take ((0+es.length)*2)=(zS es).flatten) (h2:cs.take ((0+es.length+1)*2)=cs1.take ((0+es.length)*2)++e.row)
    (hn:es.length+1≤cap) (hl:cs.length=cap*2):OwnB S b 31 2 cap (zS (es++[e])):=by
  refine ⟨cs,H.get hb,by simpa using hn,hl,?_,vH⟩
  rw [show (zS (es++[e])).length=0+es.length+1 by simp,h2,h1];simp
theorem putE_len6 {es:List End} (e:End) (h:es.length≤6):(putE es e).length≤6:=by
 unfold putE;split
 ·exact h
 ·rename_i hc;simp at hc ⊢;omega
theorem lineOut_len6 {es:List End} (l:Bs) (h:es.length≤6):(lineOut es l).1.length≤6:=by
 unfold lineOut;split
 ·exact h
 ·exact putE_len6 _ h
theorem lineOut_none {es:List End} {l:Bs} (h:says l=none):lineOut es l=(es,l):=by unfold lineOut;rw [h]
theorem lineOut_full {es:List End} {l:Bs} {e:End} (h:says l=some e) (hp:putP es e=0):lineOut es l=(putE es e,NONE):=by unfold lineOut;rw [h];simp [hp]
theorem lineOut_port {es:List End} {l:Bs} {e:End} (h:says l=some e) (hp:¬ putP es e=0):lineOut es l=(putE es e,(⟨50,putP es e⟩:End).line):=by unfold lineOut;rw [h];simp [hp]
theorem prefix5 {l:Bs}:PORT <+: l↔l.take 5=PORT:=by
 rw [List.prefix_iff_eq_take];exact ⟨fun h=>h.symm,fun h=>h.symm⟩
theorem said_take {l:Bs} (h:l.take 5=PORT):said l=rd (l.drop 5):=by unfold said;rw [if_pos (prefix5.2 h)]
theorem said_ntake {l:Bs} (h:l.take 5≠PORT):said l=none:=by unfold said;rw [if_neg (fun hc=>h (prefix5.1 hc))]
theorem says_yes {l:Bs} {a p:Int} (h:l.take 5=PORT) (hr:RdE (l.drop 5) a p) (hi:InE a p):says l=some ⟨a,p⟩:=by
 unfold says;rw [said_take h,rd_some (e:=⟨a,p⟩) hr];exact if_pos hi
theorem says_no1 {l:Bs} {a p:Int} (h:l.take 5=PORT) (hr:RdE (l.drop 5) a p) (hi:¬ InE a p):says l=none:=by
 unfold says;rw [said_take h,rd_some (e:=⟨a,p⟩) hr];exact if_neg hi
theorem says_no2 {l:Bs} (h:l.take 5=PORT) (hr:∀ x y,¬ RdE (l.drop 5) x y):says l=none:=by
 unfold says;rw [said_take h,rd_none hr];rfl
theorem says_no3 {l:Bs} (h:l.take 5≠PORT):says l=none:=by
 unfold says;rw [said_ntake h];rfl
theorem box_yes {l:Bs} {a p:Int} (h:l.take 5=PORT) (hr:RdE (l.drop 5) a p) (hi:a=50):boxP l=some p:=by
 unfold boxP;rw [said_take h,rd_some (e:=⟨a,p⟩) hr];exact if_pos hi
theorem box_no1 {l:Bs} {a p:Int} (h:l.take 5=PORT) (hr:RdE (l.drop 5) a p) (hi:¬ a=50):boxP l=none:=by
 unfold boxP;rw [said_take h,rd_some (e:=⟨a,p⟩) hr];exact if_neg hi
theorem box_no2 {l:Bs} (h:l.take 5=PORT) (hr:∀ x y,¬ RdE (l.drop 5) x y):boxP l=none:=by
 unfold boxP;rw [said_take h,rd_none hr];rfl
theorem box_no3 {l:Bs} (h:l.take 5≠PORT):boxP l=none:=by
 unfold boxP;rw [said_ntake h];rfl
theorem lineIn_none {es:List End} {l:Bs} (h:boxP l=none):lineIn es l=l:=by unfold lineIn;rw [h]
theorem lineIn_no {es:List End} {l:Bs} {p:Int} (h:boxP l=some p) (he:endP es p=none):lineIn es l=l:=by unfold lineIn;rw [h];simp only;rw [he]
theorem lineIn_yes {es:List End} {l:Bs} {p:Int} {e:End} (h:boxP l=some p) (he:endP es p=some e):lineIn es l=e.line:=by unfold lineIn;rw [h];simp only;rw [he]
theorem take5_short {l:Bs} (h:l.length<5):l.take 5≠PORT:=by
 intro hc
 have:=congrArg List.length hc
 rw [List.length_take] at this
 simp [PORT] at this;omega
theorem eTxt_len {a p:Int} (h:OkE a p):(eTxt a p).length≤9:=by
 unfold OkE at h
 have h1:=dig_le4 (n:=a.toNat) (by omega)
 have h2:=dig_le4 (n:=p.toNat) (by omega)
 unfold eTxt;simp;omega
theorem eText_len (a p:Int):(eText a p).length≤9:=by
 unfold eText;split
 ·exact eTxt_len ‹_›
 ·simp
theorem End.line_eq (e:End):e.line=if e.ok then PORT++eText e.a e.p else []:=by
 unfold End.line;split
 ·rename_i h;rw [show eText e.a e.p=e.txt from if_pos h]
 ·rfl
theorem End.line_len (e:End):e.line.length≤14:=by
 rw [End.line_eq];split
 ·have:=eText_len e.a e.p;simp [PORT];omega
 ·simp
theorem lineOut_snd_len (es:List End) (l:Bs):(lineOut es l).2.length≤l.length+14:=by
 unfold lineOut;split
 ·simp
 ·simp only;split
  ·simp [NONE]
  ·have:=End.line_len ⟨50,putP es ‹_›⟩;omega
theorem lineIn_len (es:List End) (l:Bs):(lineIn es l).length≤l.length+14:=by
 unfold lineIn;split
 ·omega
 ·split
  ·omega
  ·have:=End.line_len ‹_›;omega
theorem linesOut_len6 {es:List End} (ls:List Bs) (h:es.length≤6):(linesOut es ls).1.length≤6:=by
 induction ls generalizing es with
 | nil=>exact h
 | cons l ls ih=>exact ih (lineOut_len6 l h)
theorem linesOut_take {es es1:List End} {ls:List Bs} {i:Nat} {x tx:Bs} (hx:ls[i]? = some x) (h:linesOut es (ls.take i)=(es1,tx)):linesOut es (ls.take (i+1))=((lineOut es1 x).1,tx++(lineOut es1 x).2++[59]):=by
 rw [vA hx,linesOut_snoc,h]
theorem mul_bd {i n:Nat} (h:i≤n) (hn:n≤1048576):i*(n+15)≤1099527356416:=by
 have:=Nat.mul_le_mul h (Nat.le_refl (n+15))
 have h2:=Nat.mul_le_mul hn (show n+15≤1048591 by omega)
 omega
theorem str_at {cs:List Value} {ls:List Bs} {i:Nat} {x:Bs} (h:cs.take ((strRows ls).length*1)=(strRows ls).flatten) (hx:ls[i]? = some x):cs[0+i*1]? = some (str x):=by
 rw [strRows_flat] at h
 have hi:=(List.getElem?_eq_some_iff.1 hx).1
 have h2:(cs.take ((strRows ls).length*1))[i]? = some (str x):=by rw [h];simp [hx]
 rw [List.getElem?_take_of_lt (by simpa using hi)] at h2
 simpa using h2
theorem spl_le (s:UInt8) (l:Bs):∀ x∈(spl s l).1,x.length≤l.length:=by
 induction l with
 | nil=>simp [spl]
 | cons c l ih=>
  simp only [spl]
  split
  ·intro x hx
   simp only [List.mem_cons] at hx
   rcases hx with rfl | hx
   ·simp
   ·have:=ih x hx;simp;omega
  ·split<;>rename_i h<;>rw [h] at ih
   ·simp
   ·intro x hx
    simp only [List.mem_cons] at hx
    rcases hx with rfl | hx
    ·have:=ih _ (List.mem_cons_self);simp only [List.length_cons];omega
    ·have:=ih x (by simp [hx]);simp only [List.length_cons];omega
theorem lines_le (l:Bs):∀ x∈(zu l).1,x.length≤l.length:=spl_le 59 l
theorem TabP_of {es:List End} (h1:es.length≤6) (h2:∀ e∈es,e.inn) (h3:es.Nodup):TabP es:=⟨h1,h2,h3⟩
theorem TabP_no1 {es:List End} {x:End} {i:Nat} (hx:es[i]? = some x) (h:¬ InE x.a x.p):¬ TabP es:=fun hp=>h (hp.2.1 x (List.mem_of_getElem? hx))
theorem TabP_no2 {es:List End} {x:End} {i:Nat} (hx:es[i]? = some x) (h:0≤findE (es.take i) x):¬ TabP es:=by
 intro hp
 have hm:x∈es.take i:=by
  apply Classical.byContradiction
  intro hn
  rw [findE_no hn] at h;omega
 have h2:=hp.2.2
 obtain ⟨hi,he⟩:=List.getElem?_eq_some_iff.1 hx
 rw [List.mem_take_iff_getElem] at hm
 obtain ⟨j,hj,hje⟩:=hm
 exact (List.pairwise_iff_getElem.1 h2) j i (by omega) hi (by omega) (by rw [hje,he])
theorem nodup_take_succ {es:List End} {x:End} {i:Nat} (hx:es[i]? = some x) (hn:(es.take i).Nodup) (h:¬ 0≤findE (es.take i) x):(es.take (i+1)).Nodup:=by
 have hm:x∉es.take i:=by
  intro hm
  exact h (by unfold findE;rw [if_pos hm];omega)
 rw [vA hx,List.nodup_append]
 refine ⟨hn,by simp,?_⟩
 intro a ha b hb e
 simp at hb;subst hb;subst e
 exact hm ha
theorem strRows_at {ls:List Bs} {i:Nat} {l:Bs} (h:ls[i]? = some l):(strRows ls)[i]? = some [str l]:=by simp [h]
variable {S:St} {E:Env} {K:Value→St→Prop}
theorem W_eqEv {x y:Operand} {a p c q:Int} (hx:E.ev x=some (.agg #[int a,int p])) (hy:E.ev y=some (.agg #[int c,int q])) (k:∀ t:Bool,(t=true↔a=c∧p=q)→K (.bool t) S):(SOp.eqv false 31 x y).W Tryz.prog E S K:=W_eqE hx hy (k _ decide_eq_true_iff)
end
section
variable {P:Program} {S:St} {E:Env} {K:Value→St→Prop}
def LEN8:Bs:=[0,1,2,2,3,3,3,3,4,4,4,4,4,4,4,4,5,5,5,5,5,5,5,5,5,5,5,5,5,5,5,5,6,6,6,6,6,6,6,6,6,6,6,6,6,6,6,6,6,6,6,6,6,6,6,6,6,6,6,6,6,6,6,6,7,7,7,7,7,7,7,7,7,7,7,7,7,7,7,7,7,7,7,7,7,7,7,7,7,7,7,7,7,7,7,7,7,7,7,7,7,7,7,7,7,7,7,7,7,7,7,7,7,7,7,7,7,7,7,7,7,7,7,7,7,7,7,7,8,8,8,8,8,8,8,8,8,8,8,8,8,8,8,8,8,8,8,8,8,8,8,8,8,8,8,8,8,8,8,8,8,8,8,8,8,8,8,8,8,8,8,8,8,8,8,8,8,8,8,8,8,8,8,8,8,8,8,8,8,8,8,8,8,8,8,8,8,8,8,8,8,8,8,8,8,8,8,8,8,8,8,8,8,8,8,8,8,8,8,8,8,8,8,8,8,8,8,8,8,8,8,8,8,8,8,8,8,8,8,8,8,8,8,8,8,8,8,8,8,8,8,8,8,8,8,8]
def SMALLS:Bs:=[48,48,48,49,48,50,48,51,48,52,48,53,48,54,48,55,48,56,48,57,49,48,49,49,49,50,49,51,49,52,49,53,49,54,49,55,49,56,49,57,50,48,50,49,50,50,50,51,50,52,50,53,50,54,50,55,50,56,50,57,51,48,51,49,51,50,51,51,51,52,51,53,51,54,51,55,51,56,51,57,52,48,52,49,52,50,52,51,52,52,52,53,52,54,52,55,52,56,52,57,53,48,53,49,53,50,53,51,53,52,53,53,53,54,53,55,53,56,53,57,54,48,54,49,54,50,54,51,54,52,54,53,54,54,54,55,54,56,54,57,55,48,55,49,55,50,55,51,55,52,55,53,55,54,55,55,55,56,55,57,56,48,56,49,56,50,56,51,56,52,56,53,56,54,56,55,56,56,56,57,57,48,57,49,57,50,57,51,57,52,57,53,57,54,57,55,57,56,57,57]
def DIG36:Bs:=[48,49,50,51,52,53,54,55,56,57,97,98,99,100,101,102,103,104,105,106,107,108,109,110,111,112,113,114,115,116,117,118,119,120,121,122]
theorem SMALLS_len:SMALLS.length=200:=by decide +kernel
theorem DIG36_len:DIG36.length=36:=by decide +kernel
theorem smalls_all:∀ k:Fin 100,SMALLS[2*k.val]? = some (dg (k.val / 10))∧SMALLS[2*k.val+1]? = some (dg (k.val % 10)):=by decide +kernel
theorem smalls0 {k:Nat} (h:k<100):SMALLS[2*k]? = some (dg (k / 10)):=(smalls_all ⟨k,h⟩).1
theorem smalls1 {k:Nat} (h:k<100):SMALLS[2*k+1]? = some (dg (k % 10)):=(smalls_all ⟨k,h⟩).2
theorem dig36_all:∀ k:Fin 10,DIG36[k.val]? = some (dg k.val):=by decide +kernel
theorem dig36 {k:Nat} (h:k<10):DIG36[k]? = some (dg k):=dig36_all ⟨k,h⟩
theorem len8_all:∀ k:Fin 256,∃ c:UInt8,LEN8[k.val]? = some c∧(100≤k.val→c=7∨c=8)∧(k.val=1→c=1)∧(k.val=2∨k.val=3→c=2):=by
 have h:∀ k:Fin 256,(100≤k.val→LEN8[k.val]? = some 7∨LEN8[k.val]? = some 8)∧(k.val=1→LEN8[k.val]? = some 1)∧(k.val=2∨k.val=3→LEN8[k.val]? = some 2):=by decide +kernel
 intro k
 obtain ⟨h1,h2,h3⟩:=h k
 have hl:LEN8.length=256:=by decide +kernel
 have hk:k.val<LEN8.length:=by rw [hl];exact k.isLt
 refine ⟨LEN8[k.val],List.getElem?_eq_getElem hk,?_⟩
 rw [List.getElem?_eq_getElem hk] at h1 h2 h3
 simp only [Option.some.injEq] at h1 h2 h3
 exact ⟨h1,h2,h3⟩
theorem dig2 {n:Nat} (h0:10≤n) (h:n<100):dig n=[dg (n / 10),dg (n % 10)]:=by rw [dig_ge (by omega),dig_lt (by omega)];rfl
theorem dig3 {n:Nat} (h0:100≤n) (h:n<1000):dig n=[dg (n / 100),dg (n % 100 / 10),dg (n % 100 % 10)]:=by
 rw [dig_ge (by omega),dig2 (by omega) (by omega)]
 simp only [List.cons_append,List.nil_append,List.cons.injEq,and_true]
 refine ⟨?_,?_,?_⟩<;>congr 1<;>omega
theorem smalls2 {n:Nat} (h0:10≤n) (h:n<100):(SMALLS.drop (2*n)).take 2=dig n:=by
 rw [dig2 h0 h]
 have h1:=smalls0 h
 have h2:=smalls1 h
 obtain ⟨i1,e1⟩:=List.getElem?_eq_some_iff.1 h1
 obtain ⟨i2,e2⟩:=List.getElem?_eq_some_iff.1 h2
 rw [List.drop_eq_getElem_cons i1,List.drop_eq_getElem_cons i2,e1,e2]
 rfl
theorem dig36_1 {n:Nat} (h:n<10):(DIG36.drop n).take 1=dig n:=by
 rw [dig_lt h]
 obtain ⟨i1,e1⟩:=List.getElem?_eq_some_iff.1 (dig36 h)
 rw [List.drop_eq_getElem_cons i1,e1];rfl
theorem wrapu32_in {n:Int} (h0:0≤n) (h1:n≤4294967295):IntKind.u32.wrap n=n:=by
 simp only [IntKind.wrap,IntKind.signed,IntKind.bits,Bool.false_and]
 simp only [Bool.false_eq_true,if_false]
 omega
theorem wrapu64_in {n:Int} (h0:0≤n) (h1:n≤18446744073709551615):IntKind.u64.wrap n=n:=by
 simp only [IntKind.wrap,IntKind.signed,IntKind.bits,Bool.false_and]
 simp only [Bool.false_eq_true,if_false]
 omega
theorem W_remU {kd:IntKind} {x y:Operand} {n m:Nat} (hx:E.ev x=some (.int kd n)) (hy:E.ev y=some (.int kd m)) (hm:m≠0) (k:K (.int kd (n % m:Nat)) S):(SOp.bin .rem x y).W P E S K:=
 W_bin hx hy (by simp only [binI];rw [if_neg (by omega)];rfl) k
theorem W_quoU {kd:IntKind} {x y:Operand} {n m:Nat} (hx:E.ev x=some (.int kd n)) (hy:E.ev y=some (.int kd m)) (hm:m≠0) (hw:kd.wrap ((n / m:Nat):Int)=(n / m:Nat)) (k:K (.int kd (n / m:Nat)) S):(SOp.bin .quo x y).W P E S K:=by
 refine W_bin (v:=.int kd (n / m:Nat)) hx hy ?_ k
 simp only [binI]
 rw [if_neg (by omega)]
 have e:(n:Int).tdiv (m:Int)=((n / m:Nat):Int):=rfl
 rw [e,hw]
theorem W_mulU {kd:IntKind} {x y:Operand} {n m:Nat} (hx:E.ev x=some (.int kd n)) (hy:E.ev y=some (.int kd m)) (hw:kd.wrap ((n*m:Nat):Int)=(n*m:Nat)) (k:K (.int kd (n*m:Nat)) S):(SOp.bin .mul x y).W P E S K:=by
 refine W_bin (v:=.int kd (n*m:Nat)) hx hy ?_ k
 simp only [binI]
 rw [← hw];rfl
theorem W_addU {kd:IntKind} {x y:Operand} {n m:Nat} (hx:E.ev x=some (.int kd n)) (hy:E.ev y=some (.int kd m)) (hw:kd.wrap ((n+m:Nat):Int)=(n+m:Nat)) (k:K (.int kd (n+m:Nat)) S):(SOp.bin .add x y).W P E S K:=by
 refine W_bin (v:=.int kd (n+m:Nat)) hx hy ?_ k
 simp only [binI]
 rw [← hw];rfl
theorem fdiv_nat (n m:Nat):(n:Int).fdiv (m:Int)=((n / m:Nat):Int):=by
 rw [Int.fdiv_eq_ediv_of_nonneg _ (by omega)];rfl
theorem W_shrU {t yt ty:TypeId} {x y:Operand} {kd k2:IntKind} {n j m:Nat} (hx:E.ev x=some (.int kd n)) (hy:E.ev y=some (.int k2 j)) (h1:j≤kd.bits) (hm:2 ^ j=m) (hk:K (.int kd (n / m:Nat)) S):(SOp.raw (.binOp .shr t x y yt) ty).W P E S K:=by
 refine W_shr hx hy (by omega) (by omega) ?_
 have e:((2:Int) ^ ((j:Int).toNat))=((m:Nat):Int):=by rw [← hm];simp
 rw [e,fdiv_nat];exact hk
structure Glob (S:St):Prop where
 p2:S.cell? ⟨4,2,none⟩=some (.int .u64 100)
 p3:S.cell? ⟨4,3,none⟩=some (.int .u64 1000)
 e1:∃ t a,S.cell? ⟨1,0,none⟩=some (.iface t a)
 e2:∃ t a,S.cell? ⟨2,0,none⟩=some (.iface t a)
theorem Glob.mono {S S':St} (h:Glob S) (he:Ext [] S S'):Glob S':=
 ⟨he.cell h.p2,he.cell h.p3,let ⟨t,a,h1⟩:=h.e1;⟨t,a,he.cell h1⟩,let ⟨t,a,h1⟩:=h.e2;⟨t,a,he.cell h1⟩⟩
end
section
open Go
theorem u8sub (c:UInt8):∃ w:Nat,IntKind.u8.wrap ((c.toNat:Int)-48)=w∧(48≤c.toNat→w=c.toNat-48)∧(c.toNat<48→208≤w):=by
 have hc:c.toNat<256:=c.toNat_lt
 simp only [IntKind.wrap,IntKind.signed,IntKind.bits,Bool.false_and,Bool.false_eq_true,if_false]
 by_cases h:48≤c.toNat
 ·exact ⟨c.toNat-48,by omega,by omega,by omega⟩
 ·exact ⟨c.toNat+208,by omega,by omega,by omega⟩
theorem W_errNil {P:Program} {E:Env} {S:St} {K:Value→St→Prop} {neg t0:Bool} {t:TypeId} {ms:Array (String × TypeId)} {x:Operand} {tx:TypeId} {vx:Value} (ht:P.underlying t=some (.interface ms)) (hx:E.ev x=some (bif t0 then .iface tx vx else .nilIface)) (hk:K (.bool (t0==neg)) S):(SOp.eqv neg t x (.const .nilIface)).W P E S K:=by
 cases t0 with
 | false=>exact W_eqnn ht rfl hx (by cases neg<;>exact hk)
 | true=>exact W_eqnil ht hx rfl (by cases neg<;>exact hk)
theorem Glob.nin1 {S:St} (h:Glob S) {b:Nat} (hb:S b=none):1∉[b]:=by
 obtain ⟨t,a,he⟩:=h.e1
 intro hm
 obtain rfl:1=b:=by simpa using hm
 simp [St.cell?,hb] at he
structure AtoiP (l:Bs) (t:Bool) (v:Int):Prop where
 lo:-1000000000000000000≤v
 hi:v≤1000000000000000000
 d:∀ n,l=dig n→t=false∧v=n
 e:l=[]→t=true
theorem AtoiP.nil:AtoiP [] true 0:=⟨by omega,by omega,fun n h=>by have:=dig_pos n;rw [← h] at this;simp at this,fun _=>rfl⟩
theorem AtoiP.bad {l:Bs} {c:UInt8} (hc:c∈l) (h:¬ (48≤c.toNat∧c.toNat≤57)):AtoiP l true 0:=⟨by omega,by omega,fun n e=>by subst e;exact absurd (dig_mem hc) h,fun e=>rfl⟩
theorem dig_head {n:Nat} {c:UInt8} {l:Bs} (h:c::l=dig n):48≤c.toNat∧c.toNat≤57:=dig_mem (n:=n) (h ▸ List.mem_cons_self)
theorem AtoiP.good {l:Bs} {n:Nat} (h0:l≠[]) (hn:n≤1000000000000000000) (hv:n=vD l):AtoiP l false n:=
 ⟨by omega,by omega,fun m e=>⟨rfl,by rw [hv,e,vD_dig]⟩,fun e=>absurd e h0⟩
theorem AtoiP.sign {l r:Bs} {s:UInt8} {v:Int} (h:l=s::r) (hs:s=43∨s=45) (h1:-1000000000000000000≤v) (h2:v≤1000000000000000000) (t:Bool):AtoiP l t v:=
 ⟨h1,h2,fun n e=>by have:=dig_head (h ▸ e);rcases hs with rfl | rfl<;>simp at this,fun e=>by rw [h] at e;cases e⟩
theorem AtoiP.head {l:Bs} {c:UInt8} {v:Int} (h:l[0]? = some c) (hs:¬ (48≤c.toNat∧c.toNat≤57)) (h1:-1000000000000000000≤v) (h2:v≤1000000000000000000) (t:Bool):AtoiP l t v:=
 ⟨h1,h2,fun n e=>by subst e;exact absurd (dig_mem (List.mem_of_getElem? h)) hs,fun e=>by rw [e] at h;cases h⟩
theorem sgn_drop {l:Bs} {c:UInt8} (h:l[0]? = some c) (hn:¬ (((l.drop (1:Int).toNat).length:Int)<1)) (hs:(c.toNat:Int)=45∨(c.toNat:Int)=43) :
    (l=l.drop (1:Int).toNat∧l.drop (1:Int).toNat≠[])∨((∃ s,l=s::l.drop (1:Int).toNat∧(s=43∨s=45))∧l.drop (1:Int).toNat≠[]):=by
  match l,h with
  | c'::r,h=>
    have e:c'=c:=by simpa using h
    subst e
    refine .inr ⟨⟨c',rfl,?_⟩,by intro e;rw [e] at hn;simp at hn⟩
    rcases hs with hs | hs
    · exact .inr (UInt8.toNat_inj.1 (by have:(45:UInt8).toNat=45:=rfl;omega))
    · exact .inl (UInt8.toNat_inj.1 (by have:(43:UInt8).toNat=43:=rfl;omega))
theorem pow18 {i:Nat} (h:i<18):10 ^ i≤100000000000000000:=Nat.le_trans (Nat.pow_le_pow_right (by omega) (show i≤17 by omega)) (by decide)
theorem pow18' {i:Nat} (h:i≤18):10 ^ i≤1000000000000000000:=Nat.le_trans (Nat.pow_le_pow_right (by omega) h) (by decide)
theorem rd_cut {l:Bs} {e:End} (h:rd l=some e):bef l 32=dig e.a.toNat∧aft l 32=dig e.p.toNat∧e.ok∧l=e.txt:=by
 have h1:=rd_spec h
 have hl:l=dig e.a.toNat++32::dig e.p.toNat:=by have:=words_two h1.words;simpa using this
 have hi:l.idxOf 32=(dig e.a.toNat).length:=by
  rw [hl,List.idxOf_append,if_neg (dig_no32 _)];simp
 refine ⟨?_,?_,h1.1,h1.2⟩
 ·unfold bef;rw [hi,hl,List.take_left]
 ·unfold aft;rw [hi,hl,← List.drop_drop,List.drop_left];rfl
def End.text (e:End):Bs:=if e.ok then e.txt else []
theorem rd_yes {l:Bs} {t1 t2:Bool} {v1 v2:Int} (h1:AtoiP (bef l 32) t1 v1) (e1:t1=false) (h:(⟨v1,v2⟩:End).text=l):rd l=some ⟨v1,v2⟩:=by
 unfold End.text at h
 split at h
 ·rename_i hok;rw [← h];exact rd_txt hok
 ·subst h;rw [h1.e rfl] at e1;cases e1
theorem rd_fail {l:Bs} {t1 t2:Bool} {v1 v2:Int} (h1:AtoiP (bef l 32) t1 v1) (h2:AtoiP (aft l 32) t2 v2) (h:t1=true∨t2=true∨(⟨v1,v2⟩:End).text≠l):rd l=none:=by
 rcases hr:rd l with _ | e
 ·rfl
 ·exfalso
  obtain ⟨a1,a2,a3,a4⟩:=rd_cut hr
  obtain ⟨b1,b2⟩:=h1.d _ a1
  obtain ⟨c1,c2⟩:=h2.d _ a2
  have hok:=a3
  unfold End.ok OkE at hok
  have he:(⟨v1,v2⟩:End)=e:=by
   cases e;simp only at *;rw [b2,c2];congr 1<;>omega
  rcases h with h | h | h
  ·rw [b1] at h;cases h
  ·rw [c1] at h;cases h
  ·apply h;rw [he];unfold End.text;rw [if_pos a3,a4]
end
end Go.Proofs.YtnccejlibbgpkaaGreatDoor
