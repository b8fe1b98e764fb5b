/-
  The law FnBoxTwice answers true at every input that its row allows, at every start that lays its variables: part 7 of 8.
-/
import GoSem.Step
import Derived.Conc.Token
import Derived.AtR
import Derived.Conc.Own2
import Derived.Conc.CrowdComm
import Derived.Conc.CrowdTrace
import Derived.Conc.Fork
import Derived.Conc.CrowdStepC
import Derived.Below
import Derived.Laws.Append
import Derived.Test.YtnccejlibbgpkaaGreatDoorChecked
import Derived.Test.YtnccejlibbgpkaaGreatDoorProg
import Derived.MapKept
import Derived.Conc.EventLaws
import Derived.Test.YtnccejlibbgpkaaGreatDoorRows
import Derived.Conc.LeavingOf
import Derived.LaidMore
import Derived.ProofKit
import Derived.OpenShut
import Derived.OpenVars
import Derived.Stop.Joined
import Derived.Test.YtnccejlibbgpkaaGreatDoorW7f
set_option linter.unusedSimpArgs false
set_option linter.unusedVariables false
set_option linter.unusedSectionVars false
namespace Go.Proofs.YtnccejlibbgpkaaGreatDoor
set_option maxRecDepth 100000
section
open Go
open Go.ChangeShapes Go.WideShapes Go.ChangeAt Go.RowKit Go.Conc
theorem own_:ownKnob Tryz.prog.godebug=none:=by kernel_rfl
theorem laidOut_:laidOutB Tryz.prog=true:=by kernel_rfl
theorem gPow : Tryz.prog.globalNamed "internal/strconv.uint64pow10"=some 4:=by kernel_rfl
theorem gSyn : Tryz.prog.globalNamed "strconv.ErrSyntax"=some 2:=by kernel_rfl
theorem gEnd : Tryz.prog.globalNamed "loop.example/hatchway/impl.errEnd"=some 1:=by kernel_rfl
theorem tPow:(Tryz.prog.globals[4]?).map (·.type)=some 257:=by kernel_rfl
theorem tSyn:(Tryz.prog.globals[2]?).map (·.type)=some 215:=by kernel_rfl
theorem tEnd:(Tryz.prog.globals[1]?).map (·.type)=some 215:=by kernel_rfl
theorem cells246_:Tryz.prog.cellsOf 246=1:=by kernel_rfl
@[reducible] def laid6:List (String × DataW Unit) := [("math/bits.deBruijn32tab",Rows.laid_math_bits_deBruijn32tab), ("math/bits.deBruijn64tab",Rows.laid_math_bits_deBruijn64tab), ("internal/strconv.uint64pow10",Rows.laid_internal_strconv_uint64pow10), ("strconv.ErrRange",Rows.laid_strconv_ErrRange), ("strconv.ErrSyntax",Rows.laid_strconv_ErrSyntax), ("loop.example/hatchway/impl.errEnd",Rows.laid_loop_example_hatchway_impl_errEnd)]
theorem trod_iface_cs {H:Type} {enc:TypeId × Value→H} {P:Program} {w:World} {base:Nat} {sp:Nat→Bool} {fuel:Nat} {t:TypeId} {ms:Array (String × TypeId)} {cs:List Value} {n:String} {d:DataW H} {p:List MemPlace} (ht:P.underlying t=some (.interface ms))
    (h:DataW.trod enc P w base sp false fuel t cs=some (.iface n d,p)):∃ u v,cs=[.iface u v]:=by
  cases fuel with
  | zero=>cases h
  | succ fuel=>
    unfold DataW.trod at h
    rw [ht] at h
    split at h<;>first | exact ⟨_,_,rfl⟩ | (exfalso;simp_all;done)
theorem worldSt_cell (W:World) (a:Addr):(worldSt W).cell? a=W.cell? a:=by
 unfold St.cell? World.cell? worldSt
 simp only
 cases h:W.heap[a.block]? with
 | none=>rfl
 | some o=>cases o<;>rfl
theorem of_laid {W:World} (h:laidMetH Tryz.prog laid6 W):Glob (worldSt W):=by
 rw [MakeChecks.laidMetH_plain _ _ _ (by kernel_rfl)] at h
 obtain ⟨ps,⟨_,_,_,_,_,_,_,_,_,_,⟨_,_,_,_,_,_,_,_,_,_,⟨g,t,cs,fu,p,q,hg,ht,hv,hd,⟨_,_,_,_,_,_,_,_,_,_,⟨g2,t2,cs2,fu2,p2,q2,hg2,ht2,hv2,hd2,⟨g3,t3,cs3,fu3,p3,q3,hg3,ht3,hv3,hd3,_,_⟩,_⟩,_⟩,_⟩,_⟩,_⟩,_,_⟩:=h
 obtain rfl:=Option.some.inj (gPow.symm.trans hg)
 obtain rfl:=Option.some.inj (gSyn.symm.trans hg2)
 obtain rfl:=Option.some.inj (gEnd.symm.trans hg3)
 obtain rfl:=Option.some.inj (tPow.symm.trans ht)
 obtain rfl:=Option.some.inj (tSyn.symm.trans ht2)
 obtain rfl:=Option.some.inj (tEnd.symm.trans ht3)
 have iface:∀ {n:String} {g:Nat} {cs:Array Value} {fu:Nat} {nm:String} {d:DataW Unit} {p:List MemPlace},Tryz.prog.globalNamed n=some g→World.var? Tryz.prog W n=some cs→DataW.trod (fun _=>()) Tryz.prog W 0 (fun _=>true) false fu 215 cs.toList=some (.iface nm d,p)→∃ t a,(worldSt W).cell? ⟨g,0,none⟩=some (.iface t a):=by
  intro n g cs fu nm d p hg hv hd
  obtain ⟨u,v,hcs⟩:=trod_iface_cs Tryz.underlying215 hd
  refine ⟨u,v,?_⟩
  rw [worldSt_cell,World.var?_cell hg hv 0,Array.eq_one_of_toList hcs]
  rfl
 have pow:∀ (i:Nat) (k:Int),i<20→(match (Rows.laid_internal_strconv_uint64pow10:DataW Unit) with | .agg l=>l[i]? | _=>none)=some (.lit (.int .u64 k))→(worldSt W).cell? ⟨4,i,none⟩=some (.int .u64 k):=by
  intro i k hi hk
  obtain ⟨xs,m1,rfl,hx1,hlen,hn3,hel⟩:=DataW.trod_array Tryz.underlying257 hd
  simp only [Prod.mk.injEq] at hx1
  rw [hx1.1] at hk
  simp only [List.getElem?_map] at hk
  obtain ⟨x,hx,hxk⟩:=Option.map_eq_some_iff.1 hk
  have h0:=hel i (by omega)
  have hxl:i<xs.length:=(List.getElem?_eq_some_iff.1 hx).1
  rw [hx] at h0
  obtain ⟨n,e1,e2,_⟩:=DataW.trod_int Tryz.underlying246 h0
  rw [e2] at hxk
  simp only [DataW.lit.injEq,Lit.int.injEq,true_and] at hxk
  subst hxk
  rw [cells246_] at e1
  rw [worldSt_cell,World.var?_cell gPow hv i,← Array.getElem?_toList]
  have e3:=congrArg (·[0]?) e1
  simp only [Nat.mul_one] at e3
  rw [List.getElem?_take,if_pos (by omega),List.getElem?_drop] at e3
  simpa using e3
 exact ⟨pow 2 100 (by omega) rfl,pow 3 1000 (by omega) rfl,iface gEnd hv3 hd3,iface gSyn hv2 hd2⟩
end
set_option maxRecDepth 100000
section
open Go
open Go.ChangeShapes Go.WideShapes Go.ChangeAt Go.RowKit Go.Conc
theorem law_lifted {H:Type} {enc:TypeId × Value→H} {os:Os} (started:os.Started) {f:FuncId} {fn:Func} {s:ChangeSpec} (hfn:Tryz.prog.funcs[f]? = some fn)
    (wit:∃ (w:World) (tape:Tape) (i:Input),w.os=os∧(w.forCall tape i).Shaped Tryz.prog∧i.vars=[]∧Input.okWide Tryz.prog (w.forCall tape i) .any w.heap.size f i ∧
      ((s.pre enc Tryz.prog fn [] false (w.forCall tape i).memory i.args∧laidMetH Tryz.prog laid6 (w.forCall tape i).memory)∧sizedMet enc Tryz.prog fn (OpenSpec.ofChange s) false (w.forCall tape i).memory i.args)∧({}:Assume).holds Tryz.prog (lone (Frame.enter Tryz.prog f i.args .normal) [] (w.forCall tape i)))
    (runs:∀ (W:World) (base:Nat) (args:Array Value) (ds gs:List (DataW H)) (before:List MemPlace),
      (∀ (j:Nat) t v,fn.params[j]? = some t→args[j]? = some v→Value.okWide Tryz.prog W .any base t v) →
      DataW.Whole enc Tryz.prog fn.params.toList s.vars false W args.toList ds gs before →
      (DataW.weightsEach Tryz.prog (fn.params.toList++s.plain.varTypes Tryz.prog) (ds++gs)).all (·≤reachBytes)=true→Glob (worldSt W) →
      Go1 Tryz.prog true (FinR Tryz.prog fun v S=>v=.bool true∧S.g=.idle) (G (Frame.enter Tryz.prog f args .normal) []) (worldSt W))
    (post:∀ (W W':World) (args:Array Value) (ds gs:List (DataW H)) (before:List MemPlace),DataW.Whole enc Tryz.prog fn.params.toList s.vars false W args.toList ds gs before→Below W.heap.size W W'→s.post enc Tryz.prog fn false true false false W args (.bool true) W') :
    ReturnsInLeavingWide {} Tryz.checked os f .any (fun w args=>(s.pre enc Tryz.prog fn [] false w args∧laidMetH Tryz.prog laid6 w)∧sizedMet enc Tryz.prog fn (OpenSpec.ofChange s) false w args) (s.post enc Tryz.prog fn false true false false):=by
  refine returnsInLeavingWide_of_good (C:=Tryz.checked) own_ started wit ?_
  intro w tape i _ _ _ hok hpre hholds
  obtain ⟨_,_,_,fn',hfn',_,_,_,_,hval⟩:=hok
  have e:fn'=fn:=Option.some.inj (hfn'.symm.trans hfn)
  subst e
  obtain ⟨⟨⟨ds,gs,before,hw,hc⟩,hx⟩,hz⟩:=hpre
  have hw':=DataW.Whole.of_heap (w':=w.forCall tape i) (by rfl) hw
  have hx':laidMetH Tryz.prog laid6 (w.forCall tape i):=hx.of_heap (by rfl)
  have hrun:=runs (w.forCall tape i) w.heap.size i.args ds gs before hval hw' (hz.weights hw) (of_laid hx')
  obtain ⟨M,last,o,w',t',h1,h2,h3,h4⟩:=good_run (Post:=fun v W'=>s.post enc Tryz.prog fn' false true false false (w.forCall tape i) i.args v W') (finR_ok fun v S' q W' _ hb=>by rw [q.1];exact post _ _ _ ds gs before hw' hb) hrun
  exact ⟨M,last,o,w',t',h1,h2,h3,h4.mono fun v hp=>ChangeSpec.post_blind hp⟩
theorem door_met (os:Os) (args:Array Value):laidMetH Tryz.prog laid6 ((World.doorLaid Tryz.prog 4000 os).forCall (fun _ _=>0) ⟨#[],args,[]⟩).memory:=
 laidMetH_of_parts3 (fuel:=8) (laidMet_of_run' 8 (by kernel_rfl) (by kernel_rfl)) (by kernel_rfl) (by kernel_rfl)
end
set_option maxRecDepth 100000
section
open Go
open Go.ChangeShapes Go.WideShapes Go.ChangeAt Go.RowKit Go.Conc
theorem globI_start {W:World} (h:Glob (worldSt W)):GlobI (worldSt W):=
 ⟨⟨h,fun b _ e he=>by
  obtain ⟨o,_,rfl⟩:=Option.map_eq_some_iff.1 he
  rfl⟩,rfl⟩
theorem c5_:Tryz.prog.cellsOf 5=1:=by kernel_rfl
theorem by_arg {H:Type} {enc:TypeId × Value→H} {W:World} {base:Nat} {v:Value} {d:DataW H} {ps:List MemPlace} (hv:Value.okWide Tryz.prog W .any base 22 v) (h:DataW.Trod enc Tryz.prog W 0 (fun _=>true) true 22 v d ps) :
    ∃ a n cap,v=.slice a n cap∧By (worldSt W) a n∧n≤cap:=by
  obtain ⟨a0,n,cap,rfl⟩:=okWide_slice Tryz.underlying22 hv
  refine ⟨a0,n,cap,rfl,?_⟩
  obtain ⟨fuel,hf⟩:=h
  rcases open_ints Tryz.underlying22 Tryz.underlying5 c5_ hf with ⟨hcs,_⟩ | ⟨a,len',cap',zs,hcs,_,hle,_,hall,_,hcell,hwf⟩
  · simp [Value.cells] at hcs
    obtain ⟨rfl,rfl,rfl⟩:=hcs
    exact ⟨⟨fun i hi=>by omega⟩,Nat.le_refl _⟩
  · simp [Value.cells] at hcs
    obtain ⟨rfl,rfl,rfl⟩:=hcs
    refine ⟨⟨fun i hi=>?_⟩,hle⟩
    simp only [if_true] at hall
    have h0:=hcell 0 (by omega)
    have e0:a.add 0=a:=by simp [Addr.add]
    rw [e0] at h0
    have hs:=World.cell?_spot h0
    obtain ⟨b,off,sp⟩:=a
    simp only at hs;subst hs
    have hi':=hcell i (by omega)
    rw [addr_add] at hi'
    refine ⟨b,off,zs.getD i 0,rfl,by rw [worldSt_cell];exact hi',?_⟩
    have hz:zs.getD i 0∈zs:=by
      rw [List.getD_eq_getElem?_getD,List.getElem?_eq_getElem (by omega)]
      exact List.getElem_mem _
    have hw:=hwf _ hz
    simp only [Lit.wf,Bool.and_eq_true,decide_eq_true_eq,show IntKind.u8.min=0 from rfl,show IntKind.u8.max=255 from rfl] at hw
    exact hw
end
end Go.Proofs.YtnccejlibbgpkaaGreatDoor
