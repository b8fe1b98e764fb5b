/-
  The law FnExactBoxOut answers true at every input that its row allows, at every start that lays its variables: part 6 of 7.
-/
import GoSem.Step
import Derived.Conc.Token
import Derived.AtR
import Derived.Conc.Own2
import Derived.Conc.CrowdComm
import Derived.Conc.CrowdTrace
import Derived.Conc.Fork
import Derived.Conc.CrowdStepC
import Derived.Below
import Derived.Laws.Append
import Derived.Test.YtnccejlibbgpkaaGreatDoorChecked
import Derived.Test.YtnccejlibbgpkaaGreatDoorProg
import Derived.MapKept
import Derived.Conc.EventLaws
import Derived.Test.YtnccejlibbgpkaaGreatDoorRows
import Derived.Conc.LeavingOf
import Derived.LaidMore
import Derived.ProofKit
import Derived.OpenShut
import Derived.OpenVars
import Derived.Stop.Joined
import Derived.Deep.Slices
import Derived.Test.YtnccejlibbgpkaaGreatDoorWBe
set_option linter.unusedSimpArgs false
set_option linter.unusedVariables false
set_option linter.unusedSectionVars false
namespace Go.Proofs.YtnccejlibbgpkaaGreatDoor
set_option maxRecDepth 100000
section
open Go
open Go.ChangeShapes Go.WideShapes Go.ChangeAt Go.RowKit Go.Conc
theorem own_:ownKnob Tryz.prog.godebug=none:=by kernel_rfl
theorem laidOut_:laidOutB Tryz.prog=true:=by kernel_rfl
theorem gPow : Tryz.prog.globalNamed "internal/strconv.uint64pow10"=some 4:=by kernel_rfl
theorem gSyn : Tryz.prog.globalNamed "strconv.ErrSyntax"=some 2:=by kernel_rfl
theorem gEnd : Tryz.prog.globalNamed "loop.example/hatchway/impl.errEnd"=some 1:=by kernel_rfl
theorem tPow:(Tryz.prog.globals[4]?).map (·.type)=some 257:=by kernel_rfl
theorem tSyn:(Tryz.prog.globals[2]?).map (·.type)=some 215:=by kernel_rfl
theorem tEnd:(Tryz.prog.globals[1]?).map (·.type)=some 215:=by kernel_rfl
theorem cells246_:Tryz.prog.cellsOf 246=1:=by kernel_rfl
@[reducible] def laid6:List (String × DataW Unit) := [("math/bits.deBruijn32tab",Rows.laid_math_bits_deBruijn32tab), ("math/bits.deBruijn64tab",Rows.laid_math_bits_deBruijn64tab), ("internal/strconv.uint64pow10",Rows.laid_internal_strconv_uint64pow10), ("strconv.ErrRange",Rows.laid_strconv_ErrRange), ("strconv.ErrSyntax",Rows.laid_strconv_ErrSyntax), ("loop.example/hatchway/impl.errEnd",Rows.laid_loop_example_hatchway_impl_errEnd)]
theorem trod_iface_cs {H:Type} {enc:TypeId × Value→H} {P:Program} {w:World} {base:Nat} {sp:Nat→Bool} {fuel:Nat} {t:TypeId} {ms:Array (String × TypeId)} {cs:List Value} {n:String} {d:DataW H} {p:List MemPlace} (ht:P.underlying t=some (.interface ms))
    (h:DataW.trod enc P w base sp false fuel t cs=some (.iface n d,p)):∃ u v,cs=[.iface u v]:=by
  cases fuel with
  | zero=>cases h
  | succ fuel=>
    unfold DataW.trod at h
    rw [ht] at h
    split at h<;>first | exact ⟨_,_,rfl⟩ | (exfalso;simp_all;done)
theorem worldSt_cell (W:World) (a:Addr):(worldSt W).cell? a=W.cell? a:=by
 unfold St.cell? World.cell? worldSt
 simp only
 cases h:W.heap[a.block]? with
 | none=>rfl
 | some o=>cases o<;>rfl
theorem of_laid {W:World} (h:laidMetH Tryz.prog laid6 W):Glob (worldSt W):=by
 rw [MakeChecks.laidMetH_plain _ _ _ (by kernel_rfl)] at h
 obtain ⟨ps,⟨_,_,_,_,_,_,_,_,_,_,⟨_,_,_,_,_,_,_,_,_,_,⟨g,t,cs,fu,p,q,hg,ht,hv,hd,⟨_,_,_,_,_,_,_,_,_,_,⟨g2,t2,cs2,fu2,p2,q2,hg2,ht2,hv2,hd2,⟨g3,t3,cs3,fu3,p3,q3,hg3,ht3,hv3,hd3,_,_⟩,_⟩,_⟩,_⟩,_⟩,_⟩,_,_⟩:=h
 obtain rfl:=Option.some.inj (gPow.symm.trans hg)
 obtain rfl:=Option.some.inj (gSyn.symm.trans hg2)
 obtain rfl:=Option.some.inj (gEnd.symm.trans hg3)
 obtain rfl:=Option.some.inj (tPow.symm.trans ht)
 obtain rfl:=Option.some.inj (tSyn.symm.trans ht2)
 obtain rfl:=Option.some.inj (tEnd.symm.trans ht3)
 have iface:∀ {n:String} {g:Nat} {cs:Array Value} {fu:Nat} {nm:String} {d:DataW Unit} {p:List MemPlace},Tryz.prog.globalNamed n=some g→World.var? Tryz.prog W n=some cs→DataW.trod (fun _=>()) Tryz.prog W 0 (fun _=>true) false fu 215 cs.toList=some (.iface nm d,p)→∃ t a,(worldSt W).cell? ⟨g,0,none⟩=some (.iface t a):=by
  intro n g cs fu nm d p hg hv hd
  obtain ⟨u,v,hcs⟩:=trod_iface_cs Tryz.underlying215 hd
  refine ⟨u,v,?_⟩
  rw [worldSt_cell,World.var?_cell hg hv 0,Array.eq_one_of_toList hcs]
  rfl
 have pow:∀ (i:Nat) (k:Int),i<20→(match (Rows.laid_internal_strconv_uint64pow10:DataW Unit) with | .agg l=>l[i]? | _=>none)=some (.lit (.int .u64 k))→(worldSt W).cell? ⟨4,i,none⟩=some (.int .u64 k):=by
  intro i k hi hk
  obtain ⟨xs,m1,rfl,hx1,hlen,hn3,hel⟩:=DataW.trod_array Tryz.underlying257 hd
  simp only [Prod.mk.injEq] at hx1
  rw [hx1.1] at hk
  simp only [List.getElem?_map] at hk
  obtain ⟨x,hx,hxk⟩:=Option.map_eq_some_iff.1 hk
  have h0:=hel i (by omega)
  have hxl:i<xs.length:=(List.getElem?_eq_some_iff.1 hx).1
  rw [hx] at h0
  obtain ⟨n,e1,e2,_⟩:=DataW.trod_int Tryz.underlying246 h0
  rw [e2] at hxk
  simp only [DataW.lit.injEq,Lit.int.injEq,true_and] at hxk
  subst hxk
  rw [cells246_] at e1
  rw [worldSt_cell,World.var?_cell gPow hv i,← Array.getElem?_toList]
  have e3:=congrArg (·[0]?) e1
  simp only [Nat.mul_one] at e3
  rw [List.getElem?_take,if_pos (by omega),List.getElem?_drop] at e3
  simpa using e3
 exact ⟨pow 2 100 (by omega) rfl,pow 3 1000 (by omega) rfl,iface gEnd hv3 hd3,iface gSyn hv2 hd2⟩
end
set_option maxRecDepth 100000
section
open Go
open Go.ChangeShapes Go.WideShapes Go.ChangeAt Go.RowKit Go.Conc
theorem law_lifted {H:Type} {enc:TypeId × Value→H} {os:Os} (started:os.Started) {f:FuncId} {fn:Func} {s:ChangeSpec} (hfn:Tryz.prog.funcs[f]? = some fn)
    (wit:∃ (w:World) (tape:Tape) (i:Input),w.os=os∧(w.forCall tape i).Shaped Tryz.prog∧i.vars=[]∧Input.okWide Tryz.prog (w.forCall tape i) .any w.heap.size f i ∧
      ((s.pre enc Tryz.prog fn [] false (w.forCall tape i).memory i.args∧laidMetH Tryz.prog laid6 (w.forCall tape i).memory)∧sizedMet enc Tryz.prog fn (OpenSpec.ofChange s) false (w.forCall tape i).memory i.args)∧({}:Assume).holds Tryz.prog (lone (Frame.enter Tryz.prog f i.args .normal) [] (w.forCall tape i)))
    (runs:∀ (W:World) (base:Nat) (args:Array Value) (ds gs:List (DataW H)) (before:List MemPlace),
      (∀ (j:Nat) t v,fn.params[j]? = some t→args[j]? = some v→Value.okWide Tryz.prog W .any base t v) →
      DataW.Whole enc Tryz.prog fn.params.toList s.vars false W args.toList ds gs before →
      (DataW.weightsEach Tryz.prog (fn.params.toList++s.plain.varTypes Tryz.prog) (ds++gs)).all (·≤reachBytes)=true→Glob (worldSt W) →
      Go1 Tryz.prog true (FinR Tryz.prog fun v S=>v=.bool true∧S.g=.idle) (G (Frame.enter Tryz.prog f args .normal) []) (worldSt W))
    (post:∀ (W W':World) (args:Array Value) (ds gs:List (DataW H)) (before:List MemPlace),DataW.Whole enc Tryz.prog fn.params.toList s.vars false W args.toList ds gs before→Below W.heap.size W W'→s.post enc Tryz.prog fn false true false false W args (.bool true) W') :
    ReturnsInLeavingWide {} Tryz.checked os f .any (fun w args=>(s.pre enc Tryz.prog fn [] false w args∧laidMetH Tryz.prog laid6 w)∧sizedMet enc Tryz.prog fn (OpenSpec.ofChange s) false w args) (s.post enc Tryz.prog fn false true false false):=by
  refine returnsInLeavingWide_of_good (C:=Tryz.checked) own_ started wit ?_
  intro w tape i _ _ _ hok hpre hholds
  obtain ⟨_,_,_,fn',hfn',_,_,_,_,hval⟩:=hok
  have e:fn'=fn:=Option.some.inj (hfn'.symm.trans hfn)
  subst e
  obtain ⟨⟨⟨ds,gs,before,hw,hc⟩,hx⟩,hz⟩:=hpre
  have hw':=DataW.Whole.of_heap (w':=w.forCall tape i) (by rfl) hw
  have hx':laidMetH Tryz.prog laid6 (w.forCall tape i):=hx.of_heap (by rfl)
  have hrun:=runs (w.forCall tape i) w.heap.size i.args ds gs before hval hw' (hz.weights hw) (of_laid hx')
  obtain ⟨M,last,o,w',t',h1,h2,h3,h4⟩:=good_run (Post:=fun v W'=>s.post enc Tryz.prog fn' false true false false (w.forCall tape i) i.args v W') (finR_ok fun v S' q W' _ hb=>by rw [q.1];exact post _ _ _ ds gs before hw' hb) hrun
  exact ⟨M,last,o,w',t',h1,h2,h3,h4.mono fun v hp=>ChangeSpec.post_blind hp⟩
theorem door_met (os:Os) (args:Array Value):laidMetH Tryz.prog laid6 ((World.doorLaid Tryz.prog 4000 os).forCall (fun _ _=>0) ⟨#[],args,[]⟩).memory:=
 laidMetH_of_parts3 (fuel:=8) (laidMet_of_run' 8 (by kernel_rfl) (by kernel_rfl)) (by kernel_rfl) (by kernel_rfl)
end
set_option maxRecDepth 100000
section
open Go
open Go.ChangeShapes Go.WideShapes Go.ChangeAt Go.RowKit Go.Conc
theorem globI_start {W:World} (h:Glob (worldSt W)):GlobI (worldSt W):=
 ⟨⟨h,fun b _ e he=>by
  obtain ⟨o,_,rfl⟩:=Option.map_eq_some_iff.1 he
  rfl⟩,rfl⟩
end
set_option maxRecDepth 100000
section
open Go
open Go.ChangeShapes Go.WideShapes Go.ChangeAt Go.RowKit Go.Conc
theorem St.cells_of {S:St} {b off k:Nat} {r:List Value} (hk:r.length=k) (h0:0<k) (h:∀ j,j<k→S.cell? ⟨b,off+j,none⟩=r[j]?):S.cells? ⟨b,off,none⟩ k=some r:=by
 have h1:=h (k-1) (by omega)
 rw [List.getElem?_eq_getElem (by omega)] at h1
 unfold St.cell? at h1
 split at h1
 ·rename_i c e f wr hs
  simp only [Option.isSome_none,Bool.false_eq_true,if_false] at h1
  have hlt:=(Array.getElem?_eq_some_iff.1 h1).1
  unfold St.cells?
  simp only at hs ⊢
  rw [hs]
  simp only
  rw [if_pos ⟨rfl,by omega⟩]
  congr 1
  apply List.ext_getElem?
  intro j
  rw [List.getElem?_take]
  split
  ·rename_i hj
   have h2:=h j hj
   unfold St.cell? at h2
   simp only [hs,Option.isSome_none,Bool.false_eq_true,if_false] at h2
   rw [List.getElem?_drop,← h2,Array.getElem?_toList]
  ·rw [List.getElem?_eq_none (by omega)]
 ·cases h1
section
variable {H:Type} {enc:TypeId × Value→H} {W:World} {fuel:Nat} {cs:List Value} {x:DataW H × List MemPlace}
theorem c73_:Tryz.prog.cellsOf 73=2:=by kernel_rfl
theorem c3_:Tryz.prog.cellsOf 3=1:=by kernel_rfl
theorem c4_:Tryz.prog.cellsOf 4=1:=by kernel_rfl
theorem c9_:Tryz.prog.cellsOf 9=1:=by kernel_rfl
theorem c202_:Tryz.prog.cellsOf 202=7:=by kernel_rfl
theorem c200_:Tryz.prog.cellsOf 200=7:=by kernel_rfl
theorem c75_:Tryz.prog.cellsOf 75=7:=by kernel_rfl
theorem c69_:Tryz.prog.cellsOf 69=1:=by kernel_rfl
theorem c66_:Tryz.prog.cellsOf 66=1:=by kernel_rfl
theorem c67_:Tryz.prog.cellsOf 67=1:=by kernel_rfl
theorem c70_:Tryz.prog.cellsOf 70=1:=by kernel_rfl
theorem c72_:Tryz.prog.cellsOf 72=3:=by kernel_rfl
theorem field_at {fs:Array Field} {t:TypeId} (ht:Tryz.prog.underlying t=some (.struct fs)) (h:DataW.trod enc Tryz.prog W 0 (fun _=>true) true fuel t cs=some x) {i:Nat} {f:Field} (hf:fs[i]? = some f):∃ n y,DataW.trod enc Tryz.prog W 0 (fun _=>true) true n f.type ((cs.drop f.offset).take (Tryz.prog.cellsOf f.type))=some y:=by
 obtain ⟨xs,n,_,_,_,hl,h2⟩:=DataW.trod_struct ht h
 have h3:=h2 i f hf
 have hi:=(Array.getElem?_eq_some_iff.1 hf).1
 exact ⟨n,xs[i]'(by omega),by rw [h3,List.getElem?_eq_getElem (by omega)]⟩
theorem len_of {fs:Array Field} {t:TypeId} (ht:Tryz.prog.underlying t=some (.struct fs)) (h:DataW.trod enc Tryz.prog W 0 (fun _=>true) true fuel t cs=some x):cs.length=Tryz.prog.cellsOf t:=by
 obtain ⟨xs,n,_,_,hl,_⟩:=DataW.trod_struct ht h
 exact hl
theorem int_at {o:Nat} (h:∃ n y,DataW.trod enc Tryz.prog W 0 (fun _=>true) true n 3 ((cs.drop o).take (Tryz.prog.cellsOf 3))=some y):∃ k,cs[o]? = some (int k):=by
 obtain ⟨n,y,h⟩:=h
 obtain ⟨k,h1,_⟩:=DataW.trod_int Tryz.underlying3 h
 refine ⟨k,?_⟩
 have h2:=congrArg (fun l=>l[0]?) h1
 rw [c3_] at h2
 simpa [List.getElem?_take,List.getElem?_drop] using h2
theorem str_at9 {o:Nat} (h:∃ n y,DataW.trod enc Tryz.prog W 0 (fun _=>true) true n 9 ((cs.drop o).take (Tryz.prog.cellsOf 9))=some y):∃ l:Bs,cs[o]? = some (str l)∧l.length≤9223372036854775807:=by
 obtain ⟨n,y,h⟩:=h
 obtain ⟨⟨⟨k⟩⟩,h1,_,h3⟩:=DataW.trod_string Tryz.underlying9 h
 refine ⟨k,?_,by unfold maxLen at h3;simpa [ByteArray.size] using h3⟩
 have h2:=congrArg (fun l=>l[0]?) h1
 rw [c9_] at h2
 simpa [List.getElem?_take,List.getElem?_drop] using h2
theorem bool_at {o:Nat} (h:∃ n y,DataW.trod enc Tryz.prog W 0 (fun _=>true) true n 4 ((cs.drop o).take (Tryz.prog.cellsOf 4))=some y):∃ k,cs[o]? = some (.bool k):=by
 obtain ⟨n,y,h⟩:=h
 obtain ⟨k,h1,_⟩:=DataW.trod_bool Tryz.underlying4 h
 refine ⟨k,?_⟩
 have h2:=congrArg (fun l=>l[0]?) h1
 rw [c4_] at h2
 simpa [List.getElem?_take,List.getElem?_drop] using h2
theorem open_end (h:DataW.trod enc Tryz.prog W 0 (fun _=>true) true fuel 73 cs=some x):∃ e:End,cs=e.row:=by
 have hl:=len_of Tryz.underlying73 h
 rw [c73_] at hl
 obtain ⟨k0,h0⟩:=int_at (field_at Tryz.underlying73 h (i:=0) rfl)
 obtain ⟨k1,h1⟩:=int_at (field_at Tryz.underlying73 h (i:=1) rfl)
 match cs,hl with
 | [v0,v1],_=>
  cases h0;cases h1
  exact ⟨⟨k0,k1⟩,rfl⟩
theorem end_at {o:Nat} (h:∃ n y,DataW.trod enc Tryz.prog W 0 (fun _=>true) true n 73 ((cs.drop o).take (Tryz.prog.cellsOf 73))=some y):∃ e:End,cs[o]? = some (int e.a)∧cs[o+1]? = some (int e.p):=by
 obtain ⟨n,y,h⟩:=h
 obtain ⟨e,h1⟩:=open_end h
 rw [c73_] at h1
 have h2:=congrArg (fun l=>l[0]?) h1
 have h3:=congrArg (fun l=>l[1]?) h1
 exact ⟨e,by simpa [List.getElem?_take,List.getElem?_drop] using h2,by simpa [List.getElem?_take,List.getElem?_drop] using h3⟩
theorem open_rule (h:DataW.trod enc Tryz.prog W 0 (fun _=>true) true fuel 202 cs=some x):∃ r:Rule,cs=r.row:=by
 have hl:=len_of Tryz.underlying202 h
 rw [c202_] at hl
 obtain ⟨k0,h0⟩:=bool_at (field_at Tryz.underlying202 h (i:=0) rfl)
 obtain ⟨k1,h1⟩:=int_at (field_at Tryz.underlying202 h (i:=1) rfl)
 obtain ⟨k2,h2⟩:=int_at (field_at Tryz.underlying202 h (i:=2) rfl)
 obtain ⟨k3,h3⟩:=int_at (field_at Tryz.underlying202 h (i:=3) rfl)
 obtain ⟨k4,h4⟩:=int_at (field_at Tryz.underlying202 h (i:=4) rfl)
 obtain ⟨k5,h5⟩:=int_at (field_at Tryz.underlying202 h (i:=5) rfl)
 obtain ⟨k6,h6⟩:=int_at (field_at Tryz.underlying202 h (i:=6) rfl)
 match cs,hl with
 | [v0,v1,v2,v3,v4,v5,v6],_=>
  cases h0;cases h1;cases h2;cases h3;cases h4;cases h5;cases h6
  exact ⟨⟨k0,k1,k2,k3,k4,k5,k6⟩,rfl⟩
theorem open_conn (h:DataW.trod enc Tryz.prog W 0 (fun _=>true) true fuel 200 cs=some x):∃ c:Conn,cs=c.row∧c.kn.length≤9223372036854775807∧c.he.length≤9223372036854775807∧c.ne.length≤9223372036854775807:=by
 have hl:=len_of Tryz.underlying200 h
 rw [c200_] at hl
 obtain ⟨e0,h0,h1⟩:=end_at (field_at Tryz.underlying200 h (i:=0) rfl)
 obtain ⟨e2,h2,h3⟩:=end_at (field_at Tryz.underlying200 h (i:=1) rfl)
 obtain ⟨k4,h4,u4⟩:=str_at9 (field_at Tryz.underlying200 h (i:=2) rfl)
 obtain ⟨k5,h5,u5⟩:=str_at9 (field_at Tryz.underlying200 h (i:=3) rfl)
 obtain ⟨k6,h6,u6⟩:=str_at9 (field_at Tryz.underlying200 h (i:=4) rfl)
 match cs,hl with
 | [v0,v1,v2,v3,v4,v5,v6],_=>
  cases h0;cases h1;cases h2;cases h3;cases h4;cases h5;cases h6
  exact ⟨⟨e0,e2,k4,k5,k6⟩,rfl,u4,u5,u6⟩
theorem open_seg (h:DataW.trod enc Tryz.prog W 0 (fun _=>true) true fuel 75 cs=some x):∃ s:Seg,cs=s.row∧s.dt.length≤9223372036854775807:=by
 have hl:=len_of Tryz.underlying75 h
 rw [c75_] at hl
 obtain ⟨e0,h0,h1⟩:=end_at (field_at Tryz.underlying75 h (i:=0) rfl)
 obtain ⟨e2,h2,h3⟩:=end_at (field_at Tryz.underlying75 h (i:=1) rfl)
 obtain ⟨k4,h4⟩:=int_at (field_at Tryz.underlying75 h (i:=2) rfl)
 obtain ⟨k5,h5⟩:=int_at (field_at Tryz.underlying75 h (i:=3) rfl)
 obtain ⟨k6,h6,u6⟩:=str_at9 (field_at Tryz.underlying75 h (i:=4) rfl)
 match cs,hl with
 | [v0,v1,v2,v3,v4,v5,v6],_=>
  cases h0;cases h1;cases h2;cases h3;cases h4;cases h5;cases h6
  exact ⟨⟨e0,e2,k4,k5,k6⟩,rfl,u6⟩
theorem open_rows {α:Type} {row:α→List Value} {Q:α→Prop} {t e:TypeId} {k:Nat} (ht:Tryz.prog.underlying t=some (.slice e)) (hc:Tryz.prog.cellsOf e=k) (h0:0<k)
    (ho:∀ n cs y,DataW.trod enc Tryz.prog W 0 (fun _=>true) true n e cs=some y→∃ z:α,cs=row z∧Q z) (h:DataW.trod enc Tryz.prog W 0 (fun _=>true) true fuel t cs=some x) :
    ∃ (a:Option Addr) (l:List α) (c:Nat),cs=[.slice a l.length c]∧SlR (worldSt W) k a (l.map row)∧(∀ z∈l,Q z)∧l.length≤9223372036854775807:=by
  rcases Go.Deep.open_slice ht h with ⟨rfl,_⟩ | ⟨a,len,cap,m,n,D,Pl,rfl,_,hle,hm,rfl,_,h2⟩
  · exact ⟨none,[],0,rfl,⟨fun i r hr=>by simp at hr⟩,nofun,by simp⟩
  · have h3:∀ i,∃ z:Option α,i<len→∃ w,z=some w∧W.cells? 0 (a.add (i*k)) k=some (row w)∧Q w:=fun i=>by
      by_cases hi:i<len
      · obtain ⟨cs',q1,q2⟩:=h2 i (by omega)
        obtain ⟨z,rfl,q3⟩:=ho _ _ _ q2
        rw [hc] at q1
        exact ⟨some z,fun _=>⟨z,rfl,q1,q3⟩⟩
      · exact ⟨none,fun h=>absurd h hi⟩
    obtain ⟨f,hf⟩:=Classical.axiomOfChoice h3
    have hlen:((List.range len).filterMap f).length=len:=by
      clear h2 h h3
      have:∀ n,n≤len→((List.range n).filterMap f).length=n:=by
        intro n
        induction n with
        | zero=>simp
        | succ n ih=>
          intro hn
          obtain ⟨w,hw,_⟩:=hf n (by omega)
          rw [List.range_succ,List.filterMap_append,List.length_append,ih (by omega)]
          simp [hw]
      exact this len (Nat.le_refl _)
    have hget:∀ n i,n≤len→i<n→((List.range n).filterMap f)[i]? = f i∧((List.range n).filterMap f).length=n:=by
      clear h2 h h3 hlen
      intro n
      induction n with
      | zero=>intro i _ hi;omega
      | succ n ih=>
        intro i hn hi
        obtain ⟨w,hw,_⟩:=hf n (by omega)
        have hl:((List.range n).filterMap f).length=n:=by
          cases n with
          | zero=>simp
          | succ n=>exact (ih 0 (by omega) (by omega)).2
        rw [List.range_succ,List.filterMap_append,List.length_append,hl]
        refine ⟨?_,by simp [hw]⟩
        by_cases hi2:i<n
        · rw [List.getElem?_append_left (by omega)];exact (ih i (by omega) hi2).1
        · obtain rfl:i=n:=by omega
          rw [List.getElem?_append_right (by omega),hl]
          simp [hw]
    refine ⟨some a,(List.range len).filterMap f,m,by rw [hlen],⟨fun i r hr=>?_⟩,fun z hz=>?_,by rw [hlen];unfold maxLen at hm;omega⟩
    · rw [List.getElem?_map] at hr
      obtain ⟨z,hz,rfl⟩:=Option.map_eq_some_iff.1 hr
      have hi:i<len:=by
        have:=(List.getElem?_eq_some_iff.1 hz).1
        omega
      obtain ⟨w,hw,q1,_⟩:=hf i hi
      have:=(hget len i (Nat.le_refl _) hi).1
      rw [this,hw] at hz
      cases hz
      obtain ⟨_,q2,q3⟩:=World.cells?_some q1
      obtain ⟨w0,_,p1,_⟩:=hf 0 (by omega)
      obtain ⟨_,p2,p3⟩:=World.cells?_some p1
      have q4:=p3 0 h0
      rw [List.getElem?_eq_getElem (by omega)] at q4
      have hs2:a.spot=none:=by simpa [Addr.add] using World.cell?_spot q4
      obtain ⟨b,off,sp⟩:=a
      simp only at hs2;subst hs2
      refine ⟨b,off,rfl,St.cells_of q2 h0 fun j hj=>?_⟩
      rw [worldSt_cell,← q3 j hj,addr_add,addr_add]
    · obtain ⟨i,hi,hz⟩:=List.mem_filterMap.1 hz
      obtain ⟨w,hw,_,q⟩:=hf i (by simpa using hi)
      rw [hw] at hz;cases hz;exact q
theorem one_at {t:TypeId} {o:Nat} {v:Value} (hc:Tryz.prog.cellsOf t=1) (h:(cs.drop o).take (Tryz.prog.cellsOf t)=[v]):cs[o]? = some v:=by
 have h2:=congrArg (fun l=>l[0]?) h
 rw [hc] at h2
 simpa [List.getElem?_take,List.getElem?_drop] using h2
theorem open_tab (h:DataW.trod enc Tryz.prog W 0 (fun _=>true) true fuel 69 cs=some x):∃ (a:Option Addr) (l:List End) (c:Nat),cs=[.slice a l.length c]∧SlR (worldSt W) 2 a (zS l)∧l.length≤9223372036854775807:=by
 have hl:=len_of Tryz.underlying69 h
 rw [c69_] at hl
 obtain ⟨n,y,h0⟩:=field_at Tryz.underlying69 h (i:=0) rfl
 obtain ⟨a,l,c,h1,h2,_,h3⟩:=open_rows (Q:=fun _=>True) Tryz.underlying67 c73_ (by decide) (fun n cs y h=>by obtain ⟨e,h⟩:=open_end h;exact ⟨e,h,trivial⟩) h0
 have h4:=one_at c67_ h1
 match cs,hl with
 | [v0],_=>
  cases h4
  exact ⟨a,l,c,rfl,h2,h3⟩
end
theorem box_arg {H:Type} {enc:TypeId × Value→H} {W:World} {base:Nat} {v:Value} {d:DataW H} {ps:List MemPlace} (hv:Value.okWide Tryz.prog W .any base 72 v) (h:DataW.Trod enc Tryz.prog W 0 (fun _=>true) true 72 v d ps) :
    ∃ (a1 a2 a3:Option Addr) (c1 c2 c3:Nat) (b:Box),v=.agg #[.slice a1 b.rs.length c1,.slice a2 b.es.length c2,.slice a3 b.cs.length c3]∧SlR (worldSt W) 7 a1 (z5 b.rs)∧SlR (worldSt W) 2 a2 (zS b.es)∧SlR (worldSt W) 7 a3 (zX b.cs)∧b.rs.length≤9223372036854775807∧b.es.length≤9223372036854775807∧b.cs.length≤9223372036854775807∧(∀ x∈b.cs,x.kn.length≤9223372036854775807∧x.he.length≤9223372036854775807∧x.ne.length≤9223372036854775807):=by
  obtain ⟨cs,rfl,hz⟩:=okWide_struct Tryz.underlying72 hv
  obtain ⟨fuel,h⟩:=h
  replace h:DataW.trod enc Tryz.prog W 0 (fun _=>true) true fuel 72 cs.toList=some (d,ps):=h
  obtain ⟨n1,y1,h1⟩:=field_at Tryz.underlying72 h (i:=0) rfl
  obtain ⟨n2,y2,h2⟩:=field_at Tryz.underlying72 h (i:=1) rfl
  obtain ⟨n3,y3,h3⟩:=field_at Tryz.underlying72 h (i:=2) rfl
  obtain ⟨a1,l1,c1,e1,s1,_,q1⟩:=open_rows (Q:=fun _=>True) Tryz.underlying66 c202_ (by decide) (fun n cs y h=>by obtain ⟨e,h⟩:=open_rule h;exact ⟨e,h,trivial⟩) h1
  obtain ⟨a2,l2,c2,e2,s2,q2⟩:=open_tab h2
  obtain ⟨a3,l3,c3,e3,s3,u3,q3⟩:=open_rows (Q:=fun x:Conn=>x.kn.length≤9223372036854775807∧x.he.length≤9223372036854775807∧x.ne.length≤9223372036854775807) Tryz.underlying70 c200_ (by decide) (fun n cs y h=>open_conn h) h3
  have f1:=one_at c66_ e1
  have f2:=one_at c69_ e2
  have f3:=one_at c70_ e3
  refine ⟨a1,a2,a3,c1,c2,c3,⟨l1,l2,l3⟩,?_,s1,s2,s3,q1,q2,q3,u3⟩
  rw [c72_] at hz
  obtain ⟨cl⟩:=cs
  match cl,hz with
  | [v0,v1,v2],_=>
    cases f1;cases f2;cases f3;rfl
theorem seg_arg {H:Type} {enc:TypeId × Value→H} {W:World} {base:Nat} {v:Value} {d:DataW H} {ps:List MemPlace} (hv:Value.okWide Tryz.prog W .any base 75 v) (h:DataW.Trod enc Tryz.prog W 0 (fun _=>true) true 75 v d ps) :
    ∃ s:Seg,v=s.v∧s.dt.length≤9223372036854775807:=by
  obtain ⟨cs,rfl,hz⟩:=okWide_struct Tryz.underlying75 hv
  obtain ⟨fuel,h⟩:=h
  replace h:DataW.trod enc Tryz.prog W 0 (fun _=>true) true fuel 75 cs.toList=some (d,ps):=h
  obtain ⟨s,h1,h2⟩:=open_seg h
  refine ⟨s,?_,h2⟩
  obtain ⟨cl⟩:=cs
  simp only at h1
  rw [h1]
end
set_option maxHeartbeats 1000000
section
variable {S0:St} {K:Value→St→Prop}
set_option maxRecDepth 100000
theorem walk11 {a1 a2 a3:Option Addr} {c1 c2 c3:Nat} {b:Box} {s:Seg} {S0:St} (hG:GlobI S0) (h1:SlR S0 7 a1 (z5 b.rs)) (h2:SlR S0 2 a2 (zS b.es)) (h3:SlR S0 7 a3 (zX b.cs)) (l1:b.rs.length≤9223372036854775807) (l2:b.es.length≤9223372036854775807) (l3:b.cs.length≤9223372036854775807) (lx:∀ x∈b.cs,x.kn.length≤9223372036854775807∧x.he.length≤9223372036854775807∧x.ne.length≤9223372036854775807) (ls:s.dt.length≤9223372036854775807) :
  Go1 Tryz.prog true (FinR Tryz.prog fun v S=>v=.bool true∧S.g=.idle) (Go.Conc.G (Frame.enter Tryz.prog 11 [.agg #[.slice a1 b.rs.length c1,.slice a2 b.es.length c2,.slice a3 b.cs.length c3],s.v].toArray .normal) []) S0:=by
 refine go1_slim (sf:=s11) (args:=[.agg #[.slice a1 b.rs.length c1,.slice a2 b.es.length c2,.slice a3 b.cs.length c3],s.v]) (fun _ _ h=>h.2) (by kernel_rfl) Tryz.func11 (by kernel_rfl) (of_decide_eq_true O) ?_
 have H:=Loc.start [] S0
 obtain ⟨r,hr⟩:∃ r,r=boxOutP b s:=⟨_,rfl⟩
 have hZ:BoxZ r.1:=by rw [hr];exact (boxOutP_Y _ _).z
 obtain ⟨w1,w2,w3,_⟩:=id hZ
 have hLL:r.2.length≤1000:=by
  rw [hr]
  by_cases h:BoxP b
  ·exact (boxOutP_ok h).2.2.2.1
  ·rw [boxOutP_no h];simp
 refine zR (zBx H O O fun b2 S hb2 hE H=>zBx H O O fun b3 S hb3 hE H=>zj O (vA (zj O (vA (zLn (vs:=[_,_,_]) H O .h1 O (zj O (zCl O (ct40 (by omega) (by omega) (h3.mono H.qx) l1 l2 l3 lx fun r18 S hE hr18=>?_))))))))
 replace H:=H.call hE
 refine zj O (zN (vz (zj O (za (vq O O fun t20 h20=>zN ?_)))))
 rcases t20 with _|_
 ·replace h20:=bF h20
  refine zn O (zt (ze (zR (zLn (vs:=[_,_,_,_,_,_,_]) H O .h O (zj O (zCl O (ct41 (s:=s) (by omega) (by omega) ls fun r23 S hE hr23=>?_)))))))
  replace H:=H.call hE
  refine zj O (zN (vz (zj O (za (vq O O fun t25 h25=>zN ?_)))))
  rcases t25 with _|_
  ·replace h25:=bF h25
   have hcz:∀ x∈b.cs,x.kn.length+x.he.length+x.ne.length≤csz b.cs:=fun x hx=>csz_mem hx
   have hz:BoxZ b:=⟨by omega,by omega,by omega,fun x hx=>by have:=hcz x hx;omega⟩
   obtain ⟨z1,z2,z3,_⟩:=id hz
   have hdt:s.dt.length≤1048576:=by omega
   refine zn O (zt (ze ?_))
   refine wpS_cut (fun E S=>∃ (x131:Option Addr) (x231:Option Addr) (x331:Option Addr) (x431:Option Addr) (d131:Nat) (d231:Nat) (d331:Nat) (d431:Nat) (b6:Nat),E=Env.lst [(2,ptr b2 0),(3,ptr b3 0),(6,ptr b6 0),(7,.slice x431 r.2.length d431)]∧Loc [] S0 S [(b6,Cs [.slice x131 r.1.rs.length d131,.slice x231 r.1.es.length d231,.slice x331 r.1.cs.length d331] 29),(b3,Cs s.row 75),(b2,Cs [.slice a1 b.rs.length c1,.slice a2 b.es.length c2,.slice a3 b.cs.length c3] 72)]∧(BoxS S x131 x231 x331 x431 r)) ?_ ?_
   ·skip
    refine z9 [] (vk 0 O O (fun S' hS'=>zG fun K hK=>zV O (zK (hS' O) (by simp) (H.cells (vs:=[_,_,_]) .h1 O)) hK) (vk 2 O O (fun S' hS'=>zG fun K hK=>zV O (zK (hS' O) (by simp) (H.cells (vs:=[_,_,_,_,_,_,_]) .h O)) hK) (wpD_two 1 8 (by kernel_rfl) O O O O ?_ ?_)))
    ·skip
     refine zu (zT O (ct42R (b:=b) (h1.mono H.qx) (h2.mono H.qx) (h3.mono H.qx) hz.1 hz.2.1 hz.2.2.1 fun x128 x228 x328 S hE hR28=>?_))
     replace hR28:=hR28.back H.qx
     replace H:=H.call hE
     refine ⟨fun _=>hE.up.ext,wpD_two 3 8 (by kernel_rfl) O O O O ?_ ?_⟩
     ·skip
      refine zu (zT O (ct43 (s:=s) fun S hE =>?_))
      replace H:=H.call hE
      replace hR28:=hR28.mono hE
      refine zLd (wpD_two 4 8 (by kernel_rfl) O O O O ?_ ?_)
      ·skip
       refine zu (zT O (ct32 (b:=b) (s:=s) hR28.h1 hR28.h2 hR28.h3 hR28.l2 hR28.l3 hz fun x131 x231 x331 x431 d131 d231 d331 d431 r31 S hE hr31 hM31 hD31 hl31=>?_))
       obtain rfl:r=r31:=hr.trans hr31.symm
       replace hM31:=hM31.back H.qx
       replace H:=H.call hE
       refine zLd (vJ 5 O O O (vO 6 O O (fun _ _ hK=>vj O O hK) (vO 7 O O (fun _ _ hK=>vj O O hK) (zA 8 (by kernel_rfl) O O (zu (W_alloc H O fun b6 S hb6 hE H=>?_))))))
       have hM31_b6:=hM31.ne hb6
       replace hM31:=hM31.mono hE
       have hD31_b6:=hD31.ne hb6
       replace hD31:=hD31.mono hE
       refine ⟨fun _=>hE.up.ext,zA 9 (by kernel_rfl) O O (zu (zSt H O O O .h O fun S hE H=>?_))⟩
       replace hM31:=hM31.qy hE hM31_b6
       replace hD31:=hD31.qy hE hD31_b6
       refine zLd (vJ 10 O O O (zY (ze ?_)))
       refine ⟨_,?le,x131,x231,x331,x431,d131,d231,d331,d431,b6,O,H,⟨hM31.r,hM31.e,hM31.slc,hD31⟩⟩
       case le=>exact Env.qle ⟨O,O,O,O,⟨⟩⟩
      ·skip
       refine zu (W_alloc H O fun b6 S hb6 hE H=>?_)
       replace hR28:=hR28.mono hE
       refine ⟨fun _=>hE.up.ext,zA 4 (by kernel_rfl) O O (zu (zT O (ct32 (b:=b) (s:=s) hR28.h1 hR28.h2 hR28.h3 hR28.l2 hR28.l3 hz fun x131 x231 x331 x431 d131 d231 d331 d431 r31 S hE hr31 hM31 hD31 hl31=>?_)))⟩
       have hM31_b6:=hM31.old (H.get .h)
       obtain rfl:r=r31:=hr.trans hr31.symm
       replace hM31:=hM31.back H.qx
       replace H:=H.call hE
       refine zLd (vJ 5 O O O (vO 6 O O (fun _ _ hK=>vj O O hK) (vO 7 O O (fun _ _ hK=>vj O O hK) (zA 9 (by kernel_rfl) O O ?_))))
       have q6:=H.get .h
       refine zu (zSt H O O O .h O fun S hE H=>?_)
       replace hD31:=hD31.past hE q6 (H.get .h) (of_decide_eq_true rfl) rfl
       replace hM31:=hM31.qy hE hM31_b6
       refine zLd (vJ 10 O O O (zY (ze ?_)))
       refine ⟨_,?le,x131,x231,x331,x431,d131,d231,d331,d431,b6,O,H,⟨hM31.r,hM31.e,hM31.slc,hD31⟩⟩
       case le=>exact Env.qle ⟨O,O,O,O,⟨⟩⟩
     ·skip
      refine zu (W_alloc H O fun b6 S hb6 hE H=>?_)
      replace hR28:=hR28.mono hE
      refine ⟨fun _=>hE.up.ext,zA 3 (by kernel_rfl) O O (zu (zT O (ct43 (s:=s) fun S hE =>?_)))⟩
      replace H:=H.call hE
      replace hR28:=hR28.mono hE
      refine zLd (zA 4 (by kernel_rfl) O O (zu (zT O (ct32 (b:=b) (s:=s) hR28.h1 hR28.h2 hR28.h3 hR28.l2 hR28.l3 hz fun x131 x231 x331 x431 d131 d231 d331 d431 r31 S hE hr31 hM31 hD31 hl31=>?_))))
      have hM31_b6:=hM31.old (H.get .h)
      obtain rfl:r=r31:=hr.trans hr31.symm
      replace hM31:=hM31.back H.qx
      replace H:=H.call hE
      refine zLd (vJ 5 O O O (vO 6 O O (fun _ _ hK=>vj O O hK) (vO 7 O O (fun _ _ hK=>vj O O hK) (zA 9 (by kernel_rfl) O O ?_))))
      have q6:=H.get .h
      refine zu (zSt H O O O .h O fun S hE H=>?_)
      replace hD31:=hD31.past hE q6 (H.get .h) (of_decide_eq_true rfl) rfl
      replace hM31:=hM31.qy hE hM31_b6
      refine zLd (vJ 10 O O O (zY (ze ?_)))
      refine ⟨_,?le,x131,x231,x331,x431,d131,d231,d331,d431,b6,O,H,⟨hM31.r,hM31.e,hM31.slc,hD31⟩⟩
      case le=>exact Env.qle ⟨O,O,O,O,⟨⟩⟩
    ·skip
     refine zu (W_alloc H O fun b6 S hb6 hE H=>⟨fun _=>hE.up.ext,zA 1 (by kernel_rfl) O O (zu (zT O (ct42R (b:=b) (h1.mono H.qx) (h2.mono H.qx) (h3.mono H.qx) hz.1 hz.2.1 hz.2.2.1 fun x128 x228 x328 S hE hR28=>?_)))⟩)
     replace hR28:=hR28.back H.qx
     replace H:=H.call hE
     refine ⟨fun _=>hE.up.ext,zA 3 (by kernel_rfl) O O (zu (zT O (ct43 (s:=s) fun S hE =>?_)))⟩
     replace H:=H.call hE
     replace hR28:=hR28.mono hE
     refine zLd (zA 4 (by kernel_rfl) O O (zu (zT O (ct32 (b:=b) (s:=s) hR28.h1 hR28.h2 hR28.h3 hR28.l2 hR28.l3 hz fun x131 x231 x331 x431 d131 d231 d331 d431 r31 S hE hr31 hM31 hD31 hl31=>?_))))
     have hM31_b6:=hM31.old (H.get .h)
     obtain rfl:r=r31:=hr.trans hr31.symm
     replace hM31:=hM31.back H.qx
     replace H:=H.call hE
     refine zLd (vJ 5 O O O (vO 6 O O (fun _ _ hK=>vj O O hK) (vO 7 O O (fun _ _ hK=>vj O O hK) (zA 9 (by kernel_rfl) O O ?_))))
     have q6:=H.get .h
     refine zu (zSt H O O O .h O fun S hE H=>?_)
     replace hD31:=hD31.past hE q6 (H.get .h) (of_decide_eq_true rfl) rfl
     replace hM31:=hM31.qy hE hM31_b6
     refine zLd (vJ 10 O O O (zY (ze ?_)))
     refine ⟨_,?le,x131,x231,x331,x431,d131,d231,d331,d431,b6,O,H,⟨hM31.r,hM31.e,hM31.slc,hD31⟩⟩
     case le=>exact Env.qle ⟨O,O,O,O,⟨⟩⟩
   ·skip
    rintro _ S ⟨x131,x231,x331,x431,d131,d231,d331,d431,b6,rfl,H,hS31⟩
    refine zR (zLn (vs:=[_,_,_]) H O .h2 O (zCl O (ct42R (b:=b) (h1.mono H.qx) (h2.mono H.qx) (h3.mono H.qx) hz.1 hz.2.1 hz.2.2.1 fun x135 x235 x335 S hE hR35=>?_)))
    have hR35_b6:=hR35.old (H.get .h)
    have hR35_b3:=hR35.old (H.get .h1)
    have hR35_b2:=hR35.old (H.get .h2)
    have ho35:=OffL.new hS31.based hR35.orgs
    replace hR35:=hR35.back H.qx
    replace H:=H.call hE
    replace hS31:=hS31.mono hE
    refine zAl H O fun b8 S hb8 hE H=>?_
    have hS31_b8:=hS31.ne hb8
    replace hS31:=hS31.mono hE
    have hR35_b8:=hR35.ne hb8
    replace hR35:=hR35.mono hE
    refine zSs H O O O .h O fun S hE H=>?_
    replace hS31:=hS31.qy hE hS31_b8
    replace hR35:=hR35.qy hE hR35_b8
    refine zN ?_
    refine wpS_cut (fun E S=>∃ (x140:Option Addr) (x240:Option Addr) (x340:Option Addr) (x440:Option Addr) (d240:Nat) (d340:Nat) (b9:Nat),E=Env.lst [(2,ptr b2 0),(3,ptr b3 0),(6,ptr b6 0),(7,.slice x431 r.2.length d431),(8,ptr b8 0),(9,ptr b9 0),(10,.slice x440 r.2.length r.2.length)]∧Loc [] S0 S [(b9,Cs [.slice x140 r.1.rs.length r.1.rs.length,.slice x240 r.1.es.length d240,.slice x340 r.1.cs.length d340] 29),(b8,Cs [.slice x135 b.rs.length b.rs.length,.slice x235 b.es.length b.es.length,.slice x335 b.cs.length b.cs.length] 29),(b6,Cs [.slice x131 r.1.rs.length d131,.slice x231 r.1.es.length d231,.slice x331 r.1.cs.length d331] 29),(b3,Cs s.row 75),(b2,Cs [.slice a1 b.rs.length c1,.slice a2 b.es.length c2,.slice a3 b.cs.length c3] 72)]∧(BoxS S x131 x231 x331 x431 r)∧(BoxR S0 S x135 x235 x335 none b.es.length b.cs.length (b,[]))∧(BoxR S0 S x140 x240 x340 x440 d240 d340 r)∧(Ap x135 x235 x335 none b9)∧(Ap x140 x240 x340 x440 b2)∧(Ap x140 x240 x340 x440 b3)∧(Ap x140 x240 x340 x440 b6)∧(Ap x140 x240 x340 x440 b8)∧(Ap x140 x240 x340 x440 b9)∧(OffL [x131,x231,x331,x431] [x140,x240,x340,x440])∧(OffL [x140,x240,x340,x440] [x135,x235,x335])) ?_ ?_
    ·skip
     refine z9 [] (vk 0 O O (fun S' hS'=>zG fun K hK=>zV O (zK (hS' O) (by simp) (H.cells (vs:=[_,_,_]) .h O)) hK) (vk 1 O O (fun S' hS'=>zG fun K hK=>zV O (zK (hS' O) (by simp) (H.cells (vs:=[_,_,_,_,_,_,_]) .h2 O)) hK) (wpD_two 2 7 (by kernel_rfl) O O O O ?_ ?_)))
     ·skip
      refine zu (zT O (ct43 (s:=s) fun S hE =>?_))
      replace H:=H.call hE
      replace hS31:=hS31.mono hE
      replace hR35:=hR35.mono hE
      refine ⟨fun _=>hE.up.ext,wpD_two 3 7 (by kernel_rfl) O O O O ?_ ?_⟩
      ·skip
       refine zu (zT O (ct13 (b:=b) (s:=s) (hG.mono H.qx) hR35.h1 hR35.h2 hR35.h3 hR35.l2 hR35.l3 hz hdt fun x140 x240 x340 x440 d240 d340 r40 S hE hr40 hR40=>?_))
       have hR40_b8:=hR40.old (H.get .h)
       have hR40_b6:=hR40.old (H.get .h1)
       have hR40_b3:=hR40.old (H.get .h2)
       have hR40_b2:=hR40.old (H.get .h3)
       obtain rfl:r=r40:=hr.trans hr40.symm
       have ho40:=OffL.new hS31.based hR40.orgs
       have hp40:=(OffL.new hR35.based3 hR40.orgs).symm
       replace hR40:=hR40.back H.qx
       replace H:=H.call hE
       replace hS31:=hS31.mono hE
       replace hR35:=hR35.mono hE
       refine zLd (vJ 4 O O O (vO 5 O O (fun _ _ hK=>vj O O hK) (vO 6 O O (fun _ _ hK=>vj O O hK) (zA 7 (by kernel_rfl) O O (zu (W_alloc H O fun b9 S hb9 hE H=>?_))))))
       have hS31_b9:=hS31.ne hb9
       replace hS31:=hS31.mono hE
       have hR35_b9:=hR35.ne hb9
       replace hR35:=hR35.mono hE
       have hR40_b9:=hR40.ne hb9
       replace hR40:=hR40.mono hE
       refine ⟨fun _=>hE.up.ext,zA 8 (by kernel_rfl) O O (zu (zSt H O O O .h O fun S hE H=>?_))⟩
       replace hS31:=hS31.qy hE hS31_b9
       replace hR35:=hR35.qy hE hR35_b9
       replace hR40:=hR40.qy hE hR40_b9
       refine zLd (vJ 9 O O O (zY (ze ?_)))
       refine ⟨_,?le,x140,x240,x340,x440,d240,d340,b9,O,H,hS31,hR35,hR40,hR35_b9,hR40_b2,hR40_b3,hR40_b6,hR40_b8,hR40_b9,ho40,hp40⟩
       case le=>exact Env.qle ⟨O,O,O,O,O,O,O,⟨⟩⟩
      ·skip
       refine zu (W_alloc H O fun b9 S hb9 hE H=>?_)
       have hS31_b9:=hS31.ne hb9
       replace hS31:=hS31.mono hE
       have hR35_b9:=hR35.ne hb9
       replace hR35:=hR35.mono hE
       refine ⟨fun _=>hE.up.ext,zA 3 (by kernel_rfl) O O (zu (zT O (ct13 (b:=b) (s:=s) (hG.mono H.qx) hR35.h1 hR35.h2 hR35.h3 hR35.l2 hR35.l3 hz hdt fun x140 x240 x340 x440 d240 d340 r40 S hE hr40 hR40=>?_)))⟩
       have hR40_b9:=hR40.old (H.get .h)
       have hR40_b8:=hR40.old (H.get .h1)
       have hR40_b6:=hR40.old (H.get .h2)
       have hR40_b3:=hR40.old (H.get .h3)
       have hR40_b2:=hR40.old (H.get .h4)
       obtain rfl:r=r40:=hr.trans hr40.symm
       have ho40:=OffL.new hS31.based hR40.orgs
       have hp40:=(OffL.new hR35.based3 hR40.orgs).symm
       replace hR40:=hR40.back H.qx
       replace H:=H.call hE
       replace hS31:=hS31.mono hE
       replace hR35:=hR35.mono hE
       refine zLd (vJ 4 O O O (vO 5 O O (fun _ _ hK=>vj O O hK) (vO 6 O O (fun _ _ hK=>vj O O hK) (zA 8 (by kernel_rfl) O O (zu (zSt H O O O .h O fun S hE H=>?_))))))
       replace hS31:=hS31.qy hE hS31_b9
       replace hR35:=hR35.qy hE hR35_b9
       replace hR40:=hR40.qy hE hR40_b9
       refine zLd (vJ 9 O O O (zY (ze ?_)))
       refine ⟨_,?le,x140,x240,x340,x440,d240,d340,b9,O,H,hS31,hR35,hR40,hR35_b9,hR40_b2,hR40_b3,hR40_b6,hR40_b8,hR40_b9,ho40,hp40⟩
       case le=>exact Env.qle ⟨O,O,O,O,O,O,O,⟨⟩⟩
     ·skip
      refine zu (W_alloc H O fun b9 S hb9 hE H=>?_)
      have hS31_b9:=hS31.ne hb9
      replace hS31:=hS31.mono hE
      have hR35_b9:=hR35.ne hb9
      replace hR35:=hR35.mono hE
      refine ⟨fun _=>hE.up.ext,zA 2 (by kernel_rfl) O O (zu (zT O (ct43 (s:=s) fun S hE =>?_)))⟩
      replace H:=H.call hE
      replace hS31:=hS31.mono hE
      replace hR35:=hR35.mono hE
      refine ⟨fun _=>hE.up.ext,zA 3 (by kernel_rfl) O O (zu (zT O (ct13 (b:=b) (s:=s) (hG.mono H.qx) hR35.h1 hR35.h2 hR35.h3 hR35.l2 hR35.l3 hz hdt fun x140 x240 x340 x440 d240 d340 r40 S hE hr40 hR40=>?_)))⟩
      have hR40_b9:=hR40.old (H.get .h)
      have hR40_b8:=hR40.old (H.get .h1)
      have hR40_b6:=hR40.old (H.get .h2)
      have hR40_b3:=hR40.old (H.get .h3)
      have hR40_b2:=hR40.old (H.get .h4)
      obtain rfl:r=r40:=hr.trans hr40.symm
      have ho40:=OffL.new hS31.based hR40.orgs
      have hp40:=(OffL.new hR35.based3 hR40.orgs).symm
      replace hR40:=hR40.back H.qx
      replace H:=H.call hE
      replace hS31:=hS31.mono hE
      replace hR35:=hR35.mono hE
      refine zLd (vJ 4 O O O (vO 5 O O (fun _ _ hK=>vj O O hK) (vO 6 O O (fun _ _ hK=>vj O O hK) (zA 8 (by kernel_rfl) O O (zu (zSt H O O O .h O fun S hE H=>?_))))))
      replace hS31:=hS31.qy hE hS31_b9
      replace hR35:=hR35.qy hE hR35_b9
      replace hR40:=hR40.qy hE hR40_b9
      refine zLd (vJ 9 O O O (zY (ze ?_)))
      refine ⟨_,?le,x140,x240,x340,x440,d240,d340,b9,O,H,hS31,hR35,hR40,hR35_b9,hR40_b2,hR40_b3,hR40_b6,hR40_b8,hR40_b9,ho40,hp40⟩
      case le=>exact Env.qle ⟨O,O,O,O,O,O,O,⟨⟩⟩
    ·skip
     rintro _ S ⟨x140,x240,x340,x440,d240,d340,b9,rfl,H,hS31,hR35,hR40,hR35_b9,hR40_b2,hR40_b3,hR40_b6,hR40_b8,hR40_b9,ho40,hp40⟩
     refine vz (zLn (vs:=[_,_,_]) H O .h O (zLn (vs:=[_,_,_]) H O .h2 O (zCl O (ct44 (b:=r.1) (c:=r.1) hR40.h1 hR40.h2 hR40.h3 hZ hS31.h1 hS31.h2 hS31.h3 hZ fun t45 S hE h45=>?_))))
     replace H:=H.call hE
     replace hS31:=hS31.mono hE
     replace hR35:=hR35.mono hE
     replace hR40:=hR40.mono hE
     refine zNt O (zj O ?_)
     rcases t45 with _|_
     ·replace h45:=bF h45
      exact absurd rfl h45
     ·replace h45:=bT h45
      refine zi O (vB O (zi O (vB O (zi O (zT O (ct45 hR40.h4 hS31.h4 (by omega) (by omega) fun t50 S hE h50=>?_))))))
      replace H:=H.call hE
      replace hS31:=hS31.mono hE
      replace hR35:=hR35.mono hE
      replace hR40:=hR40.mono hE
      refine zi O (W_not O (vp O O O O (zN ?_)))
      rcases t50 with _|_
      ·replace h50:=bF h50
       exact absurd rfl h50
      ·replace h50:=bT h50
       refine zn O (zt (ze (zB (zB (z9 [] (vk 0 O O (fun S' hS'=>zG fun K hK=>zV O (zK (hS' O) (by simp) (H.cells (vs:=[_,_,_]) .h1 O)) hK) (vk 1 O O (fun S' hS'=>zG fun K hK=>zV O (zK (hS' O) (by simp) (H.cells (vs:=[_,_,_]) .h4 O)) hK) (zA 2 (by kernel_rfl) O O (zu (zT O (ct42R (b:=b) (h1.mono H.qx) (h2.mono H.qx) (h3.mono H.qx) hz.1 hz.2.1 hz.2.2.1 fun x155 x255 x355 S hE hR55=>?_)))))))))))
       replace hR55:=hR55.back H.qx
       replace H:=H.call hE
       replace hS31:=hS31.mono hE
       replace hR35:=hR35.mono hE
       replace hR40:=hR40.mono hE
       refine ⟨fun _=>hE.up.ext,zA 3 (by kernel_rfl) O O (zu (zT O (ct44 (b:=b) (c:=b) hR35.h1 hR35.h2 hR35.h3 hz hR55.h1 hR55.h2 hR55.h3 hz fun t56 S hE h56=>?_)))⟩
       replace H:=H.call hE
       replace hS31:=hS31.mono hE
       replace hR35:=hR35.mono hE
       replace hR40:=hR40.mono hE
       refine zLd (vO 4 O O (fun _ _ hK=>W_not O hK) (zY (ze ?_)))
       rcases t56 with _|_
       ·replace h56:=bF h56
        exact absurd rfl h56
       ·replace h56:=bT h56
        refine zn O (zt (ze (zR (zj O (vA (zLn (vs:=[_,_,_]) H O .h1 O (zj O (zCl O (ct46R (r:=(b,[])) hR35 H.qx hz fun y60 S hE hq60 hm60=>?_)))))))))
        replace H:=H.markBox hR35 hE (fa_cons hR35_b9 (fa_cons hR35_b8 (fa_cons hR35_b6 (fa_cons hR35_b3 (fa_cons hR35_b2 fa_nil)))))
        replace hS31:=hS31.markB hR35 ho35.take3 hE
        replace hR40:=hR40.markB hR35 hp40 hE
        refine zj O (zN (vz (zj O (za (vq O O fun t62 h62=>zj O ?_)))))
        rcases t62 with _|_
        ·replace h62:=bF h62
         refine zi O (W_loadN (vs:=[_,_,_]) H O .h O (zi O (W_loadN (vs:=[_,_,_]) H O .h2 O (zi O (zT O (ct44 (b:=r.1) (c:=r.1) hR40.h1 hR40.h2 hR40.h3 hZ hS31.h1 hS31.h2 hS31.h3 hZ fun t66 S hE h66=>?_))))))
         replace H:=H.call hE
         replace hS31:=hS31.mono hE
         replace hR40:=hR40.mono hE
         refine zi O (W_not O (vp O O O O (zj O ?_)))
         rcases t66 with _|_
         ·replace h66:=bF h66
          exact absurd rfl h66
         ·replace h66:=bT h66
          refine zi O (vB O (zi O (vB O (zi O (zT O (ct45 hR40.h4 hS31.h4 (by omega) (by omega) fun t72 S hE h72=>?_))))))
          replace H:=H.call hE
          replace hS31:=hS31.mono hE
          replace hR40:=hR40.mono hE
          refine zi O (W_not O (vp O O O O (zN ?_)))
          rcases t72 with _|_
          ·replace h72:=bF h72
           exact absurd rfl h72
          ·replace h72:=bT h72
           refine zn O (zt (ze (zR (zj O (vA (zLn (vs:=[_,_,_]) H O .h O (zj O (zCl O (ct46R hR40 H.qx hZ fun y77 S hE hq77 hm77=>?_)))))))))
           replace H:=H.markBox hR40 hE (fa_cons hR40_b9 (fa_cons hR40_b8 (fa_cons hR40_b6 (fa_cons hR40_b3 (fa_cons hR40_b2 fa_nil)))))
           replace hS31:=hS31.markB hR40 ho40.take3 hE
           replace hR40:=hq77
           refine zj O (vA (zj O (zj O (zCl O (ct47R (r:=(y77,r.2)) hR40 H.qx (by omega) (by show _+7*r.2.length≤_;omega) fun l80 S hE hq80 hl80 hm80=>?_)))))
           replace H:=H.markSegs hR40 hE (fa_cons hR40_b9 (fa_cons hR40_b8 (fa_cons hR40_b6 (fa_cons hR40_b3 (fa_cons hR40_b2 fa_nil)))))
           replace hS31:=hS31.markS hR40 ho40.last hE
           replace hR40:=hq80
           refine zj O (vA (zj O (vA (zLn (vs:=[_,_,_]) H O .h O (zj O (zCl O (ct48R (q:=r.1) hR40 hm77 hZ fun S hE =>?_)))))))
           replace H:=H.call hE
           replace hS31:=hS31.mono hE
           replace hR40:=hR40.mono hE
           refine zj O (zN (vz (zj O (za (vq O O fun t85 h85=>zN ?_)))))
           rcases t85 with _|_
           ·replace h85:=bF h85
            refine zn O (zt (ze (zR (zj O (zj O (zCl O (ct49R hR40 hl80 (by omega) (by omega) hm80 fun S hE =>?_)))))))
            replace H:=H.call hE
            replace hS31:=hS31.mono hE
            replace hR40:=hR40.mono hE
            refine zj O (zN (vz (zj O (za (vq O O fun t90 h90=>zN ?_)))))
            rcases t90 with _|_
            ·replace h90:=bF h90
             refine zn O (zt (ze (vz (zj O (zj O (za (W_neI O O fun t93 h93=>zN ?_)))))))
             rcases t93 with _|_
             ·replace h93:=bF h93
              refine zn O (zt (ze ?_))
              refine wpS_cut (fun E S=>∃ (x199:Option Addr) (x299:Option Addr) (x399:Option Addr) (x499:Option Addr) (d299:Nat) (d399:Nat) (b14:Nat),E=Env.lst [(6,ptr b6 0),(7,.slice x431 r.2.length d431),(9,ptr b9 0),(10,.slice x440 r.2.length r.2.length),(12,int (1+7*r.1.rs.length+2*r.1.es.length+7*r.1.cs.length+7*r.2.length:Nat)),(14,ptr b14 0),(15,.slice x499 r.2.length r.2.length)]∧Loc [] S0 S [(b14,Cs [.slice x199 r.1.rs.length r.1.rs.length,.slice x299 r.1.es.length d299,.slice x399 r.1.cs.length d399] 29),(b9,Cs [.slice x140 r.1.rs.length r.1.rs.length,.slice x240 r.1.es.length d240,.slice x340 r.1.cs.length d340] 29),(b6,Cs [.slice x131 r.1.rs.length d131,.slice x231 r.1.es.length d231,.slice x331 r.1.cs.length d331] 29)]∧(BoxS S x131 x231 x331 x431 r)∧(BoxR S0 S x140 x240 x340 x440 d240 d340 (y77,l80))∧(BoxR S0 S x199 x299 x399 x499 d299 d399 r)) ?_ ?_
              ·skip
               refine z9 [] (vk 0 O O (fun S' hS'=>zG fun K hK=>zV O (zK (hS' O) (by simp) (H.cells (vs:=[_,_,_]) .h4 O)) hK) (vk 2 O O (fun S' hS'=>zG fun K hK=>zV O (zK (hS' O) (by simp) (H.cells (vs:=[_,_,_,_,_,_,_]) .h3 O)) hK) (wpD_two 1 8 (by kernel_rfl) O O O O ?_ ?_)))
               ·skip
                refine zu (zT O (ct42R (b:=b) (h1.mono H.qx) (h2.mono H.qx) (h3.mono H.qx) hz.1 hz.2.1 hz.2.2.1 fun x196 x296 x396 S hE hR96=>?_))
                replace hR96:=hR96.back H.qx
                replace H:=H.call hE
                replace hS31:=hS31.mono hE
                replace hR40:=hR40.mono hE
                refine ⟨fun _=>hE.up.ext,wpD_two 3 8 (by kernel_rfl) O O O O ?_ ?_⟩
                ·skip
                 refine zu (zT O (ct43 (s:=s) fun S hE =>?_))
                 replace H:=H.call hE
                 replace hS31:=hS31.mono hE
                 replace hR40:=hR40.mono hE
                 replace hR96:=hR96.mono hE
                 refine zLd (wpD_two 4 8 (by kernel_rfl) O O O O ?_ ?_)
                 ·skip
                  refine zu (zT O (ct13 (b:=b) (s:=s) (hG.mono H.qx) hR96.h1 hR96.h2 hR96.h3 hR96.l2 hR96.l3 hz hdt fun x199 x299 x399 x499 d299 d399 r99 S hE hr99 hR99=>?_))
                  obtain rfl:r=r99:=hr.trans hr99.symm
                  replace hR99:=hR99.back H.qx
                  replace H:=H.call hE
                  replace hS31:=hS31.mono hE
                  replace hR40:=hR40.mono hE
                  refine zLd (vJ 5 O O O (vO 6 O O (fun _ _ hK=>vj O O hK) (vO 7 O O (fun _ _ hK=>vj O O hK) (zA 8 (by kernel_rfl) O O (zu (W_alloc H O fun b14 S hb14 hE H=>?_))))))
                  have hS31_b14:=hS31.ne hb14
                  replace hS31:=hS31.mono hE
                  have hR40_b14:=hR40.ne hb14
                  replace hR40:=hR40.mono hE
                  have hR99_b14:=hR99.ne hb14
                  replace hR99:=hR99.mono hE
                  refine ⟨fun _=>hE.up.ext,zA 9 (by kernel_rfl) O O (zu (zSt H O O O .h O fun S hE H=>?_))⟩
                  replace hS31:=hS31.qy hE hS31_b14
                  replace hR40:=hR40.qy hE hR40_b14
                  replace hR99:=hR99.qy hE hR99_b14
                  refine zLd (vJ 10 O O O (zY (ze ?_)))
                  refine ⟨_,?le,x199,x299,x399,x499,d299,d399,b14,O,(H.sub (.cons_cons _ (.cons_cons _ (.cons _ (.cons_cons _ (.cons _ (.cons _ .slnil))))))),hS31,hR40,hR99⟩
                  case le=>exact Env.qle ⟨O,O,O,O,O,O,O,⟨⟩⟩
                 ·skip
                  refine zu (W_alloc H O fun b14 S hb14 hE H=>?_)
                  have hS31_b14:=hS31.ne hb14
                  replace hS31:=hS31.mono hE
                  have hR40_b14:=hR40.ne hb14
                  replace hR40:=hR40.mono hE
                  replace hR96:=hR96.mono hE
                  refine ⟨fun _=>hE.up.ext,zA 4 (by kernel_rfl) O O (zu (zT O (ct13 (b:=b) (s:=s) (hG.mono H.qx) hR96.h1 hR96.h2 hR96.h3 hR96.l2 hR96.l3 hz hdt fun x199 x299 x399 x499 d299 d399 r99 S hE hr99 hR99=>?_)))⟩
                  have hR99_b14:=hR99.old (H.get .h)
                  obtain rfl:r=r99:=hr.trans hr99.symm
                  replace hR99:=hR99.back H.qx
                  replace H:=H.call hE
                  replace hS31:=hS31.mono hE
                  replace hR40:=hR40.mono hE
                  refine zLd (vJ 5 O O O (vO 6 O O (fun _ _ hK=>vj O O hK) (vO 7 O O (fun _ _ hK=>vj O O hK) (zA 9 (by kernel_rfl) O O (zu (zSt H O O O .h O fun S hE H=>?_))))))
                  replace hS31:=hS31.qy hE hS31_b14
                  replace hR40:=hR40.qy hE hR40_b14
                  replace hR99:=hR99.qy hE hR99_b14
                  refine zLd (vJ 10 O O O (zY (ze ?_)))
                  refine ⟨_,?le,x199,x299,x399,x499,d299,d399,b14,O,(H.sub (.cons_cons _ (.cons_cons _ (.cons _ (.cons_cons _ (.cons _ (.cons _ .slnil))))))),hS31,hR40,hR99⟩
                  case le=>exact Env.qle ⟨O,O,O,O,O,O,O,⟨⟩⟩
                ·skip
                 refine zu (W_alloc H O fun b14 S hb14 hE H=>?_)
                 have hS31_b14:=hS31.ne hb14
                 replace hS31:=hS31.mono hE
                 have hR40_b14:=hR40.ne hb14
                 replace hR40:=hR40.mono hE
                 replace hR96:=hR96.mono hE
                 refine ⟨fun _=>hE.up.ext,zA 3 (by kernel_rfl) O O (zu (zT O (ct43 (s:=s) fun S hE =>?_)))⟩
                 replace H:=H.call hE
                 replace hS31:=hS31.mono hE
                 replace hR40:=hR40.mono hE
                 replace hR96:=hR96.mono hE
                 refine zLd (zA 4 (by kernel_rfl) O O (zu (zT O (ct13 (b:=b) (s:=s) (hG.mono H.qx) hR96.h1 hR96.h2 hR96.h3 hR96.l2 hR96.l3 hz hdt fun x199 x299 x399 x499 d299 d399 r99 S hE hr99 hR99=>?_))))
                 have hR99_b14:=hR99.old (H.get .h)
                 obtain rfl:r=r99:=hr.trans hr99.symm
                 replace hR99:=hR99.back H.qx
                 replace H:=H.call hE
                 replace hS31:=hS31.mono hE
                 replace hR40:=hR40.mono hE
                 refine zLd (vJ 5 O O O (vO 6 O O (fun _ _ hK=>vj O O hK) (vO 7 O O (fun _ _ hK=>vj O O hK) (zA 9 (by kernel_rfl) O O (zu (zSt H O O O .h O fun S hE H=>?_))))))
                 replace hS31:=hS31.qy hE hS31_b14
                 replace hR40:=hR40.qy hE hR40_b14
                 replace hR99:=hR99.qy hE hR99_b14
                 refine zLd (vJ 10 O O O (zY (ze ?_)))
                 refine ⟨_,?le,x199,x299,x399,x499,d299,d399,b14,O,(H.sub (.cons_cons _ (.cons_cons _ (.cons _ (.cons_cons _ (.cons _ (.cons _ .slnil))))))),hS31,hR40,hR99⟩
                 case le=>exact Env.qle ⟨O,O,O,O,O,O,O,⟨⟩⟩
               ·skip
                refine zu (W_alloc H O fun b14 S hb14 hE H=>?_)
                have hS31_b14:=hS31.ne hb14
                replace hS31:=hS31.mono hE
                have hR40_b14:=hR40.ne hb14
                replace hR40:=hR40.mono hE
                refine ⟨fun _=>hE.up.ext,zA 1 (by kernel_rfl) O O (zu (zT O (ct42R (b:=b) (h1.mono H.qx) (h2.mono H.qx) (h3.mono H.qx) hz.1 hz.2.1 hz.2.2.1 fun x196 x296 x396 S hE hR96=>?_)))⟩
                replace hR96:=hR96.back H.qx
                replace H:=H.call hE
                replace hS31:=hS31.mono hE
                replace hR40:=hR40.mono hE
                refine ⟨fun _=>hE.up.ext,zA 3 (by kernel_rfl) O O (zu (zT O (ct43 (s:=s) fun S hE =>?_)))⟩
                replace H:=H.call hE
                replace hS31:=hS31.mono hE
                replace hR40:=hR40.mono hE
                replace hR96:=hR96.mono hE
                refine zLd (zA 4 (by kernel_rfl) O O (zu (zT O (ct13 (b:=b) (s:=s) (hG.mono H.qx) hR96.h1 hR96.h2 hR96.h3 hR96.l2 hR96.l3 hz hdt fun x199 x299 x399 x499 d299 d399 r99 S hE hr99 hR99=>?_))))
                have hR99_b14:=hR99.old (H.get .h)
                obtain rfl:r=r99:=hr.trans hr99.symm
                replace hR99:=hR99.back H.qx
                replace H:=H.call hE
                replace hS31:=hS31.mono hE
                replace hR40:=hR40.mono hE
                refine zLd (vJ 5 O O O (vO 6 O O (fun _ _ hK=>vj O O hK) (vO 7 O O (fun _ _ hK=>vj O O hK) (zA 9 (by kernel_rfl) O O (zu (zSt H O O O .h O fun S hE H=>?_))))))
                replace hS31:=hS31.qy hE hS31_b14
                replace hR40:=hR40.qy hE hR40_b14
                replace hR99:=hR99.qy hE hR99_b14
                refine zLd (vJ 10 O O O (zY (ze ?_)))
                refine ⟨_,?le,x199,x299,x399,x499,d299,d399,b14,O,(H.sub (.cons_cons _ (.cons_cons _ (.cons _ (.cons_cons _ (.cons _ (.cons _ .slnil))))))),hS31,hR40,hR99⟩
                case le=>exact Env.qle ⟨O,O,O,O,O,O,O,⟨⟩⟩
              ·skip
               rintro _ S ⟨x199,x299,x399,x499,d299,d399,b14,rfl,H,hS31,hR40,hR99⟩
               refine vz (zLn (vs:=[_,_,_]) H O .h O (zLn (vs:=[_,_,_]) H O .h2 O (zCl O (ct44 (b:=r.1) (c:=r.1) hR99.h1 hR99.h2 hR99.h3 hZ hS31.h1 hS31.h2 hS31.h3 hZ fun t104 S hE h104=>?_))))
               replace H:=H.call hE
               replace hS31:=hS31.mono hE
               replace hR40:=hR40.mono hE
               replace hR99:=hR99.mono hE
               refine zNt O (zj O ?_)
               rcases t104 with _|_
               ·replace h104:=bF h104
                exact absurd rfl h104
               ·replace h104:=bT h104
                refine zi O (vB O (zi O (vB O (zi O (zT O (ct45 hR99.h4 hS31.h4 (by omega) (by omega) fun t109 S hE h109=>?_))))))
                replace H:=H.call hE
                replace hR40:=hR40.mono hE
                refine zi O (W_not O (vp O O O O (zN ?_)))
                rcases t109 with _|_
                ·replace h109:=bF h109
                 exact absurd rfl h109
                ·replace h109:=bT h109
                 refine zn O (zt (ze (zR (zj O (vA (zLn (vs:=[_,_,_]) H O .h1 O (zj O (zCl O (ct48R (q:=r.1) hR40 hm77 hZ fun S hE =>?_)))))))))
                 replace H:=H.call hE
                 replace hR40:=hR40.mono hE
                 refine zj O (zN (vz (zj O (za (vq O O fun t116 h116=>zN ?_)))))
                 rcases t116 with _|_
                 ·replace h116:=bF h116
                  refine zn O (zt (ze (zR (zj O (zj O (zCl O (ct49R hR40 hl80 (by omega) (by omega) hm80 fun S hE =>?_)))))))
                  replace H:=H.call hE
                  refine zj O (zN (vz (zj O (za (vq O O fun t121 h121=>zN ?_)))))
                  rcases t121 with _|_
                  ·replace h121:=bF h121
                   refine zn O (zt (ze (vz (zj O (zj O (za (W_neI O O fun t124 h124=>zN ?_)))))))
                   rcases t124 with _|_
                   ·replace h124:=bF h124
                    refine zn O (zt (ze (zR (zj O (zN (zh (zP O ?_)))))))
                    exact ⟨rfl,H.g.eq.trans hG.i⟩
                   ·replace h124:=bT h124
                    exact absurd rfl h124
                  ·replace h121:=bT h121
                   exact absurd h121 (by omega)
                 ·replace h116:=bT h116
                  exact absurd h116 (by omega)
             ·replace h93:=bT h93
              exact absurd rfl h93
            ·replace h90:=bT h90
             exact absurd h90 (by omega)
           ·replace h85:=bT h85
            exact absurd h85 (by omega)
        ·replace h62:=bT h62
         exact absurd h62 (by omega)
  ·replace h25:=bT h25
   refine zr O (zR (zj O (zN (zh (zv (zP O ?_))))))
   exact ⟨rfl,H.g.eq.trans hG.i⟩
 ·replace h20:=bT h20
  refine zr O (zR (zj O (zN (zh (zv (zP O ?_))))))
  exact ⟨rfl,H.g.eq.trans hG.i⟩
end
end Go.Proofs.YtnccejlibbgpkaaGreatDoor
