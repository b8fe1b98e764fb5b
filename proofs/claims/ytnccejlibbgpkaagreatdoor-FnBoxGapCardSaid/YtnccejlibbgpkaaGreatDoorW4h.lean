/-
  The law FnBoxGap answers true at every input that its row allows, at every start that lays its variables: part 8 of 8.
-/
import GoSem.Step
import Derived.Conc.Token
import Derived.AtR
import Derived.Conc.Own2
import Derived.Conc.CrowdComm
import Derived.Conc.CrowdTrace
import Derived.Conc.Fork
import Derived.Conc.CrowdStepC
import Derived.Below
import Derived.Laws.Append
import Derived.Test.YtnccejlibbgpkaaGreatDoorChecked
import Derived.Test.YtnccejlibbgpkaaGreatDoorProg
import Derived.MapKept
import Derived.Conc.EventLaws
import Derived.Test.YtnccejlibbgpkaaGreatDoorRows
import Derived.Conc.LeavingOf
import Derived.LaidMore
import Derived.ProofKit
import Derived.OpenShut
import Derived.OpenVars
import Derived.Stop.Joined
import Derived.Test.YtnccejlibbgpkaaGreatDoorTie
import Derived.Test.YtnccejlibbgpkaaGreatDoorCards
import Derived.SevenTiedAt
import Derived.Test.YtnccejlibbgpkaaGreatDoorW4g
set_option linter.unusedSimpArgs false
set_option linter.unusedVariables false
set_option linter.unusedSectionVars false
namespace Go.Proofs.YtnccejlibbgpkaaGreatDoor
set_option maxRecDepth 100000
section
open Go
open Go.ChangeShapes Go.WideShapes Go.ChangeAt Go.RowKit Go.Conc
theorem varsRow:varsRowed Tryz.prog ["loop.example/hatchway/impl.errEnd"]=true:=by kernel_rfl
theorem witR4 {H:Type} {enc:TypeId × Value→H} (os:Os):∃ (w:World) (tape:Tape) (i:Input),w.os=os∧(w.forCall tape i).Shaped Tryz.prog∧i.vars=[]∧Input.okWide Tryz.prog (w.forCall tape i) .any w.heap.size 4 i ∧
      ((Rows.fnBoxGapSpec.pre enc Tryz.prog Tryz.f4 [] false (w.forCall tape i).memory i.args∧laidMetH Tryz.prog laid6 (w.forCall tape i).memory)∧sizedMet enc Tryz.prog Tryz.f4 (OpenSpec.ofChange Rows.fnBoxGapSpec) false (w.forCall tape i).memory i.args)∧({}:Assume).holds Tryz.prog (lone (Frame.enter Tryz.prog 4 i.args .normal) [] (w.forCall tape i)):=
  ChangeSpec.witness_shaped (enc:=enc) (C:=Tryz.checked) (os:=os) (X:=fun w _=>laidMetH Tryz.prog laid6 w) false (World.doorLaid Tryz.prog 4000 os) #[.slice none 0 0,.slice none 0 0] 8 rfl (World.shaped_of_RefB (by kernel_rfl) (by kernel_rfl)) (by kernel_rfl) (by kernel_rfl) (by kernel_rfl) (door_met os _)
theorem postR4 {H:Type} {enc:TypeId × Value→H} (W W':World) (args:Array Value) (ds gs:List (DataW H)) (before:List MemPlace) (hW:DataW.Whole enc Tryz.prog Tryz.f4.params.toList Rows.fnBoxGapSpec.vars false W args.toList ds gs before) (hb:Below W.heap.size W W'):Rows.fnBoxGapSpec.post enc Tryz.prog Tryz.f4 false true false false W args (.bool true) W':=by
 have hW':=hW
 obtain ⟨p,q,hA0,hV,rfl,_,_⟩:=hW
 have hlt:∀ x∈p++q,x.block<W.heap.size:=fun x hx=>by simpa using hW'.lt x hx
 have hA:DataW.TrodAll enc Tryz.prog W 0 (fun _=>true) true Tryz.f4.params.toList args.toList ds p:=hA0
 rw [Tryz.params4] at hA
 obtain ⟨v0,v1,d0,d1,p0,p1,rfl,rfl,rfl,h0,h1⟩:=trodAll_two hA
 obtain ⟨g1,rfl⟩:∃ g,gs=[g]:=by
  cases gs with
  | nil=>exact hV.elim
  | cons g gs=>cases gs with
   | nil=>exact ⟨g,rfl⟩
   | cons g2 gs=>obtain ⟨_,_,_,_,_,_,_,_,_,_,h,_⟩:=hV;exact h.elim
 refine ⟨_,_,_,[],p0++p1,q,hW',?_,?_,?_,hb.frame _,fun h=>by cases h⟩
 ·exact trodAll_mk1 (shut_bool Tryz.underlying4 _)
 ·exact trodAll_cons_mk (Below.trod laidOut_ (by kernel_rfl) (of_decide_eq_true (by kernel_rfl)) h0 hb fun x hx=>hlt x (by simp [hx])) (trodAll_mk1 (Below.trod laidOut_ (by kernel_rfl) (of_decide_eq_true (by kernel_rfl)) h1 hb fun x hx=>hlt x (by simp [hx])))
 ·exact hb.trodVars laidOut_ varsRow hV
theorem jR4:joinedFacts Tryz.pinned.checked.prog 4 Tryz.f4 Rows.fnBoxGapSpec Rows.fnBoxGapRow=true:=by kernel_rfl
theorem nR4:Tryz.pinned.checked.prog.funcNamed Rows.fnBoxGapRow.func=some 4:=by kernel_rfl
theorem iR4:Tryz.f4.isInstance Tryz.pinned.checked.prog Rows.fnBoxGapRow.origin Rows.fnBoxGapRow.targs:=of_decide_eq_true (by kernel_rfl)
theorem wR4:Tryz.f4.isWrapper Tryz.pinned.checked.prog Rows.fnBoxGapRow.wrapper Rows.fnBoxGapRow.mainSum:=by unfold Func.isWrapper;first | (rw [if_pos (by decide +kernel)];kernel_rfl) | (rw [if_neg (by decide +kernel)];exact ⟨rfl,rfl⟩)
theorem runs4 {H:Type} {enc:TypeId × Value→H} (W:World) (base:Nat) (args:Array Value) (ds gs:List (DataW H)) (before:List MemPlace)
    (hval:∀ (j:Nat) t v,Tryz.f4.params[j]? = some t→args[j]? = some v→Value.okWide Tryz.prog W .any base t v)
    (hW:DataW.Whole enc Tryz.prog Tryz.f4.params.toList Rows.fnBoxGapSpec.vars false W args.toList ds gs before)
    (hsz:(DataW.weightsEach Tryz.prog (Tryz.f4.params.toList++Rows.fnBoxGapSpec.plain.varTypes Tryz.prog) (ds++gs)).all (·≤reachBytes)=true) (hG:Glob (worldSt W)) :
    Go1 Tryz.prog true (FinR Tryz.prog fun v S=>v=.bool true∧S.g=.idle) (G (Frame.enter Tryz.prog 4 args .normal) []) (worldSt W):=by
  obtain ⟨p,q,hA0,_,_,_,_⟩:=hW
  have hA:DataW.TrodAll enc Tryz.prog W 0 (fun _=>true) true Tryz.f4.params.toList args.toList ds p:=hA0
  rw [Tryz.params4] at hA hval
  obtain ⟨v0,v1,d0,d1,p0,p1,rfl,rfl,rfl,h0,h1⟩:=trodAll_two hA
  obtain ⟨a,n,cap,rfl,hb,hc⟩:=by_arg (hval 0 22 v0 rfl rfl) h0
  obtain ⟨a1,n1,cap1,rfl,hb1,hc1⟩:=by_arg (hval 1 22 v1 rfl rfl) h1
  exact walk4 (globI_start hG) hb hc hb1 hc1
theorem lR4 (os:Os) (st:os.Started) (H:Type) (enc:TypeId × Value→H):ReturnsInLeavingWide {} Tryz.checked os 4 .any (fun w args=>(Rows.fnBoxGapSpec.pre enc Tryz.prog Tryz.f4 [] false w args∧laidMetH Tryz.prog laid6 w)∧sizedMet enc Tryz.prog Tryz.f4 (OpenSpec.ofChange Rows.fnBoxGapSpec) false w args) (Rows.fnBoxGapSpec.post enc Tryz.prog Tryz.f4 false true false false):=law_lifted st Tryz.func4 (witR4 os) runs4 postR4
theorem kR4 (os:Os) (st:os.Started) (H:Type) (enc:TypeId × Value→H):ReturnsInLeavingWide Rows.fnBoxGapRow.assume Tryz.pinned.checked os 4 .any (Rows.fnBoxGapRow.pre enc Tryz.pinned.checked.prog Tryz.f4 (OpenSpec.ofChange Rows.fnBoxGapSpec)) (Rows.fnBoxGapSpec.post enc Tryz.pinned.checked.prog Tryz.f4 Rows.fnBoxGapRow.apart Rows.fnBoxGapRow.fresh Rows.fnBoxGapRow.handsOn Rows.fnBoxGapRow.again):=lR4 os st H enc
theorem row4:Rows.FnBoxGapSaid:=
 OpenClaim.holds_of_wide_leaving (p:=Tryz.pinned) (s:=Rows.fnBoxGapSpec) (c:=Rows.fnBoxGapRow) 4 Tryz.f4 rfl rfl rfl rfl rfl rfl rfl ⟨rfl,rfl,rfl,rfl,rfl⟩ rfl rfl rfl rfl rfl nR4 Tryz.func4 jR4 iR4 wR4 (fun os started H enc _=>kR4 os started H enc)
theorem holds_tied_goes (Lk:Looks) {p:Pinned} {s:OpenSpec} {c:OpenClaim} (kinds:List LaidKind) (tests:Bool) (har:Bool × String) (lk:Bool)
    (hc:c.holds p s) (hw:c.wfByText s=true) (htie:c.laidByTextAt Lk p kinds tests)
    (hst:c.start=.entering) (hnb:c.noBlocks=false∧c.again=false) (hm:p.checked.prog.mainIs=some (har.1,har.2.toList)) (hn:(!har.1&&har.2.isEmpty && !lk)=false)
    (hl:∀ f fn,p.checked.prog.funcNamed c.func=some f→p.checked.prog.funcs[f]? = some fn→lk=p.checked.prog.looks []∧∀ (j:Nat) t,fn.params[j]? = some t→p.checked.prog.wantsStandIn t=false)
    (hg:true=c.goesBy p.checked.prog) :
    Claim7.holds p (.plain s) {stood:={row:=c,standIns:=[],harness:=har,looks:=lk},kinds:=[],alts:=[],goes:=true,laidByText:=true,laidKinds:=kinds,laidTests:=tests,laidLooks:=Lk}:=by
  have h6:∀ r:OpenClaim,Claim7.isSixth {stood:={row:=r,standIns:=[],harness:=har,looks:=lk},kinds:=[]}=false:=fun r=>by simpa [Claim7.isSixth] using hn
  exact ⟨Claim7.tied_new_at Lk kinds tests (Claim7.new_of_sixth hc har lk hst hnb hm (h6 c) hl) hw,fun D hD=>(by cases hD),htie,(fun h=>by cases h),hg⟩
theorem card4:Rows.FnBoxGapCardSaid:=
 holds_tied_goes .later [.data,.data,.data,.sentinel,.sentinel,.sentinel] true (true, "c2fbee9bb79843c0e5bcabefdd336e1964043c389972583b35c774b1b2370534") true
  row4 (by kernel_rfl) fnBoxGap_row_tie rfl ⟨rfl,rfl⟩ (by kernel_rfl) rfl
  (fun f fn hf hfn=>by
   obtain rfl:f=4:=Option.some.inj ((show Tryz.prog.funcNamed "loop.example/hatchway/laws.FnBoxGap"=some 4 by kernel_rfl).symm.trans hf) |>.symm
   obtain rfl:fn=Tryz.f4:=(Option.some.inj (Tryz.func4.symm.trans hfn)).symm
   exact ⟨by kernel_rfl,fun j t ht=>by
    rw [Tryz.params4] at ht
    rcases j with _ | _ | j
    ·simp at ht;subst ht;kernel_rfl
    ·simp at ht;subst ht;kernel_rfl
    ·simp at ht⟩)
  (by kernel_rfl)
end
end Go.Proofs.YtnccejlibbgpkaaGreatDoor
