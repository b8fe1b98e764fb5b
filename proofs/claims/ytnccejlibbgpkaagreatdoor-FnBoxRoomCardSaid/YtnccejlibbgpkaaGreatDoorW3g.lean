/-
  The law FnBoxRoom answers true at every input that its row allows, at every start that lays its variables: part 7 of 7.
-/
import GoSem.Step
import Derived.Conc.Token
import Derived.AtR
import Derived.Conc.Own2
import Derived.Conc.CrowdComm
import Derived.Conc.CrowdTrace
import Derived.Conc.Fork
import Derived.Conc.CrowdStepC
import Derived.Below
import Derived.Laws.Append
import Derived.Test.YtnccejlibbgpkaaGreatDoorChecked
import Derived.Test.YtnccejlibbgpkaaGreatDoorProg
import Derived.MapKept
import Derived.Conc.EventLaws
import Derived.Test.YtnccejlibbgpkaaGreatDoorRows
import Derived.Conc.LeavingOf
import Derived.LaidMore
import Derived.ProofKit
import Derived.OpenShut
import Derived.OpenVars
import Derived.Stop.Joined
import Derived.Test.YtnccejlibbgpkaaGreatDoorTie
import Derived.Test.YtnccejlibbgpkaaGreatDoorCards
import Derived.SevenTiedAt
import Derived.Test.YtnccejlibbgpkaaGreatDoorW3f
set_option linter.unusedSimpArgs false
set_option linter.unusedVariables false
set_option linter.unusedSectionVars false
namespace Go.Proofs.YtnccejlibbgpkaaGreatDoor
set_option maxRecDepth 100000
section
open Go
open Go.ChangeShapes Go.WideShapes Go.ChangeAt Go.RowKit Go.Conc
theorem varsRow:varsRowed Tryz.prog ["loop.example/hatchway/impl.errEnd"]=true:=by kernel_rfl
theorem witR3 {H:Type} {enc:TypeId × Value→H} (os:Os):∃ (w:World) (tape:Tape) (i:Input),w.os=os∧(w.forCall tape i).Shaped Tryz.prog∧i.vars=[]∧Input.okWide Tryz.prog (w.forCall tape i) .any w.heap.size 3 i ∧
      ((Rows.fnBoxRoomSpec.pre enc Tryz.prog Tryz.f3 [] false (w.forCall tape i).memory i.args∧laidMetH Tryz.prog laid6 (w.forCall tape i).memory)∧sizedMet enc Tryz.prog Tryz.f3 (OpenSpec.ofChange Rows.fnBoxRoomSpec) false (w.forCall tape i).memory i.args)∧({}:Assume).holds Tryz.prog (lone (Frame.enter Tryz.prog 3 i.args .normal) [] (w.forCall tape i)):=
  ChangeSpec.witness_shaped (enc:=enc) (C:=Tryz.checked) (os:=os) (X:=fun w _=>laidMetH Tryz.prog laid6 w) false (World.doorLaid Tryz.prog 4000 os) #[.slice none 0 0] 8 rfl (World.shaped_of_RefB (by kernel_rfl) (by kernel_rfl)) (by kernel_rfl) (by kernel_rfl) (by kernel_rfl) (door_met os _)
theorem postR3 {H:Type} {enc:TypeId × Value→H} (W W':World) (args:Array Value) (ds gs:List (DataW H)) (before:List MemPlace) (hW:DataW.Whole enc Tryz.prog Tryz.f3.params.toList Rows.fnBoxRoomSpec.vars false W args.toList ds gs before) (hb:Below W.heap.size W W'):Rows.fnBoxRoomSpec.post enc Tryz.prog Tryz.f3 false true false false W args (.bool true) W':=by
 have hW':=hW
 obtain ⟨p,q,hA0,hV,rfl,_,_⟩:=hW
 have hlt:∀ x∈p++q,x.block<W.heap.size:=fun x hx=>by simpa using hW'.lt x hx
 have hA:DataW.TrodAll enc Tryz.prog W 0 (fun _=>true) true Tryz.f3.params.toList args.toList ds p:=hA0
 rw [Tryz.params3] at hA
 obtain ⟨v0,d0,rfl,rfl,h0⟩:=trodAll_one hA
 obtain ⟨g1,rfl⟩:∃ g,gs=[g]:=by
  cases gs with
  | nil=>exact hV.elim
  | cons g gs=>cases gs with
   | nil=>exact ⟨g,rfl⟩
   | cons g2 gs=>obtain ⟨_,_,_,_,_,_,_,_,_,_,h,_⟩:=hV;exact h.elim
 refine ⟨_,_,_,[],p,q,hW',?_,?_,?_,hb.frame _,fun h=>by cases h⟩
 ·exact trodAll_mk1 (shut_bool Tryz.underlying4 _)
 ·exact trodAll_mk1 (Below.trod laidOut_ (by kernel_rfl) (of_decide_eq_true (by kernel_rfl)) h0 hb fun x hx=>hlt x (by simp [hx]))
 ·exact hb.trodVars laidOut_ varsRow hV
theorem jR3:joinedFacts Tryz.pinned.checked.prog 3 Tryz.f3 Rows.fnBoxRoomSpec Rows.fnBoxRoomRow=true:=by kernel_rfl
theorem nR3:Tryz.pinned.checked.prog.funcNamed Rows.fnBoxRoomRow.func=some 3:=by kernel_rfl
theorem iR3:Tryz.f3.isInstance Tryz.pinned.checked.prog Rows.fnBoxRoomRow.origin Rows.fnBoxRoomRow.targs:=of_decide_eq_true (by kernel_rfl)
theorem wR3:Tryz.f3.isWrapper Tryz.pinned.checked.prog Rows.fnBoxRoomRow.wrapper Rows.fnBoxRoomRow.mainSum:=by unfold Func.isWrapper;first | (rw [if_pos (by decide +kernel)];kernel_rfl) | (rw [if_neg (by decide +kernel)];exact ⟨rfl,rfl⟩)
theorem runs3 {H:Type} {enc:TypeId × Value→H} (W:World) (base:Nat) (args:Array Value) (ds gs:List (DataW H)) (before:List MemPlace)
    (hval:∀ (j:Nat) t v,Tryz.f3.params[j]? = some t→args[j]? = some v→Value.okWide Tryz.prog W .any base t v)
    (hW:DataW.Whole enc Tryz.prog Tryz.f3.params.toList Rows.fnBoxRoomSpec.vars false W args.toList ds gs before)
    (hsz:(DataW.weightsEach Tryz.prog (Tryz.f3.params.toList++Rows.fnBoxRoomSpec.plain.varTypes Tryz.prog) (ds++gs)).all (·≤reachBytes)=true) (hG:Glob (worldSt W)) :
    Go1 Tryz.prog true (FinR Tryz.prog fun v S=>v=.bool true∧S.g=.idle) (G (Frame.enter Tryz.prog 3 args .normal) []) (worldSt W):=by
  obtain ⟨p,q,hA0,_,_,_,_⟩:=hW
  have hA:DataW.TrodAll enc Tryz.prog W 0 (fun _=>true) true Tryz.f3.params.toList args.toList ds p:=hA0
  rw [Tryz.params3] at hA hval
  obtain ⟨v0,d0,rfl,rfl,h0⟩:=trodAll_one hA
  obtain ⟨a,n,cap,rfl,hb,hc⟩:=by_arg (hval 0 22 v0 rfl rfl) h0
  exact walk3 (globI_start hG) hb hc
theorem lR3 (os:Os) (st:os.Started) (H:Type) (enc:TypeId × Value→H):ReturnsInLeavingWide {} Tryz.checked os 3 .any (fun w args=>(Rows.fnBoxRoomSpec.pre enc Tryz.prog Tryz.f3 [] false w args∧laidMetH Tryz.prog laid6 w)∧sizedMet enc Tryz.prog Tryz.f3 (OpenSpec.ofChange Rows.fnBoxRoomSpec) false w args) (Rows.fnBoxRoomSpec.post enc Tryz.prog Tryz.f3 false true false false):=law_lifted st Tryz.func3 (witR3 os) runs3 postR3
theorem kR3 (os:Os) (st:os.Started) (H:Type) (enc:TypeId × Value→H):ReturnsInLeavingWide Rows.fnBoxRoomRow.assume Tryz.pinned.checked os 3 .any (Rows.fnBoxRoomRow.pre enc Tryz.pinned.checked.prog Tryz.f3 (OpenSpec.ofChange Rows.fnBoxRoomSpec)) (Rows.fnBoxRoomSpec.post enc Tryz.pinned.checked.prog Tryz.f3 Rows.fnBoxRoomRow.apart Rows.fnBoxRoomRow.fresh Rows.fnBoxRoomRow.handsOn Rows.fnBoxRoomRow.again):=lR3 os st H enc
theorem row3:Rows.FnBoxRoomSaid:=
 OpenClaim.holds_of_wide_leaving (p:=Tryz.pinned) (s:=Rows.fnBoxRoomSpec) (c:=Rows.fnBoxRoomRow) 3 Tryz.f3 rfl rfl rfl rfl rfl rfl rfl ⟨rfl,rfl,rfl,rfl,rfl⟩ rfl rfl rfl rfl rfl nR3 Tryz.func3 jR3 iR3 wR3 (fun os started H enc _=>kR3 os started H enc)
theorem holds_tied_goes (Lk:Looks) {p:Pinned} {s:OpenSpec} {c:OpenClaim} (kinds:List LaidKind) (tests:Bool) (har:Bool × String) (lk:Bool)
    (hc:c.holds p s) (hw:c.wfByText s=true) (htie:c.laidByTextAt Lk p kinds tests)
    (hst:c.start=.entering) (hnb:c.noBlocks=false∧c.again=false) (hm:p.checked.prog.mainIs=some (har.1,har.2.toList)) (hn:(!har.1&&har.2.isEmpty && !lk)=false)
    (hl:∀ f fn,p.checked.prog.funcNamed c.func=some f→p.checked.prog.funcs[f]? = some fn→lk=p.checked.prog.looks []∧∀ (j:Nat) t,fn.params[j]? = some t→p.checked.prog.wantsStandIn t=false)
    (hg:true=c.goesBy p.checked.prog) :
    Claim7.holds p (.plain s) {stood:={row:=c,standIns:=[],harness:=har,looks:=lk},kinds:=[],alts:=[],goes:=true,laidByText:=true,laidKinds:=kinds,laidTests:=tests,laidLooks:=Lk}:=by
  have h6:∀ r:OpenClaim,Claim7.isSixth {stood:={row:=r,standIns:=[],harness:=har,looks:=lk},kinds:=[]}=false:=fun r=>by simpa [Claim7.isSixth] using hn
  exact ⟨Claim7.tied_new_at Lk kinds tests (Claim7.new_of_sixth hc har lk hst hnb hm (h6 c) hl) hw,fun D hD=>(by cases hD),htie,(fun h=>by cases h),hg⟩
theorem card3:Rows.FnBoxRoomCardSaid:=
 holds_tied_goes .later [.data,.data,.data,.sentinel,.sentinel,.sentinel] true (true, "c2fbee9bb79843c0e5bcabefdd336e1964043c389972583b35c774b1b2370534") true
  row3 (by kernel_rfl) fnBoxRoom_row_tie rfl ⟨rfl,rfl⟩ (by kernel_rfl) rfl
  (fun f fn hf hfn=>by
   obtain rfl:f=3:=Option.some.inj ((show Tryz.prog.funcNamed "loop.example/hatchway/laws.FnBoxRoom"=some 3 by kernel_rfl).symm.trans hf) |>.symm
   obtain rfl:fn=Tryz.f3:=(Option.some.inj (Tryz.func3.symm.trans hfn)).symm
   exact ⟨by kernel_rfl,fun j t ht=>by
    rw [Tryz.params3] at ht
    rcases j with _ | j
    ·simp at ht;subst ht;kernel_rfl
    ·simp at ht⟩)
  (by kernel_rfl)
end
end Go.Proofs.YtnccejlibbgpkaaGreatDoor
