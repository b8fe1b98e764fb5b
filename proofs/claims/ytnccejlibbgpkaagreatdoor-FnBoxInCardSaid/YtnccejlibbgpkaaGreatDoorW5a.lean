/-
  The law FnBoxIn answers true at every input that its row allows, at every start that lays its variables: part 1 of 7.
-/
import GoSem.Step
import Derived.Conc.Token
import Derived.AtR
import Derived.Conc.Own2
import Derived.Conc.CrowdComm
import Derived.Conc.CrowdTrace
import Derived.Conc.Fork
import Derived.Conc.CrowdStepC
import Derived.Below
import Derived.Laws.Append
set_option linter.unusedSimpArgs false
set_option linter.unusedVariables false
set_option linter.unusedSectionVars false
namespace Go.Proofs.YtnccejlibbgpkaaGreatDoor
section
structure Ent where
 o:Obj
 wr:Bool
abbrev Hp:=Nat→Option Ent
inductive Gh where
 | idle
 | sends (c:Nat) (vs:List Value)
 | hears (c:Nat) (vs:List Value) (J:Hp→Prop) (D:Nat→Prop)
structure St where
 h:Hp
 g:Gh
instance :CoeFun St (fun _=>Nat→Option Ent):=⟨St.h⟩
def Hp.put (h:Hp) (b:Nat) (e:Ent):Hp:=fun x=>if x=b then some e else h x
def St.put (S:St) (b:Nat) (o:Obj):St:={S with h:=Hp.put S.h b ⟨o,true⟩}
def St.cell? (S:St) (a:Addr):Option Value:=
 match S a.block with
 | some ⟨.cells c _ _,_⟩=>if a.spot.isSome then none else c[a.off]?
 | _=>none
def St.frozen? (S:St) (a:Addr):Bool:=
 match S a.block with
 | some ⟨.cells _ _ (lo,hi),_⟩=>lo≤a.off&&a.off<hi
 | _=>false
def setObjCell (o:Obj) (off:Nat) (v:Value):Obj:=
 match o with
 | .cells c e f=>.cells (c.setIfInBounds off v) e f
 | o=>o
def freezeObj (o:Obj) (off n:Nat):Obj:=
 match o with
 | .cells c elem (lo,hi)=>.cells c elem (if lo==hi then (off,off+n) else (min lo off,max hi (off+n)))
 | o=>o
def isCells:Obj→Bool
 | .cells ..=>true
 | _=>false
def isChan:Obj→Bool
 | .chan ..=>true
 | _=>false
def vV:Value→Bool
 | .agg _ | .tuple _=>false
 | _=>true
def vB (P:Program) {α:Type}:Sem α→St→(α→St→Prop)→(Value→St→Prop)→Prop
 | .pure a,S,K,_=>K a S
 | .load m a k,S,K,Kp=>m=.plain∧∃ v,S.cell? a=some v∧vB P (k v) S K Kp
 | .store m a v k,S,K,Kp=>
  m=.plain∧vV v=true∧(∃ u,S.cell? a=some u)∧S.frozen? a=false ∧
   ∃ o,S a.block=some ⟨o,true⟩∧vB P k (S.put a.block (setObjCell o a.off v)) K Kp
 | .new o k,S,K,Kp=>∀ b,S b=none→vB P (k b) (S.put b o) K Kp
 | .shape r k,S,K,Kp=>
  match S r with
  | some ⟨.cells c e _,_⟩=>vB P (k (some (e,c.size))) S K Kp
  | some _=>vB P (k none) S K Kp
  | none=>False
 | .freeze a n k,S,K,Kp=>∃ o,S a.block=some ⟨o,true⟩∧vB P k (if n=0 then S else S.put a.block (freezeObj o a.off n)) K Kp
 | .frozen a k,S,K,Kp=>(∃ e,S a.block=some e)∧vB P (k (S.frozen? a)) S K Kp
 | .getObj r k,S,K,Kp=>∃ e,S r=some e∧isCells e.o=false∧isChan e.o=false∧vB P (k e.o) S K Kp
 | .setObj r o k,S,K,Kp=>∃ e,S r=some e∧e.wr=true∧isCells e.o=false∧isChan e.o=false∧isChan o=false∧vB P k (S.put r o) K Kp
 | .choose q k,S,K,Kp=>∀ t,vB P (k (if q.forced then 0 else q.cut t)) S K Kp
 | .sys _ _,_,_,_=>False
 | .program k,S,K,Kp=>vB P (k P) S K Kp
 | .mark m k,S,K,Kp=>(match m with | .extern _ | .noRoom=>True | _=>False)∧vB P k S K Kp
 | .halt (.panic v),S,_,Kp=>Kp v S
 | .halt _,_,_,_=>False
theorem semW_mono {P:Program} {α:Type} {K K':α→St→Prop} {Kp Kp':Value→St→Prop} (hK:∀ a S,K a S→K' a S) (hp:∀ v S,Kp v S→Kp' v S) :
    ∀ (s:Sem α) (S:St),vB P s S K Kp→vB P s S K' Kp':=by
  intro s
  induction s with
  | pure a=>exact fun S h=>hK _ _ h
  | load m a k ih=>exact fun S ⟨h0,v,h1,h2⟩=>⟨h0,v,h1,ih v _ h2⟩
  | store m a v k ih=>exact fun S ⟨h0,h1,h2,h3,o,h4,h5⟩=>⟨h0,h1,h2,h3,o,h4,ih _ h5⟩
  | new o k ih=>exact fun S h b hb=>ih b _ (h b hb)
  | shape r k ih=>
    intro S h
    simp only [vB] at h ⊢
    split at h
    · exact ih _ _ h
    · exact ih _ _ h
    · exact h
  | freeze a n k ih=>exact fun S ⟨o,h1,h2⟩=>⟨o,h1,ih _ h2⟩
  | frozen a k ih=>exact fun S ⟨h1,h2⟩=>⟨h1,ih _ _ h2⟩
  | getObj r k ih=>exact fun S ⟨e,h1,h2,h3,h4⟩=>⟨e,h1,h2,h3,ih _ _ h4⟩
  | setObj r o k ih=>exact fun S ⟨e,h1,h2,h3,h4,h5,h6⟩=>⟨e,h1,h2,h3,h4,h5,ih _ h6⟩
  | choose q k ih=>exact fun S h t=>ih _ _ (h t)
  | sys c k ih=>exact fun S h=>h
  | program k ih=>exact fun S h=>ih _ _ h
  | mark m k ih=>exact fun S ⟨h1,h2⟩=>⟨h1,ih _ h2⟩
  | halt h=>intro S hh;cases h<;>first | exact hp _ _ hh | exact hh
def St.In (S:St) (w:World):Prop:=∀ b e,S b=some e→w.heap[b]? = some e.o
theorem St.In.lt {S:St} {w:World} (h:S.In w) {b:Nat} {e:Ent} (hb:S b=some e):b<w.heap.size:=
 (Array.getElem?_eq_some_iff.1 (h b e hb)).1
theorem St.In.fresh {S:St} {w:World} (h:S.In w):S w.heap.size=none:=by
 cases hs:S w.heap.size with
 | none=>rfl
 | some e=>exact absurd (h.lt hs) (by omega)
theorem St.In.cell {S:St} {w:World} (h:S.In w) {a:Addr} {v:Value} (hc:S.cell? a=some v):w.cell? a=some v:=by
 unfold St.cell? at hc
 split at hc
 ·rename_i c e f wr hs
  unfold World.cell?
  rw [h _ _ hs]
  exact hc
 ·cases hc
theorem St.In.frozen {S:St} {w:World} (h:S.In w) {a:Addr} {e:Ent} (hs:S a.block=some e):w.frozen? a=S.frozen? a:=by
 unfold World.frozen? St.frozen?
 rw [h _ _ hs,hs]
 obtain ⟨o,wr⟩:=e
 cases o<;>rfl
theorem St.In.shape {S:St} {w:World} (h:S.In w) {r:Nat} {e:Ent} (hs:S r=some e) :
    w.shape? r=match e.o with | .cells c t _=>some (t,c.size) | _=>none:=by
  unfold World.shape?
  rw [h _ _ hs]
  obtain ⟨o,wr⟩:=e
  cases o<;>rfl
structure Keeps (S S':St) (w w':World):Prop where
 inn:S'.In w'
 g:S'.g=S.g
 size:w.heap.size≤w'.heap.size
 old:∀ b,b<w.heap.size→(∀ e,S b=some e→e.wr=false)→w'.heap[b]? = w.heap[b]?
 ro:∀ b e,S b=some e→e.wr=false→S' b=some e
 wr:∀ b e,S b=some e→e.wr=true→∃ o,S' b=some ⟨o,true⟩
 new:∀ b e,S' b=some e→S b=none→w.heap.size≤b∧e.wr=true
 os:w'.os=w.os
 output:w'.output=w.output
 tape:w'.tape=w.tape
theorem Keeps.refl {S:St} {w:World} (h:S.In w):Keeps S S w w:=
 ⟨h,rfl,Nat.le_refl _,fun _ _ _=>rfl,fun _ _ h _=>h,fun _ e h hw=>⟨e.o,by rw [h,← hw]⟩,fun _ _ h h'=>by rw [h] at h';(cases h'),rfl,rfl,rfl⟩
theorem Keeps.drew {S:St} {w:World} (h:S.In w) (d:Nat):Keeps S S w {w with drawn:=d}:=
 ⟨h,rfl,Nat.le_refl _,fun _ _ _=>rfl,fun _ _ h _=>h,fun _ e h hw=>⟨e.o,by rw [h,← hw]⟩,fun _ _ h h'=>by rw [h] at h';(cases h'),rfl,rfl,rfl⟩
theorem Keeps.trans {S S1 S2:St} {w w1 w2:World} (h:Keeps S S1 w w1) (k:Keeps S1 S2 w1 w2):Keeps S S2 w w2 where
 inn:=k.inn
 g:=k.g.trans h.g
 size:=Nat.le_trans h.size k.size
 old b hb hS:=by
  rw [k.old b (Nat.lt_of_lt_of_le hb h.size) ?_,h.old b hb hS]
  intro e he
  cases hs:S b with
  | none=>exact absurd (h.new b e he hs).1 (by omega)
  | some e'=>
   have:=h.ro b e' hs (hS e' hs)
   rw [he] at this
   cases this
   exact hS _ hs
 ro b e hb hw:=k.ro b e (h.ro b e hb hw) hw
 wr b e hb hw:=by
  obtain ⟨o,ho⟩:=h.wr b e hb hw
  exact k.wr b _ ho rfl
 new b e hb hn:=by
  cases hs:S1 b with
  | none=>exact ⟨Nat.le_trans h.size (k.new b e hb hs).1,(k.new b e hb hs).2⟩
  | some e'=>
   have:=h.new b e' hs hn
   refine ⟨this.1,?_⟩
   obtain ⟨o,ho⟩:=k.wr b e' hs this.2
   rw [hb] at ho;cases ho;rfl
 os:=k.os.trans h.os
 output:=k.output.trans h.output
 tape:=k.tape.trans h.tape
theorem St.put_same (S:St) (b:Nat) (o:Obj):(S.put b o) b=some ⟨o,true⟩:=by simp [St.put,Hp.put]
theorem St.put_ne (S:St) {b x:Nat} (o:Obj) (h:x≠b):(S.put b o) x=S x:=by simp [St.put,Hp.put,h]
theorem Keeps.put {S:St} {w w':World} (h:S.In w) {b:Nat} {o o':Obj} (hb:S b=some ⟨o,true⟩)
    (hh:w'.heap=w.heap.setIfInBounds b o') (h1:w'.os=w.os) (h2:w'.output=w.output) (h3:w'.tape=w.tape):Keeps S (S.put b o') w w' where
  inn x e hx:=by
    have hlt:=h.lt hb
    by_cases hxb:x=b
    · subst hxb
      rw [S.put_same] at hx;cases hx
      rw [hh];simp [hlt]
    · rw [S.put_ne _ hxb] at hx
      rw [hh,Array.getElem?_setIfInBounds_ne (Ne.symm hxb)]
      exact h _ _ hx
  g:=rfl
  size:=by rw [hh];simp
  old x hx hS:=by
    have hxb:x≠b:=fun e=>by subst e;have:=hS _ hb;cases this
    rw [hh,Array.getElem?_setIfInBounds_ne (Ne.symm hxb)]
  ro x e hx hw:=by
    have hxb:x≠b:=fun e'=>by subst e';rw [hb] at hx;cases hx;cases hw
    rw [S.put_ne _ hxb];exact hx
  wr x e hx hw:=by
    by_cases hxb:x=b
    · subst hxb;exact ⟨o',S.put_same _ _⟩
    · rw [S.put_ne _ hxb];exact ⟨e.o,by rw [hx,← hw]⟩
  new x e hx hn:=by
    have hxb:x≠b:=fun e'=>by subst e';rw [hb] at hn;cases hn
    rw [S.put_ne _ hxb,hn] at hx;cases hx
  os:=h1
  output:=h2
  tape:=h3
theorem Keeps.alloc {S:St} {w:World} (h:S.In w) (o:Obj):Keeps S (S.put w.heap.size o) w {w with heap:=w.heap.push o} where
 inn x e hx:=by
  by_cases hxb:x=w.heap.size
  ·subst hxb
   rw [S.put_same] at hx;cases hx
   simp
  ·rw [S.put_ne _ hxb] at hx
   have:=h.lt hx
   show (w.heap.push o)[x]? = _
   rw [Array.getElem?_push_lt this,← h _ _ hx]
   simp [this]
 g:=rfl
 size:=by simp
 old x hx _:=by
  show (w.heap.push o)[x]? = _
  rw [Array.getElem?_push_lt hx]
  simp [hx]
 ro x e hx hw:=by
  have:=h.lt hx
  rw [S.put_ne _ (by omega)];exact hx
 wr x e hx hw:=by
  have:=h.lt hx
  rw [S.put_ne _ (by omega)];exact ⟨e.o,by rw [hx,← hw]⟩
 new x e hx hn:=by
  by_cases hxb:x=w.heap.size
  ·subst hxb
   rw [S.put_same] at hx;cases hx
   exact ⟨Nat.le_refl _,rfl⟩
  ·rw [S.put_ne _ hxb,hn] at hx;cases hx
 os:=rfl
 output:=rfl
 tape:=rfl
def EvOk (S:St) (w w':World) (e:Event):Prop:=
 match e.loc with
 | .cell a=>e.sync=false∧((∃ x,S a.block=some x∧(e.write=true→x.wr=true))∨w.heap.size≤a.block)∧a.block<w'.heap.size
 | .obj r=>e.sync=false∧((∃ x,S r=some x∧(e.write=true→x.wr=true))∨w.heap.size≤r)∧r<w'.heap.size
 | .mark (.extern _) | .mark .noRoom=>True
 | _=>False
theorem EvOk.mono {S:St} {w w1 w2:World} {e:Event} (h:EvOk S w w1 e) (hs:w1.heap.size≤w2.heap.size):EvOk S w w2 e:=by
 unfold EvOk at h ⊢
 split<;>simp_all<;>omega
theorem EvOk.from {S S1:St} {w w1 w2:World} {e:Event} (k:Keeps S S1 w w1) (h:EvOk S1 w1 w2 e):EvOk S w w2 e:=by
 have key:∀ b,((∃ x,S1 b=some x∧(e.write=true→x.wr=true))∨w1.heap.size≤b)→((∃ x,S b=some x∧(e.write=true→x.wr=true))∨w.heap.size≤b):=by
  rintro b (⟨x,hx,hw⟩ | hb)
  ·cases hs:S b with
   | none=>exact .inr (k.new b x hx hs).1
   | some y=>
    refine .inl ⟨y,rfl,fun hwr=>?_⟩
    cases hy:y.wr with
    | true=>rfl
    | false=>
     have:=k.ro b y hs hy
     rw [hx] at this;cases this
     rw [hw hwr] at hy;cases hy
  ·exact .inr (Nat.le_trans k.size hb)
 obtain ⟨loc,wr,sy⟩:=e
 cases loc with
 | cell a=>exact ⟨h.1,key _ h.2.1,h.2.2⟩
 | obj r=>exact ⟨h.1,key _ h.2.1,h.2.2⟩
 | mark m=>cases m<;>exact h
 | output=>exact h
 | goroutines=>exact h
theorem heap_modify_cells (heap:Array Obj) (b:Nat) (o:Obj) (f:Obj→Obj) (h:heap[b]? = some o):heap.modify b f=heap.setIfInBounds b (f o):=by
 apply Array.ext_getElem?
 intro i
 by_cases hi:i=b
 ·subst hi
  obtain ⟨hlt,rfl⟩:=Array.getElem?_eq_some_iff.1 h
  simp [hlt]
  rw [Array.getElem_modify];simp
 ·rw [Array.getElem?_setIfInBounds_ne (Ne.symm hi)]
  simp [Array.getElem?_modify,Ne.symm hi]
theorem semW_run {P:Program} {α:Type} {K:α→St→Prop} {Kp:Value→St→Prop} :
    ∀ (s:Sem α) (S:St) (w:World) (es0:Array Event),vB P s S K Kp→S.In w →
      (∃ a S' w' es,s.runT P w es0=(.ok a w',es0++es)∧K a S'∧Keeps S S' w w'∧∀ e∈es,EvOk S w w' e) ∨
      (∃ v S' w' es,s.runT P w es0=(.halt (.panic v) w',es0++es)∧Kp v S'∧Keeps S S' w w'∧∀ e∈es,EvOk S w w' e):=by
  intro s
  have glue:∀ {S S1:St} {w w1:World} {es0 es1:Array Event} {r:Result α × Array Event},Keeps S S1 w w1→(∀ e∈es1,EvOk S w w1 e) →
      ((∃ a S' w' es,r=(.ok a w',es0++es1++es)∧K a S'∧Keeps S1 S' w1 w'∧∀ e∈es,EvOk S1 w1 w' e) ∨
        (∃ v S' w' es,r=(.halt (.panic v) w',es0++es1++es)∧Kp v S'∧Keeps S1 S' w1 w'∧∀ e∈es,EvOk S1 w1 w' e)) →
      ((∃ a S' w' es,r=(.ok a w',es0++es)∧K a S'∧Keeps S S' w w'∧∀ e∈es,EvOk S w w' e) ∨
        (∃ v S' w' es,r=(.halt (.panic v) w',es0++es)∧Kp v S'∧Keeps S S' w w'∧∀ e∈es,EvOk S w w' e)):=by
    intro S S1 w w1 es0 es1 r hk he h
    have hev:∀ {w':World} {es:Array Event} {S':St},Keeps S1 S' w1 w'→(∀ e∈es,EvOk S1 w1 w' e)→∀ e∈es1++es,EvOk S w w' e:=by
      intro w' es S' k2 h2 e hm
      rcases Array.mem_append.1 hm with hm | hm
      · exact (he e hm).mono k2.size
      · exact (h2 e hm).from hk
    rcases h with ⟨a,S',w',es,h1,h2,h3,h4⟩ | ⟨a,S',w',es,h1,h2,h3,h4⟩
    · exact .inl ⟨a,S',w',es1++es,by rw [h1,Array.append_assoc],h2,hk.trans h3,hev h3 h4⟩
    · exact .inr ⟨a,S',w',es1++es,by rw [h1,Array.append_assoc],h2,hk.trans h3,hev h3 h4⟩
  induction s with
  | pure a=>exact fun S w es0 h hi=>.inl ⟨a,S,w,#[],by simp [Sem.runT],h,.refl hi,by simp⟩
  | load m a k ih=>
    rintro S w es0 ⟨rfl,v,h1,h2⟩ hi
    have hpm:(Mode.plain==Mode.atomic)=false:=rfl
    simp only [Sem.runT,hi.cell h1,hpm]
    have hs:∃ e,S a.block=some e:=by
      unfold St.cell? at h1;split at h1
      · exact ⟨_,‹_›⟩
      · cases h1
    obtain ⟨e,he⟩:=hs
    exact glue (es1:=#[⟨.cell a,false,false⟩]) (.refl hi) (by simp [EvOk,he,hi.lt he]) (by simpa using ih v S w _ h2 hi)
  | store m a v k ih=>
    rintro S w es0 ⟨rfl,hv,⟨u,hu⟩,hf,o,ho,h2⟩ hi
    have hc:=hi.cell hu
    have hfr:w.frozen? a=false:=(hi.frozen ho).trans hf
    have hset:Keeps S (S.put a.block (setObjCell o a.off v)) w (w.setCell a v):=by
      refine .put hi ho ?_ rfl rfl rfl
      have:=hi _ _ ho
      unfold World.setCell
      simp only
      rw [heap_modify_cells _ _ _ _ this]
      unfold St.cell? at hu
      rw [ho] at hu
      cases o<;>simp at hu
      obtain ⟨hsp,_⟩:=hu
      simp [setObjCell,hsp]
    have hrun:(Sem.store .plain a v k).runT P w es0=k.runT P (w.setCell a v) (es0.push ⟨.cell a,true,false⟩):=by
      clear glue ih h2 hset hi ho
      cases v<;>first | (simp only [Sem.runT,hc,hfr];rfl) | (simp [vV] at hv)
    rw [hrun]
    refine glue (es1:=#[⟨.cell a,true,false⟩]) hset (by simp [EvOk,ho];first | exact Nat.lt_of_lt_of_le (hi.lt ho) hset.size | exact hi.lt ho) (by simpa using ih _ _ _ h2 hset.inn)
  | new o k ih=>
    intro S w es0 h hi
    simp only [Sem.runT]
    exact glue (es1:=#[]) (.alloc hi o) (by simp) (by simpa using ih _ _ _ _ (h _ hi.fresh) (Keeps.alloc hi o).inn)
  | shape r k ih=>
    intro S w es0 h hi
    simp only [Sem.runT]
    simp only [vB] at h
    split at h
    · rename_i c e f wr hs
      rw [hi.shape hs]
      exact ih _ _ _ _ h hi
    · rename_i e hn hs
      rw [hi.shape hs]
      obtain ⟨o,wr⟩:=e
      cases o<;>first | exact ih _ _ _ _ h hi | exact absurd rfl (hn _ _ _ _)
    · exact h.elim
  | freeze a n k ih=>
    rintro S w es0 ⟨o,ho,h⟩ hi
    simp only [Sem.runT]
    by_cases hn:n=0
    · rw [if_pos hn] at h
      have e:w.freeze a n=w:=by simp [World.freeze,hn]
      rw [e]
      exact ih _ _ _ h hi
    · rw [if_neg hn] at h
      have hk:Keeps S (S.put a.block (freezeObj o a.off n)) w (w.freeze a n):=by
        refine .put hi ho ?_ ?_ ?_ ?_<;>simp only [World.freeze,hn,if_false]
        rw [heap_modify_cells _ _ _ _ (hi _ _ ho)]
        cases o<;>rfl
      exact glue (es1:=#[]) hk (by simp) (by simpa using ih _ _ _ h hk.inn)
  | frozen a k ih=>
    rintro S w es0 ⟨⟨e,he⟩,h⟩ hi
    simp only [Sem.runT,hi.frozen he]
    exact ih _ _ _ _ h hi
  | getObj r k ih=>
    rintro S w es0 ⟨e,he,h1,h2,h3⟩ hi
    have hr:(Sem.getObj r k).runT P w es0=(k e.o).runT P w (es0.push ⟨.obj r,false,false⟩):=by
      simp only [Sem.runT,hi _ _ he]
      obtain ⟨o,wr⟩:=e
      clear glue ih h3
      cases o<;>first | rfl | (simp [isCells] at h1;done) | (simp [isChan] at h2)
    rw [hr]
    exact glue (es1:=#[⟨.obj r,false,false⟩]) (.refl hi) (by simp [EvOk,he,hi.lt he]) (by simpa using ih _ _ _ _ h3 hi)
  | setObj r o k ih=>
    rintro S w es0 ⟨e,he,h0,h1,h2,h4,h3⟩ hi
    obtain ⟨o0,wr⟩:=e
    simp only at h0;subst h0
    have hr:(Sem.setObj r o k).runT P w es0=k.runT P {w with heap:=w.heap.setIfInBounds r o} (es0.push ⟨.obj r,true,false⟩):=by
      simp only [Sem.runT,hi _ _ he]
      have:o.isChan=false:=by cases o<;>first | rfl | (simp [isChan] at h4)
      rw [this]
      cases o0<;>first | rfl | (simp [isCells] at h1)
    have hk:Keeps S (S.put r o) w {w with heap:=w.heap.setIfInBounds r o}:=.put hi he rfl rfl rfl rfl
    rw [hr]
    exact glue (es1:=#[⟨.obj r,true,false⟩]) hk (by simp [EvOk,he,hi.lt he]) (by simpa using ih _ _ _ h3 hk.inn)
  | choose q k ih=>
    intro S w es0 h hi
    simp only [Sem.runT]
    by_cases hq:q.forced=true
    · rw [if_pos hq]
      have:=h 0
      rw [if_pos hq] at this
      exact ih _ _ _ _ this hi
    · rw [if_neg hq]
      have:=h (w.tape w.drawn q)
      rw [if_neg hq] at this
      exact glue (es1:=#[]) (.drew hi (w.drawn+1)) (by simp) (by simpa using ih _ _ _ _ this (Keeps.drew hi (w.drawn+1)).inn)
  | sys c k ih=>exact fun S w es0 h _=>h.elim
  | program k ih=>exact fun S w es0 h hi=>ih _ _ _ _ h hi
  | mark m k ih=>
    rintro S w es0 ⟨hm,h⟩ hi
    simp only [Sem.runT]
    exact glue (es1:=#[⟨.mark m,false,true⟩]) (.refl hi) (by cases m<;>simp_all [EvOk]) (by simpa using ih _ _ _ h hi)
  | halt h=>
    intro S w es0 hh hi
    cases h<;>first | exact .inr ⟨_,S,w,#[],by simp [Sem.runT],hh,.refl hi,by simp⟩ | exact hh.elim
end
section
open Go.Conc (G scase rcase recvd)
def AtShut1 (P:Program) (c:Nat) (g:Goroutine):Prop:=
 g.status=.running∧mayWake P g=true∧∃ g' n,(∀ w s r tm,w.heap[c]? = some (.chan 0 #[] false s r tm)→stepG P false g w=.go g' (w.shut c s r tm) (Conc.closeEvents c))∧Conc.QuitsIn P n g'
inductive Go1 (P:Program):Bool→(Goroutine→St→Prop)→Goroutine→St→Prop
  | fin {main:Bool} {Fin:Goroutine→St→Prop} {g:Goroutine} {S:St}:Fin g S→Go1 P main Fin g S
  | step {main:Bool} {Fin:Goroutine→St→Prop} {g:Goroutine} {S:St} (F:World→Goroutine) (W:World→World) (E:World→Array Event) (T:World→St) :
      g.status=.running→(∀ w,S.In w→stepG P main g w=.go (F w) (W w) (E w))→(∀ w,S.In w→(F w).status=.running) →
      (∀ w,S.In w→Keeps S (T w) w (W w))→(∀ w,S.In w→∀ e∈E w,EvOk S w (W w) e)→(∀ w,S.In w→Go1 P main Fin (F w) (T w))→Go1 P main Fin g S
  | send {main:Bool} {Fin:Goroutine→St→Prop} {g g2:Goroutine} {S:St} {c:Nat} {v z:Value} {vs:List Value} :
      S.g=.sends c (v::vs)→g.status=.running→(∀ w,stepG P main g w=.comm g2 #[scase c v z] true .send w #[]) →
      Go1 P main Fin (Conc.served g2 undef) {S with g:=.sends c vs}→Go1 P main Fin g S
  | hear {main:Bool} {Fin:Goroutine→St→Prop} {g g2:Goroutine} {S:St} {c:Nat} {v z:Value} {vs:List Value} {J:Hp→Prop} {D:Nat→Prop} :
      S.g=.hears c (v::vs) J D→g.status=.running→(∀ w,stepG P main g w=.comm g2 #[rcase c z] true (.recv true) w #[]) →
      Go1 P main Fin (Conc.served g2 (recvd true v true)) {S with g:=.hears c vs J D}→Go1 P main Fin g S
  | closed {main:Bool} {Fin:Goroutine→St→Prop} {g:Goroutine} {S:St} {c:Nat} {z:Value} {J:Hp→Prop} {D:Nat→Prop} :
      S.g=.hears c [] J D→g.status=.running→(∀ w,stepG P main g w=.comm g #[rcase c z] true (.recv true) w #[]) →
      (∀ H,J H→(∀ b e e',S b=some e→H b=some e'→e=e'∧e.wr=false∧D b) →
        Go1 P main Fin (Conc.served g (recvd true z false)) ⟨fun b=>(S b).or (H b),.idle⟩)→Go1 P main Fin g S
  | fork {main:Bool} {Fin:Goroutine→St→Prop} {g g' child:Goroutine} {S:St} {c:Nat} {vs:List Value} {J:Hp→Prop} {Hw Hm:Hp} :
      S.g=.idle→g.status=.running→g'.status=.running→child.status=.running→(∀ w,∃ es,(∀ e∈es,False)∧stepG P main g w=.spawn g' child w es) →
      S c=some ⟨.chan 0 #[] false 0 0 false,true⟩→Hw c=none→Hm c=none →
      (∀ b e,Hw b=some e→∃ e0,S b=some e0∧e.o=e0.o∧(e.wr=true→e0.wr=true)) →
      (∀ b e,Hm b=some e→∃ e0,S b=some e0∧e.o=e0.o∧(e.wr=true→e0.wr=true)) →
      (∀ b e e',Hw b=some e→Hm b=some e'→e.wr=false∧e'.wr=false) →
      Go1 P false (fun g S=>S.g=.sends c []∧J S.h∧AtShut1 P c g) child ⟨Hw,.sends c vs⟩ →
      Go1 P main Fin g' ⟨Hm,.hears c vs J (fun b=>∃ e,Hw b=some e)⟩→Go1 P main Fin g S
section
variable {P:Program} {main:Bool} {Fin:Goroutine→St→Prop}
theorem Go1.step' {g:Goroutine} {S:St} (hr:g.status=.running)
    (h:∀ w,S.In w→∃ g' w' es S',stepG P main g w=.go g' w' es∧g'.status=.running∧Keeps S S' w w'∧(∀ e∈es,EvOk S w w' e)∧Go1 P main Fin g' S'):Go1 P main Fin g S:=by
  have h2:∀ w,∃ x:Goroutine × World × Array Event × St,S.In w→stepG P main g w=.go x.1 x.2.1 x.2.2.1∧x.1.status=.running∧Keeps S x.2.2.2 w x.2.1∧(∀ e∈x.2.2.1,EvOk S w x.2.1 e)∧Go1 P main Fin x.1 x.2.2.2:=by
    intro w
    by_cases hw:S.In w
    · obtain ⟨g',w',es,S',h1⟩:=h w hw
      exact ⟨(g',w',es,S'),fun _=>h1⟩
    · exact ⟨(g,w,#[],S),fun hc=>absurd hc hw⟩
  exact .step (fun w=>(Classical.choose (h2 w)).1) (fun w=>(Classical.choose (h2 w)).2.1) (fun w=>(Classical.choose (h2 w)).2.2.1) (fun w=>(Classical.choose (h2 w)).2.2.2) hr
    (fun w hw=>(Classical.choose_spec (h2 w) hw).1) (fun w hw=>(Classical.choose_spec (h2 w) hw).2.1) (fun w hw=>(Classical.choose_spec (h2 w) hw).2.2.1)
    (fun w hw=>(Classical.choose_spec (h2 w) hw).2.2.2.1) (fun w hw=>(Classical.choose_spec (h2 w) hw).2.2.2.2)
theorem Go1.ctl {fr fr':Frame} {cs cs':List Frame} {S:St} (h:∀ w,stepG P main (G fr cs) w=.go (G fr' cs') w) (k:Go1 P main Fin (G fr' cs') S):Go1 P main Fin (G fr cs) S:=
 .step' rfl fun w hw=>⟨_,_,_,S,h w,rfl,.refl hw,by simp,k⟩
theorem mem_seen {fn:FuncId} {es:Array Event} {e:Event} (h:e∈seen P fn es):e∈es:=by
  have key:∀ (f:Bool × Array Event→Event→Bool × Array Event),(∀ x y e,e∈(f x y).2→e∈x.2∨e=y)→∀ (l:List Event) (x:Bool × Array Event),e∈(l.foldl f x).2→e∈x.2∨e∈l:=by
    intro f hf l
    induction l with
    | nil=>exact fun x hx=>.inl hx
    | cons y l ih=>
      intro x hx
      rcases ih _ hx with h1 | h1
      · rcases hf _ _ _ h1 with h2 | h2
        · exact .inl h2
        · exact .inr (by simp [h2])
      · exact .inr (by simp [h1])
  unfold seen at h
  dsimp only at h
  rw [← Array.foldl_toList] at h
  have h2:=key _ (by
    rintro ⟨q,kept⟩ y e he
    dsimp only at he ⊢
    repeat' split at he
    all_goals first
      | exact .inl he
      | (rcases Array.mem_push.1 he with h | h
         · exact .inl h
         · exact .inr h)) _ _ h
  rcases h2 with h1 | h1
  · exact absurd h1 (by simp)
  · simpa using h1
def UponOp (P:Program) (main:Bool) (Fin:Goroutine→St→Prop) (b:Frame) (a:Act) (ops:Array Oper) (i:Nat) (o:Oper) (rest:List Nat) (k:List Item) (cs:List Frame) (nx:Next) (S:St):Prop:=
 match nx with
 | .value v=>Go1 P main Fin (G (b.atR (a.put o.dst v) (.inRegion ops rest::k)) cs) S
 | .skip=>Go1 P main Fin (G (b.atR (a.put o.dst undef) (.inRegion ops rest::k)) cs) S
 | .enter f args=>Go1 P main Fin (G (Frame.enter P f args .normal) (b.atR a (.inRegion ops (i::rest)::k)::cs)) S
 | .round l f tmps assign body=>Go1 P main Fin (G (Frame.round l f tmps assign body .normal) (b.atR a (.inRegion ops (i::rest)::k)::cs)) S
 | .defer d=>Go1 P main Fin (G (b.atR ({a with defers:=d::a.defers}.put o.dst undef) (.inRegion ops rest::k)) cs) S
 | _=>False
def Op.isDefer:Op→Bool
 | .defer _=>true
 | _=>false
theorem Go1.op {b:Frame} {a:Act} {ops:Array Oper} {i:Nat} {o:Oper} {rest:List Nat} {k:List Item} {cs:List Frame} {S:St} (ho:ops[i]? = some o) (hw:Region.wanted o (yielded ops a.tmps)=true)
    (hk:b.kind≠.early) (hd:b.roundOf=none∨Op.isDefer o.op=false)
    (h:vB P (execOp a.eval o) S (UponOp P main Fin b a ops i o rest k cs) (fun _ _=>False)):Go1 P main Fin (G (b.atR a (.inRegion ops (i::rest)::k)) cs) S:=by
  refine .step' rfl fun w hin=>?_
  have he:=Frame.eval_atR b a (.inRegion ops (i::rest)::k)
  have hk':(b.kind==CallKind.early)=false:=by simpa using hk
  have hst:stepG P main (G (b.atR a (.inRegion ops (i::rest)::k)) cs) w=stepG.apply P true (b.atR a (.inRegion ops (i::rest)::k)) cs none (execOp a.eval o) w:=by
    simp only [Frame.atR] at he
    rcases hd with hd | hd
    · rw [hd] at he
      simp only [G,stepG,stepG.exec,stepG.oper,Frame.oper?,Frame.atR,ho,hw,he,hd,Option.map_some,Option.getD_some,if_true]
    · cases hop:o.op<;>first | (rw [hop] at hd;simp [Op.isDefer] at hd;done) | (cases hro:b.roundOf<;>rw [hro] at he<;>simp only [G,stepG,stepG.exec,stepG.oper,Frame.oper?,Frame.atR,ho,hw,he,hop,hro,Option.map_some,Option.getD_some,if_true])
  rcases semW_run _ S w #[] h hin with ⟨nx,S',w',es,hr,hq,hkp,hev⟩ | ⟨_,_,_,_,_,hf,_⟩
  case inr=>exact hf.elim
  rw [Array.empty_append] at hr
  have hfin:∀ v,(b.atR a (.inRegion ops (i::rest)::k)).finish v=b.atR (a.put o.dst v) (.inRegion ops rest::k):=fun v=>by rw [Frame.finish_atR,ho];rfl
  have hkd:(b.atR a (.inRegion ops (i::rest)::k)).kind=b.kind:=rfl
  have hev':∀ e∈seen P b.fn es,EvOk S w w' e:=fun e he=>hev e (mem_seen he)
  cases nx with
  | value v=>
    refine ⟨_,w',seen P b.fn es,S',?_,rfl,hkp,hev',hq⟩
    rw [hst]
    simp only [stepG.apply,if_true,hr,hkd,hk',hfin]
    simp [GStep.after,G,Frame.atR]
  | skip=>
    refine ⟨_,w',seen P b.fn es,S',?_,rfl,hkp,hev',hq⟩
    rw [hst]
    simp only [stepG.apply,if_true,hr,hkd,hk',hfin]
    simp [GStep.after,G,Frame.atR]
  | enter f args=>
    refine ⟨_,w',seen P b.fn es,S',?_,rfl,hkp,hev',hq⟩
    rw [hst]
    simp only [stepG.apply,if_true,hr,hkd,hk']
    simp [GStep.after,G,Frame.atR]
  | round l f tmps assign body=>
    refine ⟨_,w',seen P b.fn es,S',?_,rfl,hkp,hev',hq⟩
    rw [hst]
    simp only [stepG.apply,if_true,hr,hkd,hk']
    simp [GStep.after,G,Frame.atR]
  | defer d=>
    refine ⟨_,w',seen P b.fn es,S',?_,rfl,hkp,hev',hq⟩
    rw [hst]
    simp only [stepG.apply,if_true,hr,hkd,hk']
    have hfd:(b.atR {a with defers:=d::a.defers} (.inRegion ops (i::rest)::k)).finish undef=b.atR ({a with defers:=d::a.defers}.put o.dst undef) (.inRegion ops rest::k):=by rw [Frame.finish_atR,ho];rfl
    rw [← hfd]
    simp [GStep.after,G,Frame.atR]
  | _=>exact hq.elim
def Calls1 (P:Program) (f:FuncId) (args:Array Value) (S:St) (Post:Value→St→Prop):Prop:=
 ∀ (main:Bool) (Fin:Goroutine→St→Prop) (c:Frame) (cs:List Frame),(∀ v S',Post v S'→Go1 P main Fin (G (c.finish v) cs) S')→Go1 P main Fin (G (Frame.enter P f args .normal) (c::cs)) S
def Round1 (P:Program) (l:Nat) (f:FuncId) (tmps:Array Value) (assign body:Code) (S:St) (Post:Value→St→Prop):Prop:=
 ∀ (main:Bool) (Fin:Goroutine→St→Prop) (c:Frame) (cs:List Frame),(∀ v S',Post v S'→Go1 P main Fin (G (c.finish v) cs) S')→Go1 P main Fin (G (Frame.round l f tmps assign body .normal) (c::cs)) S
theorem Calls1.mono {f:FuncId} {args:Array Value} {S:St} {Post Post':Value→St→Prop} (h:Calls1 P f args S Post) (hp:∀ v S',Post v S'→Post' v S'):Calls1 P f args S Post':=
 fun m Fin c cs k=>h m Fin c cs fun v S' q=>k v S' (hp v S' q)
def CommO (P:Program) (ρ:Operand→Value) (op:Op) (S:St) (K:Value→St→Prop):Prop:=
  match op with
  | .send ch x=>∃ c v vs,ρ ch=.chan (some c)∧ρ x=v∧S.g=.sends c (v::vs)∧K undef {S with g:=.sends c vs}
  | .recv t ch ok=>ok=true∧∃ c d e i z,ρ ch=.chan (some c)∧P.underlying t=some (.chan d e)∧P.info? e=some i∧i.zero=some z ∧
      ((∃ v vs J D,S.g=.hears c (v::vs) J D∧K (recvd true v true) {S with g:=.hears c vs J D}) ∨
       (∃ J D,S.g=.hears c [] J D∧∀ H,J H→(∀ b e e',S b=some e→H b=some e'→e=e'∧e.wr=false∧D b)→K (recvd true z false) ⟨fun b=>(S b).or (H b),.idle⟩))
  | .go cl=>cl.args=#[]∧∃ x f cap c vs J Hw Hm,cl.callee=.value x∧ρ x=.func (.func f) #[] cap∧S.g=.idle∧S c=some ⟨.chan 0 #[] false 0 0 false,true⟩∧Hw c=none∧Hm c=none ∧
      (∀ b e,Hw b=some e→∃ e0,S b=some e0∧e.o=e0.o∧(e.wr=true→e0.wr=true))∧(∀ b e,Hm b=some e→∃ e0,S b=some e0∧e.o=e0.o∧(e.wr=true→e0.wr=true)) ∧
      (∀ b e e',Hw b=some e→Hm b=some e'→e.wr=false∧e'.wr=false)∧Go1 P false (fun g S=>S.g=.sends c []∧J S.h∧AtShut1 P c g) (Conc.born P {target:=.fn (.func f) cap,args:=#[]}) ⟨Hw,.sends c vs⟩ ∧
      K undef ⟨Hm,.hears c vs J (fun b=>∃ e,Hw b=some e)⟩
  | _=>False
theorem CommO.mono {ρ:Operand→Value} {op:Op} {S:St} {K K':Value→St→Prop} (hK:∀ v S,K v S→K' v S) (h:CommO P ρ op S K):CommO P ρ op S K':=by
 unfold CommO at h ⊢
 cases op<;>simp only at h ⊢
 case send=>obtain ⟨c,v,vs,h1,h2,h3,h4⟩:=h;exact ⟨c,v,vs,h1,h2,h3,hK _ _ h4⟩
 case recv=>
  obtain ⟨h0,c,d,e,i,z,h1,h2,h3,h4,h5⟩:=h
  refine ⟨h0,c,d,e,i,z,h1,h2,h3,h4,?_⟩
  rcases h5 with ⟨v,vs,J,D,h5,h6⟩ | ⟨J,D,h5,h6⟩
  ·exact .inl ⟨v,vs,J,D,h5,hK _ _ h6⟩
  ·exact .inr ⟨J,D,h5,fun H hJ hc=>hK _ _ (h6 H hJ hc)⟩
 case go=>
  obtain ⟨h0,x,f,cap,c,vs,J,Hw,Hm,h1,h2,h3,h4,h5,h6,h7,h8,h9,h10,h11⟩:=h
  exact ⟨h0,x,f,cap,c,vs,J,Hw,Hm,h1,h2,h3,h4,h5,h6,h7,h8,h9,h10,hK _ _ h11⟩
 all_goals exact h.elim
def wpOps1 (P:Program) (ops:Array Oper):List Nat→Act→St→(Act→St→Prop)→Prop
 | [],a,S,K=>K a S
 | i::rest,a,S,K=>
  match ops[i]? with
  | none=>wpOps1 P ops rest a S K
  | some o=>
   if Region.wanted o (yielded ops a.tmps) then
    (Op.isDefer o.op=false∧vB P (execOp a.eval o) S (fun nx S'=>match nx with
     | .value v=>wpOps1 P ops rest (a.put o.dst v) S' K
     | .skip=>wpOps1 P ops rest (a.put o.dst undef) S' K
     | .enter f args=>Calls1 P f args S' fun v S''=>wpOps1 P ops rest (a.put o.dst v) S'' K
     | .round l f tmps assign body=>Round1 P l f tmps assign body S' fun v S''=>wpOps1 P ops rest (a.put o.dst v) S'' K
     | _=>False) (fun _ _=>False))∨CommO P a.eval o.op S (fun v S''=>wpOps1 P ops rest (a.put o.dst v) S'' K)
   else wpOps1 P ops rest (a.put o.dst undef) S K
theorem go_unwanted {b:Frame} {a:Act} {ops:Array Oper} {i:Nat} {rest:List Nat} {k:List Item} {cs:List Frame} (w:World) (h:((ops[i]?).map (Region.wanted · (yielded ops a.tmps))).getD false=false) :
    stepG P main (G (b.atR a (.inRegion ops (i::rest)::k)) cs) w=.go (G (b.atR (a.put ((ops[i]?).bind (·.dst)) undef) (.inRegion ops rest::k)) cs) w:=by
  rw [← Frame.finish_atR]
  simp only [Frame.atR] at *
  simp [G,stepG,stepG.exec,h]
theorem Go1.commO {b:Frame} {a:Act} {ops:Array Oper} {i:Nat} {o:Oper} {rest:List Nat} {k:List Item} {cs:List Frame} {S:St} {K:Value→St→Prop} (ho:ops[i]? = some o) (hw:Region.wanted o (yielded ops a.tmps)=true)
    (hk:b.kind≠.early) (h:CommO P a.eval o.op S K) (hK:∀ v S',K v S'→Go1 P main Fin (G (b.atR (a.put o.dst v) (.inRegion ops rest::k)) cs) S'):Go1 P main Fin (G (b.atR a (.inRegion ops (i::rest)::k)) cs) S:=by
  have he:=Frame.eval_atR b a (.inRegion ops (i::rest)::k)
  have hk':(b.kind==CallKind.early)=false:=by simpa using hk
  have hkd:(b.atR a (.inRegion ops (i::rest)::k)).kind=b.kind:=rfl
  have hst:Op.isDefer o.op=false→∀ w,stepG P main (G (b.atR a (.inRegion ops (i::rest)::k)) cs) w=stepG.apply P true (b.atR a (.inRegion ops (i::rest)::k)) cs none (execOp a.eval o) w:=by
    intro hd w
    simp only [Frame.atR] at he
    cases hop:o.op<;>first | (rw [hop] at hd;simp [Op.isDefer] at hd;done) | (cases hro:b.roundOf<;>rw [hro] at he<;>simp only [G,stepG,stepG.exec,stepG.oper,Frame.oper?,Frame.atR,ho,hw,he,hop,hro,Option.map_some,Option.getD_some,if_true])
  have hsv:∀ v,Conc.served (G (b.atR a (.inRegion ops (i::rest)::k)) cs) v=G (b.atR (a.put o.dst v) (.inRegion ops rest::k)) cs:=by
    intro v
    show G ((b.atR a (.inRegion ops (i::rest)::k)).finish v) cs=_
    rw [Frame.finish_atR,ho];rfl
  have hstep:Op.isDefer o.op=false→∀ (x:CommCase) (sh:CommShape),(∀ w,(execOp a.eval o).runT P w #[]=(.ok (.comm #[x] true sh) w,#[]))→∀ w,stepG P main (G (b.atR a (.inRegion ops (i::rest)::k)) cs) w=.comm (G (b.atR a (.inRegion ops (i::rest)::k)) cs) #[x] true sh w #[]:=by
    intro hd x sh hr w
    rw [hst hd w]
    have hse:seen P b.fn #[]=#[]:=by first | rfl | simp [seen]
    simp only [stepG.apply,hr w,if_true,hkd,hk']
    simp [GStep.after,G,Frame.atR,hse]
  unfold CommO at h
  cases hop:o.op<;>simp only [hop] at h
  case send ch x=>
    obtain ⟨c,v,vs,h1,h2,h3,h4⟩:=h
    refine .send (z:=.tuple #[]) h3 rfl (hstep (by rw [hop];rfl) _ _ fun w=>?_) (by rw [hsv];exact hK _ _ h4)
    simp only [execOp,hop,h1,h2];rfl
  case recv t ch ok=>
    obtain ⟨rfl,c,d,e,i',z,h1,h2,h3,h4,h5⟩:=h
    have hr:∀ w,(execOp a.eval o).runT P w #[]=(.ok (.comm #[rcase c z] true (.recv true)) w,#[]):=by
      intro w
      simp only [execOp,hop,h1,underlying,zeroValue,typeInfo,program,bind,pure,Sem.bind,Sem.runT,h2,h3,h4]
      rfl
    rcases h5 with ⟨v,vs,J,D,h5,h6⟩ | ⟨J,D,h5,h6⟩
    · exact .hear h5 rfl (hstep (by rw [hop];rfl) _ _ hr) (by rw [hsv];exact hK _ _ h6)
    · exact .closed h5 rfl (hstep (by rw [hop];rfl) _ _ hr) fun H hJ hc=>by rw [hsv];exact hK _ _ (h6 H hJ hc)
  case go cl=>
    obtain ⟨h0,x,f,cap,c,vs,J,Hw,Hm,h1,h2,h3,h4,h5,h6,h7,h8,h9,h10,h11⟩:=h
    refine .fork h3 rfl rfl rfl (g':=G (b.atR (a.put o.dst undef) (.inRegion ops rest::k)) cs) (child:=Conc.born P {target:=.fn (.func f) cap,args:=#[]}) (fun w=>⟨#[],by simp,?_⟩) h4 h5 h6 h7 h8 h9 h10 (hK _ _ h11)
    have hr:(execOp a.eval o).runT P w #[]=(.ok (.spawn {target:=.fn (.func f) cap,args:=#[]}) w,#[]):=by
      simp only [execOp,hop,resolve,h1,h0,h2,Deferred.ofValue,bind,pure,Sem.bind,Sem.runT]
      simp
    have hse:seen P b.fn #[]=#[]:=by first | rfl | simp [seen]
    rw [hst (by rw [hop];rfl) w,← hsv undef]
    simp only [stepG.apply,hr,if_true,hkd,hk']
    simp [GStep.after,G,Frame.atR,hse,Conc.born,Conc.served]
  all_goals exact h.elim
theorem Go1.ops {b:Frame} {ops:Array Oper} {k:List Item} {cs:List Frame} (hk:b.kind≠.early):∀ (l:List Nat) (a:Act) (S:St) (K:Act→St→Prop),wpOps1 P ops l a S K →
    (∀ a' S',K a' S'→Go1 P main Fin (G (b.atR a' k) cs) S')→Go1 P main Fin (G (b.atR a (.inRegion ops l::k)) cs) S:=by
  intro l
  induction l with
  | nil=>exact fun a S K h hK=>.ctl (fun w=>by simp [G,stepG,stepG.exec,Frame.atR]) (hK _ _ h)
  | cons i rest ih=>
    intro a S K h hK
    simp only [wpOps1] at h
    split at h
    · rename_i ho
      refine .ctl (fun w=>go_unwanted w (by simp [ho])) ?_
      simp only [ho,Option.bind_none,Act.put]
      exact ih _ _ _ h hK
    · rename_i o ho
      split at h
      · rename_i hw
        rcases h with h | h
        case inr=>exact .commO ho hw hk h fun v S' q=>ih _ _ _ q hK
        refine .op ho hw hk (.inr h.1) (semW_mono (fun nx S' hq=>?_) (fun _ _ hf=>hf) _ _ h.2)
        cases nx with
        | value v=>exact ih _ _ _ hq hK
        | skip=>exact ih _ _ _ hq hK
        | enter f args=>exact hq _ _ _ _ fun v S'' q=>by rw [Frame.finish_atR,ho];exact ih _ _ _ q hK
        | round l f tmps assign body=>exact hq _ _ _ _ fun v S'' q=>by rw [Frame.finish_atR,ho];exact ih _ _ _ q hK
        | _=>exact hq.elim
      · rename_i hw
        refine .ctl (fun w=>go_unwanted w (by simpa [ho] using hw)) ?_
        simp only [ho,Option.bind_some]
        exact ih _ _ _ h hK
inductive Ex where
 | normal
 | exit (id:Nat)
 | ret
def LeaveG (P:Program) (main:Bool) (Fin:Goroutine→St→Prop) (b:Frame) (cs:List Frame) (jump:Option Code) (a:Act) (S:St):Prop:=
 match b.roundOf with
 | none=>∀ todo,Go1 P main Fin (G {b.atR a todo with mode:=.returning} cs) S
 | some l=>b.kind=.normal∧∃ c cs',cs=c::cs'∧vB P (Instr.endRound l jump) S (fun v S'=>Go1 P main Fin (G (c.finish v) cs') S') (fun _ _=>False)
def ArrG (P:Program) (main:Bool) (Fin:Goroutine→St→Prop) (b:Frame) (k:List Item) (cs:List Frame):Ex→Act→St→Prop
 | .normal,a,S=>Go1 P main Fin (G (b.atR a k) cs) S
 | .exit id,a,S=>match exitTo id k with
  | some k'=>Go1 P main Fin (G (b.atR a k') cs) S
  | none=>(b.roundOf.isSome=true)∧LeaveG P main Fin b cs (some (.exit id)) a S
 | .ret,a,S=>LeaveG P main Fin b cs (some .ret) a S
def wpc (P:Program) (c:Code) (a:Act) (S:St) (Q:Ex→Act→St→Prop):Prop:=
 ∀ (main:Bool) (Fin:Goroutine→St→Prop) (b:Frame) (k:List Item) (cs:List Frame),b.kind≠.early→(∀ e a' S',Q e a' S'→ArrG P main Fin b k cs e a' S')→Go1 P main Fin (G (b.atR a (.code c::k)) cs) S
theorem wpc_skip {a:Act} {S:St} {Q:Ex→Act→St→Prop} (h:Q .normal a S):wpc P .skip a S Q:=
 fun _ _ _ _ _ _ K=>.ctl (fun w=>by simp [G,stepG,stepG.exec,Frame.atR]) (K _ _ _ h)
def Ex.thn (next:Act→St→Prop) (Q:Ex→Act→St→Prop):Ex→Act→St→Prop
 | .normal,a,S=>next a S
 | e,a,S=>Q e a S
theorem ArrG.pass {b:Frame} {x:Item} {k:List Item} {cs:List Frame} {e:Ex} {a:Act} {S:St} (hx:∀ id,exitTo id (x::k)=exitTo id k) (hn:e=.normal→Go1 P main Fin (G (b.atR a (x::k)) cs) S)
    (h:e≠.normal→ArrG P main Fin b k cs e a S):ArrG P main Fin b (x::k) cs e a S:=by
  cases e with
  | normal=>exact hn rfl
  | exit id=>have:=h (by simp);simp only [ArrG,hx] at this ⊢;exact this
  | ret=>exact h (by simp)
theorem wpc_seq {x y:Code} {a:Act} {S:St} {Q:Ex→Act→St→Prop} (h:wpc P x a S (Ex.thn (fun a' S'=>wpc P y a' S' Q) Q)):wpc P (.seq x y) a S Q:=by
 intro m F b k cs hk K
 refine .ctl (fun w=>by simp [G,stepG,stepG.exec,Frame.atR]) (h m F b (.code y::k) cs hk fun e a' S' q=>?_)
 refine .pass (fun id=>rfl) (fun e'=>?_) (fun e'=>?_)
 ·subst e';exact q m F b k cs hk K
 ·cases e<;>first | exact absurd rfl e' | exact K _ _ _ q
theorem wpc_cond {c:Operand} {x y:Code} {a:Act} {S:St} {Q:Ex→Act→St→Prop} {t:Bool} (hc:a.eval c=.bool t) (h:wpc P (if t then x else y) a S Q):wpc P (.cond c x y) a S Q:=by
 intro m F b k cs hk K
 refine .ctl (fun w=>?_) (h m F b k cs hk K)
 have h':=congrFun (Frame.eval_atR b a (.code (.cond c x y)::k)) c
 simp only [Frame.atR] at h'
 simp [G,stepG,stepG.exec,Frame.atR,h',hc]
def Ex.blk (id:Nat) (Q:Ex→Act→St→Prop):Ex→Act→St→Prop
 | .exit id',a,S=>if id'=id then Q .normal a S else Q (.exit id') a S
 | e,a,S=>Q e a S
theorem wpc_block {id:Nat} {c:Code} {a:Act} {S:St} {Q:Ex→Act→St→Prop} (h:wpc P c a S (Ex.blk id Q)):wpc P (.block id c) a S Q:=by
 intro m F b k cs hk K
 refine .ctl (fun w=>by simp [G,stepG,stepG.exec,Frame.atR]) (h m F b (.inBlock id::k) cs hk fun e a' S' q=>?_)
 cases e with
 | normal=>exact .ctl (fun w=>by simp [G,stepG,stepG.exec,Frame.atR]) (K _ _ _ q)
 | exit id'=>
  simp only [Ex.blk] at q
  simp only [ArrG,exitTo]
  by_cases hid:id'=id
  ·subst hid
   simp only [if_true,beq_self_eq_true] at q ⊢
   exact K _ _ _ q
  ·have:(id==id')=false:=by simp;exact fun h=>hid h.symm
   simp only [hid,if_false,this,Bool.false_eq_true] at q ⊢
   exact K _ _ _ q
 | ret=>exact K _ _ _ q
theorem Go1.leaveRound {b:Frame} {a:Act} {todo:List Item} {cs:List Frame} {S:St} {jump:Option Code} {l:Nat} (hl:b.roundOf=some l)
    (hst:∀ w,stepG P main (G (b.atR a todo) cs) w=GStep.after (seen P b.fn ((Instr.endRound l jump).runT P w #[]).2) (match ((Instr.endRound l jump).runT P w #[]).1 with
      | .ok v w=>doReturn P main (b.atR a todo) cs none v w
      | .halt _ w=>.ended (.stuck "range over a function: no such loop" ((b.atR a todo).pos P)) w)) (h:LeaveG P main Fin b cs jump a S):Go1 P main Fin (G (b.atR a todo) cs) S:=by
  unfold LeaveG at h
  rw [hl] at h
  obtain ⟨hn,c,cs',rfl,h⟩:=h
  refine .step' rfl fun w hin=>?_
  rcases semW_run _ S w #[] h hin with ⟨v,S',w',es,hr,hq,hkp,hev⟩ | ⟨_,_,_,_,_,hf,_⟩
  case inr=>exact hf.elim
  rw [Array.empty_append] at hr
  refine ⟨G (c.finish v) cs',w',seen P b.fn es,S',?_,rfl,hkp,fun e he=>hev e (mem_seen he),hq⟩
  rw [hst,hr]
  have hkd:(b.atR a todo).kind=.normal:=hn
  simp only [doReturn,hkd]
  simp [GStep.after,G]
theorem Go1.ret {b:Frame} {a:Act} {k:List Item} {cs:List Frame} {S:St} (h:LeaveG P main Fin b cs (some .ret) a S):Go1 P main Fin (G (b.atR a (.code .ret::k)) cs) S:=by
 cases hl:b.roundOf with
 | none=>
  unfold LeaveG at h
  rw [hl] at h
  exact .ctl (fun w=>by simp [G,stepG,stepG.exec,Frame.atR,hl]) (h (.code .ret::k))
 | some l=>
  refine .leaveRound (jump:=some .ret) hl (fun w=>?_) h
  simp only [G,stepG,stepG.exec,Frame.atR,hl]
  generalize (Instr.endRound l _).runT P w #[]=x
  obtain ⟨r,es⟩:=x
  cases r<;>rfl
theorem Go1.off {b:Frame} {a:Act} {cs:List Frame} {S:St} (h:LeaveG P main Fin b cs none a S):Go1 P main Fin (G (b.atR a []) cs) S:=by
 cases hl:b.roundOf with
 | none=>
  unfold LeaveG at h
  rw [hl] at h
  exact .ctl (fun w=>by simp [G,stepG,stepG.exec,Frame.atR,hl]) (h [])
 | some l=>
  refine .leaveRound (jump:=none) hl (fun w=>?_) h
  simp only [G,stepG,stepG.exec,Frame.atR,hl]
  generalize (Instr.endRound l _).runT P w #[]=x
  obtain ⟨r,es⟩:=x
  cases r<;>rfl
theorem wpc_ret {a:Act} {S:St} {Q:Ex→Act→St→Prop} (h:Q .ret a S):wpc P .ret a S Q:=
 fun _ _ _ _ _ _ K=>.ret (K _ _ _ h)
theorem wpc_exit {id:Nat} {a:Act} {S:St} {Q:Ex→Act→St→Prop} (h:Q (.exit id) a S):wpc P (.exit id) a S Q:=by
 intro m F b k cs hk K
 have:=K _ _ _ h
 simp only [ArrG] at this
 split at this
 ·rename_i k' hk'
  exact .ctl (fun w=>by simp [G,stepG,stepG.exec,Frame.atR,hk']) this
 ·rename_i hk'
  obtain ⟨hs,hq⟩:=this
  obtain ⟨l,hl⟩:=Option.isSome_iff_exists.1 hs
  refine .leaveRound (jump:=some (.exit id)) hl (fun w=>?_) hq
  simp only [G,stepG,stepG.exec,Frame.atR,hl,hk',Option.elim]
  generalize (Instr.endRound l _).runT P w #[]=x
  obtain ⟨r,es⟩:=x
  cases r<;>rfl
theorem wpc_region {id:Nat} {ops:Array Oper} {a:Act} {S:St} {Q:Ex→Act→St→Prop} (h:wpOps1 P ops (List.range ops.size) a S (Q .normal)):wpc P (.region id ops false) a S Q:=by
 intro m F b k cs hk K
 exact .ctl (fun w=>by simp [G,stepG,stepG.exec,Frame.atR]) (.ops hk _ _ _ _ h fun a' S' q=>K _ _ _ q)
theorem wpc_region_draw {id:Nat} {ops:Array Oper} {a:Act} {S:St} {Q:Ex→Act→St→Prop} (h:∀ t,wpOps1 P ops (Region.schedule (P.follows .mixedOrders) ops t) a S (Q .normal)):wpc P (.region id ops true) a S Q:=by
 intro m F b k cs hk K
 refine .step' rfl fun w hin=>⟨_,_,#[],S,?_,?_,Keeps.drew hin (w.drawn+1),by simp,Go1.ops hk _ _ _ _ (h (w.tape w.drawn (.order b.fn id))) fun a' S' q=>K _ _ _ q⟩
 ·simp [G,stepG,stepG.exec,Frame.atR,choose,Sem.run,Question.forced,Question.cut]
 ·rfl
theorem wpc_loop {c:Code} {a:Act} {S:St} {Q:Ex→Act→St→Prop} (I:Act→St→Nat→Prop) {n:Nat} (h0:I a S n)
    (round:∀ a S n,I a S n→wpc P c a S (Ex.thn (fun a' S'=>∃ n',n'<n∧I a' S' n') Q)):wpc P (.loop c) a S Q:=by
  intro m F b k cs hk K
  refine .ctl (fr':=b.atR a (.code c::.inLoop c::k)) (cs':=cs) (fun w=>by simp [G,stepG,stepG.exec,Frame.atR]) ?_
  induction n using Nat.strongRecOn generalizing a S with
  | _ n ih=>
    refine round a S n h0 m F b (.inLoop c::k) cs hk fun e a' S' q=>?_
    refine .pass (fun id=>rfl) (fun e'=>?_) (fun e'=>?_)
    · subst e'
      obtain ⟨n',hlt,hI⟩:=q
      exact .ctl (fr':=b.atR a' (.code c::.inLoop c::k)) (cs':=cs) (fun w=>by simp [G,stepG,stepG.exec,Frame.atR]) (ih n' hlt hI)
    · cases e<;>first | exact absurd rfl e' | exact K _ _ _ q
def RetW (P:Program) (fn:Func) (tmps:Array Value) (Post:Value→St→Prop):List Deferred→St→Prop
 | [],S=>vB P (results fn tmps) S Post (fun _ _=>False)
 | d::ds,S=>match d.target with
  | .collected bl=>vB P (Instr.takeDeferred bl) S (fun calls S'=>calls=[]∧RetW P fn tmps Post ds S') (fun _ _=>False)
  | _=>False
theorem Go1.unwind {fr c:Frame} {cs:List Frame} {fn:Func} {Post:Value→St→Prop} (hf:P.funcs[fr.fn]? = some fn) (hm:fr.mode=.returning) (hkd:fr.kind=.normal)
    (K:∀ v S',Post v S'→Go1 P main Fin (G (c.finish v) cs) S'):∀ (ds:List Deferred) (S:St),fr.defers=ds→RetW P fn fr.tmps Post ds S→Go1 P main Fin (G fr (c::cs)) S:=by
  intro ds
  induction ds generalizing fr with
  | nil=>
    intro S hd h
    refine .step' rfl fun w hin=>?_
    rcases semW_run _ S w #[] h hin with ⟨v,S',w',es,hr,hq,hkp,hev⟩ | ⟨_,_,_,_,_,hf,_⟩
    case inr=>exact hf.elim
    rw [Array.empty_append] at hr
    refine ⟨G (c.finish v) cs,w',seen P fr.fn es,S',?_,rfl,hkp,fun e he=>hev e (mem_seen he),K _ _ hq⟩
    simp only [G,stepG,Go.unwind,hm,hd,hf,hr,doReturn,hkd]
    simp [GStep.after]
  | cons d ds ih=>
    intro S hd h
    unfold RetW at h
    split at h
    · rename_i bl hbl
      refine .step' rfl fun w hin=>?_
      rcases semW_run _ S w #[] h hin with ⟨v,S',w',es,hr,⟨rfl,hq⟩,hkp,hev⟩ | ⟨_,_,_,_,_,hf,_⟩
      case inr=>exact hf.elim
      rw [Array.empty_append] at hr
      obtain ⟨tg,ar⟩:=d
      simp only at hbl;subst hbl
      refine ⟨G {fr with defers:=ds} (c::cs),w',seen P fr.fn es,S',?_,rfl,hkp,fun e he=>hev e (mem_seen he),ih (fr:={fr with defers:=ds}) hf hm hkd _ rfl hq⟩
      simp only [G,stepG,Go.unwind,hm,hd,hr]
      simp [GStep.after]
    · exact h.elim
theorem calls1_of {f:FuncId} {fn:Func} {c:Code} {args:Array Value} {S:St} {Post:Value→St→Prop} (hf:P.funcs[f]? = some fn) (hc:fn.body=some c)
    (h:wpc P c {tmps:=args++Array.replicate (fn.ntmps-args.size) undef,defers:=[]} S fun e a' S'=>(match e with | .exit _=>False | _=>True)∧RetW P fn a'.tmps Post a'.defers S'):Calls1 P f args S Post:=by
  intro m F cl cs K
  have e:Frame.enter P f args .normal=({fn:=f,tmps:=#[],todo:=[],defers:=[],mode:=.run,kind:=.normal}:Frame).atR {tmps:=args++Array.replicate (fn.ntmps-args.size) undef,defers:=[]} [.code c]:=by
    simp [Frame.enter,Frame.atR,hf,hc]
  rw [e]
  refine h m F _ [] (cl::cs) (by simp) fun e a' S' q=>?_
  have fin:∀ todo,Go1 P m F (G {({fn:=f,tmps:=#[],todo:=[],defers:=[],mode:=.run,kind:=.normal}:Frame).atR a' todo with mode:=.returning} (cl::cs)) S':=
    fun todo=>.unwind (fn:=fn) hf rfl rfl K _ S' rfl q.2
  cases e with
  | normal=>exact .off fin
  | exit id=>exact q.1.elim
  | ret=>exact fin
end
end
section
open Go Go.Conc
open Go.ConcN (PermW)
def blk:Loc→Option Nat
 | .cell a=>some a.block
 | .obj r=>some r
 | _=>none
def Silent (t:Trace):Prop:=∀ op∈t,∀ m,op.act=.mark m→m=.noRoom∨∃ f,m=.extern f
theorem Silent.append {t u:Trace} (h:Silent t) (k:Silent u):Silent (t++u):=by
 intro op hop
 rcases Array.mem_append.1 hop with h1 | h1
 ·exact h op h1
 ·exact k op h1
theorem Silent.deaf {t:Trace} (h:Silent t) (g:Nat):∀ i,t.deaf g i=0:=by
 intro i
 induction i with
 | zero=>rfl
 | succ i ih=>
  unfold Trace.deaf
  split
  ·rename_i hh _ _ heq
   rcases h _ (mem_of_getElem? heq) .disable rfl with e | ⟨f,e⟩<;>cases e
  ·rename_i hh _ _ heq
   rcases h _ (mem_of_getElem? heq) .enable rfl with e | ⟨f,e⟩<;>cases e
  ·exact ih
theorem Silent.heard {t:Trace} (h:Silent t) {i:Nat} {op:MemOp} (hi:t[i]? = some op):t.heard i:=⟨op.g,by simp [Trace.g?,hi],h.deaf _ _⟩
def Hold (t:Trace) (i:Nat) (h:Hp):Prop:=∀ b e,h b=some e→∀ l,blk l=some b→(e.wr=true→Perm t i l)∧PermW t i l
structure Tr (t:Trace) (n sz:Nat):Prop where
 silent:Silent t
 lim:∀ i a,touchAt t i=some a→∃ b,blk a.loc=some b∧b<sz
 nr:∀ said,¬ Race said t
 ids:∀ op∈t,op.g<n
theorem evOk_touch {S:St} {w w':World} {e:Event} {x:Touch} (h:EvOk S w w' e) (ht:(MemAct.ofEvent e).touch? = some x) :
    ∃ b,blk x.loc=some b∧((∃ y,S b=some y∧(x.write=true→y.wr=true))∨w.heap.size≤b)∧b<w'.heap.size:=by
  obtain ⟨loc,wr,sy⟩:=e
  unfold EvOk at h
  cases loc with
  | cell a=>
    obtain ⟨h1,h2,h3⟩:=h
    simp only at h1;subst h1
    have e1:MemAct.ofEvent ⟨.cell a,wr,false⟩=.access ⟨.cell a,wr,false⟩:=by cases wr<;>rfl
    rw [e1] at ht
    cases ht
    exact ⟨_,rfl,h2,h3⟩
  | obj r=>
    obtain ⟨h1,h2,h3⟩:=h
    simp only at h1;subst h1
    have e1:MemAct.ofEvent ⟨.obj r,wr,false⟩=.access ⟨.obj r,wr,false⟩:=by cases wr<;>rfl
    rw [e1] at ht
    cases ht
    exact ⟨_,rfl,h2,h3⟩
  | mark m=>cases m<;>first | exact h.elim | (exfalso;simp [MemAct.ofEvent,MemAct.touch?] at ht)
  | output=>exact h.elim
  | goroutines=>exact h.elim
theorem evOk_mark {S:St} {w w':World} {e:Event} {m:Mark} (h:EvOk S w w' e) (hm:MemAct.ofEvent e=.mark m):m=.noRoom∨∃ f,m=.extern f:=by
 obtain ⟨loc,wr,sy⟩:=e
 unfold EvOk at h
 cases loc with
 | cell a=>obtain ⟨h1,_⟩:=h;simp only at h1;subst h1;cases wr<;>cases hm
 | obj r=>obtain ⟨h1,_⟩:=h;simp only at h1;subst h1;cases wr<;>cases hm
 | mark m'=>
  have e1:MemAct.ofEvent ⟨.mark m',wr,sy⟩=.mark m':=by cases wr<;>cases sy<;>rfl
  rw [e1] at hm
  cases hm
  cases m<;>first | exact h.elim | exact .inl rfl | exact .inr ⟨_,rfl⟩
 | output=>exact h.elim
 | goroutines=>exact h.elim
theorem mem_ofEvents {i:Nat} {fn:FuncId} {pos:String} {es:Array Event} {op:MemOp} (h:op∈MemOp.ofEvents i fn pos es):op.g=i∧∃ e∈es,op.act=.ofEvent e:=by
 rw [ofEvents_eq] at h
 obtain ⟨e,he,rfl⟩:=Array.mem_map.1 h
 exact ⟨rfl,e,he,rfl⟩
section
variable {t:Trace} {n i:Nat} {w w':World} {S S':St} {es:Array Event} {fn:FuncId} {pos:String}
theorem Tr.own (h:Tr t n w.heap.size) (hi:i<n) (hp:Hold t i S.h) (hk:Keeps S S' w w') (he:∀ e∈es,EvOk S w w' e) :
    Tr (t++MemOp.ofEvents i fn pos es) n w'.heap.size∧Hold (t++MemOp.ofEvents i fn pos es) i S'.h:=by
  have tch:∀ op∈MemOp.ofEvents i fn pos es,∀ x,op.act.touch? = some x→∃ b,blk x.loc=some b∧((∃ y,S b=some y∧(x.write=true→y.wr=true))∨w.heap.size≤b)∧b<w'.heap.size:=by
    intro op hop x hx
    obtain ⟨_,e,hm,hact⟩:=mem_ofEvents hop
    rw [hact] at hx
    exact evOk_touch (he e hm) hx
  refine ⟨⟨h.silent.append fun op hop m hm=>?_,fun j a ha=>?_,fun said=>?_,fun op hop=>?_⟩,fun b e hb l hl=>?_⟩
  · obtain ⟨_,e,hme,hact⟩:=mem_ofEvents hop
    rw [hact] at hm
    exact evOk_mark (he e hme) hm
  · obtain ⟨x,hx,hxa⟩:=touch_of ha
    rcases getElem?_append_cases hx with ⟨hj,hx'⟩ | ⟨_,hxu⟩
    · obtain ⟨b,h1,h2⟩:=h.lim j a (by rw [touchAt_of hx'];exact hxa)
      exact ⟨b,h1,Nat.lt_of_lt_of_le h2 hk.size⟩
    · obtain ⟨b,h1,_,h3⟩:=tch x hxu a hxa
      exact ⟨b,h1,h3⟩
  · refine noRace_append (h.nr said) (fun op hop=>(mem_ofEvents hop).1) (fun j a ha op hop x hx hc=>?_)
    obtain ⟨b,h1,h2,_⟩:=tch op hop x hx
    rcases h2 with ⟨y,hy,hw⟩ | hnew
    · have hpl:=hp b y hy x.loc h1
      cases hxw:x.write with
      | true=>exact hpl.1 (hw hxw) j a ha hc.1
      | false=>
        have:a.write=true:=by
          rcases hc.2.2.1 with h | h
          · exact h
          · rw [hxw] at h;cases h
        exact hpl.2 j a ha hc.1 this
    · obtain ⟨b',h1',h2'⟩:=h.lim j a ha
      rw [hc.1,h1] at h1'
      cases h1'
      omega
  · rcases Array.mem_append.1 hop with h1 | h1
    · exact h.ids op h1
    · rw [(mem_ofEvents h1).1];exact hi
  · have hmine:∀ op∈MemOp.ofEvents i fn pos es,op.g=i:=fun op hop=>(mem_ofEvents hop).1
    cases hs:S b with
    | none=>
      obtain ⟨hnew,_⟩:=hk.new b e hb hs
      have hv:Perm t i l:=by
        intro j a ha hla
        obtain ⟨b',h1',h2'⟩:=h.lim j a ha
        rw [hla,hl] at h1'
        cases h1'
        omega
      exact ⟨fun _=>hv.app fun op hop _ _ _=>hmine op hop,(PermW.of hv).app fun op hop _ _ _ _=>hmine op hop⟩
    | some e0=>
      have hpl:=hp b e0 hs l hl
      refine ⟨fun hw=>(hpl.1 ?_).app fun op hop _ _ _=>hmine op hop,hpl.2.app fun op hop _ _ _ _=>hmine op hop⟩
      cases hw0:e0.wr with
      | true=>rfl
      | false=>
        have:=hk.ro b e0 hs hw0
        have h9:S' b=some e:=hb
        rw [h9] at this;cases this
        rw [hw] at hw0;cases hw0
def Compat (S T:Hp) (D:Nat→Prop):Prop:=∀ b e e',S b=some e→T b=some e'→e.wr=false∧e'.wr=false∧D b
theorem Compat.step {T:St} {D:Nat→Prop} (h:Compat S.h T.h D) (hT:T.In w) (hk:Keeps S S' w w'):Compat S'.h T.h D:=by
 intro b e e' hb hb'
 cases hs:S b with
 | none=>
  have:=(hk.new b e hb hs).1
  have:=hT.lt hb'
  omega
 | some e0=>
  obtain ⟨h1,h2,h3⟩:=h b e0 e' hs hb'
  have:=hk.ro b e0 hs h1
  have h9:S' b=some e:=hb
  rw [h9] at this;cases this
  exact ⟨h1,h2,h3⟩
theorem Compat.symm {T:Hp} {S:Hp} {D:Nat→Prop} (h:Compat S T D):Compat T S D:=fun b e e' hb hb'=>by
 obtain ⟨h1,h2,h3⟩:=h b e' e hb' hb
 exact ⟨h2,h1,h3⟩
theorem Compat.inn {T:St} {D:Nat→Prop} (h:Compat S.h T.h D) (hT:T.In w) (hk:Keeps S S' w w'):T.In w':=by
 intro b e hb
 have hlt:=hT.lt hb
 rw [hk.old b hlt fun e0 he0=>(h b e0 e he0 hb).1]
 exact hT b e hb
theorem Hold.other {T:St} {k:Nat} {D:Nat→Prop} (hT:Hold t k T.h) (hin:T.In w) (hc:Compat S.h T.h D) (he:∀ e∈es,EvOk S w w' e):Hold (t++MemOp.ofEvents i fn pos es) k T.h:=by
 intro b e hb l hl
 have key:∀ op∈MemOp.ofEvents i fn pos es,∀ x,op.act.touch? = some x→x.loc=l→∃ y,S b=some y∧(x.write=true→y.wr=true):=by
  intro op hop x hx hxl
  obtain ⟨_,ev,hm,hact⟩:=mem_ofEvents hop
  rw [hact] at hx
  obtain ⟨b',h1,h2,_⟩:=evOk_touch (he ev hm) hx
  rw [hxl,hl] at h1
  cases h1
  rcases h2 with h2 | h2
  ·exact h2
  ·have:=hin.lt hb;omega
 refine ⟨fun hw=>((hT b e hb l hl).1 hw).app fun op hop x hx hxl=>?_,(hT b e hb l hl).2.app fun op hop x hx hxl hxw=>?_⟩
 ·obtain ⟨y,hy,_⟩:=key op hop x hx hxl
  have:=(hc b y e hy hb).2.1
  rw [hw] at this;cases this
 ·obtain ⟨y,hy,hyw⟩:=key op hop x hx hxl
  have:=(hc b y e hy hb).1
  rw [hyw hxw] at this;cases this
theorem PermW.other {k b:Nat} {l:Loc} (hT:PermW t k l) (hl:blk l=some b) (hb:S b=none) (hlt:b<w.heap.size) (he:∀ e∈es,EvOk S w w' e):PermW (t++MemOp.ofEvents i fn pos es) k l:=by
 refine PermW.app hT fun op hop x hx hxl _=>?_
 obtain ⟨_,ev,hm,hact⟩:=mem_ofEvents hop
 rw [hact] at hx
 obtain ⟨b',h1,h2,_⟩:=evOk_touch (he ev hm) hx
 rw [hxl,hl] at h1
 cases h1
 rcases h2 with ⟨y,hy,_⟩ | h2
 ·rw [hb] at hy;cases hy
 ·omega
def Calm (n:Nat) (u:Trace):Prop:=∀ op∈u,op.g<n∧op.act.touch? = none∧∀ m,op.act≠.mark m
theorem Calm.touch {u:Trace} (hu:Calm n u) {j:Nat} {a:Touch} (h:touchAt (t++u) j=some a):j<t.size∧touchAt t j=some a:=by
 obtain ⟨x,hx,hxa⟩:=touch_of h
 rcases getElem?_append_cases hx with ⟨hj,hx'⟩ | ⟨_,hxu⟩
 ·exact ⟨hj,by rw [touchAt_of hx'];exact hxa⟩
 ·rw [(hu x hxu).2.1] at hxa;cases hxa
theorem Tr.calm {m sz:Nat} {u:Trace} (h:Tr t n sz) (hu:Calm m u) (hn:n≤m):Tr (t++u) m sz:=by
 refine ⟨h.silent.append fun op hop m hm=>absurd hm ((hu op hop).2.2 m),fun j a ha=>?_,fun said=>?_,fun op hop=>?_⟩
 ·exact h.lim j a (hu.touch ha).2
 ·rintro ⟨p,q,hpq,⟨a,b,ha,hb,hc⟩,n1,n2⟩
  have h1:=hu.touch (t:=t) (j:=p) ha
  have h2:=hu.touch (t:=t) (j:=q) hb
  exact h.nr said ⟨p,q,hpq,⟨a,b,h1.2,h2.2,hc⟩,fun e=>n1 (hb_app u e),fun e=>n2 (hb_app u e)⟩
 ·rcases Array.mem_append.1 hop with h1 | h1
  ·exact Nat.lt_of_lt_of_le (h.ids op h1) hn
  ·exact (hu op h1).1
theorem Hold.calm {T:Hp} {k m:Nat} {u:Trace} (h:Hold t k T) (hu:Calm m u):Hold (t++u) k T:=fun b e hb l hl=>
 ⟨fun hw=>((h b e hb l hl).1 hw).app fun op hop x hx _=>(by rw [(hu op hop).2.1] at hx;cases hx),(h b e hb l hl).2.app fun op hop x hx _ _=>(by rw [(hu op hop).2.1] at hx;cases hx)⟩
theorem PermW.calm {l:Loc} {k m:Nat} {u:Trace} (h:PermW t k l) (hu:Calm m u):PermW (t++u) k l:=PermW.app h fun op hop x hx _ _=>(by rw [(hu op hop).2.1] at hx;cases hx)
def Done (t:Trace) (j:Nat):Prop:=∀ (i:Nat) (op:MemOp),t[i]? = some op→op.g≠0→op.g≠j→Knows t 0 i
theorem Done.app {j:Nat} {u:Trace} (h:Done t j) (hu:∀ op∈u,op.g=0∨op.g=j):Done (t++u) j:=by
 intro p op hp h0 hj
 rcases getElem?_append_cases hp with ⟨_,hp'⟩ | ⟨_,hm⟩
 ·exact (h p op hp' h0 hj).app u
 ·rcases hu op hm with e | e
  ·exact absurd e h0
  ·exact absurd e hj
theorem fork_knows1 (hs:Silent t) {k:Nat} {x y:MemOp} (hx:x.g=0∧x.act=.go k) (hy:y.g=k∧y.act=.start) {p:Nat} (h:Knows t 0 p):Knows (t++#[x,y]) k p:=by
 have hxp:(t++#[x,y])[t.size]? = some x:=by rw [Array.getElem?_append_right (Nat.le_refl _)];simp
 have hyp:(t++#[x,y])[t.size+1]? = some y:=by rw [Array.getElem?_append_right (by omega)];simp
 have h1:HappensBefore (t++#[x,y]) p t.size:=h.hb_new (Nat.le_refl _) hxp hx.1
 have hs2:Silent (t++#[x,y]):=hs.append fun op hop m hm=>by
  simp only [List.mem_toArray,List.mem_cons,List.not_mem_nil,or_false] at hop
  rcases hop with rfl | rfl
  ·rw [hx.2] at hm;cases hm
  ·rw [hy.2] at hm;cases hm
 exact ⟨t.size+1,y,hyp,hy.1,.inr (h1.trans (.single (.inr ⟨.spawn (child:=k) (by rw [act?_of hxp,hx.2]) (by rw [act?_of hyp,hy.2]) (by simp [Trace.g?,hy.1]),hs2.heard hxp,hs2.heard hyp⟩)))⟩
theorem Hold.child {Hw:Hp} (hs:Silent t) (h:Hold t 0 S.h) {k:Nat} {x y:MemOp} (hx:x.g=0∧x.act=.go k) (hy:y.g=k∧y.act=.start)
    (hsub:∀ b e,Hw b=some e→∃ e0,S b=some e0∧e.o=e0.o∧(e.wr=true→e0.wr=true)):Hold (t++#[x,y]) k Hw:=by
  intro b e hb l hl
  obtain ⟨e0,h0,_,hw⟩:=hsub b e hb
  have hu:Calm (max 1 (k+1)) #[x,y]:=by
    intro op hop
    simp only [List.mem_toArray,List.mem_cons,List.not_mem_nil,or_false] at hop
    rcases hop with rfl | rfl
    · exact ⟨by rw [hx.1];omega,by rw [hx.2];rfl,fun m=>by rw [hx.2];simp⟩
    · exact ⟨by rw [hy.1];omega,by rw [hy.2];rfl,fun m=>by rw [hy.2];simp⟩
  refine ⟨fun hwr p a ha hla=>?_,fun p a ha hla haw=>?_⟩
  · exact fork_knows1 hs hx hy ((h b e0 h0 l hl).1 (hw hwr) p a (hu.touch ha).2 hla)
  · exact fork_knows1 hs hx hy ((h b e0 h0 l hl).2 p a (hu.touch ha).2 hla haw)
theorem PermW.child {l:Loc} (hs:Silent t) (h:PermW t 0 l) {k:Nat} {x y:MemOp} (hx:x.g=0∧x.act=.go k) (hy:y.g=k∧y.act=.start):PermW (t++#[x,y]) k l:=by
 have hu:Calm (max 1 (k+1)) #[x,y]:=by
  intro op hop
  simp only [List.mem_toArray,List.mem_cons,List.not_mem_nil,or_false] at hop
  rcases hop with rfl | rfl
  ·exact ⟨by rw [hx.1];omega,by rw [hx.2];rfl,fun m=>by rw [hx.2];simp⟩
  ·exact ⟨by rw [hy.1];omega,by rw [hy.2];rfl,fun m=>by rw [hy.2];simp⟩
 exact fun p a ha hla haw=>fork_knows1 hs hx hy (h p a (hu.touch ha).2 hla haw)
def Shut1 (t:Trace) (j c:Nat):Prop:=∃ (pc:Nat) (op:MemOp),t[pc]? = some op∧op.g=j∧op.act=.close c∧∀ (i:Nat) (x:MemOp),t[i]? = some x→x.g=j→i≤pc
theorem Shut1.app {j c:Nat} {u:Trace} (h:Shut1 t j c) (hu:∀ op∈u,op.g≠j):Shut1 (t++u) j c:=by
 obtain ⟨pc,op,h1,h2,h3,h4⟩:=h
 refine ⟨pc,op,by rw [getElem?_append_old (lt_size_of_getElem? h1)];exact h1,h2,h3,fun p x hp hx=>?_⟩
 rcases getElem?_append_cases hp with ⟨_,hp'⟩ | ⟨_,hm⟩
 ·exact h4 p x hp' hx
 ·exact absurd hx (hu x hm)
theorem Shut1.known {j c:Nat} {y:MemOp} (hs:Silent (t++#[y])) (h:Shut1 t j c) (hy:y.g=0∧y.act=.recvClosed c) {p:Nat} (hp:Knows t j p):Knows (t++#[y]) 0 p:=by
 obtain ⟨pc,op,h1,h2,h3,h4⟩:=h
 obtain ⟨q,z,hq,hz,hb⟩:=hp
 have hyp:(t++#[y])[t.size]? = some y:=by rw [Array.getElem?_append_right (Nat.le_refl _)];simp
 have hle:=h4 q z hq hz
 have hlt:=lt_size_of_getElem? h1
 have h1':(t++#[y])[pc]? = some op:=by rw [getElem?_append_old hlt];exact h1
 have hq':(t++#[y])[q]? = some z:=by rw [getElem?_append_old (by omega)];exact hq
 have e1:Before (t++#[y]) q pc:=by
  rcases Nat.lt_or_ge q pc with hl | hg
  ·exact .inr (hb_po hl hq' h1' (hz.trans h2.symm))
  ·exact .inl (by omega)
 have e2:HappensBefore (t++#[y]) pc t.size:=.single (.inr ⟨.closed (c:=c) (by rw [act?_of h1',h3]) (by rw [act?_of hyp,hy.2]),hs.heard h1',hs.heard hyp⟩)
 exact ⟨t.size,y,hyp,hy.1,((hb.app _).trans e1).trans (.inr e2)⟩
end
end
section
open Go Go.Conc
open Go.ConcN (PermW)
def Ends (P:Program) (Q:Machine→Outcome→World→Trace→Prop) (m:Machine) (t:Trace):Prop:=
 ∃ n last o w' t',runNT P (n+1) m t=(.ended o w',t')∧runN P n m=.next last∧step P last=.ended o w'∧Q last o w' t'
section
variable {P:Program} {Q:Machine→Outcome→World→Trace→Prop}
theorem Ends.next {m m':Machine} {t:Trace} {ops:Array MemOp} (hs:stepT P m=(.next m',ops)) (h:Ends P Q m' (t++ops)):Ends P Q m t:=by
 obtain ⟨n,last,o,w,t',h1,h2,h3,h4⟩:=h
 exact ⟨n+1,last,o,w,t',by rw [runNT_succ_next hs];exact h1,by rw [runN_succ_next hs];exact h2,h3,h4⟩
theorem Ends.last {m:Machine} {o:Outcome} {w:World} {t:Trace} {ops:Array MemOp} (hs:stepT P m=(.ended o w,ops)) (hq:Q m o w (t++ops)):Ends P Q m t:=
 ⟨0,m,o,w,t++ops,by simp [runNT,hs],rfl,by simp [step,hs],hq⟩
theorem Ends.pick {gs:Array Goroutine} {w:World} {sl:Option (Nat × Nat)} {t:Trace} (ha:∀ g∈gs,awake g) (hs:∃ (i:Nat) (g:Goroutine),gs[i]? = some g∧g.status=.running)
    (h:∀ (i:Nat) g d sl',gs[i]? = some g→g.status=.running→(∃ m' ops,runT P (crowd gs (w.at d) sl') i=(.next m',ops)∧Ends P Q m' (t++ops)) ∨
      (∃ o w' ops,runT P (crowd gs (w.at d) sl') i=(.ended o w',ops)∧Q (crowd gs w sl) o w' (t++ops))):Ends P Q (crowd gs w sl) t:=by
  obtain ⟨i,g,d,sl',hi,hr,hst⟩:=crowd_pick (P:=P) (w:=w) (sl:=sl) ha hs
  rcases h i g d sl' hi hr with ⟨m',ops,h1,h2⟩ | ⟨o,w',ops,h1,h2⟩
  · exact .next (hst.trans h1) h2
  · exact .last (hst.trans h1) h2
def Lv (P:Program) (gs:Array Goroutine) (A:Nat→Prop) (N:Nat):Prop:=∃ f:Nat→Nat,(∀ (i:Nat) h,gs[i]? = some h→¬ A i→QuitsIn P (f i) h)∧((List.range gs.size).map f).sum=N
theorem sum_upd (f f':Nat→Nat) (i:Nat) (h:∀ x,x≠i→f' x=f x) (hi:f i=f' i+1):∀ n,i<n→((List.range n).map f).sum=((List.range n).map f').sum+1:=by
 intro n
 induction n with
 | zero=>intro h;omega
 | succ n ih=>
  intro hn
  simp only [List.range_succ,List.map_append,List.map_cons,List.map_nil,List.sum_append,List.sum_cons,List.sum_nil]
  by_cases h1:i=n
  ·subst h1
   have:(List.range i).map f=(List.range i).map f':=List.map_congr_left fun x hx=>(h x (by have:=List.mem_range.1 hx;omega)).symm
   rw [this,hi];omega
  ·rw [ih (by omega),h n (fun e=>h1 e.symm)];omega
variable {gs:Array Goroutine} {A:Nat→Prop} {N:Nat}
theorem Lv.step {i:Nat} {h:Goroutine} (hl:Lv P gs A N) (hi:gs[i]? = some h) (hA:¬ A i) (hr:h.status=.running) :
    ∃ h' N',N'<N∧(∀ w,stepG P false h w=.go h' w #[])∧Lv P (gs.setIfInBounds i h') A N':=by
  obtain ⟨f,h1,h2⟩:=hl
  have hq:=h1 i h hi hA
  cases hf:f i with
  | zero=>rw [hf] at hq;rw [show h.status=.finished from hq] at hr;cases hr
  | succ k=>
    rw [hf] at hq
    rcases hq with hq | ⟨_,h',hw,hq⟩
    · rw [hq] at hr;cases hr
    · have hlt:=(Array.getElem?_eq_some_iff.1 hi).1
      have hs:=sum_upd f (fun x=>if x=i then k else f x) i (fun x hx=>by simp [hx]) (by simp [hf]) gs.size hlt
      refine ⟨h',((List.range gs.size).map fun x=>if x=i then k else f x).sum,by omega,hw,fun x=>if x=i then k else f x,fun j o hj hAj=>?_,by simp⟩
      by_cases hji:j=i
      · subst hji
        rw [Array.getElem?_setIfInBounds_self_of_lt hlt] at hj
        cases hj
        simpa using hq
      · rw [Array.getElem?_setIfInBounds_ne (fun e=>hji e.symm)] at hj
        simp only [hji,if_false]
        exact h1 j o hj hAj
theorem Lv.set {i:Nat} {g:Goroutine} (hl:Lv P gs A N) (hA:A i):Lv P (gs.setIfInBounds i g) A N:=by
 obtain ⟨f,h1,h2⟩:=hl
 refine ⟨f,fun j o hj hAj=>?_,by simpa using h2⟩
 rw [Array.getElem?_setIfInBounds_ne (fun e=>hAj (by rw [← e];exact hA))] at hj
 exact h1 j o hj hAj
theorem Lv.push {A':Nat→Prop} {g:Goroutine} (hl:Lv P gs A N) (hA:∀ i,A i→A' i) (hn:A' gs.size):∃ N',Lv P (gs.push g) A' N':=by
 obtain ⟨f,h1,h2⟩:=hl
 refine ⟨_,f,fun j o hj hAj=>?_,rfl⟩
 have hne:j≠gs.size:=fun e=>hAj (e ▸ hn)
 rw [Array.getElem?_push,if_neg hne] at hj
 exact h1 j o hj fun h=>hAj (hA j h)
def Stand (w:World) (o:Goroutine):Prop:=(o.status=.running∨o.status=.finished)∨∃ g k sh c s r tm,o=Conc.parked g #[k] sh∧k.chan=.chan (some c)∧w.heap[c]? = some (.chan 0 #[] false s r tm)
theorem Stand.again {w:World} {o:Goroutine} (h:Stand w o):o.again w=o:=by
 rcases h with h | ⟨g,k,sh,c,s,r,tm,rfl,hk,hc⟩
 ·exact again_running w h
 ·exact again_parked_open hk hc
theorem Stand.awake {w:World} {o:Goroutine} (h:Stand w o):awake o:=by
 rcases h with h | ⟨g,k,sh,c,s,r,tm,rfl,hk,hc⟩
 ·exact awake_of (h.elim .inl fun x=>.inr (.inr x))
 ·exact awake_of (.inr (.inl rfl))
theorem Lv.stand {i:Nat} {h:Goroutine} (hl:Lv P gs A N) (hi:gs[i]? = some h) (hA:¬ A i) (w:World):Stand w h:=by
 obtain ⟨f,h1,_⟩:=hl
 exact .inl (h1 i h hi hA).status
theorem crowd_go1 {i:Nat} {g g':Goroutine} {w w':World} {sl:Option (Nat × Nat)} {es:Array Event} (hi:gs[i]? = some g) (h:stepG P (i==0) g w=.go g' w' es) (hst:∀ (j:Nat) o,gs[j]? = some o→j≠i→Stand w' o) :
    runT P (crowd gs w sl) i=(.next (crowd (gs.setIfInBounds i g') w' sl),MemOp.ofEvents i g.frame.fn g.frame.place es):=by
  rw [runT_crowd_go hi h]
  have:(gs.map (woken P g g' w')).setIfInBounds i g'=gs.setIfInBounds i g':=by
    apply Array.ext_getElem?
    intro j
    by_cases hj:i=j
    · subst hj
      have hlt:=(Array.getElem?_eq_some_iff.1 hi).1
      rw [Array.getElem?_setIfInBounds_self_of_lt (by simpa using hlt),Array.getElem?_setIfInBounds_self_of_lt hlt]
    · rw [Array.getElem?_setIfInBounds_ne hj,Array.getElem?_setIfInBounds_ne hj,Array.getElem?_map]
      cases ho:gs[j]? with
      | none=>rfl
      | some o=>
        simp only [Option.map_some]
        congr 1
        unfold Go.Conc.woken
        split
        · exact (hst j o ho (fun e=>hj e.symm)).again
        · rfl
  rw [this]
theorem get_set {gs:Array Goroutine} {i:Nat} {g o:Goroutine} (h:gs[i]? = some o):(gs.setIfInBounds i g)[i]? = some g:=Array.getElem?_setIfInBounds_self_of_lt (Array.getElem?_eq_some_iff.1 h).1
theorem get_ne {gs:Array Goroutine} {i j:Nat} {g:Goroutine} (h:j≠i):(gs.setIfInBounds i g)[j]? = gs[j]? := Array.getElem?_setIfInBounds_ne (fun e=>h e.symm)
structure Wd (W0 w:World) (t:Trace) (n:Nat):Prop where
 tr:Tr t n w.heap.size
 os:w.os=W0.os
 out:w.output=W0.output
 tape:w.tape=W0.tape
 size:W0.heap.size≤w.heap.size
 old:∀ b,b<W0.heap.size→w.heap[b]? = W0.heap[b]?
structure Ow (W0 w:World) (t:Trace) (i:Nat) (S:St):Prop where
 inn:S.In w
 hold:Hold t i S.h
 far:∀ b e,S b=some e→e.wr=true→W0.heap.size≤b
variable {W0 w w':World} {t:Trace} {n i k:Nat} {S S' T:St} {es:Array Event} {fn:FuncId} {pos:String} {D:Nat→Prop}
theorem Wd.own (h:Wd W0 w t n) (o:Ow W0 w t i S) (hi:i<n) (hk:Keeps S S' w w') (he:∀ e∈es,EvOk S w w' e):Wd W0 w' (t++MemOp.ofEvents i fn pos es) n∧Ow W0 w' (t++MemOp.ofEvents i fn pos es) i S':=by
 obtain ⟨h1,h2⟩:=h.tr.own (fn:=fn) (pos:=pos) hi o.hold hk he
 refine ⟨⟨h1,hk.os.trans h.os,hk.output.trans h.out,hk.tape.trans h.tape,Nat.le_trans h.size hk.size,fun b hb=>?_⟩,hk.inn,h2,fun b e hb hw=>?_⟩
 ·rw [hk.old b (Nat.lt_of_lt_of_le hb h.size) fun e he0=>?_,h.old b hb]
  cases hw:e.wr with
  | false=>rfl
  | true=>have:=o.far b e he0 hw;omega
 ·cases hs:S b with
  | none=>exact Nat.le_trans h.size (hk.new b e hb hs).1
  | some e0=>
   cases hw0:e0.wr with
   | true=>exact o.far b e0 hs hw0
   | false=>
    have:=hk.ro b e0 hs hw0
    rw [hb] at this;cases this
    rw [hw] at hw0;cases hw0
theorem Ow.other (o:Ow W0 w t k T) (hk:Keeps S S' w w') (hc:Compat S.h T.h D) (he:∀ e∈es,EvOk S w w' e):Ow W0 w' (t++MemOp.ofEvents i fn pos es) k T:=
 ⟨hc.inn o.inn hk,o.hold.other o.inn hc he,o.far⟩
theorem Wd.at (h:Wd W0 w t n) (d:Nat):Wd W0 (w.at d) t n:=⟨h.tr,h.os,h.out,h.tape,h.size,h.old⟩
theorem Ow.at (h:Ow W0 w t k T) (d:Nat):Ow W0 (w.at d) t k T:=⟨h.inn,h.hold,h.far⟩
theorem Wd.calm {m:Nat} {u:Trace} (h:Wd W0 w t n) (hu:Calm m u) (hn:n≤m):Wd W0 w (t++u) m:=⟨h.tr.calm hu hn,h.os,h.out,h.tape,h.size,h.old⟩
theorem Ow.calm {m:Nat} {u:Trace} (h:Ow W0 w t k T) (hu:Calm m u):Ow W0 w (t++u) k T:=⟨h.inn,h.hold.calm hu,h.far⟩
theorem Wd.put {c:Nat} {o:Obj} (h:Wd W0 w t n) (hc:W0.heap.size≤c):Wd W0 {w with heap:=w.heap.setIfInBounds c o} t n:=
 ⟨by have:=h.tr;simpa using this,h.os,h.out,h.tape,by simpa using h.size,fun b hb=>by rw [← h.old b hb];exact Array.getElem?_setIfInBounds_ne (by omega)⟩
theorem Ow.put {c:Nat} {o:Obj} (h:Ow W0 w t k T) (hc:T c=none):Ow W0 {w with heap:=w.heap.setIfInBounds c o} t k T:=
 ⟨fun b e hb=>by rw [← h.inn b e hb];exact Array.getElem?_setIfInBounds_ne (fun e'=>by subst e';rw [hc] at hb;cases hb),h.hold,h.far⟩
theorem Ow.ghost (h:Ow W0 w t k T) (g:Gh):Ow W0 w t k {T with g:=g}:=⟨h.inn,h.hold,h.far⟩
structure Solo (P:Program) (W0:World) (gs:Array Goroutine) (w:World) (t:Trace) (S:St) (N:Nat):Prop where
 lv:Lv P gs (fun i=>i=0) N
 wd:Wd W0 w t gs.size
 ow:Ow W0 w t 0 S
 dn:Done t 0
structure Du (P:Program) (W0:World) (gs:Array Goroutine) (w:World) (t:Trace) (j c:Nat) (D:Nat→Prop) (S T:St) (N:Nat):Prop where
 j0:j≠0
 jn:j<gs.size
 lv:Lv P gs (fun i=>i=0∨i=j) N
 wd:Wd W0 w t gs.size
 om:Ow W0 w t 0 S
 ow:Ow W0 w t j T
 cp:Compat S.h T.h D
 ch:∃ s r tm,w.heap[c]? = some (.chan 0 #[] false s r tm)
 sc:S c=none
 tc:T c=none
 far:W0.heap.size≤c
 pm:PermW t j (.obj c)
 dn:Done t j
structure Sh (P:Program) (W0:World) (gs:Array Goroutine) (w:World) (t:Trace) (j c:Nat) (D:Nat→Prop) (S T:St) (N:Nat):Prop where
 j0:j≠0
 lv:Lv P gs (fun i=>i=0) N
 wd:Wd W0 w t gs.size
 om:Ow W0 w t 0 S
 ow:Ow W0 w t j T
 cp:Compat S.h T.h D
 ch:∃ s r tm,w.heap[c]? = some (.chan 0 #[] true s r tm)
 sc:S c=none
 tc:T c=none
 sh:Shut1 t j c
 dn:Done t j
variable {c j:Nat} {J:Hp→Prop} {sl:Option (Nat × Nat)}
theorem lt_of_chan {o:Obj} (h:w.heap[c]? = some o):c<w.heap.size:=(Array.getElem?_eq_some_iff.1 h).1
theorem none_keeps (hk:Keeps S S' w w') (hc:S c=none) (hlt:c<w.heap.size):S' c=none:=by
 cases h:S' c with
 | none=>rfl
 | some e=>have:=(hk.new c e h hc).1;omega
theorem chan_keeps {o:Obj} (hk:Keeps S S' w w') (hc:S c=none) (h:w.heap[c]? = some o):w'.heap[c]? = some o:=by
 rw [hk.old c (lt_of_chan h) fun e he=>by rw [hc] at he;cases he];exact h
theorem Solo.main {g g':Goroutine} (h:Solo P W0 gs w t S N) (h0:gs[0]? = some g) (hk:Keeps S S' w w') (he:∀ e∈es,EvOk S w w' e):Solo P W0 (gs.setIfInBounds 0 g') w' (t++MemOp.ofEvents 0 fn pos es) S' N:=by
 have hn:0<gs.size:=(Array.getElem?_eq_some_iff.1 h0).1
 obtain ⟨h1,h2⟩:=h.wd.own (fn:=fn) (pos:=pos) h.ow hn hk he
 exact ⟨h.lv.set rfl,by simpa using h1,h2,h.dn.app fun op hop=>.inl (mem_ofEvents hop).1⟩
theorem Du.main {g g':Goroutine} (h:Du P W0 gs w t j c D S T N) (h0:gs[0]? = some g) (hk:Keeps S S' w w') (he:∀ e∈es,EvOk S w w' e):Du P W0 (gs.setIfInBounds 0 g') w' (t++MemOp.ofEvents 0 fn pos es) j c D S' T N:=by
 have hn:0<gs.size:=(Array.getElem?_eq_some_iff.1 h0).1
 obtain ⟨h1,h2⟩:=h.wd.own (fn:=fn) (pos:=pos) h.om hn hk he
 obtain ⟨s,r,tm,hc⟩:=h.ch
 have hlt:=lt_of_chan hc
 exact ⟨h.j0,by simpa using h.jn,h.lv.set (.inl rfl),by simpa using h1,h2,h.ow.other hk h.cp he,h.cp.step h.ow.inn hk,⟨s,r,tm,chan_keeps hk h.sc hc⟩,none_keeps hk h.sc hlt,h.tc,h.far,
  PermW.other h.pm rfl h.sc hlt he,h.dn.app fun op hop=>.inl (mem_ofEvents hop).1⟩
theorem Du.work {T':St} {g g':Goroutine} (h:Du P W0 gs w t j c D S T N) (h0:gs[j]? = some g) (hk:Keeps T T' w w') (he:∀ e∈es,EvOk T w w' e):Du P W0 (gs.setIfInBounds j g') w' (t++MemOp.ofEvents j fn pos es) j c D S T' N:=by
 obtain ⟨h1,h2⟩:=h.wd.own (fn:=fn) (pos:=pos) h.ow h.jn hk he
 obtain ⟨s,r,tm,hc⟩:=h.ch
 have hlt:=lt_of_chan hc
 exact ⟨h.j0,by simpa using h.jn,h.lv.set (.inr rfl),by simpa using h1,h.om.other hk h.cp.symm he,h2,(h.cp.symm.step h.om.inn hk).symm,⟨s,r,tm,chan_keeps hk h.tc hc⟩,h.sc,none_keeps hk h.tc hlt,h.far,
  PermW.other h.pm rfl h.tc hlt he,h.dn.app fun op hop=>.inr (mem_ofEvents hop).1⟩
theorem Sh.main {g g':Goroutine} (h:Sh P W0 gs w t j c D S T N) (h0:gs[0]? = some g) (hk:Keeps S S' w w') (he:∀ e∈es,EvOk S w w' e):Sh P W0 (gs.setIfInBounds 0 g') w' (t++MemOp.ofEvents 0 fn pos es) j c D S' T N:=by
 have hn:0<gs.size:=(Array.getElem?_eq_some_iff.1 h0).1
 obtain ⟨h1,h2⟩:=h.wd.own (fn:=fn) (pos:=pos) h.om hn hk he
 obtain ⟨s,r,tm,hc⟩:=h.ch
 have hlt:=lt_of_chan hc
 exact ⟨h.j0,h.lv.set rfl,by simpa using h1,h2,h.ow.other hk h.cp he,h.cp.step h.ow.inn hk,⟨s,r,tm,chan_keeps hk h.sc hc⟩,none_keeps hk h.sc hlt,h.tc,
  h.sh.app fun op hop=>by rw [(mem_ofEvents hop).1];exact fun e=>h.j0 e.symm,h.dn.app fun op hop=>.inl (mem_ofEvents hop).1⟩
theorem Solo.at (h:Solo P W0 gs w t S N) (d:Nat):Solo P W0 gs (w.at d) t S N:=⟨h.lv,h.wd.at d,h.ow.at d,h.dn⟩
theorem Du.at (h:Du P W0 gs w t j c D S T N) (d:Nat):Du P W0 gs (w.at d) t j c D S T N:=⟨h.j0,h.jn,h.lv,h.wd.at d,h.om.at d,h.ow.at d,h.cp,h.ch,h.sc,h.tc,h.far,h.pm,h.dn⟩
theorem Sh.at (h:Sh P W0 gs w t j c D S T N) (d:Nat):Sh P W0 gs (w.at d) t j c D S T N:=⟨h.j0,h.lv,h.wd.at d,h.om.at d,h.ow.at d,h.cp,h.ch,h.sc,h.tc,h.sh,h.dn⟩
theorem Solo.ofGs {N':Nat} {i:Nat} {g:Goroutine} (h:Solo P W0 gs w t S N) (hl:Lv P (gs.setIfInBounds i g) (fun i=>i=0) N'):Solo P W0 (gs.setIfInBounds i g) w t S N':=⟨hl,by simpa using h.wd,h.ow,h.dn⟩
theorem Du.ofGs {N':Nat} {i:Nat} {g:Goroutine} (h:Du P W0 gs w t j c D S T N) (hl:Lv P (gs.setIfInBounds i g) (fun i=>i=0∨i=j) N'):Du P W0 (gs.setIfInBounds i g) w t j c D S T N':=
 ⟨h.j0,by simpa using h.jn,hl,by simpa using h.wd,h.om,h.ow,h.cp,h.ch,h.sc,h.tc,h.far,h.pm,h.dn⟩
theorem Sh.ofGs {N':Nat} {i:Nat} {g:Goroutine} (h:Sh P W0 gs w t j c D S T N) (hl:Lv P (gs.setIfInBounds i g) (fun i=>i=0) N'):Sh P W0 (gs.setIfInBounds i g) w t j c D S T N':=
 ⟨h.j0,hl,by simpa using h.wd,h.om,h.ow,h.cp,h.ch,h.sc,h.tc,h.sh,h.dn⟩
theorem Du.pass {s r:Nat} {tm:Bool} {u:Trace} {gm gw:Gh} (h:Du P W0 gs w t j c D S T N) (hc:w.heap[c]? = some (.chan 0 #[] false s r tm)) (hu:Calm gs.size u) (hu2:∀ op∈u,op.g=0∨op.g=j) {s' r':Nat} {tm':Bool} :
    Du P W0 gs (w.setChan c 0 #[] false s' r' tm') (t++u) j c D {S with g:=gm} {T with g:=gw} N:=
  ⟨h.j0,h.jn,h.lv,(h.wd.calm hu (Nat.le_refl _)).put h.far,((h.om.calm hu).put h.sc).ghost gm,((h.ow.calm hu).put h.tc).ghost gw,h.cp,⟨s',r',tm',heap_put hc⟩,h.sc,h.tc,h.far,PermW.calm h.pm hu,h.dn.app hu2⟩
end
end
section
open Go Go.Conc
open Go.ConcN (PermW)
abbrev WF (P:Program) (c:Nat) (J:Hp→Prop):Goroutine→St→Prop:=fun g S=>S.g=.sends c []∧J S.h∧AtShut1 P c g
def AtC (c:Nat) (a:Goroutine):Prop:=a.status=.running∨∃ g k sh,a=Conc.parked g #[k] sh∧k.chan=.chan (some c)
section
variable {P:Program} {Q:Machine→Outcome→World→Trace→Prop} {gs:Array Goroutine} {N:Nat} {W0 w w':World} {t:Trace} {j c:Nat} {S T:St} {D:Nat→Prop} {J:Hp→Prop} {sl:Option (Nat × Nat)}
theorem AtC.stand {a:Goroutine} (h:AtC c a) {s r:Nat} {tm:Bool} (hc:w.heap[c]? = some (.chan 0 #[] false s r tm)):Stand w a:=by
 rcases h with h | ⟨g,k,sh,h1,h2⟩
 ·exact .inl (.inl h)
 ·exact .inr ⟨g,k,sh,c,s,r,tm,h1,h2,hc⟩
theorem Du.stand {a b:Goroutine} (hd:Du P W0 gs w t j c D S T N) (ha:AtC c a) (hb:AtC c b) (h0:gs[0]? = some a) (hj:gs[j]? = some b) {s r:Nat} {tm:Bool} (hc:w'.heap[c]? = some (.chan 0 #[] false s r tm)):∀ (i:Nat) o,gs[i]? = some o→Stand w' o:=by
 intro i o hi
 by_cases h1:i=0
 ·subst h1;rw [h0] at hi;cases hi;exact ha.stand hc
 ·by_cases h2:i=j
  ·subst h2;rw [hj] at hi;cases hi;exact hb.stand hc
  ·exact hd.lv.stand hi (by simp [h1,h2]) w'
theorem leave_step {i:Nat} {h:Goroutine} {A:Nat→Prop} (hl:Lv P gs A N) (hi:gs[i]? = some h) (hA:¬ A i) (i0:i≠0) (hr:h.status=.running) (hst:∀ (k:Nat) o,gs[k]? = some o→Stand w o) :
    ∃ h' N',N'<N∧Lv P (gs.setIfInBounds i h') A N'∧runT P (crowd gs w sl) i=(.next (crowd (gs.setIfInBounds i h') w sl),#[]):=by
  obtain ⟨h',N',hlt,hw,hl'⟩:=hl.step hi hA hr
  refine ⟨h',N',hlt,hl',?_⟩
  have hb:(i==0)=false:=by simpa using i0
  rw [crowd_go1 hi (by rw [hb];exact hw w) fun k o hk _=>hst k o hk]
  rfl
theorem duo_turn {a b:Goroutine} {S T:St} (ha:AtC c a) (hb:AtC c b) (hrun:a.status=.running∨b.status=.running)
    (hmain:a.status=.running→∀ gs w sl t N j,gs[0]? = some a→gs[j]? = some b→Du P W0 gs w t j c D S T N→∃ m' ops,runT P (crowd gs w sl) 0=(.next m',ops)∧Ends P Q m' (t++ops))
    (hwork:b.status=.running→∀ gs w sl t N j,gs[0]? = some a→gs[j]? = some b→Du P W0 gs w t j c D S T N→∃ m' ops,runT P (crowd gs w sl) j=(.next m',ops)∧Ends P Q m' (t++ops)) :
    ∀ N gs w sl t j,gs[0]? = some a→gs[j]? = some b→Du P W0 gs w t j c D S T N→Ends P Q (crowd gs w sl) t:=by
  intro N
  induction N using Nat.strongRecOn with
  | _ N ih=>
    intro gs w sl t j h0 hj hd
    obtain ⟨s,r,tm,hc⟩:=hd.ch
    have hst:=hd.stand ha hb h0 hj hc
    refine .pick (fun g hg=>?_) ?_ fun i g d sl' hi hr=>.inl ?_
    · obtain ⟨i,hi⟩:=Array.getElem?_of_mem hg
      exact (hst i g hi).awake
    · rcases hrun with h | h
      · exact ⟨0,a,h0,h⟩
      · exact ⟨j,b,hj,h⟩
    · by_cases h1:i=0
      · subst h1;rw [h0] at hi;cases hi
        exact hmain hr gs _ sl' t N j h0 hj (hd.at d)
      · by_cases h2:i=j
        · subst h2;rw [hj] at hi;cases hi
          exact hwork hr gs _ sl' t N i h0 hj (hd.at d)
        · obtain ⟨h',N',hlt,hl,hrT⟩:=leave_step (w:=w.at d) (sl:=sl') hd.lv hi (by simp [h1,h2]) h1 hr fun k o hk=>hd.stand ha hb h0 hj (w':=w.at d) hc k o hk
          exact ⟨_,_,hrT,by rw [Array.append_empty];exact ih N' hlt _ _ _ _ _ (by rw [get_ne (fun e=>h1 e.symm)];exact h0) (by rw [get_ne (fun e=>h2 e.symm)];exact hj) ((hd.at d).ofGs hl)⟩
theorem shut_turn {a:Goroutine} {S T:St} (ha:a.status=.running)
    (hmain:∀ gs w sl t N j,gs[0]? = some a→Sh P W0 gs w t j c D S T N→∃ m' ops,runT P (crowd gs w sl) 0=(.next m',ops)∧Ends P Q m' (t++ops)) :
    ∀ N gs w sl t j,gs[0]? = some a→Sh P W0 gs w t j c D S T N→Ends P Q (crowd gs w sl) t:=by
  intro N
  induction N using Nat.strongRecOn with
  | _ N ih=>
    intro gs w sl t j h0 hd
    have hst:∀ (w:World) (i:Nat) o,gs[i]? = some o→Stand w o:=by
      intro w i o hi
      by_cases h1:i=0
      · subst h1;rw [h0] at hi;cases hi;exact .inl (.inl ha)
      · exact hd.lv.stand hi h1 w
    refine .pick (fun g hg=>?_) ⟨0,a,h0,ha⟩ fun i g d sl' hi hr=>.inl ?_
    · obtain ⟨i,hi⟩:=Array.getElem?_of_mem hg
      exact (hst w i g hi).awake
    · by_cases h1:i=0
      · subst h1;rw [h0] at hi;cases hi
        exact hmain gs _ sl' t N j h0 (hd.at d)
      · obtain ⟨h',N',hlt,hl,hrT⟩:=leave_step (w:=w.at d) (sl:=sl') hd.lv hi h1 h1 hr (hst _)
        exact ⟨_,_,hrT,by rw [Array.append_empty];exact ih N' hlt _ _ _ _ _ (by rw [get_ne (fun e=>h1 e.symm)];exact h0) ((hd.at d).ofGs hl)⟩
theorem solo_turn {a:Goroutine} {S:St} (ha:a.status=.running)
    (hmain:∀ gs w w0 sl sl0 t N,gs[0]? = some a→Solo P W0 gs w0 t S N→Solo P W0 gs w t S N→(∃ m' ops,runT P (crowd gs w sl) 0=(.next m',ops)∧Ends P Q m' (t++ops))∨(∃ o w' ops,runT P (crowd gs w sl) 0=(.ended o w',ops)∧Q (crowd gs w0 sl0) o w' (t++ops))) :
    ∀ N gs w sl t,gs[0]? = some a→Solo P W0 gs w t S N→Ends P Q (crowd gs w sl) t:=by
  intro N
  induction N using Nat.strongRecOn with
  | _ N ih=>
    intro gs w sl t h0 hd
    have hst:∀ (w:World) (i:Nat) o,gs[i]? = some o→Stand w o:=by
      intro w i o hi
      by_cases h1:i=0
      · subst h1;rw [h0] at hi;cases hi;exact .inl (.inl ha)
      · exact hd.lv.stand hi h1 w
    refine .pick (fun g hg=>?_) ⟨0,a,h0,ha⟩ fun i g d sl' hi hr=>?_
    · obtain ⟨i,hi⟩:=Array.getElem?_of_mem hg
      exact (hst w i g hi).awake
    · by_cases h1:i=0
      · subst h1;rw [h0] at hi;cases hi
        exact hmain gs _ w sl' sl t N h0 hd (hd.at d)
      · obtain ⟨h',N',hlt,hl,hrT⟩:=leave_step (w:=w.at d) (sl:=sl') hd.lv hi h1 h1 hr (hst _)
        exact .inl ⟨_,_,hrT,by rw [Array.append_empty];exact ih N' hlt _ _ _ _ (by rw [get_ne (fun e=>h1 e.symm)];exact h0) ((hd.at d).ofGs hl)⟩
theorem go1_running {b:Goroutine} {T:St} (h:Go1 P false (WF P c J) b T):b.status=.running:=by
 cases h<;>first | assumption | (rename_i hf;exact hf.2.2.1)
theorem duo_run {a:Goroutine} {S:St} {vs:List Value} (ha:AtC c a)
    (hmain:a.status=.running→∀ gs w sl t N j b T,gs[0]? = some a→gs[j]? = some b→Du P W0 gs w t j c D S T N→T.g=.sends c vs→Go1 P false (WF P c J) b T→∃ m' ops,runT P (crowd gs w sl) 0=(.next m',ops)∧Ends P Q m' (t++ops))
    (hsend:∀ gs w sl t N j b b2 T v z vs',vs=v::vs'→gs[0]? = some a→gs[j]? = some b→Du P W0 gs w t j c D S T N→T.g=.sends c vs→b.status=.running→(∀ w,stepG P false b w=.comm b2 #[scase c v z] true .send w #[]) →
      Go1 P false (WF P c J) (Conc.served b2 undef) {T with g:=.sends c vs'}→∃ m' ops,runT P (crowd gs w sl) j=(.next m',ops)∧Ends P Q m' (t++ops))
    (hclose:∀ gs w sl t N j b T,vs=[]→gs[0]? = some a→gs[j]? = some b→Du P W0 gs w t j c D S T N→J T.h→AtShut1 P c b→∃ m' ops,runT P (crowd gs w sl) j=(.next m',ops)∧Ends P Q m' (t++ops)) :
    ∀ (b:Goroutine) (T:St),Go1 P false (WF P c J) b T→T.g=.sends c vs→∀ N gs w sl t j,gs[0]? = some a→gs[j]? = some b→Du P W0 gs w t j c D S T N→Ends P Q (crowd gs w sl) t:=by
  intro b T hgo
  generalize hm:false=m at hgo
  generalize hF:WF P c J=F at hgo
  induction hgo with
  | @fin main Fin g T h=>
    subst hm hF
    intro hg
    have hgo:Go1 P false (WF P c J) g T:=.fin h
    refine duo_turn ha (.inl (go1_running hgo)) (.inr (go1_running hgo)) (fun hr gs w sl t N j h0 hj hd=>hmain hr gs w sl t N j g T h0 hj hd hg hgo) fun _ gs w sl t N j h0 hj hd=>?_
    have e:vs=[]:=by have:=h.1;rw [hg] at this;cases this;rfl
    exact hclose gs w sl t N j g T e h0 hj hd h.2.1 h.2.2
  | @step main Fin g T F W E Tn hr hst hrs hk hev hnx ih=>
    subst hm hF
    intro hg
    have hgo:Go1 P false (WF P c J) g T:=.step F W E Tn hr hst hrs hk hev hnx
    refine duo_turn ha (.inl hr) (.inr hr) (fun hr gs w sl t N j h0 hj hd=>hmain hr gs w sl t N j g T h0 hj hd hg hgo) fun _ gs w sl t N j h0 hj hd=>?_
    have hin:=hd.ow.inn
    have hb:(j==0)=false:=by simpa using hd.j0
    have hd':=hd.work (g':=F w) (fn:=g.frame.fn) (pos:=g.frame.place) hj (hk w hin) (hev w hin)
    obtain ⟨s,r,tm,hc⟩:=hd'.ch
    refine ⟨_,_,crowd_go1 (sl:=sl) hj (by rw [hb];exact hst w hin) fun k o hk0 _=>hd.stand ha (.inl hr) h0 hj hc k o hk0,?_⟩
    exact ih w hin rfl rfl ((hk w hin).g.trans hg) N _ _ _ _ j (by rw [get_ne hd.j0.symm];exact h0) (get_set hj) hd'
  | @send main Fin g g2 T c' v z vs' hg' hr hst hnx ih=>
    subst hm hF
    intro hg
    rw [hg] at hg'
    cases hg'
    have hgo:Go1 P false (WF P c J) g T:=.send hg hr hst hnx
    refine duo_turn ha (.inl hr) (.inr hr) (fun hr gs w sl t N j h0 hj hd=>hmain hr gs w sl t N j g T h0 hj hd hg hgo) fun _ gs w sl t N j h0 hj hd=>?_
    exact hsend gs w sl t N j g g2 T v z vs' rfl h0 hj hd hg hr hst hnx
  | hear hg'=>intro hg;rw [hg] at hg';cases hg'
  | closed hg'=>intro hg;rw [hg] at hg';cases hg'
  | fork hg'=>intro hg;rw [hg] at hg';cases hg'
theorem do_close {a b:Goroutine} (hd:Du P W0 gs w t j c D S T N) (h0:gs[0]? = some a) (ha:AtC c a) (hj:gs[j]? = some b) (hs:AtShut1 P c b) :
    ∃ a' gs' w' ops N',runT P (crowd gs w sl) j=(.next (crowd gs' w' sl),ops)∧gs'[0]? = some a'∧((a'=a∧a.status=.running)∨∃ g k sh,a=Conc.parked g #[k] sh∧a'={Conc.parked g #[k] sh with status:=.running})∧Sh P W0 gs' w' (t++ops) j c D S T N':=by
  obtain ⟨s,r,tm,hc⟩:=hd.ch
  obtain ⟨hr,hmw,g',n,hst,hq⟩:=hs
  have hb:(j==0)=false:=by simpa using hd.j0
  have hgo:=runT_crowd_go (sl:=sl) hj (by rw [hb];exact hst w s r tm hc)
  rw [closeOps] at hgo
  have hwk:∀ o,woken P b g' (w.shut c s r tm) o=o.again (w.shut c s r tm):=by
    intro o;unfold Go.Conc.woken;rcases hq.status with h | h<;>simp [hmw,h]
  have hch:(w.shut c s r tm).heap[c]? = some (.chan 0 #[] true s r tm):=heap_put hc
  have hget:∀ i:Nat,i≠j→((gs.map (woken P b g' (w.shut c s r tm))).setIfInBounds j g')[i]? = (gs[i]?).map (·.again (w.shut c s r tm)):=by
    intro i hi
    rw [get_ne hi,Array.getElem?_map]
    congr 1
    funext o;exact hwk o
  have hjlt:j<(gs.map (woken P b g' (w.shut c s r tm))).size:=by simpa using hd.jn
  have hgj:((gs.map (woken P b g' (w.shut c s r tm))).setIfInBounds j g')[j]? = some g':=Array.getElem?_setIfInBounds_self_of_lt hjlt
  obtain ⟨f,hf1,hf2⟩:=hd.lv
  let u:Trace:=#[{g:=j,fn:=b.frame.fn,pos:=b.frame.place,act:=.access ⟨.obj c,false,true⟩},{g:=j,fn:=b.frame.fn,pos:=b.frame.place,act:=.close c}]
  have hu:∀ op∈u,op.g=j∧(∀ m,op.act≠.mark m)∧∀ x,op.act.touch? = some x→x=⟨.obj c,false,.atomic⟩:=by
    intro op hop
    simp only [u,List.mem_toArray,List.mem_cons,List.not_mem_nil,or_false] at hop
    rcases hop with rfl | rfl
    · exact ⟨rfl,by simp,fun x hx=>by cases hx;rfl⟩
    · exact ⟨rfl,by simp,fun x hx=>by simp [MemAct.touch?] at hx⟩
  have htr:Tr (t++u) gs.size w.heap.size:=by
    refine ⟨hd.wd.tr.silent.append fun op hop m hm=>absurd hm ((hu op hop).2.1 m),fun i x hx=>?_,fun said=>?_,fun op hop=>?_⟩
    · obtain ⟨y,hy,hya⟩:=touch_of hx
      rcases getElem?_append_cases hy with ⟨_,hy'⟩ | ⟨_,hyu⟩
      · exact hd.wd.tr.lim i x (by rw [touchAt_of hy'];exact hya)
      · rw [(hu y hyu).2.2 x hya]
        exact ⟨c,rfl,lt_of_chan hc⟩
    · refine noRace_append (hd.wd.tr.nr said) (fun op hop=>(hu op hop).1) fun i x hx op hop y hy hcf=>?_
      have:=(hu op hop).2.2 y hy
      subst this
      refine hd.pm i x hx hcf.1 ?_
      rcases hcf.2.2.1 with h | h
      · exact h
      · cases h
    · rcases Array.mem_append.1 hop with h | h
      · exact hd.wd.tr.ids op h
      · rw [(hu op h).1];exact hd.jn
  have hhold:∀ (k:Nat) (U:St),U c=none→Ow W0 w t k U→Ow W0 (w.shut c s r tm) (t++u) k U:=by
    intro k U hU ho
    refine ⟨(ho.put (o:=.chan 0 #[] true s r tm) hU).inn,fun b' e he l hl=>?_,ho.far⟩
    have hne:∀ op∈u,∀ x,op.act.touch? = some x→x.loc≠l:=by
      intro op hop x hx e'
      rw [(hu op hop).2.2 x hx] at e'
      subst e'
      cases hl
      have h9:U c=some e:=he
      rw [hU] at h9;cases h9
    exact ⟨fun hw=>((ho.hold b' e he l hl).1 hw).app fun op hop x hx e'=>absurd e' (hne op hop x hx),PermW.app (ho.hold b' e he l hl).2 fun op hop x hx e' _=>absurd e' (hne op hop x hx)⟩
  refine ⟨a.again (w.shut c s r tm),_,_,_,_,hgo,by rw [hget 0 hd.j0.symm,h0];rfl,?_,hd.j0,⟨fun i=>if i=j then n else f i,fun i o hi hA=>?_,rfl⟩,?_,hhold 0 S hd.sc hd.om,hhold j T hd.tc hd.ow,hd.cp,⟨s,r,tm,hch⟩,hd.sc,hd.tc,?_,?_⟩
  · rcases ha with h | ⟨g,k,sh,rfl,hk⟩
    · exact .inl ⟨again_running _ (.inl h),h⟩
    · exact .inr ⟨g,k,sh,rfl,again_parked_shut hk hch⟩
  · by_cases hij:i=j
    · subst hij
      rw [hgj] at hi;cases hi
      simpa using hq
    · rw [hget i hij] at hi
      cases ho:gs[i]? with
      | none=>rw [ho] at hi;cases hi
      | some o'=>
        rw [ho] at hi
        have hqo:=hf1 i o' ho (by simp [hij];exact hA)
        simp only [Option.map_some,Option.some.injEq] at hi
        rw [again_running _ hqo.status] at hi
        subst hi
        simpa [hij] using hqo
  · have e:((gs.map (woken P b g' (w.shut c s r tm))).setIfInBounds j g').size=gs.size:=by simp
    rw [e]
    have h1:=hd.wd.put (o:=.chan 0 #[] true s r tm) hd.far
    exact ⟨by have:=htr;simpa [World.shut] using this,h1.os,h1.out,h1.tape,h1.size,h1.old⟩
  · have hlast:(t++u)[t.size+1]? = some {g:=j,fn:=b.frame.fn,pos:=b.frame.place,act:=.close c}:=by rw [Array.getElem?_append_right (by omega)];simp [u]
    refine ⟨t.size+1,_,hlast,rfl,rfl,fun i x hi _=>?_⟩
    have:=lt_size_of_getElem? hi
    simp [u] at this
    omega
  · exact hd.dn.app fun op hop=>.inr (hu op hop).1
def Mot (P:Program) (Q:Machine→Outcome→World→Trace→Prop) (W0:World) (g:Goroutine) (S:St):Prop:=
 (S.g=.idle→∀ N gs w sl t,gs[0]? = some g→Solo P W0 gs w t S N→Ends P Q (crowd gs w sl) t) ∧
 (∀ c vs J D,S.g=.hears c vs J D→(∀ b T,Go1 P false (WF P c J) b T→T.g=.sends c vs→∀ N gs w sl t j,gs[0]? = some g→gs[j]? = some b→Du P W0 gs w t j c D S T N→Ends P Q (crowd gs w sl) t) ∧
  ∀ g2 T v z vs',vs=v::vs'→T.g=.sends c vs→Go1 P false (WF P c J) (Conc.served g2 undef) {T with g:=.sends c vs'}→∀ N gs w sl t j,gs[0]? = some g→gs[j]? = some (Conc.parked g2 #[scase c v z] .send)→Du P W0 gs w t j c D S T N→Ends P Q (crowd gs w sl) t) ∧
 (∀ c J D,S.g=.hears c [] J D→∀ T,J T.h→∀ N gs w sl t j,gs[0]? = some g→Sh P W0 gs w t j c D S T N→Ends P Q (crowd gs w sl) t)
theorem mot_step {g:Goroutine} {S:St} (hr:g.status=.running) (hst:∀ w,S.In w→∃ g' w' es S',stepG P true g w=.go g' w' es∧Keeps S S' w w'∧(∀ e∈es,EvOk S w w' e)∧Mot P Q W0 g' S'):Mot P Q W0 g S:=by
 have hshut:∀ c J D,S.g=.hears c [] J D→∀ T,J T.h→∀ N gs w sl t j,gs[0]? = some g→Sh P W0 gs w t j c D S T N→Ends P Q (crowd gs w sl) t:=by
  intro c J D hg T hJ
  refine shut_turn hr fun gs w sl t N j h0 hd=>?_
  obtain ⟨g',w',es,S',h1,h2,h3,h4⟩:=hst w hd.om.inn
  refine ⟨_,_,crowd_go1 (sl:=sl) h0 h1 fun k o hk hk0=>hd.lv.stand hk hk0 w',?_⟩
  exact h4.2.2 c J D (h2.g.trans hg) T hJ _ _ _ _ _ j (get_set h0) (hd.main h0 h2 h3)
 refine ⟨fun hg=>?_,fun c vs J D hg=>?_,hshut⟩
 ·refine solo_turn hr fun gs w w0 sl sl0 t N h0 hd0 hd=>.inl ?_
  obtain ⟨g',w',es,S',h1,h2,h3,h4⟩:=hst w hd.ow.inn
  refine ⟨_,_,crowd_go1 (sl:=sl) h0 h1 fun k o hk hk0=>hd.lv.stand hk hk0 w',?_⟩
  exact h4.1 (h2.g.trans hg) _ _ _ _ _ (get_set h0) (hd.main h0 h2 h3)
 ·have hpark:∀ g2 T v z vs',vs=v::vs'→T.g=.sends c vs→Go1 P false (WF P c J) (Conc.served g2 undef) {T with g:=.sends c vs'}→∀ N gs w sl t j,gs[0]? = some g→gs[j]? = some (Conc.parked g2 #[scase c v z] .send)→Du P W0 gs w t j c D S T N→Ends P Q (crowd gs w sl) t:=by
   intro g2 T v z vs' hvs hT hgo
   have hb:AtC c (Conc.parked g2 #[scase c v z] .send):=.inr ⟨_,_,_,rfl,rfl⟩
   refine duo_turn (.inl hr) hb (.inl hr) (fun _ gs w sl t N j h0 hj hd=>?_) fun h=>by cases h
   obtain ⟨g',w',es,S',h1,h2,h3,h4⟩:=hst w hd.om.inn
   have hd':=hd.main (g':=g') (fn:=g.frame.fn) (pos:=g.frame.place) h0 h2 h3
   obtain ⟨s,r,tm,hc⟩:=hd'.ch
   refine ⟨_,_,crowd_go1 (sl:=sl) h0 h1 fun k o hk hk0=>hd.stand (.inl hr) hb h0 hj hc k o hk,?_⟩
   exact (h4.2.1 c vs J D (h2.g.trans hg)).2 g2 T v z vs' hvs hT hgo _ _ _ _ _ j (get_set h0) (by rw [get_ne hd.j0];exact hj) hd'
  refine ⟨duo_run (.inl hr) (fun _ gs w sl t N j b T h0 hj hd hT hgo=>?_) (fun gs w sl t N j b b2 T v z vs' hvs h0 hj hd hT hbr hcm hgo=>?_) fun gs w sl t N j b T hvs h0 hj hd hJ hs=>?_,hpark⟩
  ·obtain ⟨g',w',es,S',h1,h2,h3,h4⟩:=hst w hd.om.inn
   have hd':=hd.main (g':=g') (fn:=g.frame.fn) (pos:=g.frame.place) h0 h2 h3
   obtain ⟨s,r,tm,hc⟩:=hd'.ch
   refine ⟨_,_,crowd_go1 (sl:=sl) h0 h1 fun k o hk hk0=>hd.stand (.inl hr) (.inl (go1_running hgo)) h0 hj hc k o hk,?_⟩
   exact (h4.2.1 c vs J D (h2.g.trans hg)).1 b T hgo hT _ _ _ _ _ j (get_set h0) (by rw [get_ne hd.j0];exact hj) hd'
  ·obtain ⟨s,r,tm,hc⟩:=hd.ch
   have hb:(j==0)=false:=by simpa using hd.j0
   have hp:partners (gs.setIfInBounds j ph) c false=[]:=partners_nil fun i o hi=>by
    rcases getElem?_stand gs j i o hi with ⟨_,rfl⟩ | ⟨hij,hi'⟩
    ·rfl
    ·by_cases h1:i=0
     ·subst h1;rw [h0] at hi';cases hi'
      exact offersAt_of_not_blocked (by rw [hr];simp) _ _
     ·rcases hd.lv.stand hi' (by simp [h1,hij]) w with h | ⟨_,_,_,_,_,_,_,rfl,_⟩
      ·exact offersAt_of_not_blocked (by rcases h with h | h<;>rw [h]<;>simp) _ _
      ·obtain ⟨f,hf,_⟩:=hd.lv
       rcases (hf i _ hi' (by simp [h1,hij])).status with h | h<;>cases h
   refine ⟨_,_,crowd_waits (sl:=sl) hj (by rw [hb];exact hcm w) (fun cc hcc=>?_),?_⟩
   ·simp only [List.mem_toArray,List.mem_cons,List.not_mem_nil,or_false] at hcc
    subst hcc
    exact ways_send_none hc (by simp) hp
   ·rw [show MemOp.ofEvents j b.frame.fn b.frame.place #[]=#[] from rfl,Array.append_empty]
    exact hpark b2 T v z vs' hvs hT hgo _ _ _ _ _ j (by rw [get_ne hd.j0.symm];exact h0) (get_set hj) (hd.ofGs (hd.lv.set (.inr rfl)))
  ·subst hvs
   obtain ⟨a',gs',w',ops,N',h1,h2,h3,h4⟩:=do_close (sl:=sl) hd h0 (.inl hr) hj hs
   refine ⟨_,_,h1,?_⟩
   rcases h3 with ⟨rfl,_⟩ | ⟨g0,k,sh,e,_⟩
   ·exact hshut c J D hg T hJ _ _ _ _ _ j h2 h4
   ·rw [e] at hr;cases hr
end
end
section
open Go Go.Conc
open Go.ConcN (PermW)
section
variable {P:Program} {Q:Machine→Outcome→World→Trace→Prop} {gs:Array Goroutine} {N:Nat} {W0 w w':World} {t:Trace} {j c:Nat} {S T:St} {D:Nat→Prop} {J:Hp→Prop} {sl:Option (Nat × Nat)}
theorem Lv.offers {A:Nat→Prop} {i:Nat} {o:Goroutine} (hl:Lv P gs A N) (hi:gs[i]? = some o) (hA:¬ A i) (r:Nat) (b:Bool):offersAt o r b=[]:=by
 obtain ⟨f,hf,_⟩:=hl
 exact offersAt_of_not_blocked (by rcases (hf i o hi hA).status with h | h<;>rw [h]<;>simp) _ _
theorem Du.none_but {i k:Nat} {o:Goroutine} (hd:Du P W0 gs w t j c D S T N) (h:(i=0∧k=j)∨(i=j∧k=0)) (hk:gs[k]? = some o) (hr:o.status=.running) (r:Nat) (b:Bool):partners (gs.setIfInBounds i ph) r b=[]:=
 partners_nil fun m x hm=>by
  rcases getElem?_stand gs i m x hm with ⟨_,rfl⟩ | ⟨hmi,hm'⟩
  ·rfl
  ·by_cases hmk:m=k
   ·subst hmk;rw [hk] at hm';cases hm'
    exact offersAt_of_not_blocked (by rw [hr];simp) _ _
   ·exact hd.lv.offers hm' (by rcases h with ⟨rfl,rfl⟩ | ⟨rfl,rfl⟩<;>simp [hmi,hmk]) r b
theorem Du.one_but {i k:Nat} {o:Goroutine} (hd:Du P W0 gs w t j c D S T N) (h:(i=0∧k=j)∨(i=j∧k=0)) (hk:gs[k]? = some o) (r:Nat) (b:Bool):partners (gs.setIfInBounds i ph) r b=(offersAt o r b).map fun m=>(k,m):=
 partners_one (stand_get (by rcases h with ⟨rfl,rfl⟩ | ⟨rfl,rfl⟩<;>first | exact hd.j0 | exact hd.j0.symm) hk) fun m x hmk hm=>by
  rcases getElem?_stand gs i m x hm with ⟨_,rfl⟩ | ⟨hmi,hm'⟩
  ·rfl
  ·exact hd.lv.offers hm' (by rcases h with ⟨rfl,rfl⟩ | ⟨rfl,rfl⟩<;>simp [hmi,hmk]) r b
theorem none_ofEvents (i:Nat) (fn:FuncId) (pos:String):MemOp.ofEvents i fn pos #[]=#[]:=rfl
theorem meet_recv {a g2 g3:Goroutine} {v z z':Value} {vs:List Value} (hd:Du P W0 gs w t j c D S T N) (h0:gs[0]? = some a) (hj:gs[j]? = some (Conc.parked g3 #[scase c v z'] .send)) (hcm:∀ w,stepG P true a w=.comm g2 #[rcase c z] true (.recv true) w #[])
    (hgo:Go1 P false (WF P c J) (Conc.served g3 undef) {T with g:=.sends c vs}) (hm:Mot P Q W0 (Conc.served g2 (recvd true v true)) {S with g:=.hears c vs J D}):∃ m' ops,runT P (crowd gs w sl) 0=(.next m',ops)∧Ends P Q m' (t++ops):=by
  obtain ⟨s,r,tm,hc⟩:=hd.ch
  have hp:partners (gs.setIfInBounds 0 ph) c true=[(j,0)]:=by
    rw [hd.one_but (.inl ⟨rfl,rfl⟩) hj,offersAt_parked_send,if_pos rfl];rfl
  refine ⟨_,_,crowd_recv_meets (sl:=sl) h0 (hcm w) hc hd.j0 hj hp,?_⟩
  rw [none_ofEvents,Array.empty_append,finishComm_send,finishComm_recv]
  refine (hm.2.1 c vs J D rfl).1 (Conc.served g3 undef) {T with g:=.sends c vs} hgo rfl N _ _ _ _ j ?_ ?_ ?_
  · exact get_set (o:=a) (by rw [get_ne hd.j0.symm];exact h0)
  · rw [get_ne hd.j0];exact get_set hj
  · have h1:=hd.pass (s':=s+1) (r':=r+1) (tm':=tm) (gm:=.hears c vs J D) (gw:=.sends c vs) (u:=#[{g:=j,fn:=g3.frame.fn,pos:=g3.frame.place,act:=.send c s},{g:=0,fn:=g2.frame.fn,pos:=g2.frame.place,act:=.recv c r 0},
      {g:=j,fn:=g3.frame.fn,pos:=g3.frame.place,act:=.sendDone c s},{g:=0,fn:=g2.frame.fn,pos:=g2.frame.place,act:=.recvDone c r}]) hc (fun op hop=>?_) (fun op hop=>?_)
    · exact ((h1.ofGs (h1.lv.set (.inr rfl))).ofGs ((h1.lv.set (.inr rfl)).set (.inl rfl)))
    · have hn:0<gs.size:=(Array.getElem?_eq_some_iff.1 h0).1
      have hjn:=hd.jn
      simp only [List.mem_toArray,List.mem_cons,List.not_mem_nil,or_false] at hop
      rcases hop with rfl | rfl | rfl | rfl<;>exact ⟨by assumption,rfl,by simp⟩
    · simp only [List.mem_toArray,List.mem_cons,List.not_mem_nil,or_false] at hop
      rcases hop with rfl | rfl | rfl | rfl<;>simp
theorem meet_send {b g2 g3:Goroutine} {v z z':Value} {vs:List Value} (hd:Du P W0 gs w t j c D S T N) (hj:gs[j]? = some b) (h0:gs[0]? = some (Conc.parked g2 #[rcase c z] (.recv true))) (hcm:∀ w,stepG P false b w=.comm g3 #[scase c v z'] true .send w #[])
    (hgo:Go1 P false (WF P c J) (Conc.served g3 undef) {T with g:=.sends c vs}) (hm:Mot P Q W0 (Conc.served g2 (recvd true v true)) {S with g:=.hears c vs J D}):∃ m' ops,runT P (crowd gs w sl) j=(.next m',ops)∧Ends P Q m' (t++ops):=by
  obtain ⟨s,r,tm,hc⟩:=hd.ch
  have hb:(j==0)=false:=by simpa using hd.j0
  have hp:partners (gs.setIfInBounds j ph) c false=[(0,0)]:=by
    rw [hd.one_but (.inr ⟨rfl,rfl⟩) h0,offersAt_parked_recv,if_pos rfl];rfl
  refine ⟨_,_,crowd_send_meets (sl:=sl) hj (by rw [hb];exact hcm w) hc hd.j0.symm h0 hp,?_⟩
  rw [none_ofEvents,Array.empty_append,finishComm_send,finishComm_recv]
  refine (hm.2.1 c vs J D rfl).1 (Conc.served g3 undef) {T with g:=.sends c vs} hgo rfl N _ _ _ _ j ?_ ?_ ?_
  · rw [get_ne hd.j0.symm];exact get_set h0
  · exact get_set (o:=b) (by rw [get_ne hd.j0];exact hj)
  · have h1:=hd.pass (s':=s+1) (r':=r+1) (tm':=tm) (gm:=.hears c vs J D) (gw:=.sends c vs) (u:=#[{g:=j,fn:=g3.frame.fn,pos:=g3.frame.place,act:=.send c s},{g:=0,fn:=g2.frame.fn,pos:=g2.frame.place,act:=.recv c r 0},
      {g:=j,fn:=g3.frame.fn,pos:=g3.frame.place,act:=.sendDone c s},{g:=0,fn:=g2.frame.fn,pos:=g2.frame.place,act:=.recvDone c r}]) hc (fun op hop=>?_) (fun op hop=>?_)
    · exact ((h1.ofGs (h1.lv.set (.inl rfl))).ofGs ((h1.lv.set (.inl rfl)).set (.inr rfl)))
    · have hn:0<gs.size:=(Array.getElem?_eq_some_iff.1 h0).1
      have hjn:=hd.jn
      simp only [List.mem_toArray,List.mem_cons,List.not_mem_nil,or_false] at hop
      rcases hop with rfl | rfl | rfl | rfl<;>exact ⟨by assumption,rfl,by simp⟩
    · simp only [List.mem_toArray,List.mem_cons,List.not_mem_nil,or_false] at hop
      rcases hop with rfl | rfl | rfl | rfl<;>simp
theorem send_parks {a b b2:Goroutine} {v z:Value} (hd:Du P W0 gs w t j c D S T N) (h0:gs[0]? = some a) (hr:a.status=.running) (hj:gs[j]? = some b) (hcm:∀ w,stepG P false b w=.comm b2 #[scase c v z] true .send w #[]) :
    ∃ gs',runT P (crowd gs w sl) j=(.next (crowd gs' w sl),#[])∧gs'[0]? = some a∧gs'[j]? = some (Conc.parked b2 #[scase c v z] .send)∧Du P W0 gs' w t j c D S T N:=by
  obtain ⟨s,r,tm,hc⟩:=hd.ch
  have hb:(j==0)=false:=by simpa using hd.j0
  refine ⟨gs.setIfInBounds j (Conc.parked b2 #[scase c v z] .send),crowd_waits (sl:=sl) hj (by rw [hb];exact hcm w) (fun cc hcc=>?_),by rw [get_ne hd.j0.symm];exact h0,get_set hj,hd.ofGs (hd.lv.set (.inr rfl))⟩
  simp only [List.mem_toArray,List.mem_cons,List.not_mem_nil,or_false] at hcc
  subst hcc
  exact ways_send_none hc (by simp) (hd.none_but (.inr ⟨rfl,rfl⟩) h0 hr c false)
theorem recv_parks {a b g2:Goroutine} {z:Value} (hd:Du P W0 gs w t j c D S T N) (h0:gs[0]? = some a) (hj:gs[j]? = some b) (hr:b.status=.running) (hcm:∀ w,stepG P true a w=.comm g2 #[rcase c z] true (.recv true) w #[]) :
    ∃ gs',runT P (crowd gs w sl) 0=(.next (crowd gs' w sl),#[])∧gs'[0]? = some (Conc.parked g2 #[rcase c z] (.recv true))∧gs'[j]? = some b∧Du P W0 gs' w t j c D S T N:=by
  obtain ⟨s,r,tm,hc⟩:=hd.ch
  refine ⟨gs.setIfInBounds 0 (Conc.parked g2 #[rcase c z] (.recv true)),crowd_waits (sl:=sl) h0 (hcm w) (fun cc hcc=>?_),get_set h0,by rw [get_ne hd.j0];exact hj,hd.ofGs (hd.lv.set (.inl rfl))⟩
  simp only [List.mem_toArray,List.mem_cons,List.not_mem_nil,or_false] at hcc
  subst hcc
  exact ways_recv_none hc (hd.none_but (.inl ⟨rfl,rfl⟩) hj hr c true)
theorem mot_hear {g g2:Goroutine} {S:St} {v z:Value} {vs:List Value} (hg:S.g=.hears c (v::vs) J D) (hr:g.status=.running) (hcm:∀ w,stepG P true g w=.comm g2 #[rcase c z] true (.recv true) w #[])
    (hm:Mot P Q W0 (Conc.served g2 (recvd true v true)) {S with g:=.hears c vs J D}):Mot P Q W0 g S:=by
  refine ⟨fun h=>(by rw [hg] at h;cases h),fun c' vs' J' D' h=>?_,fun c' J' D' h=>(by rw [hg] at h;cases h)⟩
  rw [hg] at h
  cases h
  have hpark:∀ g3 T v' z' vs',v::vs=v'::vs'→T.g=.sends c (v::vs)→Go1 P false (WF P c J) (Conc.served g3 undef) {T with g:=.sends c vs'}→∀ N gs w sl t j,gs[0]? = some g→gs[j]? = some (Conc.parked g3 #[scase c v' z'] .send)→Du P W0 gs w t j c D S T N→Ends P Q (crowd gs w sl) t:=by
    intro g3 T v' z' vs' hvs hT hgo
    cases hvs
    have hb:AtC c (Conc.parked g3 #[scase c v z'] .send):=.inr ⟨_,_,_,rfl,rfl⟩
    exact duo_turn (.inl hr) hb (.inl hr) (fun _ gs w sl t N j h0 hj hd=>meet_recv hd h0 hj hcm hgo hm) fun h=>by cases h
  have hwait:∀ b T,Go1 P false (WF P c J) b T→T.g=.sends c (v::vs)→∀ N gs w sl t j,gs[0]? = some (Conc.parked g2 #[rcase c z] (.recv true))→gs[j]? = some b→Du P W0 gs w t j c D S T N→Ends P Q (crowd gs w sl) t:=by
    refine duo_run (.inr ⟨_,_,_,rfl,rfl⟩) (fun h=>by cases h) (fun gs w sl t N j b b2 T v' z' vs' hvs h0 hj hd hT hbr hbc hgo=>?_) fun gs w sl t N j b T hvs=>by cases hvs
    cases hvs
    exact meet_send hd hj h0 hbc hgo hm
  refine ⟨duo_run (.inl hr) (fun _ gs w sl t N j b T h0 hj hd hT hgo=>?_) (fun gs w sl t N j b b2 T v' z' vs' hvs h0 hj hd hT hbr hbc hgo=>?_) (fun gs w sl t N j b T hvs=>by cases hvs),hpark⟩
  · obtain ⟨gs',h1,h2,h3,h4⟩:=recv_parks (sl:=sl) hd h0 hj (go1_running hgo) hcm
    exact ⟨_,_,h1,by rw [Array.append_empty];exact hwait b T hgo hT _ _ _ _ _ j h2 h3 h4⟩
  · obtain ⟨gs',h1,h2,h3,h4⟩:=send_parks (sl:=sl) hd h0 hr hj hbc
    exact ⟨_,_,h1,by rw [Array.append_empty];exact hpark b2 T v' z' vs' hvs hT hgo _ _ _ _ _ j h2 h3 h4⟩
theorem Sh.solo {y:MemOp} {g:Goroutine} (hd:Sh P W0 gs w t j c D S T N) (hy:y.g=0∧y.act=.recvClosed c) (hn:0<gs.size):Solo P W0 (gs.setIfInBounds 0 g) w (t++#[y]) ⟨fun b=>(S b).or (T b),.idle⟩ N:=by
 have hu:Calm gs.size #[y]:=by
  intro op hop
  simp only [List.mem_toArray,List.mem_cons,List.not_mem_nil,or_false] at hop
  subst hop
  exact ⟨by rw [hy.1];exact hn,by rw [hy.2];rfl,by rw [hy.2];simp⟩
 have hwd:=hd.wd.calm hu (Nat.le_refl _)
 have hkn:∀ {p:Nat},Knows t j p→Knows (t++#[y]) 0 p:=fun h=>hd.sh.known hwd.tr.silent hy h
 refine ⟨hd.lv.set rfl,by simpa using hwd,⟨fun b e he=>?_,fun b e he l hl=>?_,fun b e he hw=>?_⟩,fun p op hp h0 _=>?_⟩
 ·have he:(S b).or (T b)=some e:=he
  cases hs:S b with
  | some e'=>rw [hs] at he;cases he;exact hd.om.inn b _ hs
  | none=>rw [hs] at he;exact hd.ow.inn b _ he
 ·have he:(S b).or (T b)=some e:=he
  cases hs:S b with
  | some e'=>rw [hs] at he;cases he;exact hd.om.hold.calm hu b _ hs l hl
  | none=>
   rw [hs] at he
   have he:T b=some e:=he
   have h9:=hd.ow.hold b e he l hl
   exact ⟨fun hw p a ha hla=>hkn (h9.1 hw p a (hu.touch ha).2 hla),fun p a ha hla haw=>hkn (h9.2 p a (hu.touch ha).2 hla haw)⟩
 ·have he:(S b).or (T b)=some e:=he
  cases hs:S b with
  | some e'=>rw [hs] at he;cases he;exact hd.om.far b _ hs hw
  | none=>rw [hs] at he;exact hd.ow.far b _ he hw
 ·rcases getElem?_append_cases hp with ⟨_,hp'⟩ | ⟨_,hm⟩
  ·by_cases hj:op.g=j
   ·have:=knows_own hp'
    rw [hj] at this
    exact hkn this
   ·exact (hd.dn p op hp' h0 hj).app _
  ·simp only [List.mem_toArray,List.mem_cons,List.not_mem_nil,or_false] at hm
   subst hm
   exact absurd hy.1 h0
theorem mot_closed {g:Goroutine} {S:St} {z:Value} (hg:S.g=.hears c [] J D) (hr:g.status=.running) (hcm:∀ w,stepG P true g w=.comm g #[rcase c z] true (.recv true) w #[])
    (hm:∀ H:Hp,J H→(∀ b e e',S b=some e→H b=some e'→e=e'∧e.wr=false∧D b)→Mot P Q W0 (Conc.served g (recvd true z false)) ⟨fun b=>(S b).or (H b),.idle⟩):Mot P Q W0 g S:=by
  have hshut:∀ a:Goroutine,a.status=.running→(∀ w,stepG P true a w=.comm g #[rcase c z] true (.recv true) w #[])→∀ T:St,J T.h→∀ N gs w sl t j,gs[0]? = some a→Sh P W0 gs w t j c D S T N→Ends P Q (crowd gs w sl) t:=by
    intro a ha hac T hJ
    refine shut_turn ha fun gs w sl t N j h0 hd=>?_
    obtain ⟨s,r,tm,hc⟩:=hd.ch
    have hn:0<gs.size:=(Array.getElem?_eq_some_iff.1 h0).1
    have hp:partners (gs.setIfInBounds 0 ph) c true=[]:=partners_nil fun m x hx=>by
      rcases getElem?_stand gs 0 m x hx with ⟨_,rfl⟩ | ⟨hmi,hm'⟩
      · rfl
      · exact hd.lv.offers hm' hmi c true
    refine ⟨_,_,crowd_recv_closed (sl:=sl) h0 (hac w) hc hp,?_⟩
    rw [none_ofEvents,Array.empty_append,finishComm_recv]
    refine (hm T.h hJ fun b e e' hb hb'=>?_).1 rfl N _ _ _ _ (get_set h0) (hd.solo ⟨rfl,rfl⟩ hn)
    obtain ⟨h1,h2,h3⟩:=hd.cp b e e' hb hb'
    have e1:=hd.om.inn b e hb
    rw [hd.ow.inn b e' hb'] at e1
    cases e1':e with | mk o wr=>cases e2':e' with | mk o' wr'=>
    subst e1' e2'
    simp only [Option.some.injEq] at e1 h1 h2
    subst e1 h1 h2
    exact ⟨rfl,rfl,h3⟩
  refine ⟨fun h=>(by rw [hg] at h;cases h),fun c' vs' J' D' h=>?_,fun c' J' D' h=>(by rw [hg] at h;cases h;exact hshut g hr hcm)⟩
  rw [hg] at h
  cases h
  have hwait:∀ b T,Go1 P false (WF P c J) b T→T.g=.sends c []→∀ N gs w sl t j,gs[0]? = some (Conc.parked g #[rcase c z] (.recv true))→gs[j]? = some b→Du P W0 gs w t j c D S T N→Ends P Q (crowd gs w sl) t:=by
    refine duo_run (.inr ⟨_,_,_,rfl,rfl⟩) (fun h=>by cases h) (fun gs w sl t N j b b2 T v' z' vs' hvs=>by cases hvs) fun gs w sl t N j b T _ h0 hj hd hJ hs=>?_
    obtain ⟨a',gs',w',ops,N',h1,h2,h3,h4⟩:=do_close (sl:=sl) hd h0 (.inr ⟨_,_,_,rfl,rfl⟩) hj hs
    refine ⟨_,_,h1,?_⟩
    rcases h3 with ⟨_,h⟩ | ⟨g0,k,sh,e,rfl⟩
    · cases h
    · rw [← e] at h2
      exact hshut {Conc.parked g #[rcase c z] (.recv true) with status:=.running} rfl (fun w=>(stepG_same rfl rfl rfl w).trans (hcm w)) T hJ _ _ _ _ _ j h2 h4
  refine ⟨duo_run (.inl hr) (fun _ gs w sl t N j b T h0 hj hd hT hgo=>?_) (fun gs w sl t N j b b2 T v' z' vs' hvs=>by cases hvs) (fun gs w sl t N j b T _ h0 hj hd hJ hs=>?_),fun g3 T v' z' vs' hvs=>by cases hvs⟩
  · obtain ⟨gs',h1,h2,h3,h4⟩:=recv_parks (sl:=sl) hd h0 hj (go1_running hgo) hcm
    exact ⟨_,_,h1,by rw [Array.append_empty];exact hwait b T hgo hT _ _ _ _ _ j h2 h3 h4⟩
  · obtain ⟨a',gs',w',ops,N',h1,h2,h3,h4⟩:=do_close (sl:=sl) hd h0 (.inl hr) hj hs
    refine ⟨_,_,h1,?_⟩
    rcases h3 with ⟨rfl,_⟩ | ⟨g0,k,sh,e,_⟩
    · exact hshut a' hr hcm T hJ _ _ _ _ _ j h2 h4
    · rw [e] at hr;cases hr
theorem Hold.sub {t:Trace} {i:Nat} {S:St} {Hm:Hp} (h:Hold t i S.h) (hs:∀ b e,Hm b=some e→∃ e0,S b=some e0∧e.o=e0.o∧(e.wr=true→e0.wr=true)):Hold t i Hm:=fun b e hb l hl=>by
 obtain ⟨e0,h0,_,hw⟩:=hs b e hb
 have h9:=h b e0 h0 l hl
 exact ⟨fun hwr=>h9.1 (hw hwr),h9.2⟩
theorem mot_fork {g g' child:Goroutine} {S:St} {vs:List Value} {Hw Hm:Hp} (hg:S.g=.idle) (hr:g.status=.running) (hst:∀ w,∃ es:Array Event,(∀ e∈es,False)∧stepG P true g w=.spawn g' child w es)
    (hc:S c=some ⟨.chan 0 #[] false 0 0 false,true⟩) (hwc:Hw c=none) (hmc:Hm c=none)
    (hws:∀ b e,Hw b=some e→∃ e0,S b=some e0∧e.o=e0.o∧(e.wr=true→e0.wr=true)) (hms:∀ b e,Hm b=some e→∃ e0,S b=some e0∧e.o=e0.o∧(e.wr=true→e0.wr=true))
    (hcp:∀ b e e',Hw b=some e→Hm b=some e'→e.wr=false∧e'.wr=false) (hch:Go1 P false (WF P c J) child ⟨Hw,.sends c vs⟩) (hm:Mot P Q W0 g' ⟨Hm,.hears c vs J (fun b=>∃ e,Hw b=some e)⟩):Mot P Q W0 g S:=by
  refine ⟨fun _=>?_,fun c' vs' J' D' h=>(by rw [hg] at h;cases h),fun c' J' D' h=>(by rw [hg] at h;cases h)⟩
  refine solo_turn hr fun gs w w0 sl sl0 t N h0 hd0 hd=>.inl ?_
  obtain ⟨es,hes,hsp⟩:=hst w
  have e0:es=#[]:=by
    apply Array.eq_empty_of_size_eq_zero
    rcases Nat.eq_zero_or_pos es.size with h | h
    · exact h
    · exact (hes es[0] (Array.getElem_mem _)).elim
  subst e0
  have hn:0<gs.size:=(Array.getElem?_eq_some_iff.1 h0).1
  refine ⟨_,_,runT_crowd_spawn (sl:=sl) h0 hsp,?_⟩
  let x:MemOp:={g:=0,fn:=g.frame.fn,pos:=g.frame.place,act:=.go gs.size}
  let y:MemOp:={g:=gs.size,fn:=child.frame.fn,pos:=g.frame.place,act:=.start}
  have hx:x.g=0∧x.act=.go gs.size:=⟨rfl,rfl⟩
  have hy:y.g=gs.size∧y.act=.start:=⟨rfl,rfl⟩
  have e1:t++((MemOp.ofEvents 0 g.frame.fn g.frame.place #[]).push x).push y=t++#[x,y]:=by rw [none_ofEvents];rfl
  show Ends P Q _ (t++((MemOp.ofEvents 0 g.frame.fn g.frame.place #[]).push x).push y)
  rw [e1]
  have hu:Calm (gs.size+1) #[x,y]:=by
    intro op hop
    simp only [List.mem_toArray,List.mem_cons,List.not_mem_nil,or_false] at hop
    rcases hop with rfl | rfl
    · exact ⟨by show 0<_;omega,rfl,by simp [x]⟩
    · exact ⟨by show gs.size<_;omega,rfl,by simp [y]⟩
  have hwd:=hd.wd.calm hu (by omega)
  obtain ⟨N',hl⟩:=(hd.lv.set (i:=0) (g:=g') rfl).push (g:=child) (A':=fun i=>i=0∨i=gs.size) (fun i h=>.inl h) (.inr (by simp))
  have hsz:((gs.setIfInBounds 0 g').push child).size=gs.size+1:=by simp
  have hj0:gs.size≠0:=by omega
  refine (hm.2.1 c vs J _ rfl).1 child ⟨Hw,.sends c vs⟩ hch rfl N' _ _ _ _ gs.size ?_ ?_ ⟨hj0,by rw [hsz];omega,hl,by rw [hsz];exact hwd,⟨fun b e hb=>?_,(hd.ow.hold.sub hms).calm hu,fun b e hb hw=>?_⟩,⟨fun b e hb=>?_,Hold.child hd.wd.tr.silent hd.ow.hold hx hy hws,fun b e hb hw=>?_⟩,
    fun b e e' hb hb'=>?_,⟨0,0,false,hd.ow.inn c _ hc⟩,hmc,hwc,hd.ow.far c _ hc rfl,PermW.child hd.wd.tr.silent (hd.ow.hold c _ hc (.obj c) rfl).2 hx hy,fun p op hp h1 h2=>?_⟩
  · rw [Array.getElem?_push,if_neg (by simpa using hj0.symm)];exact get_set h0
  · rw [Array.getElem?_push,if_pos (by simp)]
  · obtain ⟨e0,h1,h2,_⟩:=hms b e hb
    rw [h2];exact hd.ow.inn b e0 h1
  · obtain ⟨e0,h1,_,h3⟩:=hms b e hb
    exact hd.ow.far b e0 h1 (h3 hw)
  · obtain ⟨e0,h1,h2,_⟩:=hws b e hb
    rw [h2];exact hd.ow.inn b e0 h1
  · obtain ⟨e0,h1,_,h3⟩:=hws b e hb
    exact hd.ow.far b e0 h1 (h3 hw)
  · obtain ⟨h1,h2⟩:=hcp b e' e hb' hb
    exact ⟨h2,h1,e',hb'⟩
  · rcases getElem?_append_cases hp with ⟨_,hp'⟩ | ⟨_,hmem⟩
    · exact (hd.dn p op hp' h1 h1).app _
    · simp only [List.mem_toArray,List.mem_cons,List.not_mem_nil,or_false] at hmem
      rcases hmem with rfl | rfl
      · exact absurd rfl h1
      · exact absurd rfl h2
def FinOk (P:Program) (W0:World) (Post:Value→World→Prop) (Fin:Goroutine→St→Prop):Prop:=
 ∀ g S,Fin g S→S.g=.idle∧g.status=.running∧∀ w,S.In w→∃ v w' es S',stepG P true g w=.ended (.done v) w' es∧Keeps S S' w w'∧(∀ e∈es,EvOk S w w' e)∧(RowKit.Below W0.heap.size W0 w'→Post v w')
theorem mot_fin {Post:Value→World→Prop} {Fin:Goroutine→St→Prop} (hF:FinOk P W0 Post Fin) {g:Goroutine} {S:St} (h:Fin g S):Mot P (Good P Post) W0 g S:=by
 obtain ⟨hg,hr,hend⟩:=hF g S h
 refine ⟨fun _=>?_,fun c' vs' J' D' h=>(by rw [hg] at h;cases h),fun c' J' D' h=>(by rw [hg] at h;cases h)⟩
 refine solo_turn hr fun gs w w0 sl sl0 t N h0 hd0 hd=>.inr ?_
 obtain ⟨v,w',es,S',h1,h2,h3,h5⟩:=hend w hd.ow.inn
 have hn:0<gs.size:=(Array.getElem?_eq_some_iff.1 h0).1
 have h4:=(hd.wd.own (fn:=g.frame.fn) (pos:=g.frame.place) hd.ow hn h2 h3).1
 have hdn:Done (t++MemOp.ofEvents 0 g.frame.fn g.frame.place es) 0:=hd.dn.app fun op hop=>.inl (mem_ofEvents hop).1
 refine ⟨_,_,_,ConcN.runT_crowd_ended (sl:=sl) h0 h1,v,rfl,h5 ⟨h4.os,h4.tape,h4.out,h4.size,h4.old⟩,h4.tr.nr,fun i k hi hk _=>?_,⟨fun o ho=>?_,rfl⟩,fun i o hi hi0=>?_⟩
 ·unfold Trace.g? at hi
  obtain ⟨op,hop,rfl⟩:=Option.map_eq_some_iff.1 hi
  obtain ⟨q,z,h5,h6,h7⟩:=hdn i op hop hk hk
  refine ⟨q,by simp [Trace.g?,h5,h6],?_⟩
  rcases h7 with rfl | h7
  ·rw [hop] at h5;cases h5
   exact absurd h6 hk
  ·exact h7
 ·obtain ⟨f,hf,_⟩:=hd.lv
  obtain ⟨m,hm⟩:=List.getElem?_of_mem ho
  rw [List.getElem?_drop] at hm
  have h9:gs[1+m]? = some o:=by rw [← Array.getElem?_toList];exact hm
  exact ⟨_,(hf (1+m) o h9 (by omega)).leaves⟩
 ·obtain ⟨f,hf,_⟩:=hd.lv
  rw [h4.tr.silent.deaf]
  exact ⟨_,(hf i o hi hi0).hears _ 0⟩
theorem mot_all {Post:Value→World→Prop} {Fin:Goroutine→St→Prop} (hF:FinOk P W0 Post Fin) {g:Goroutine} {S:St} (h:Go1 P true Fin g S):Mot P (Good P Post) W0 g S:=by
 generalize hm:true=m at h
 induction h with
 | fin h=>exact mot_fin hF h
 | step F W E Tn hr hst hrs hk hev hnx ih=>
  subst hm
  exact mot_step hr fun w hin=>⟨_,_,_,_,hst w hin,hk w hin,hev w hin,ih w hin hF rfl⟩
 | send hg hr hst hnx ih=>
  exact ⟨fun h=>(by rw [hg] at h;cases h),fun c' vs' J' D' h=>(by rw [hg] at h;cases h),fun c' J' D' h=>(by rw [hg] at h;cases h)⟩
 | hear hg hr hst hnx ih=>
  subst hm
  exact mot_hear hg hr hst (ih hF rfl)
 | closed hg hr hst hnx ih=>
  subst hm
  exact mot_closed hg hr hst fun H hJ hcp=>ih H hJ hcp hF rfl
 | fork hg hr hr2 hr3 hst hc hwc hmc hws hms hcp hch hnx ih1 ih2=>
  subst hm
  exact mot_fork hg hr hst hc hwc hmc hws hms hcp hch (ih2 hF rfl)
def worldSt (w:World):St:=⟨fun b=>(w.heap[b]?).map fun o=>⟨o,false⟩,.idle⟩
theorem good_run {Post:Value→World→Prop} {Fin:Goroutine→St→Prop} {W:World} (hF:FinOk P W Post Fin) {g:Goroutine} (h:Go1 P true Fin g (worldSt W)) :
    ∃ M last o w' t',runNT P (M+1) (solo g W) #[]=(.ended o w',t')∧runN P M (solo g W)=.next last∧step P last=.ended o w'∧Good P Post last o w' t':=by
  have hi:(worldSt W).In W:=fun b e hb=>by
    obtain ⟨o,ho,rfl⟩:=Option.map_eq_some_iff.1 hb
    exact ho
  have hmt:∀ (i:Nat) a,touchAt #[] i=some a→False:=fun i a h=>by simp [touchAt,Trace.act?] at h
  refine (mot_all hF h).1 rfl 0 #[g] W none #[] rfl ⟨⟨fun _=>0,fun i o hi h0=>?_,rfl⟩,⟨⟨fun op hop=>by simp at hop,fun i a h=>(hmt i a h).elim,fun said=>?_,fun op hop=>by simp at hop⟩,rfl,rfl,rfl,Nat.le_refl _,fun _ _=>rfl⟩,
    ⟨hi,fun b e hb l hl=>⟨fun _ i a h=>(hmt i a h).elim,fun i a h=>(hmt i a h).elim⟩,fun b e hb hw=>?_⟩,fun i op hi=>by simp at hi⟩
  · match i,hi,h0 with
    | 0,_,h0=>exact absurd rfl h0
    | i+1,hi,_=>simp at hi
  · rintro ⟨i,j,_,⟨a,b,ha,_⟩,_⟩
    exact hmt i a ha
  · obtain ⟨o,ho,rfl⟩:=Option.map_eq_some_iff.1 hb
    cases hw
end
end
section
section
variable {P:Program} {Kp:Value→St→Prop}
theorem semW_bind_eq {α β:Type} {K:β→St→Prop} (f:α→Sem β) (s:Sem α):∀ (S:St),vB P (s.bind f) S K Kp=vB P s S (fun a S'=>vB P (f a) S' K Kp) Kp:=by
 induction s with
 | pure a=>exact fun S=>rfl
 | load m a k ih=>intro S;simp only [vB,Sem.bind,ih]
 | store m a v k ih=>intro S;simp only [vB,Sem.bind,ih]
 | new o k ih=>intro S;simp only [vB,Sem.bind,ih]
 | shape r k ih=>intro S;simp only [vB,Sem.bind,ih]
 | freeze a n k ih=>intro S;simp only [vB,Sem.bind,ih]
 | frozen a k ih=>intro S;simp only [vB,Sem.bind,ih]
 | getObj r k ih=>intro S;simp only [vB,Sem.bind,ih]
 | setObj r o k ih=>intro S;simp only [vB,Sem.bind,ih]
 | choose q k ih=>intro S;simp only [vB,Sem.bind,ih]
 | sys c k ih=>exact fun S=>rfl
 | program k ih=>intro S;simp only [vB,Sem.bind,ih]
 | mark m k ih=>intro S;simp only [vB,Sem.bind,ih]
 | halt h=>intro S;cases h<;>rfl
theorem zy {α β:Type} {K:β→St→Prop} (f:α→Sem β) (s:Sem α) (S:St):vB P (s >>= f) S K Kp=vB P s S (fun a S'=>vB P (f a) S' K Kp) Kp:=semW_bind_eq f s S
theorem zF {α:Type} {K:α→St→Prop} (a:α) (S:St):vB P (pure a) S K Kp=K a S:=rfl
theorem St.put_put (S:St) (b:Nat) (o o':Obj):(S.put b o).put b o'=S.put b o':=by
 unfold St.put
 congr 1
 funext x
 simp only [Hp.put]
 split<;>rfl
theorem zT {K:TypeDesc→St→Prop} {t:TypeId} {d:TypeDesc} (h:P.underlying t=some d) (S:St):vB P (underlying t) S K Kp=K d S:=by
 unfold underlying
 simp only [program,zy,vB,h]
 rfl
theorem semW_typeInfo {K:TypeInfo→St→Prop} {t:TypeId} {i:TypeInfo} (h:P.info? t=some i) (S:St):vB P (typeInfo t) S K Kp=K i S:=by
 unfold typeInfo
 simp only [program,zy,vB,h]
 rfl
theorem semW_sizeOf {K:Nat→St→Prop} {t:TypeId} {i:TypeInfo} (h:P.info? t=some i) (S:St):vB P (sizeOf t) S K Kp=K i.size S:=by
 unfold sizeOf
 simp only [zy,semW_typeInfo h,zF]
theorem semW_zeroValue {K:Value→St→Prop} {t:TypeId} {i:TypeInfo} {z:Value} (h:P.info? t=some i) (hz:i.zero=some z) (S:St):vB P (zeroValue t) S K Kp=K z S:=by
 unfold zeroValue
 simp only [zy,semW_typeInfo h,hz,zF]
def aggT (P:Program) (t:TypeId):Option Bool:=(P.underlying t).map fun | .struct _ | .array _ _=>true | _=>false
theorem semW_isAgg {K:Bool→St→Prop} {t:TypeId} {x:Bool} (h:aggT P t=some x) (S:St):vB P (isAgg t) S K Kp=K x S:=by
 unfold aggT at h
 cases hu:P.underlying t with
 | none=>rw [hu] at h;cases h
 | some d=>
  rw [hu] at h
  unfold isAgg
  simp only [zy,zT hu]
  cases d<;>simp at h<;>subst h<;>rfl
def St.cells? (S:St) (a:Addr) (n:Nat):Option (List Value):=
 match S a.block with
 | some ⟨.cells c _ _,_⟩=>if a.spot.isSome=false∧a.off+n≤c.size then some ((c.toList.drop a.off).take n) else none
 | _=>none
theorem semW_load {K:Value→St→Prop} {a:Addr} {v:Value} {S:St} (h:S.cell? a=some v) (k:K v S):vB P (load a) S K Kp:=⟨rfl,v,h,k⟩
theorem cell_of_cells {S:St} {a:Addr} {n:Nat} {vs:List Value} (h:S.cells? a n=some vs) (i:Nat) (hi:i<n):∃ v,vs[i]? = some v∧S.cell? (a.add i)=some v:=by
 unfold St.cells? at h
 split at h
 ·rename_i c e f wr hs
  split at h
  ·rename_i hc
   cases h
   have hlt:a.off+i<c.size:=by omega
   refine ⟨c[a.off+i],by simp [hi,hlt],?_⟩
   unfold St.cell? Addr.add
   by_cases h0:i=0
   ·subst h0;simp [hs,hc.1]
   ·simp [h0,hs,hlt]
  ·cases h
 ·cases h
theorem semW_loadCellsFrom {K:Array Value→St→Prop} {a:Addr} {S:St} {N:Nat} {vs:List Value} (h:S.cells? a N=some vs):∀ (n i:Nat) (acc:Array Value),i+n=N→K (acc++(vs.drop i).toArray) S→vB P (loadCellsFrom a i n acc) S K Kp:=by
 have hlen:vs.length=N:=by
  unfold St.cells? at h
  split at h
  ·rename_i c e f wr hs
   split at h
   ·cases h;simp;omega
   ·cases h
  ·cases h
 intro n
 induction n with
 | zero=>
  intro i acc hi k
  have:vs.drop i=[]:=by rw [List.drop_eq_nil_iff];omega
  rw [this] at k
  simpa [loadCellsFrom,zF] using k
 | succ n ih=>
  intro i acc hi k
  obtain ⟨v,hv,hc⟩:=cell_of_cells h i (by omega)
  unfold loadCellsFrom
  rw [zy]
  refine semW_load hc (ih (i+1) _ (by omega) ?_)
  have hlt:i<vs.length:=by omega
  have:vs.drop i=v::vs.drop (i+1):=by
   rw [List.drop_eq_getElem_cons hlt]
   rw [List.getElem?_eq_getElem hlt] at hv
   cases hv;rfl
  rw [this] at k
  simpa using k
theorem semW_loadCells {K:Array Value→St→Prop} {a:Addr} {S:St} {n:Nat} {vs:List Value} (h:S.cells? a n=some vs) (k:K vs.toArray S):vB P (loadCells a n) S K Kp:=
 semW_loadCellsFrom h n 0 #[] (by omega) (by simpa using k)
def setCells (c:Array Value) (off:Nat):List Value→Array Value
 | []=>c
 | v::vs=>setCells (c.setIfInBounds off v) (off+1) vs
theorem semW_storeCells {K:Unit→St→Prop} {a:Addr} (hsp:a.spot=none) (vs:List Value):∀ (i:Nat) (S:St) (c:Array Value) (e:TypeId) (f:Nat × Nat),S a.block=some ⟨.cells c e f,true⟩→f.2≤f.1 →
    a.off+i+vs.length≤c.size→(∀ v∈vs,vV v=true)→K () (if vs=[] then S else S.put a.block (.cells (setCells c (a.off+i) vs) e f))→vB P (storeCells a vs i) S K Kp:=by
  induction vs with
  | nil=>intro i S c e f _ _ _ _ k;simpa [storeCells,zF] using k
  | cons v vs ih=>
    intro i S c e f hs hf hl hv k
    unfold storeCells
    rw [zy]
    have hlt:a.off+i<c.size:=by simp at hl;omega
    have hb:(a.add i).block=a.block:=by unfold Addr.add;split<;>rfl
    have hoff:(a.add i).off=a.off+i:=by unfold Addr.add;split<;>simp_all
    have hspt:(a.add i).spot=none:=by unfold Addr.add;split<;>simp_all
    refine ⟨rfl,hv v (by simp),⟨c[a.off+i],?_⟩,?_,.cells c e f,by rw [hb];exact hs,?_⟩
    · unfold St.cell?;rw [hb,hs];simp [hspt,hoff,hlt]
    · unfold St.frozen?;rw [hb,hs];simp [hoff];intro h1;omega
    · rw [hb,hoff]
      have hs':(S.put a.block (setObjCell (.cells c e f) (a.off+i) v)) a.block=some ⟨.cells (c.setIfInBounds (a.off+i) v) e f,true⟩:=St.put_same _ _ _
      refine ih (i+1) _ _ e f hs' hf (by simp at hl ⊢;omega) (fun x hx=>hv x (by simp [hx])) ?_
      simp only [reduceCtorEq,if_false] at k
      cases vs with
      | nil=>simpa [setCells,setObjCell] using k
      | cons x xs=>
        simp only [reduceCtorEq,if_false,St.put_put]
        exact k
theorem semW_newRow {K:Addr→St→Prop} {e:TypeId} {c:Array Value} {S:St} (h:∀ b,S b=none→K ⟨b,0,none⟩ (S.put b (.cells c e))):vB P (newRow e c) S K Kp:=by
 unfold newRow newObj
 rw [zy]
 exact h
end
end
section
def Env:=Nat→Option Value
def Env.get (E:Env) (t:Nat):Option Value:=E t
def Env.set (E:Env) (d:Option Nat) (v:Value):Env:=match d with
 | none=>E
 | some d=>fun t=>if t=d then some v else E t
def Env.of (vs:List Value):Env:=fun t=>vs[t]?
theorem Env.get_set (E:Env) (d t:Nat) (v:Value):(E.set (some d) v).get t=if t=d then some v else E.get t:=rfl
theorem Env.get_of (vs:List Value) (t:Nat):(Env.of vs).get t=vs[t]? := rfl
theorem Env.set_comm (E:Env) {d d':Nat} (h:d≠d') (v v':Value):(E.set (some d) v).set (some d') v'=(E.set (some d') v').set (some d) v:=by
 funext t
 simp only [Env.set]
 by_cases h1:t=d
 ·subst h1;simp [h]
 ·simp [h1]
def Env.ev (E:Env):Operand→Option Value
 | .tmp t=>E.get t
 | .const v=>some v
 | .global g=>some (.pointer (some ⟨g,0,none⟩))
 | .func f=>some (.func (.func f) #[] #[])
def Env.evs (E:Env):List Operand→Option (List Value)
 | []=>some []
 | x::xs=>match E.ev x,E.evs xs with
  | some v,some vs=>some (v::vs)
  | _,_=>none
def Fits (a:Act) (n:Nat) (E:Env):Prop:=a.tmps.size=n∧∀ t v,E.get t=some v→a.tmps[t]? = some v
theorem Fits.ev {a:Act} {n:Nat} {E:Env} (h:Fits a n E) {x:Operand} {v:Value} (hx:E.ev x=some v):a.eval x=v:=by
 cases x with
 | tmp t=>have:=h.2 t v hx;simp [Act.eval,this]
 | const c=>exact Option.some.inj hx
 | global g=>exact Option.some.inj hx
 | func f=>exact Option.some.inj hx
theorem Fits.put {a:Act} {n:Nat} {E:Env} (h:Fits a n E) {d:Option Nat} (hd:∀ x,d=some x→x<n) (v:Value):Fits (a.put d v) n (E.set d v):=by
 cases d with
 | none=>exact h
 | some d=>
  refine ⟨by simp [Act.put,h.1],fun t u ht=>?_⟩
  rw [Env.get_set] at ht
  simp only [Act.put]
  split at ht
  ·rename_i e;subst e;cases ht
   simp [h.1,hd _ rfl]
  ·rename_i e
   rw [Array.getElem?_setIfInBounds_ne (Ne.symm e)]
   exact h.2 t u ht
theorem Fits.evs {a:Act} {n:Nat} {E:Env} (h:Fits a n E):∀ {xs:List Operand} {vs:List Value},E.evs xs=some vs→xs.map a.eval=vs:=by
 intro xs
 induction xs with
 | nil=>intro vs hv;cases hv;rfl
 | cons x xs ih=>
  intro vs hv
  simp only [Env.evs] at hv
  split at hv
  ·rename_i v ws h1 h2
   cases hv
   simp [h.ev h1,ih h2]
  ·cases hv
def binI (op:BinOp) (k:IntKind) (x y:Int):Option Value:=
 match op with
 | .add=>some (.int k (k.wrap (x+y)))
 | .sub=>some (.int k (k.wrap (x-y)))
 | .mul=>some (.int k (k.wrap (x*y)))
 | .quo=>if y=0 then none else some (.int k (k.wrap (x.tdiv y)))
 | .rem=>if y=0 then none else some (.int k (x.tmod y))
 | .xor=>some (.int k (k.wrap ((BitVec.ofInt k.bits x ^^^ BitVec.ofInt k.bits y).toNat)))
 | .eql=>some (.bool (x==y))
 | .neq=>some (.bool (x != y))
 | .lss=>some (.bool (x<y))
 | .leq=>some (.bool (x≤y))
 | .gtr=>some (.bool (x>y))
 | .geq=>some (.bool (x ≥ y))
 | _=>none
def binS (op:BinOp) (x y:ByteArray):Option Value:=
 match op with
 | .add=>if ((x.size+y.size:Nat):Int)>IntKind.i64.max then none else some (.string (x++y))
 | .eql=>some (.bool (x.toList==y.toList))
 | .neq=>some (.bool !(x.toList==y.toList))
 | _=>none
def bnd (v:Option Value) (y d:Nat):Option Nat:=
 match v with
 | none=>some d
 | some (.int _ i)=>if 0≤i∧i≤y then some i.toNat else none
 | some _=>none
def bnds (len cap:Nat) (lo hi mx:Option Value):Option (Nat × Nat × Nat):=
 match bnd mx cap cap with
 | none=>none
 | some m=>
  match hi,mx with
  | none,some _=>none
  | _,_=>
   match bnd hi (if mx.isSome then m else cap) len with
   | none=>none
   | some h=>
    match bnd lo h 0 with
    | none=>none
    | some l=>some (l,h,m)
inductive SOp where
 | mv (x:Operand)
 | pick (c a b:Operand)
 | alloc (elem:TypeId) (z:Value)
 | box (elem:TypeId) (x:Operand)
 | build (z:Array Value) (places:List (Nat × Nat)) (parts:List (Nat × Operand))
 | buildSlice (elem:TypeId) (size len:Nat) (init:Array Value) (parts:List (Nat × Operand))
 | load1 (x:Operand)
 | loadN (n:Nat) (x:Operand)
 | store (n:Nat) (x v:Operand)
 | nilchk (x:Operand)
 | bin (op:BinOp) (x y:Operand)
 | eqv (neg:Bool) (t:TypeId) (x y:Operand)
 | not (x:Operand)
 | conv (k:IntKind) (x:Operand)
 | strBytes (elem:TypeId) (x:Operand)
 | bytesStr (x:Operand)
 | fieldAddr (off:Nat) (x:Operand)
 | strIdx (x i:Operand)
 | idxAddr (size:Nat) (x i:Operand)
 | sliceS (x:Operand) (lo hi:Option Operand)
 | sliceL (size:Nat) (x:Operand) (lo hi mx:Option Operand)
 | extract (x:Operand) (i:Nat)
 | call (f:FuncId) (args:List Operand)
 | callv (x:Operand) (args:List Operand)
 | lenS (x:Operand)
 | lenL (x:Operand)
 | mkFunc (fn:Fn) (first captured:List Operand)
 | append (elem:TypeId) (size bytes:Nat) (z:Value) (x y:Operand)
 | mkSlice (elem:TypeId) (size bytes:Nat) (z:Value) (l c:Operand)
 | min2 (x y:Operand)
 | max2 (x y:Operand)
 | mkIface (t:TypeId) (x:Operand)
 | mkMap
 | raw (op:Op) (ty:TypeId)
def Env.evo (E:Env):Option Operand→Option (Option Value)
 | none=>some none
 | some x=>(E.ev x).map some
def partsOf (E:Env):List (Nat × Operand)→Option (List (Nat × Value))
 | []=>some []
 | (i,x)::r=>match E.ev x,partsOf E r with
  | some v,some vs=>some ((i,v)::vs)
  | _,_=>none
def bytesOf:List Value→Option (List UInt8)
 | []=>some []
 | .int .u8 n::r=>(bytesOf r).map (UInt8.ofNat n.toNat::·)
 | _=>none
def lenV:Value→Option Nat
 | .slice _ n _=>some n
 | .string s=>some s.size
 | _=>none
def readC (S:St) (k:Nat):Value→Option (List Value)
 | .slice (some a) _ _=>S.cells? a k
 | .slice none _ _=>some []
 | .string s=>some ((s.data.map fun b=>Value.int .u8 b.toNat).toList)
 | _=>none
def notBasic:Value→Bool
 | .int .. | .float .. | .complex .. | .string _=>false
 | _=>true
def UponS (P:Program) (K:Value→St→Prop) (nx:Next) (S:St):Prop:=
 match nx with
 | .value v=>K v S
 | .skip=>K undef S
 | .enter f args=>Calls1 P f args S K
 | .round l f tmps assign body=>Round1 P l f tmps assign body S K
 | _=>False
structure CallvW (P:Program) (S:St) (K:Value→St→Prop) (f:Option Value) (vs:Option (List Value)):Prop where
 h:match f,vs with
  | some (.func (.func f) first captured),some vs=>vB P (callFunc f (first++vs.toArray++captured)) S (UponS P K) (fun _ _=>False)
  | some (.func (.yield l) first _),some vs=>first=#[]∧vB P (Instr.yield l vs.toArray) S (UponS P K) (fun _ _=>False)
  | _,_=>False
inductive RawW (P:Program) (E:Env) (S:St) (K:Value→St→Prop) (op:Op) (ty:TypeId):Prop
 | mk (h:∀ ρ:Operand→Value,(∀ x∈op.operands.toList,∀ v,E.ev x=some v→ρ x=v)→vB P (execOp ρ {dst:=none,op:=op,type:=ty,pos := "",after:=#[],guard:=none}) S (UponS P K) (fun _ _=>False))
 | comm (h:∀ ρ:Operand→Value,(∀ x∈op.operands.toList,∀ v,E.ev x=some v→ρ x=v)→CommO P ρ op S K)
def SOp.W (P:Program) (E:Env) (S:St) (K:Value→St→Prop):SOp→Prop
  | .mv x=>∃ v,E.ev x=some v∧K v S
  | .pick c a b=>match E.ev c,E.ev a,E.ev b with
    | some (.bool t),some va,some vb=>K (if t then va else vb) S
    | _,_,_=>False
  | .alloc elem z=>∀ b,S b=none→K (.pointer (some ⟨b,0,none⟩)) (S.put b (.cells z.cells elem))
  | .box elem x=>∃ v,E.ev x=some v∧∀ b,S b=none→K (.pointer (some ⟨b,0,none⟩)) (S.put b (.cells v.cells elem))
  | .build z places parts=>match partsOf E parts with
    | some ps=>∃ cs,Instr.fill (places[·]?) z ps=some cs∧K (.agg cs) S
    | none=>False
  | .buildSlice elem size n init parts=>match partsOf E parts with
    | some ps=>∃ cs,Instr.fill (fun i=>some (i*size,size)) init ps=some cs∧∀ b,S b=none→K (.slice (some ⟨b,0,none⟩) n n) (S.put b (.cells cs elem))
    | none=>False
  | .load1 x=>match E.ev x with
    | some (.pointer (some a))=>∃ v,S.cell? a=some v∧K v S
    | _=>False
  | .loadN n x=>match E.ev x with
    | some (.pointer (some a))=>∃ vs,S.cells? a n=some vs∧K (.agg vs.toArray) S
    | _=>False
  | .store n x v=>match E.ev x,E.ev v with
    | some (.pointer (some a)),some u=>a.spot=none∧u.cells.size=n∧(∀ y∈u.cells.toList,vV y=true)∧∃ c e f,S a.block=some ⟨.cells c e f,true⟩∧f.2≤f.1∧a.off+n≤c.size ∧
        K undef (if n=0 then S else S.put a.block (.cells (setCells c a.off u.cells.toList) e f))
    | _,_=>False
  | .nilchk x=>match E.ev x with
    | some (.pointer (some a))=>K (.pointer (some a)) S
    | some (.func (.func f) fs cs)=>K (.func (.func f) fs cs) S
    | _=>False
  | .bin op x y=>match E.ev x,E.ev y with
    | some (.int k a),some (.int k' b)=>k=k'∧∃ v,binI op k a b=some v∧K v S
    | some (.string a),some (.string b)=>∃ v,binS op a b=some v∧K v S
    | _,_=>False
  | .eqv neg t x y=>match E.ev x,E.ev y with
    | some a,some b=>notBasic a=true∧vB P (do eqGuard (if neg then .neq else .eql) t x y a b;Op.equal t a b) S (fun r S'=>K (.bool (r != neg)) S') (fun _ _=>False)
    | _,_=>False
  | .not x=>match E.ev x with
    | some (.bool t)=>K (.bool !t) S
    | _=>False
  | .conv k x=>match E.ev x with
    | some (.int _ n)=>K (.int k (k.wrap n)) S
    | _=>False
  | .strBytes elem x=>match E.ev x with
    | some (.string s)=>∀ cap b,s.size≤cap→S b=none→K (.slice (some ⟨b,0,none⟩) s.size cap)
        (S.put b (.cells ((s.data.map fun c=>Value.int .u8 c.toNat)++Array.replicate (cap-s.size) (.int .u8 0)) elem (cap,cap+1)))
    | _=>False
  | .bytesStr x=>match E.ev x with
    | some (.slice (some a) n _)=>∃ vs bs,S.cells? a n=some vs∧bytesOf vs=some bs∧K (.string ⟨bs.toArray⟩) S
    | _=>False
  | .fieldAddr off x=>match E.ev x with
    | some (.pointer (some a))=>K (.pointer (some (a.add off))) S
    | _=>False
  | .strIdx x i=>match E.ev x,E.ev i with
    | some (.string s),some (.int _ n)=>0≤n∧∃ c,s[n.toNat]? = some c∧K (.int .u8 c.toNat) S
    | _,_=>False
  | .idxAddr size x i=>match E.ev x,E.ev i with
    | some (.slice (some a) n _),some (.int _ j)=>0≤j∧j<n∧K (.pointer (some (a.add (j.toNat*size)))) S
    | _,_=>False
  | .sliceS x lo hi=>match E.ev x,E.evo lo,E.evo hi with
    | some (.string s),some l,some h=>∃ r,bnds s.size s.size l h none=some r∧K (.string (s.extract r.1 r.2.1)) S
    | _,_,_=>False
  | .sliceL size x lo hi mx=>match E.ev x,E.evo lo,E.evo hi,E.evo mx with
    | some (.slice a n cap),some l,some h,some m=>∃ r,bnds n cap l h m=some r∧K (.slice (if r.2.2=r.1 then a else a.map (·.add (r.1*size))) (r.2.1-r.1) (r.2.2-r.1)) S
    | _,_,_,_=>False
  | .extract x i=>match E.ev x with
    | some (.tuple vs)=>∃ v,vs[i]? = some v∧K v S
    | _=>False
  | .call f args=>match E.evs args with
    | some vs=>Calls1 P f vs.toArray S K
    | none=>False
  | .callv x args=>CallvW P S K (E.ev x) (E.evs args)
  | .lenS x=>match E.ev x with
    | some (.string s)=>K (goInt s.size) S
    | _=>False
  | .lenL x=>match E.ev x with
    | some (.slice _ n _)=>K (goInt n) S
    | _=>False
  | .mkFunc fn first captured=>match E.evs first,E.evs captured with
    | some fs,some cs=>K (.func fn fs.toArray cs.toArray) S
    | _,_=>False
  | .append elem size bytes z x y=>match E.ev x,E.ev y with
    | some (.slice base n cap),some v=>bytes≠0∧∃ m old new,lenV v=some m∧readC S (n*size) (.slice base n cap)=some old∧readC S (m*size) v=some new ∧
        (n+m≤cap→match base with
          | some a=>a.spot=none∧(∀ u∈new,vV u=true)∧∃ c e f,S a.block=some ⟨.cells c e f,true⟩∧f.2≤f.1∧a.off+n*size+new.length≤c.size ∧
              K (.slice (some a) (n+m) cap) (if new=[] then S else S.put a.block (.cells (setCells c (a.off+n*size) new) e f))
          | none=>K (.slice none (n+m) cap) S) ∧
        (cap<n+m→Builtin.nextslicecap (n+m) cap*bytes≤2 ^ 48 ∧
          ∀ nc b,n+m≤nc→S b=none→K (.slice (some ⟨b,0,none⟩) (n+m) nc) (S.put b (.cells (old.toArray++new.toArray++Builtin.zeroCells z.cells (nc-(n+m))) elem)))
    | _,_=>False
  | .mkSlice elem size bytes z x y=>match E.ev x,E.ev y with
    | some (.int .i64 l),some (.int .i64 c)=>0≤l∧l≤c∧c≤IntKind.i64.max∧bytes*c≤2 ^ 48∧∀ b,S b=none →
        K (.slice (some ⟨b,0,none⟩) l.toNat c.toNat) (S.put b (.cells ((Array.range (c.toNat*size)).map ((if c.toNat*size=0 then #[] else z.cells)[· % (if c.toNat*size=0 then #[] else z.cells).size]!)) elem))
    | _,_=>False
  | .min2 x y=>match E.ev x,E.ev y with
    | some (.int k a),some (.int _ b)=>K (.int k (if b<a then b else a)) S
    | _,_=>False
  | .max2 x y=>match E.ev x,E.ev y with
    | some (.int k a),some (.int _ b)=>K (.int k (if b>a then b else a)) S
    | _,_=>False
  | .mkIface t x=>∃ v,E.ev x=some v∧K (.iface t v) S
  | .mkMap=>∀ b,S b=none→K (.map (some b)) (S.put b (.map #[] 0))
  | .raw op ty=>RawW P E S K op ty
def SlimOk (P:Program) (op:Op) (ty:TypeId) (s:SOp):Prop:=
 ∀ (E:Env) (ρ:Operand→Value) (S:St) (K:Value→St→Prop) (o:Oper),o.op=op→o.type=ty→(∀ x v,E.ev x=some v→ρ x=v)→s.W P E S K→vB P (execOp ρ o) S (UponS P K) (fun _ _=>False)
section
variable {P:Program}
theorem slim_mv (x:Operand) (ty:TypeId):SlimOk P (.move x) ty (.mv x):=by
 rintro E ρ S K o ho _ hρ ⟨v,hv,hK⟩
 simp only [execOp,ho,zF,UponS,hρ _ _ hv];exact hK
theorem slim_assign (x:Operand) (ty:TypeId):SlimOk P (.assign x) ty (.mv x):=by
 rintro E ρ S K o ho _ hρ ⟨v,hv,hK⟩
 simp only [execOp,ho,zF,UponS,hρ _ _ hv];exact hK
theorem slim_pick (c a b:Operand) (ty:TypeId):SlimOk P (.pick c a b) ty (.pick c a b):=by
 intro E ρ S K o ho _ hρ h
 simp only [SOp.W] at h
 split at h
 ·rename_i t va vb h1 h2 h3
  simp only [execOp,ho,hρ _ _ h1,hρ _ _ h2,hρ _ _ h3,asBool,zy,zF,UponS]
  exact h
 ·exact h.elim
theorem slim_alloc {elem:TypeId} {i:TypeInfo} {z:Value} (hi:P.info? elem=some i) (hz:i.zero=some z) (ty:TypeId):SlimOk P (.alloc elem) ty (.alloc elem z):=by
 intro E ρ S K o ho _ hρ h
 simp only [execOp,ho,Instr.alloc,zy,semW_zeroValue hi hz,newVar]
 exact semW_newRow fun b hb=>h b hb
theorem slim_box (elem:TypeId) (x:Operand) (ty:TypeId):SlimOk P (.box elem x) ty (.box elem x):=by
 rintro E ρ S K o ho _ hρ ⟨v,hv,h⟩
 simp only [execOp,ho,Instr.box,zy,newVar,hρ _ _ hv]
 exact semW_newRow fun b hb=>h b hb
theorem slim_load1 {ty0:TypeId} (hA:aggT P ty0=some false) (x:Operand) (ty:TypeId):SlimOk P (.load ty0 x) ty (.load1 x):=by
 intro E ρ S K o ho _ hρ h
 simp only [SOp.W] at h
 split at h
 ·rename_i a ha
  obtain ⟨v,hv,hK⟩:=h
  simp only [execOp,ho,hρ _ _ ha,Instr.loadAt,Instr.sureAddr,loadVar,zy,zF,semW_isAgg hA,Bool.false_eq_true,if_false]
  exact semW_load hv hK
 ·exact h.elim
theorem slim_loadN {ty0:TypeId} {i:TypeInfo} (hA:aggT P ty0=some true) (hi:P.info? ty0=some i) (x:Operand) (ty:TypeId):SlimOk P (.load ty0 x) ty (.loadN i.size x):=by
 intro E ρ S K o ho _ hρ h
 simp only [SOp.W] at h
 split at h
 ·rename_i a ha
  obtain ⟨v,hv,hK⟩:=h
  simp only [execOp,ho,hρ _ _ ha,Instr.loadAt,Instr.sureAddr,loadVar,zy,zF,semW_isAgg hA,if_true,semW_sizeOf hi]
  exact semW_loadCells hv hK
 ·exact h.elim
theorem slim_store {ty0:TypeId} {i:TypeInfo} (hi:P.info? ty0=some i) (x v:Operand) (ty:TypeId):SlimOk P (.store ty0 x v) ty (.store i.size x v):=by
 intro E ρ S K o ho _ hρ h
 simp only [SOp.W] at h
 split at h
 ·rename_i a u ha hu
  obtain ⟨hsp,hsz,h1,c,e,f,hb,hf,hl,hK⟩:=h
  simp only [execOp,ho,hρ _ _ ha,hρ _ _ hu,Instr.storeAt,Instr.sureAddr,storeVar,zy,zF,semW_sizeOf hi,hsz,ne_eq,not_true,if_false]
  refine semW_storeCells hsp _ 0 S c e f hb hf (by simpa [hsz] using hl) h1 ?_
  simp only [Nat.add_zero,UponS]
  by_cases h0:i.size=0
  ·have:u.cells.toList=[]:=by rw [← Array.toList_eq_nil_iff.2 (Array.eq_empty_of_size_eq_zero (hsz.trans h0))]
   simpa [this,h0] using hK
  ·have:u.cells.toList≠[]:=fun hc=>h0 (by rw [← hsz,← Array.length_toList,hc];rfl)
   simpa [this,h0] using hK
 ·exact h.elim
theorem slim_nilchk (x:Operand) (ty:TypeId):SlimOk P (.nilCheck x) ty (.nilchk x):=by
 intro E ρ S K o ho _ hρ h
 simp only [SOp.W] at h
 split at h
 ·rename_i a ha
  simp only [execOp,ho,hρ _ _ ha,zF,UponS]
  exact h
 ·rename_i f fs cs ha
  simp only [execOp,ho,hρ _ _ ha,zF,UponS]
  exact h
 ·exact h.elim
theorem semW_guard_int {K:Unit→St→Prop} {Kp:Value→St→Prop} (op:BinOp) (t:TypeId) (x y:Operand) (k k':IntKind) (a b:Int) (S:St) (h:K () S):vB P (eqGuard op t x y (.int k a) (.int k' b)) S K Kp:=by
 unfold eqGuard
 cases op<;>simpa [zF] using h
theorem semW_guard_str {K:Unit→St→Prop} {Kp:Value→St→Prop} (op:BinOp) (t:TypeId) (x y:Operand) (a b:ByteArray) (S:St) (h:K () S):vB P (eqGuard op t x y (.string a) (.string b)) S K Kp:=by
 unfold eqGuard
 cases op<;>simpa [zF] using h
theorem slim_bin (op:BinOp) (t0 t1:TypeId) (x y:Operand) (ty:TypeId):SlimOk P (.binOp op t0 x y t1) ty (.bin op x y):=by
 intro E ρ S K o ho _ hρ h
 simp only [SOp.W] at h
 split at h
 ·rename_i k a k' b ha hb
  obtain ⟨rfl,v,hv,hK⟩:=h
  simp only [execOp,ho,hρ _ _ ha,hρ _ _ hb,zy]
  refine semW_guard_int _ _ _ _ _ _ _ _ _ ?_
  unfold binI at hv
  split at hv
  all_goals first
   | cases hv
   | skip
  all_goals first
   | (simpa [binOp,Op.intArith,Op.intCmp,Op.intBits,zF,UponS] using hK)
   | skip
  all_goals
   split at hv
   ·cases hv
   ·rename_i hne
    cases hv
    simpa [binOp,Op.intDiv,hne,zF,UponS] using hK
 ·rename_i a b ha hb
  obtain ⟨v,hv,hK⟩:=h
  simp only [execOp,ho,hρ _ _ ha,hρ _ _ hb,zy]
  refine semW_guard_str _ _ _ _ _ _ _ ?_
  unfold binS at hv
  split at hv
  ·split at hv
   ·cases hv
   ·rename_i hle
    cases hv
    simp only [binOp,Op.stringOp,hle,if_false,zF,UponS];exact hK
  ·cases hv;simpa [binOp,Op.stringOp,zF,UponS] using hK
  ·cases hv;simpa [binOp,Op.stringOp,zF,UponS] using hK
  ·cases hv
 ·exact h.elim
theorem slim_not (t:TypeId) (x:Operand) (ty:TypeId):SlimOk P (.unOp .not t x) ty (.not x):=by
 intro E ρ S K o ho _ hρ h
 simp only [SOp.W] at h
 split at h
 ·rename_i b hb
  simp only [execOp,ho,hρ _ _ hb,Op.unary,zy,zF,UponS]
  exact h
 ·exact h.elim
theorem slim_conv {src dst:TypeId} {d:TypeDesc} {k:IntKind} (hs:P.underlying src=some d) (hd:P.underlying dst=some (.int k)) (x:Operand) (ty:TypeId):SlimOk P (.convert src dst x) ty (.conv k x):=by
 intro E ρ S K o ho _ hρ h
 simp only [SOp.W] at h
 split at h
 ·rename_i k' n hn
  simp only [execOp,ho,hρ _ _ hn,convert,zy,zT hs,zT hd]
  cases d<;>(simp only [Conv.intToInt,zF,UponS];exact h)
 ·exact h.elim
theorem slim_fieldAddr {s:TypeId} {fs:Array Field} {i:Nat} {f:Field} {ti:TypeInfo} (hu:P.underlying s=some (.struct fs)) (hf:fs[i]? = some f) (hi:P.info? f.type=some ti) (h0:ti.size≠0) (x:Operand) (ty:TypeId) :
    SlimOk P (.fieldAddr s x i) ty (.fieldAddr f.offset x):=by
  intro E ρ S K o ho _ hρ h
  simp only [SOp.W] at h
  split at h
  · rename_i a ha
    simp only [execOp,ho,hρ _ _ ha,Instr.fieldAt,zy,zT hu,hf,Instr.sureAddr,zF,fieldPlace,semW_sizeOf hi,h0,if_false,UponS]
    exact h
  · exact h.elim
theorem slim_strIdx {t:TypeId} (hu:P.underlying t=some .string) (x i:Operand) (ty:TypeId):SlimOk P (.index t x i) ty (.strIdx x i):=by
 intro E ρ S K o ho _ hρ h
 simp only [SOp.W] at h
 split at h
 ·rename_i s k n hs hn
  obtain ⟨h0,c,hc,hK⟩:=h
  simp only [execOp,ho,hρ _ _ hs,hρ _ _ hn,Instr.index,asIntOf,zy,zF,zT hu,h0,if_true,hc,UponS]
  exact hK
 ·exact h.elim
theorem slim_idxAddr {t e:TypeId} {ti:TypeInfo} (hu:P.underlying t=some (.slice e)) (hi:P.info? e=some ti) (x i:Operand) (ty:TypeId):SlimOk P (.indexAddr t x i) ty (.idxAddr ti.size x i):=by
 intro E ρ S K o ho _ hρ h
 simp only [SOp.W] at h
 split at h
 ·rename_i a n cap k j hs hn
  obtain ⟨h0,h1,hK⟩:=h
  simp only [execOp,ho,hρ _ _ hs,hρ _ _ hn,Instr.indexAt,asIntOf,zy,zF,zT hu,h0,h1,and_self,if_true,semW_sizeOf hi,UponS]
  exact hK
 ·exact h.elim
theorem slim_extract (x:Operand) (i:Nat) (ty:TypeId):SlimOk P (.extract x i) ty (.extract x i):=by
 intro E ρ S K o ho _ hρ h
 simp only [SOp.W] at h
 split at h
 ·rename_i vs hs
  obtain ⟨v,hv,hK⟩:=h
  simp only [execOp,ho,hρ _ _ hs,Instr.extract,hv,zy,zF,UponS]
  exact hK
 ·exact h.elim
theorem slim_eql (t0 t1:TypeId) (x y:Operand) (ty:TypeId):SlimOk P (.binOp .eql t0 x y t1) ty (.eqv false t0 x y):=by
 intro E ρ S K o ho _ hρ h
 simp only [SOp.W] at h
 split at h
 ·rename_i a b ha hb
  obtain ⟨hnb,h⟩:=h
  have e:binOp .eql t0 a b=(do pure (.bool (← Op.equal t0 a b))):=by cases a<;>first | rfl | (simp [notBasic] at hnb)
  simp only [zy,Bool.false_eq_true,if_false] at h
  simp only [execOp,ho,hρ _ _ ha,hρ _ _ hb,zy,e,zF,UponS]
  refine semW_mono (fun _ S1 h1=>semW_mono (fun r S2 h2=>?_) (fun _ _ hf=>hf) _ _ h1) (fun _ _ hf=>hf) _ _ h
  simpa using h2
 ·exact h.elim
theorem slim_neq (t0 t1:TypeId) (x y:Operand) (ty:TypeId):SlimOk P (.binOp .neq t0 x y t1) ty (.eqv true t0 x y):=by
 intro E ρ S K o ho _ hρ h
 simp only [SOp.W] at h
 split at h
 ·rename_i a b ha hb
  obtain ⟨hnb,h⟩:=h
  have e:binOp .neq t0 a b=(do pure (.bool (!(← Op.equal t0 a b)))):=by cases a<;>first | rfl | (simp [notBasic] at hnb)
  simp only [zy,if_true] at h
  simp only [execOp,ho,hρ _ _ ha,hρ _ _ hb,zy,e,zF,UponS]
  refine semW_mono (fun _ S1 h1=>semW_mono (fun r S2 h2=>?_) (fun _ _ hf=>hf) _ _ h1) (fun _ _ hf=>hf) _ _ h
  simpa using h2
 ·exact h.elim
theorem semW_sliceBound {K:Nat→St→Prop} {Kp:Value→St→Prop} {k:IntKind} {i:Int} {y:Nat} (code:BoundsCode) (S:St) (h:0≤i∧i≤y) (hK:K i.toNat S):vB P (Instr.sliceBound (.int k i) y code) S K Kp:=by
 unfold Instr.sliceBound
 simp only [asIntOf,zy,zF,h,and_self,if_true]
 exact hK
theorem bnd_some {v:Value} {y d r:Nat} (h:bnd (some v) y d=some r):∃ k i,v=.int k i∧(0≤i∧i≤y)∧r=i.toNat:=by
 unfold bnd at h
 split at h
 ·rename_i e;cases e
 ·rename_i k i e
  cases e
  split at h
  ·rename_i hc;cases h;exact ⟨k,i,rfl,hc,rfl⟩
  ·cases h
 ·cases h
theorem semW_bounds {K:Nat × Nat × Nat→St→Prop} {Kp:Value→St→Prop} (isS:Bool) (n cap:Nat) (lo hi mx:Option Value) (S:St) {r:Nat × Nat × Nat} (h:bnds n cap lo hi mx=some r) (hK:K r S) :
    vB P (Instr.sliceBounds isS n cap lo hi mx) S K Kp:=by
  unfold bnds at h
  split at h
  · cases h
  rename_i m hm
  unfold Instr.sliceBounds
  cases mx with
  | none=>
    simp only [bnd,Option.some.injEq] at hm
    subst hm
    cases hi with
    | none=>
      simp only [bnd] at h
      cases lo with
      | none=>
        cases h
        simp only [zy,zF]
        exact hK
      | some v=>
        split at h
        · cases h
        rename_i l hl
        cases h
        obtain ⟨k,i,rfl,hc,rfl⟩:=bnd_some hl
        simp only [zy,zF]
        exact semW_sliceBound _ _ hc hK
    | some v=>
      simp only [Option.isSome_none,Bool.false_eq_true,if_false] at h
      split at h
      · cases h
      rename_i hv hh
      obtain ⟨k,i,rfl,hc,rfl⟩:=bnd_some hh
      simp only [zy,zF]
      refine semW_sliceBound _ _ hc ?_
      cases lo with
      | none=>
        cases h
        exact hK
      | some v=>
        split at h
        · cases h
        rename_i l hl
        cases h
        obtain ⟨k,i,rfl,hc,rfl⟩:=bnd_some hl
        simp only [zy,zF]
        exact semW_sliceBound _ _ hc hK
  | some vm=>
    obtain ⟨k,i,rfl,hc,rfl⟩:=bnd_some hm
    cases hi with
    | none=>cases h
    | some v=>
      simp only [Option.isSome_some,if_true] at h
      split at h
      · cases h
      rename_i hv hh
      obtain ⟨k,i,rfl,hc',rfl⟩:=bnd_some hh
      simp only [zy]
      refine semW_sliceBound _ _ hc ?_
      refine semW_sliceBound _ _ hc' ?_
      cases lo with
      | none=>
        cases h
        exact hK
      | some v=>
        split at h
        · cases h
        rename_i l hl
        cases h
        obtain ⟨k,i,rfl,hc,rfl⟩:=bnd_some hl
        simp only [zy,zF]
        exact semW_sliceBound _ _ hc hK
theorem evo_map {E:Env} {ρ:Operand→Value} (hρ:∀ x v,E.ev x=some v→ρ x=v) {x:Option Operand} {v:Option Value} (h:E.evo x=some v):x.map ρ=v:=by
 cases x with
 | none=>cases h;rfl
 | some y=>
  simp only [Env.evo,Option.map_eq_some_iff] at h
  obtain ⟨u,hu,rfl⟩:=h
  simp [hρ _ _ hu]
theorem slim_sliceS {t:TypeId} (hu:P.underlying t=some .string) (x:Operand) (lo hi:Option Operand) (ty:TypeId):SlimOk P (.slice t x lo hi none) ty (.sliceS x lo hi):=by
 intro E ρ S K o ho _ hρ h
 simp only [SOp.W] at h
 split at h
 ·rename_i s l hh hs h1 h2
  obtain ⟨r,hr,hK⟩:=h
  simp only [execOp,ho,hρ _ _ hs,evo_map hρ h1,evo_map hρ h2,Instr.sliceAt,zy,zT hu,Instr.slice,Option.map_none,Option.isSome_none,Bool.false_eq_true,if_false]
  simp only [zF]
  exact semW_bounds _ _ _ _ _ _ _ hr (by simpa [zF,UponS] using hK)
 ·exact h.elim
theorem slim_sliceL {t e:TypeId} {ti:TypeInfo} (hu:P.underlying t=some (.slice e)) (hi:P.info? e=some ti) (x:Operand) (lo hi' mx:Option Operand) (ty:TypeId):SlimOk P (.slice t x lo hi' mx) ty (.sliceL ti.size x lo hi' mx):=by
 intro E ρ S K o ho _ hρ h
 simp only [SOp.W] at h
 split at h
 ·rename_i a n cap l hh m hs h1 h2 h3
  obtain ⟨r,hr,hK⟩:=h
  simp only [execOp,ho,hρ _ _ hs,evo_map hρ h1,evo_map hρ h2,evo_map hρ h3,Instr.sliceAt,zy,zT hu,Instr.slice]
  refine semW_bounds _ _ _ _ _ _ _ hr ?_
  simp only [semW_sizeOf hi,zF,UponS]
  exact hK
 ·exact h.elim
theorem evs_map {E:Env} {ρ:Operand→Value} (hρ:∀ x v,E.ev x=some v→ρ x=v):∀ {xs:List Operand} {vs:List Value},E.evs xs=some vs→xs.map ρ=vs:=by
 intro xs
 induction xs with
 | nil=>intro vs hv;cases hv;rfl
 | cons x xs ih=>
  intro vs hv
  simp only [Env.evs] at hv
  split at hv
  ·rename_i v ws h1 h2
   cases hv
   simp [hρ _ _ h1,ih h2]
  ·cases hv
theorem exec_builtin {ρ:Operand→Value} {o:Oper} {b:Builtin} {args:Array Operand} {at':Array TypeId} (ho:o.op=.call {callee:=.builtin b,args:=args,argTypes:=at'}) :
    execOp ρ o=builtin b at' o.type (args.map fun | .const _=>true | _=>false) (args.map ρ):=by
  simp only [execOp,ho,resolve]
  rfl
theorem slim_lenS {t:TypeId} {args:Array Operand} {x:Operand} (ha:args=#[x]) (hu:P.underlying t=some .string) {at':Array TypeId} (hat:at'[0]? = some t) (ty:TypeId) :
    SlimOk P (.call {callee:=.builtin .len,args:=args,argTypes:=at'}) ty (.lenS x):=by
  intro E ρ S K o ho hty hρ h
  subst ha
  rw [exec_builtin ho]
  simp only [SOp.W] at h
  split at h
  · rename_i s hs
    simp only [builtin,Builtin.len_,hat,hρ _ _ hs,List.map_toArray,List.map_cons,List.map_nil,List.getElem?_toArray,List.getElem?_cons_zero,zy,zT hu]
    exact h
  · exact h.elim
theorem slim_lenL {t e:TypeId} {args:Array Operand} {x:Operand} (ha:args=#[x]) (hu:P.underlying t=some (.slice e)) {at':Array TypeId} (hat:at'[0]? = some t) (ty:TypeId) :
    SlimOk P (.call {callee:=.builtin .len,args:=args,argTypes:=at'}) ty (.lenL x):=by
  intro E ρ S K o ho hty hρ h
  subst ha
  rw [exec_builtin ho]
  simp only [SOp.W] at h
  split at h
  · rename_i a n c hs
    simp only [builtin,Builtin.len_,hat,hρ _ _ hs,List.map_toArray,List.map_cons,List.map_nil,List.getElem?_toArray,List.getElem?_cons_zero,zy,zT hu]
    exact h
  · exact h.elim
theorem slim_call {f:FuncId} {fn:Func} {args:Array Operand} {at':Array TypeId} (hf:P.funcs[f]? = some fn) (hb:fn.body.isSome=true) (hn:fn.name ≠ "runtime.NumGoroutine") (ty:TypeId) :
    SlimOk P (.call {callee:=.value (.func f),args:=args,argTypes:=at'}) ty (.call f args.toList):=by
  intro E ρ S K o ho hty hρ h
  simp only [SOp.W] at h
  split at h
  · rename_i vs hvs
    have hm:=evs_map hρ hvs
    have h1:args.map ρ=vs.toArray:=by rw [← hm,← Array.toList_map,Array.toArray_toList]
    have hf0:ρ (.func f)=.func (.func f) #[] #[]:=hρ _ _ rfl
    have hbn:fn.body.isNone=false:=by cases hx:fn.body<;>simp_all
    have hnn:(fn.name == "runtime.NumGoroutine")=false:=by simpa using hn
    simp only [execOp,ho,resolve,hf0,Deferred.ofValue,zy,zF,invoke,callFunc,program,vB,hf,hnn,hbn,Bool.false_eq_true,if_false,UponS,h1]
    simpa using h
  · exact h.elim
theorem slim_callv {x:Operand} {args:Array Operand} {at':Array TypeId} (_hx:∃ t,x=.tmp t) (ty:TypeId) :
    SlimOk P (.call {callee:=.value x,args:=args,argTypes:=at'}) ty (.callv x args.toList):=by
  intro E ρ S K o ho hty hρ h
  simp only [SOp.W] at h
  obtain ⟨h⟩:=h
  split at h
  · rename_i f first captured vs hf hvs
    have hm:=evs_map hρ hvs
    have h1:args.map ρ=vs.toArray:=by rw [← hm,← Array.toList_map,Array.toArray_toList]
    simp only [execOp,ho,resolve,hρ _ _ hf,Deferred.ofValue,zy,zF,invoke,h1]
    exact h
  · rename_i l a1 a2 vs hf hvs
    obtain ⟨rfl,h⟩:=h
    have hm:=evs_map hρ hvs
    have h1:args.map ρ=vs.toArray:=by rw [← hm,← Array.toList_map,Array.toArray_toList]
    simp only [execOp,ho,resolve,hρ _ _ hf,Deferred.ofValue,zy,zF,invoke,h1,Array.empty_append]
    exact h
  · exact h.elim
theorem slim_mkFunc {fn:Fn} {first captured:Array Operand} (ty:TypeId):SlimOk P (.makeFunc fn first captured) ty (.mkFunc fn first.toList captured.toList):=by
 intro E ρ S K o ho hty hρ h
 simp only [SOp.W] at h
 split at h
 ·rename_i fs cs h1 h2
  have e1:first.map ρ=fs.toArray:=by rw [← evs_map hρ h1,← Array.toList_map,Array.toArray_toList]
  have e2:captured.map ρ=cs.toArray:=by rw [← evs_map hρ h2,← Array.toList_map,Array.toArray_toList]
  simp only [execOp,ho,Instr.makeFunc,e1,e2,zy,zF,UponS]
  exact h
 ·exact h.elim
theorem semW_markStringish {K:Unit→St→Prop} {Kp:Value→St→Prop} {a:Addr} {c:Array Value} {e:TypeId} {S:St} (hs:S a.block=some ⟨.cells c e (0,0),true⟩)
    (hK:K () (S.put a.block (.cells c e (c.size,c.size+1)))):vB P (markStringish a) S K Kp:=by
  unfold markStringish shape freeze
  simp only [zy,vB,hs]
  exact ⟨.cells c e (0,0),rfl,by simpa [freezeObj] using hK⟩
theorem slim_strBytes {src dst e:TypeId} {d:TypeDesc} (hs:P.underlying src=some d) (hd:P.underlying dst=some (.slice e)) (he:P.underlying e=some (.int .u8)) (x:Operand) (ty:TypeId):SlimOk P (.convert src dst x) ty (.strBytes e x):=by
 intro E ρ S K o ho hty hρ h
 simp only [SOp.W] at h
 split at h
 ·rename_i s hsx
  simp only [execOp,ho,hρ _ _ hsx,convert,zy,zT hs,zT hd]
  have key:vB P (Conv.stringToBytes e s) S (fun v S'=>UponS P K (.value v) S') (fun _ _=>False):=by
   unfold Conv.stringToBytes
   simp only [zy,choose,vB]
   intro t
   obtain ⟨m,hm,hle⟩:∃ m,(Question.appendCap s.size 0 e).cut t=m∧s.size≤m:=⟨_,rfl,Nat.le_add_right _ _⟩
   have hq:(Question.appendCap s.size 0 e).forced=false:=rfl
   rw [hq,hm]
   simp only [Bool.false_eq_true,if_false]
   refine semW_newRow fun b hb=>semW_markStringish (St.put_same _ _ _) ?_
   have:=h m b hle hb
   simp only [St.put_put,zF,UponS]
   have hsz:(s.data.map (fun b=>Value.int .u8 b.toNat)++Array.replicate (m-s.size) (Value.int .u8 0)).size=m:=by
    have:s.data.size=s.size:=rfl
    simp only [Array.size_append,Array.size_map,Array.size_replicate,this];omega
   rw [hsz]
   exact this
  cases d<;>(simp only [zT he];exact key)
 ·exact h.elim
def SlimOkC (P:Program) (op:Op) (ty:TypeId) (s:SOp):Prop:=
 ∀ (E:Env) (ρ:Operand→Value) (S:St) (K:Value→St→Prop) (o:Oper),o.op=op→o.type=ty→(∀ x v,E.ev x=some v→ρ x=v)→s.W P E S K→vB P (execOp ρ o) S (UponS P K) (fun _ _=>False)∨CommO P ρ o.op S K
theorem SlimOk.toC {op:Op} {ty:TypeId} {s:SOp} (h:SlimOk P op ty s):SlimOkC P op ty s:=fun E ρ S K o h1 h2 h3 h4=>.inl (h E ρ S K o h1 h2 h3 h4)
theorem slim_raw (op:Op) (ty:TypeId):SlimOkC P op ty (.raw op ty):=by
 intro E ρ S K o ho hty hρ h
 have e:execOp ρ o=execOp ρ {dst:=none,op:=op,type:=ty,pos := "",after:=#[],guard:=none}:=by
  subst ho hty;rfl
 cases h with
 | mk h=>rw [e];exact .inl (h ρ fun x _ v=>hρ x v)
 | comm h=>rw [ho];exact .inr (h ρ fun x _ v=>hρ x v)
theorem Sem.bind_assoc {α β γ:Type} (s:Sem α) (f:α→Sem β) (g:β→Sem γ):(s.bind f).bind g=s.bind fun a=>(f a).bind g:=by
 induction s with
 | pure a=>rfl
 | halt h=>rfl
 | load m a k ih=>simp only [Sem.bind,ih]
 | store m a v k ih=>simp only [Sem.bind,ih]
 | new o k ih=>simp only [Sem.bind,ih]
 | shape r k ih=>simp only [Sem.bind,ih]
 | freeze a n k ih=>simp only [Sem.bind,ih]
 | frozen a k ih=>simp only [Sem.bind,ih]
 | getObj r k ih=>simp only [Sem.bind,ih]
 | setObj r o k ih=>simp only [Sem.bind,ih]
 | choose q k ih=>simp only [Sem.bind,ih]
 | sys c k ih=>simp only [Sem.bind,ih]
 | program k ih=>simp only [Sem.bind,ih]
 | mark m k ih=>simp only [Sem.bind,ih]
theorem Sem.bind_pure {α:Type} (s:Sem α):s.bind Sem.pure=s:=by
 induction s with
 | pure a=>rfl
 | halt h=>rfl
 | load m a k ih=>simp only [Sem.bind,ih]
 | store m a v k ih=>simp only [Sem.bind,ih]
 | new o k ih=>simp only [Sem.bind,ih]
 | shape r k ih=>simp only [Sem.bind,ih]
 | freeze a n k ih=>simp only [Sem.bind,ih]
 | frozen a k ih=>simp only [Sem.bind,ih]
 | getObj r k ih=>simp only [Sem.bind,ih]
 | setObj r o k ih=>simp only [Sem.bind,ih]
 | choose q k ih=>simp only [Sem.bind,ih]
 | sys c k ih=>simp only [Sem.bind,ih]
 | program k ih=>simp only [Sem.bind,ih]
 | mark m k ih=>simp only [Sem.bind,ih]
instance lawfulSem:LawfulMonad Sem:=LawfulMonad.mk' Sem
 (id_map:=fun s=>Sem.bind_pure s)
 (pure_bind:=fun _ _=>rfl)
 (bind_assoc:=fun s f g=>Sem.bind_assoc s f g)
theorem semW_mapM {α β:Type} {Kp:Value→St→Prop} (g:α→Sem β) (h:α→β):∀ (l:List α) (S:St) (K:List β→St→Prop),(∀ a∈l,∀ K':β→St→Prop,vB P (g a) S K' Kp=K' (h a) S)→K (l.map h) S→vB P (l.mapM g) S K Kp:=by
 intro l
 induction l with
 | nil=>intro S K _ hK;simpa [zF] using hK
 | cons a l ih=>
  intro S K hg hK
  simp only [List.mapM_cons,zy]
  rw [hg a (by simp)]
  refine ih S _ (fun b hb=>hg b (by simp [hb])) ?_
  simpa [zF] using hK
theorem semW_mapMA {α β:Type} {Kp:Value→St→Prop} (g:α→Sem β) (h:α→β) (l:Array α) (S:St) (K:Array β→St→Prop) (hg:∀ a∈l,∀ K':β→St→Prop,vB P (g a) S K' Kp=K' (h a) S) (hK:K (l.map h) S):vB P (l.mapM g) S K Kp:=by
 rw [← Array.toArray_toList (xs:=l),List.mapM_toArray]
 rw [map_eq_pure_bind,zy]
 refine semW_mapM g h _ S _ (fun a ha=>hg a (by simpa using ha)) ?_
 simp only [zF]
 rw [← Array.toList_map,Array.toArray_toList]
 exact hK
theorem partsOf_map {E:Env} {ρ:Operand→Value} (hρ:∀ x v,E.ev x=some v→ρ x=v):∀ {xs:List (Nat × Operand)} {vs:List (Nat × Value)},partsOf E xs=some vs→xs.map (fun (i,x)=>(i,ρ x))=vs:=by
 intro xs
 induction xs with
 | nil=>intro vs hv;cases hv;rfl
 | cons x xs ih=>
  obtain ⟨i,x⟩:=x
  intro vs hv
  simp only [partsOf] at hv
  split at hv
  ·rename_i v ws h1 h2
   cases hv
   simp [hρ _ _ h1,ih h2]
  ·cases hv
theorem slim_build {t:TypeId} {i:TypeInfo} {z:Value} {fs:Array Field} {places:List (Nat × Nat)} (hi:P.info? t=some i) (hz:i.zero=some z) (hu:P.underlying t=some (.struct fs))
    (hp:(fs.toList.map fun f=>(P.info? f.type).map fun ti=>(f.offset,ti.size))=places.map some) (parts:Array (Nat × Operand)) (ty:TypeId):SlimOk P (.build t parts) ty (.build z.cells places parts.toList):=by
  intro E ρ S K o ho hty hρ h
  simp only [SOp.W] at h
  split at h
  · rename_i ps hps
    obtain ⟨cs,hcs,hK⟩:=h
    simp only [execOp,ho,Instr.build,zy,semW_zeroValue hi hz,zT hu]
    have hpl:fs.map (fun f=>(f.offset,((P.info? f.type).map (·.size)).getD 0))=places.toArray:=by
      rw [← Array.toList_inj]
      simp only [Array.toList_map]
      have:=congrArg (List.map (fun x:Option (Nat × Nat)=>x.getD (0,0))) hp
      simp only [List.map_map] at this
      have h2:List.map ((fun x:Option (Nat × Nat)=>x.getD (0,0)) ∘ some) places=places:=by simp [Function.comp_def]
      rw [h2] at this
      rw [← this]
      apply List.map_congr_left
      intro f hf
      have hm:(P.info? f.type).map (fun ti=>(f.offset,ti.size))∈places.map some:=by rw [← hp];exact List.mem_map_of_mem hf
      cases hx:P.info? f.type with
      | none=>rw [hx] at hm;simp at hm
      | some ti=>simp [hx]
    refine semW_mapMA _ (fun f=>(f.offset,((P.info? f.type).map (·.size)).getD 0)) fs S _ ?_ ?_
    · intro f hf K'
      have hm:(P.info? f.type).map (fun ti=>(f.offset,ti.size))∈places.map some:=by rw [← hp];exact List.mem_map_of_mem (by simpa using hf)
      cases hx:P.info? f.type with
      | none=>rw [hx] at hm;simp at hm
      | some ti=>simp only [zy,semW_sizeOf hx,zF];simp
    · rw [hpl]
      have hpa:(parts.map fun (i,x)=>(i,ρ x)).toList=ps:=by rw [Array.toList_map];exact partsOf_map hρ hps
      simp only [hpa,List.getElem?_toArray,hcs,zF,UponS]
      exact hK
  · exact h.elim
theorem slim_buildSlice {t e:TypeId} {ti:TypeInfo} {z:Value} {n:Nat} {init:Array Value} (hu:P.underlying t=some (.slice e)) (hi:P.info? e=some ti) (hz:ti.zero=some z) (hb:decide (n*ti.size>2 ^ 24)=false)
    (hinit:(Array.range (n*ti.size)).map ((if n*ti.size=0 then #[] else z.cells)[· % (if n*ti.size=0 then #[] else z.cells).size]!)=init) (parts:Array (Nat × Operand)) (ty:TypeId) :
    SlimOk P (.buildSlice t n parts) ty (.buildSlice e ti.size n init parts.toList):=by
  intro E ρ S K o ho hty hρ h
  simp only [SOp.W] at h
  split at h
  · rename_i ps hps
    obtain ⟨cs,hcs,hK⟩:=h
    have hpa:(parts.map fun (i,x)=>(i,ρ x)).toList=ps:=by rw [Array.toList_map];exact partsOf_map hρ hps
    have hb':¬ (n*ti.size>2 ^ 24):=by simpa using hb
    simp only [execOp,ho,Instr.buildSlice,zy,zT hu,semW_sizeOf hi]
    rw [if_neg hb']
    have fin:vB P (do
        let a ← newRow e cs
        pure (Value.slice (some a) n n)) S (fun v S'=>UponS P K (.value v) S') (fun _ _=>False):=by
      rw [zy]
      exact semW_newRow fun b hb=>hK b hb
    by_cases h0:n*ti.size=0
    · simp only [h0,if_true] at hinit ⊢
      rw [zy,zF,hinit,hpa,hcs]
      exact fin
    · simp only [h0,if_false] at hinit ⊢
      simp only [zy,semW_zeroValue hi hz,zF]
      rw [hinit,hpa,hcs]
      exact fin
  · exact h.elim
theorem slim_mkIface {t:TypeId} {d:TypeDesc} (hu:P.underlying t=some d) (hd:(match d with | .interface _=>false | _=>true)=true) (x:Operand) (ty:TypeId):SlimOk P (.makeInterface t x) ty (.mkIface t x):=by
 rintro E ρ S K o ho hty hρ ⟨v,hv,hK⟩
 simp only [execOp,ho,hρ _ _ hv,Instr.makeInterface,zy,zT hu]
 cases d<;>first | (simp at hd;done) | exact hK
theorem slim_mkMap (t:TypeId) (ty:TypeId):SlimOk P (.makeMap t none) ty .mkMap:=by
 intro E ρ S K o ho hty hρ h
 simp only [execOp,ho,Instr.makeMap,Option.map_none,zy,newObj,vB,zF]
 exact h
theorem slim_min2 {args:Array Operand} {x y:Operand} (ha:args=#[x,y]) (at':Array TypeId) (ty:TypeId):SlimOk P (.call {callee:=.builtin .min,args:=args,argTypes:=at'}) ty (.min2 x y):=by
 intro E ρ S K o ho hty hρ h
 subst ha
 rw [exec_builtin ho]
 simp only [SOp.W] at h
 split at h
 ·rename_i k a k' b h1 h2
  simp only [builtin,Builtin.min_,List.map_toArray,List.map_cons,List.map_nil,hρ _ _ h1,hρ _ _ h2,List.foldlM_cons,List.foldlM_nil,Builtin.min2,zy,zF,UponS]
  exact h
 ·exact h.elim
theorem slim_max2 {args:Array Operand} {x y:Operand} (ha:args=#[x,y]) (at':Array TypeId) (ty:TypeId):SlimOk P (.call {callee:=.builtin .max,args:=args,argTypes:=at'}) ty (.max2 x y):=by
 intro E ρ S K o ho hty hρ h
 subst ha
 rw [exec_builtin ho]
 simp only [SOp.W] at h
 split at h
 ·rename_i k a k' b h1 h2
  simp only [builtin,Builtin.max_,List.map_toArray,List.map_cons,List.map_nil,hρ _ _ h1,hρ _ _ h2,List.foldlM_cons,List.foldlM_nil,Builtin.max2,zy,zF,UponS]
  exact h
 ·exact h.elim
theorem semW_firstCells {K:Array Value→St→Prop} {Kp:Value→St→Prop} {size n:Nat} {v:Value} {S:St} {vs:List Value} (h:readC S (n*size) v=some vs) (hl:∀ s,v=.string s→n=s.size) (hK:K vs.toArray S) :
    vB P (Builtin.firstCells size n v) S K Kp:=by
  unfold readC at h
  split at h
  · exact semW_loadCells h hK
  · cases h;exact hK
  · rename_i s
    cases h
    simp only [Builtin.firstCells,zF]
    have:s.extract 0 n=s:=by rw [hl s rfl];simp
    rw [this]
    have e:((s.data.map fun b=>Value.int .u8 b.toNat).toList).toArray=s.data.map fun b=>Value.int .u8 b.toNat:=Array.toArray_toList
    rw [e] at hK
    exact hK
  · cases h
theorem slim_append {t e:TypeId} {ti:TypeInfo} {z:Value} {x y:Operand} {t2:TypeId} {d2:TypeDesc} {args:Array Operand} {at':Array TypeId} (ha:args=#[x,y]) (hat:at'=#[t,t2]) (hu:P.underlying t=some (.slice e)) (hi:P.info? e=some ti) (hz:ti.zero=some z)
    (hu2:P.underlying t2=some d2) (hd2:d2=.string∨∃ e2,d2=.slice e2) (ty:TypeId) :
    SlimOk P (.call {callee:=.builtin .append,args:=args,argTypes:=at'}) ty (.append e ti.size ti.bytes z x y):=by
  intro E ρ S K o ho hty hρ h
  subst ha hat
  rw [exec_builtin ho]
  simp only [SOp.W] at h
  split at h
  · rename_i base n cap v h1 h2
    obtain ⟨hbz,m,old,new,hm,hold,hnew,hin,hgrow⟩:=h
    have hlen:∀ (K':Nat→St→Prop),K' m S→vB P (Builtin.lenOf v) S K' (fun _ _=>False):=by
      intro K' hk
      unfold lenV at hm
      split at hm<;>first | (cases hm;exact hk) | cases hm
    have hnl:∀ s,v=.string s→m=s.size:=by rintro s rfl;simp [lenV] at hm;exact hm.symm
    simp only [builtin,Builtin.append_,List.map_toArray,List.map_cons,List.map_nil,hρ _ _ h1,hρ _ _ h2,List.getElem?_toArray,List.getElem?_cons_zero,List.getElem?_cons_succ,zy,zT hu,semW_sizeOf hi,zT hu2]
    rcases hd2 with rfl | ⟨e2,rfl⟩
    all_goals
      simp only [zF]
      simp only [Bool.false_eq_true,if_false,Bool.not_false,if_true,zy]
      refine hlen _ ?_
      by_cases hc:n+m≤cap
      · simp only [hc,if_true,zy]
        refine semW_firstCells hnew hnl ?_
        have hin:=hin hc
        cases base with
        | none=>exact hin
        | some a=>
          obtain ⟨hsp,hone,c,e',f,hb,hf,hl,hK⟩:=hin
          simp only [zy]
          have ab:∀ k,(a.add k).block=a.block:=fun k=>by unfold Addr.add;split<;>rfl
          have ao:∀ k,(a.add k).off=a.off+k:=fun k=>by unfold Addr.add;split<;>simp_all
          have as':∀ k,(a.add k).spot=none:=fun k=>by unfold Addr.add;split<;>simp_all
          refine semW_storeCells (as' _) _ 0 S c e' f (by rw [ab];exact hb) hf (by rw [ao];simpa using hl) (by simpa using hone) ?_
          simp only [ab,ao,Nat.add_zero,zF,UponS]
          exact hK
      · simp only [hc,if_false,zy,semW_typeInfo hi,false_or,hbz,and_false]
        obtain ⟨hle,hnew'⟩:=hgrow (by omega)
        rw [if_neg (by omega)]
        simp only [zy,choose,vB]
        intro tt
        obtain ⟨q,hq,hqle⟩:∃ q,(Question.appendCap (n+m) cap e).cut tt=q∧n+m≤q:=⟨_,rfl,Nat.le_add_right _ _⟩
        have hqf:(Question.appendCap (n+m) cap e).forced=false:=rfl
        rw [hqf,hq]
        simp only [Bool.false_eq_true,if_false,semW_typeInfo hi]
        have hroom:∀ (K':Unit→St→Prop) (k:Nat),K' () S→vB P (askRoom k) S K' (fun _ _=>False):=by
          intro K' k hk
          unfold askRoom
          split
          · exact ⟨trivial,hk⟩
          · exact hk
        refine hroom _ _ ?_
        refine semW_firstCells hold (fun s hs=>by cases hs) ?_
        refine semW_firstCells hnew hnl ?_
        simp only [semW_zeroValue hi hz]
        exact semW_newRow fun b hb=>hnew' q b hqle hb
  · exact h.elim
theorem wrap64_in {n:Int} (h0:-9223372036854775808≤n) (h1:n≤9223372036854775807):IntKind.i64.wrap n=n:=by
 simp only [IntKind.wrap,IntKind.signed,IntKind.bits,Bool.true_and]
 by_cases h:n % 2 ^ 64 ≥ 2 ^ (64-1)
 ·rw [if_pos (by simpa using h)];omega
 ·rw [if_neg (by simpa using h)];omega
theorem slim_mkSlice {t e:TypeId} {ti:TypeInfo} {z:Value} (hu:P.underlying t=some (.slice e)) (hi:P.info? e=some ti) (hz:ti.zero=some z) (x y:Operand) (ty:TypeId):SlimOk P (.makeSlice t x y) ty (.mkSlice e ti.size ti.bytes z x y):=by
 intro E ρ S K o ho hty hρ h
 simp only [SOp.W] at h
 split at h
 ·rename_i l c h1 h2
  obtain ⟨h0,hlc,hmx,hb,hK⟩:=h
  have hmx':c≤9223372036854775807:=hmx
  have hwl:IntKind.i64.wrap l=l:=wrap64_in (by omega) (by omega)
  have hwc:IntKind.i64.wrap c=c:=wrap64_in (by omega) (by omega)
  simp only [execOp,ho,hρ _ _ h1,hρ _ _ h2,Instr.makeSlice,zy,zT hu,asInt,asIntOf,zF,semW_typeInfo hi,hwl,hwc]
  have hnt:((decide (c<0)||decide ((ti.bytes:Int)*c>2 ^ 48))||decide (l<0)||decide (l>c))=false:=by
   simp only [Bool.or_eq_false_iff,decide_eq_false_iff_not]
   omega
  rw [hnt]
  simp only [Bool.false_eq_true,if_false,zy]
  have hroom:∀ (K':Unit→St→Prop) (k:Nat),K' () S→vB P (askRoom k) S K' (fun _ _=>False):=by
   intro K' k hk
   unfold askRoom
   split
   ·exact ⟨trivial,hk⟩
   ·exact hk
  refine hroom _ _ ?_
  simp only [semW_sizeOf hi]
  by_cases hn:c.toNat*ti.size=0
  ·simp only [hn,if_true] at hK ⊢
   rw [zy,zF,zy]
   exact semW_newRow fun b hb=>hK b hb
  ·simp only [hn,if_false] at hK ⊢
   rw [zy,semW_zeroValue hi hz,zy,zF,zy]
   exact semW_newRow fun b hb=>hK b hb
 ·exact h.elim
theorem slim_bytesStr {src dst e:TypeId} (hs:P.underlying src=some (.slice e)) (hd:P.underlying dst=some .string) (he:P.underlying e=some (.int .u8)) (x:Operand) (ty:TypeId):SlimOk P (.convert src dst x) ty (.bytesStr x):=by
  intro E ρ S K o ho hty hρ h
  simp only [SOp.W] at h
  split at h
  · rename_i a n c hx
    obtain ⟨vs,bs,hvs,hbs,hK⟩:=h
    simp only [execOp,ho,hρ _ _ hx,convert,zy,zT hs,zT hd,zT he,Conv.bytesToString]
    refine semW_loadCells hvs ?_
    have key:∀ (vs:List Value) (bs:List UInt8) (acc:ByteArray) (K':ByteArray→St→Prop),bytesOf vs=some bs→K' ⟨acc.data++bs.toArray⟩ S →
        vB P (forIn (m:=Sem) vs acc fun (c:Value) (s:ByteArray)=>(match c with | .int .u8 n=>pure (ForInStep.yield (s.push (UInt8.ofNat n.toNat))) | _ => stuck "bytesToString: byte expected":Sem (ForInStep ByteArray))) S K' (fun _ _=>False):=by
      intro vs
      induction vs with
      | nil=>intro bs acc K' hb hk;cases hb;simpa [zF] using hk
      | cons v vs ih=>
        intro bs acc K' hb hk
        unfold bytesOf at hb
        split at hb
        · rename_i e1;cases e1
        · rename_i n r e1
          cases e1
          simp only [Option.map_eq_some_iff] at hb
          obtain ⟨bs',hb',rfl⟩:=hb
          simp only [List.forIn_cons,zy,zF]
          refine ih bs' _ K' hb' ?_
          have e2:(acc.push (UInt8.ofNat n.toNat)).data++bs'.toArray=acc.data++(UInt8.ofNat n.toNat::bs').toArray:=by
            simp [ByteArray.push]
          rw [e2];exact hk
        · cases hb
    rw [List.forIn_toArray]
    refine key vs bs _ _ hbs ?_
    simpa [zF,UponS] using hK
  · exact h.elim
end
end
section
def optAll {α:Type}:List (Option α)→Option (List α)
 | []=>some []
 | none::_=>none
 | some a::r=>(optAll r).map (a::·)
theorem optAll_map {α:Type}:∀ {l:List (Option α)} {r:List α},optAll l=some r→l=r.map some:=by
 intro l
 induction l with
 | nil=>intro r h;cases h;rfl
 | cons x l ih=>
  intro r h
  cases x with
  | none=>cases h
  | some a=>
   simp only [optAll,Option.map_eq_some_iff] at h
   obtain ⟨r',h',rfl⟩:=h
   simp [ih h']
def slimCall? (P:Program) (c:Call):Option SOp:=
 match c.callee with
 | .value (.func f)=>(P.funcs[f]?).bind fun fn=>if fn.body.isSome=true∧fn.name ≠ "runtime.NumGoroutine" then some (.call f c.args.toList) else none
 | .value (.tmp t)=>some (.callv (.tmp t) c.args.toList)
 | .builtin .len=>match c.args.toList with
  | [x]=>(c.argTypes[0]?).bind fun t=>(P.underlying t).bind fun d=>match d with
   | .string=>some (.lenS x)
   | .slice _=>some (.lenL x)
   | _=>none
  | _=>none
 | .builtin .append=>match c.args.toList,c.argTypes.toList with
  | [x,y],[t,t2]=>(P.underlying t).bind fun d=>match d with
   | .slice e=>(P.info? e).bind fun ti=>ti.zero.bind fun z=>(P.underlying t2).bind fun d2=>match d2 with
    | .string=>some (.append e ti.size ti.bytes z x y)
    | .slice _=>some (.append e ti.size ti.bytes z x y)
    | _=>none
   | _=>none
  | _,_=>none
 | .builtin .min=>match c.args.toList with
  | [x,y]=>some (.min2 x y)
  | _=>none
 | .builtin .max=>match c.args.toList with
  | [x,y]=>some (.max2 x y)
  | _=>none
 | _=>none
def slimOp? (P:Program):Op→Option SOp
 | .move x=>some (.mv x)
 | .assign x=>some (.mv x)
 | .pick c a b=>some (.pick c a b)
 | .alloc e=>(P.info? e).bind fun i=>i.zero.bind fun z=>some (.alloc e z)
 | .box e x=>some (.box e x)
 | .load t x=>(aggT P t).bind fun b=>if b then (P.info? t).bind fun i=>some (.loadN i.size x) else some (.load1 x)
 | .store t x v=>(P.info? t).bind fun i=>some (.store i.size x v)
 | .nilCheck x=>some (.nilchk x)
 | .binOp o t x y _=>match o with
  | .eql=>(P.underlying t).bind fun d=>match d with
   | .int _=>some (.bin .eql x y)
   | .string=>some (.bin .eql x y)
   | _=>some (.eqv false t x y)
  | .neq=>(P.underlying t).bind fun d=>match d with
   | .int _=>some (.bin .neq x y)
   | .string=>some (.bin .neq x y)
   | _=>some (.eqv true t x y)
  | .shr=>none
  | o=>some (.bin o x y)
 | .unOp .not _ x=>some (.not x)
 | .convert s d x=>(P.underlying s).bind fun ds=>(P.underlying d).bind fun dd=>match dd with
  | .int k=>some (.conv k x)
  | .slice e=>(P.underlying e).bind fun de=>match de with
   | .int .u8=>some (.strBytes e x)
   | _=>none
  | .string=>match ds with
   | .slice e=>(P.underlying e).bind fun de=>match de with
    | .int .u8=>some (.bytesStr x)
    | _=>none
   | _=>none
  | _=>none
 | .fieldAddr s x i=>(P.underlying s).bind fun d=>match d with
  | .struct fs=>(fs[i]?).bind fun f=>(P.info? f.type).bind fun ti=>if ti.size=0 then none else some (.fieldAddr f.offset x)
  | _=>none
 | .index t x i=>(P.underlying t).bind fun d=>match d with
  | .string=>some (.strIdx x i)
  | _=>none
 | .indexAddr t x i=>(P.underlying t).bind fun d=>match d with
  | .slice e=>(P.info? e).bind fun ti=>some (.idxAddr ti.size x i)
  | _=>none
 | .extract x i=>some (.extract x i)
 | .slice t x lo hi mx=>(P.underlying t).bind fun d=>match d with
  | .string=>match mx with
   | none=>some (.sliceS x lo hi)
   | some _=>none
  | .slice e=>(P.info? e).bind fun ti=>some (.sliceL ti.size x lo hi mx)
  | _=>none
 | .makeFunc fn a b=>some (.mkFunc fn a.toList b.toList)
 | .makeMap _ none=>some .mkMap
 | .makeSlice t l c=>(P.underlying t).bind fun d=>match d with
  | .slice e=>(P.info? e).bind fun ti=>ti.zero.bind fun z=>some (.mkSlice e ti.size ti.bytes z l c)
  | _=>none
 | .makeInterface t x=>(P.underlying t).bind fun d=>match d with
  | .interface _=>none
  | _=>some (.mkIface t x)
 | .build t parts=>(P.info? t).bind fun i=>i.zero.bind fun z=>(P.underlying t).bind fun d=>match d with
  | .struct fs=>(optAll (fs.toList.map fun f=>(P.info? f.type).map fun ti=>(f.offset,ti.size))).bind fun pl=>some (.build z.cells pl parts.toList)
  | _=>none
 | .buildSlice t n parts=>(P.underlying t).bind fun d=>match d with
  | .slice e=>(P.info? e).bind fun ti=>ti.zero.bind fun z=>if decide (n*ti.size>2 ^ 24)=false then some (.buildSlice e ti.size n ((Array.range (n*ti.size)).map ((if n*ti.size=0 then #[] else z.cells)[· % (if n*ti.size=0 then #[] else z.cells).size]!)) parts.toList) else none
  | _=>none
 | .call c=>slimCall? P c
 | _=>none
section
variable {P:Program}
theorem slimCall?_ok {c:Call} {s:SOp} (h:slimCall? P c=some s) (ty:TypeId):SlimOk P (.call c) ty s:=by
 obtain ⟨callee,args,ats⟩:=c
 unfold slimCall? at h
 simp only at h
 split at h
 ·rename_i f
  simp only [Option.bind_eq_some_iff] at h
  obtain ⟨fn,hf,h⟩:=h
  split at h
  ·rename_i hc
   cases h
   exact slim_call hf hc.1 hc.2 ty
  ·cases h
 ·cases h
  exact slim_callv ⟨_,rfl⟩ ty
 ·split at h
  ·rename_i x hx
   have ha:args=#[x]:=by rw [← Array.toList_inj];exact hx
   simp only [Option.bind_eq_some_iff] at h
   obtain ⟨t,ht,d,hd,h⟩:=h
   split at h
   ·cases h;exact slim_lenS ha hd ht ty
   ·cases h;exact slim_lenL ha hd ht ty
   ·cases h
  ·cases h
 ·split at h
  ·rename_i x y t t2 hx ht
   have ha:args=#[x,y]:=by rw [← Array.toList_inj];exact hx
   have hat:ats=#[t,t2]:=by rw [← Array.toList_inj];exact ht
   simp only [Option.bind_eq_some_iff] at h
   obtain ⟨d,hd,h⟩:=h
   split at h
   ·simp only [Option.bind_eq_some_iff] at h
    obtain ⟨ti,hti,z,hz,d2,hd2,h⟩:=h
    split at h
    ·cases h;exact slim_append ha hat hd hti hz hd2 (.inl rfl) ty
    ·cases h;exact slim_append ha hat hd hti hz hd2 (.inr ⟨_,rfl⟩) ty
    ·cases h
   ·cases h
  ·cases h
 ·split at h
  ·rename_i x y hx
   have ha:args=#[x,y]:=by rw [← Array.toList_inj];exact hx
   cases h;exact slim_min2 ha _ ty
  ·cases h
 ·split at h
  ·rename_i x y hx
   have ha:args=#[x,y]:=by rw [← Array.toList_inj];exact hx
   cases h;exact slim_max2 ha _ ty
  ·cases h
 ·cases h
theorem slimOp?_ok {op:Op} {s:SOp} (h:slimOp? P op=some s) (ty:TypeId):SlimOk P op ty s:=by
 unfold slimOp? at h
 split at h
 case h_1=>cases h;exact slim_mv _ ty
 case h_2=>cases h;exact slim_assign _ ty
 case h_3=>cases h;exact slim_pick _ _ _ ty
 case h_4=>
  simp only [Option.bind_eq_some_iff] at h
  obtain ⟨i,hi,z,hz,h⟩:=h
  cases h;exact slim_alloc hi hz ty
 case h_5=>cases h;exact slim_box _ _ ty
 case h_6=>
  simp only [Option.bind_eq_some_iff] at h
  obtain ⟨b,hb,h⟩:=h
  split at h
  ·rename_i e;subst e
   simp only [Option.bind_eq_some_iff] at h
   obtain ⟨i,hi,h⟩:=h
   cases h;exact slim_loadN hb hi _ ty
  ·rename_i e
   have:b=false:=by simpa using e
   subst this
   cases h;exact slim_load1 hb _ ty
 case h_7=>
  simp only [Option.bind_eq_some_iff] at h
  obtain ⟨i,hi,h⟩:=h
  cases h;exact slim_store hi _ _ ty
 case h_8=>cases h;exact slim_nilchk _ ty
 case h_9=>
  split at h
  ·simp only [Option.bind_eq_some_iff] at h
   obtain ⟨d,hd,h⟩:=h
   split at h
   ·cases h;exact slim_bin _ _ _ _ _ ty
   ·cases h;exact slim_bin _ _ _ _ _ ty
   ·cases h;exact slim_eql _ _ _ _ ty
  ·simp only [Option.bind_eq_some_iff] at h
   obtain ⟨d,hd,h⟩:=h
   split at h
   ·cases h;exact slim_bin _ _ _ _ _ ty
   ·cases h;exact slim_bin _ _ _ _ _ ty
   ·cases h;exact slim_neq _ _ _ _ ty
  ·cases h
  ·cases h;exact slim_bin _ _ _ _ _ ty
 case h_10=>cases h;exact slim_not _ _ ty
 case h_11=>
  simp only [Option.bind_eq_some_iff] at h
  obtain ⟨ds,hs,dd,hd,h⟩:=h
  split at h
  ·cases h;exact slim_conv hs hd _ ty
  ·simp only [Option.bind_eq_some_iff] at h
   obtain ⟨de,he,h⟩:=h
   split at h
   ·cases h;exact slim_strBytes hs hd he _ ty
   ·cases h
  ·split at h
   ·simp only [Option.bind_eq_some_iff] at h
    obtain ⟨de,he,h⟩:=h
    split at h
    ·cases h;exact slim_bytesStr hs hd he _ ty
    ·cases h
   ·cases h
  ·cases h
 case h_12=>
  simp only [Option.bind_eq_some_iff] at h
  obtain ⟨d,hd,h⟩:=h
  split at h
  ·simp only [Option.bind_eq_some_iff] at h
   obtain ⟨f,hf,ti,hti,h⟩:=h
   split at h
   ·cases h
   ·rename_i h0
    cases h;exact slim_fieldAddr hd hf hti h0 _ ty
  ·cases h
 case h_13=>
  simp only [Option.bind_eq_some_iff] at h
  obtain ⟨d,hd,h⟩:=h
  split at h
  ·cases h;exact slim_strIdx hd _ _ ty
  ·cases h
 case h_14=>
  simp only [Option.bind_eq_some_iff] at h
  obtain ⟨d,hd,h⟩:=h
  split at h
  ·simp only [Option.bind_eq_some_iff] at h
   obtain ⟨ti,hti,h⟩:=h
   cases h;exact slim_idxAddr hd hti _ _ ty
  ·cases h
 case h_15=>cases h;exact slim_extract _ _ ty
 case h_16=>
  simp only [Option.bind_eq_some_iff] at h
  obtain ⟨d,hd,h⟩:=h
  split at h
  ·split at h
   ·cases h;exact slim_sliceS hd _ _ _ ty
   ·cases h
  ·simp only [Option.bind_eq_some_iff] at h
   obtain ⟨ti,hti,h⟩:=h
   cases h;exact slim_sliceL hd hti _ _ _ _ ty
  ·cases h
 case h_17=>cases h;exact slim_mkFunc ty
 case h_18=>cases h;exact slim_mkMap _ ty
 case h_19=>
  simp only [Option.bind_eq_some_iff] at h
  obtain ⟨d,hd,h⟩:=h
  split at h
  ·simp only [Option.bind_eq_some_iff] at h
   obtain ⟨ti,hti,z,hz,h⟩:=h
   cases h;exact slim_mkSlice hd hti hz _ _ ty
  ·cases h
 case h_20=>
  simp only [Option.bind_eq_some_iff] at h
  obtain ⟨d,hd,h⟩:=h
  split at h
  ·cases h
  ·rename_i hn
   cases h
   refine slim_mkIface hd ?_ _ ty
   cases d<;>first | rfl | exact absurd rfl (hn _)
 case h_21=>
  simp only [Option.bind_eq_some_iff] at h
  obtain ⟨i,hi,z,hz,d,hd,h⟩:=h
  split at h
  ·simp only [Option.bind_eq_some_iff] at h
   obtain ⟨pl,hpl,h⟩:=h
   cases h;exact slim_build hi hz hd (optAll_map hpl) _ ty
  ·cases h
 case h_22=>
  simp only [Option.bind_eq_some_iff] at h
  obtain ⟨d,hd,h⟩:=h
  split at h
  ·simp only [Option.bind_eq_some_iff] at h
   obtain ⟨ti,hti,z,hz,h⟩:=h
   split at h
   ·rename_i hb
    cases h;exact slim_buildSlice hd hti hz hb rfl _ ty
   ·cases h
  ·cases h
 case h_23=>exact slimCall?_ok h ty
 case h_24=>cases h
end
structure SI where
 dst:Option Nat
 op:SOp
 guard:Option (Option Nat × Bool)
 after:List Nat
inductive SCode where
 | skip
 | run (is:List SI)
 | draw (is:List SI)
 | seq (a b:SCode)
 | cond (x:Operand) (a b:SCode)
 | block (id:Nat) (a:SCode)
 | loop (a:SCode)
 | exit (id:Nat)
 | ret
 | bad
def slimI (P:Program) (n:Nat) (dr:Bool) (ops:Array Oper) (o:Oper):Option SI:=
 if Op.isDefer o.op=false∧(∀ d∈o.dst,d<n)∧(o.after.all fun e=>decide (e.on<ops.size))=true then
  some ⟨o.dst,(slimOp? P o.op).getD (.raw o.op o.type),o.guard.map fun g=>((ops[g.1]?).bind (·.dst),g.2),if dr then (o.after.toList.filter (Region.binds .any)).map (·.on) else []⟩
 else none
def slimCode (P:Program) (n:Nat):Code→Option SCode
 | .skip=>some .skip
 | .region _ ops dr=>(optAll (ops.toList.map (slimI P n dr ops))).bind fun is=>if dr then (if P.follows .mixedOrders then some (.draw is) else none) else some (.run is)
 | .seq a b=>(slimCode P n a).bind fun x=>(slimCode P n b).bind fun y=>some (.seq x y)
 | .cond c a b=>(slimCode P n a).bind fun x=>(slimCode P n b).bind fun y=>some (.cond c x y)
 | .block id a=>(slimCode P n a).bind fun x=>some (.block id x)
 | .loop a=>(slimCode P n a).bind fun x=>some (.loop x)
 | .exit id=>some (.exit id)
 | .ret=>some .ret
 | .refuse _=>some .bad
 | _=>none
def SI.step (P:Program) (i:SI) (E:Env) (S:St) (K:Env→St→Prop):Prop:=
 match i.guard with
 | none=>i.op.W P E S fun v S'=>K (E.set i.dst v) S'
 | some (g,t)=>match g.bind E.get with
  | some (.bool b)=>if b=t then i.op.W P E S fun v S'=>K (E.set i.dst v) S' else K (E.set i.dst undef) S
  | some _=>K (E.set i.dst undef) S
  | none=>False
def wpI (P:Program):List SI→Env→St→(Env→St→Prop)→Prop
 | [],E,S,K=>K E S
 | i::r,E,S,K=>i.step P E S fun E' S'=>wpI P r E' S' K
def rdy (is:List SI) (D:List Nat):List Nat:=D.filter fun i=>match is[i]? with
 | some x=>x.after.all fun j=>!D.contains j
 | none=>false
def SOp.isLoad:SOp→Bool
 | .load1 _ | .loadN .. | .bytesStr _=>true
 | _=>false
def isLd (is:List SI) (i:Nat):Bool:=match is[i]? with
 | some x=>x.op.isLoad
 | none=>false
def aft_ (is:List SI) (j:Nat):List Nat:=match is[j]? with
 | some y=>y.after
 | none=>[]
def ancL (is:List SI):Nat→List Nat→List Nat
 | 0,l=>l
 | n+1,l=>ancL is n (l++l.flatMap (aft_ is)).eraseDups
def anc (is:List SI) (n j:Nat):List Nat:=ancL is n (aft_ is j)
def ldOpen (is:List SI) (j:Nat):Bool:=(List.range is.length).any fun i=>i != j&&isLd is i && !(anc is 9 j).contains i
def Stays (X:List Nat) (S S':St):Prop:=∀ b e,b∉X→S b=some e→S' b=some e
def wpD (P:Program) (is:List SI) (bl:List Nat):Nat→List Nat→Env→St→(Env→St→Prop)→Prop
 | 0,_,E,S,K=>K E S
 | n+1,D,E,S,K=>(rdy is D=[]→K E S)∧∀ i∈rdy is D,∀ x,is[i]? = some x→x.step P E S fun E' S'=>(ldOpen is i=true→Stays bl S S')∧wpD P is bl n (D.erase i) E' S' K
inductive SEx where
 | normal
 | exit (id:Nat)
 | ret
def SEx.thn (next:Env→St→Prop) (Q:SEx→Env→St→Prop):SEx→Env→St→Prop
 | .normal,E,S=>next E S
 | e,E,S=>Q e E S
def SEx.blk (id:Nat) (Q:SEx→Env→St→Prop):SEx→Env→St→Prop
 | .exit id',E,S=>if id'=id then Q .normal E S else Q (.exit id') E S
 | e,E,S=>Q e E S
def Env.le (E0 E:Env):Prop:=∀ t v,E0 t=some v→E t=some v
theorem Env.le.refl (E:Env):Env.le E E:=fun _ _ h=>h
theorem Fits.le {a:Act} {n:Nat} {E E0:Env} (h:Fits a n E) (hl:Env.le E0 E):Fits a n E0:=⟨h.1,fun t v ht=>h.2 t v (hl t v ht)⟩
def wpS (P:Program):SCode→Env→St→(SEx→Env→St→Prop)→Prop
 | .skip,E,S,Q=>Q .normal E S
 | .run is,E,S,Q=>wpI P is E S (Q .normal)
 | .draw is,E,S,Q=>∃ bl,wpD P is bl is.length (List.range is.length) E S (Q .normal)
 | .seq a b,E,S,Q=>wpS P a E S (SEx.thn (fun E' S'=>∃ E1,Env.le E1 E'∧wpS P b E1 S' Q) Q)
 | .cond x a b,E,S,Q=>match E.ev x with
  | some (.bool t)=>(t=true→wpS P a E S Q)∧(t=false→wpS P b E S Q)
  | _=>False
 | .block id a,E,S,Q=>wpS P a E S (SEx.blk id Q)
 | .loop a,E,S,Q=>∃ I:Env→St→Nat→Prop,(∃ E0 n,Env.le E0 E∧I E0 S n)∧∀ E0 S n,I E0 S n→wpS P a E0 S (SEx.thn (fun E' S'=>∃ E1 n',n'<n∧Env.le E1 E'∧I E1 S' n') Q)
 | .exit id,E,S,Q=>Q (.exit id) E S
 | .ret,E,S,Q=>Q .ret E S
 | .bad,_,_,_=>False
section
variable {P:Program}
theorem SOp.W_mono {E:Env} {S:St} {K K':Value→St→Prop} (hK:∀ v S,K v S→K' v S) (s:SOp) (h:s.W P E S K):s.W P E S K':=by
 have hU:∀ nx S,UponS P K nx S→UponS P K' nx S:=by
  intro nx S h
  cases nx<;>first | exact hK _ _ h | exact Calls1.mono h hK | exact fun m F c cs k=>h m F c cs fun v S' q=>k v S' (hK _ _ q) | exact h
 cases s<;>simp only [SOp.W] at h ⊢
 case mv=>obtain ⟨v,h1,h2⟩:=h;exact ⟨v,h1,hK _ _ h2⟩
 case pick=>split at h<;>first | exact hK _ _ h | exact h
 case alloc=>exact fun b hb=>hK _ _ (h b hb)
 case box=>obtain ⟨v,h1,h2⟩:=h;exact ⟨v,h1,fun b hb=>hK _ _ (h2 b hb)⟩
 case build=>split at h<;>first | exact h | (obtain ⟨v,h1,h2⟩:=h;exact ⟨v,h1,hK _ _ h2⟩)
 case buildSlice=>split at h<;>first | exact h | (obtain ⟨v,h1,h2⟩:=h;exact ⟨v,h1,fun b hb=>hK _ _ (h2 b hb)⟩)
 case load1=>split at h<;>first | exact h | (obtain ⟨v,h1,h2⟩:=h;exact ⟨v,h1,hK _ _ h2⟩)
 case loadN=>split at h<;>first | exact h | (obtain ⟨v,h1,h2⟩:=h;exact ⟨v,h1,hK _ _ h2⟩)
 case store=>split at h<;>first | exact h | (obtain ⟨h1,h2,h3,c,e,f,h4,h5,h6,h7⟩:=h;exact ⟨h1,h2,h3,c,e,f,h4,h5,h6,hK _ _ h7⟩)
 case nilchk=>split at h<;>first | exact hK _ _ h | exact h
 case bin=>split at h<;>first | exact h | (obtain ⟨h1,v,h2,h3⟩:=h;exact ⟨h1,v,h2,hK _ _ h3⟩) | (obtain ⟨v,h2,h3⟩:=h;exact ⟨v,h2,hK _ _ h3⟩)
 case eqv=>split at h<;>first | exact h | exact ⟨h.1,semW_mono (fun _ _ q=>hK _ _ q) (fun _ _ q=>q) _ _ h.2⟩
 case not=>split at h<;>first | exact hK _ _ h | exact h
 case conv=>split at h<;>first | exact hK _ _ h | exact h
 case strBytes=>split at h<;>first | exact h | exact fun cap b h1 h2=>hK _ _ (h cap b h1 h2)
 case bytesStr=>split at h<;>first | exact h | (obtain ⟨vs,bs,h1,h2,h3⟩:=h;exact ⟨vs,bs,h1,h2,hK _ _ h3⟩)
 case fieldAddr=>split at h<;>first | exact hK _ _ h | exact h
 case strIdx=>split at h<;>first | exact h | (obtain ⟨h1,c,h2,h3⟩:=h;exact ⟨h1,c,h2,hK _ _ h3⟩)
 case idxAddr=>split at h<;>first | exact h | exact ⟨h.1,h.2.1,hK _ _ h.2.2⟩
 case sliceS=>split at h<;>first | exact h | (obtain ⟨v,h1,h2⟩:=h;exact ⟨v,h1,hK _ _ h2⟩)
 case sliceL=>split at h<;>first | exact h | (obtain ⟨v,h1,h2⟩:=h;exact ⟨v,h1,hK _ _ h2⟩)
 case extract=>split at h<;>first | exact h | (obtain ⟨v,h1,h2⟩:=h;exact ⟨v,h1,hK _ _ h2⟩)
 case call=>split at h<;>first | exact Calls1.mono h hK | exact h
 case callv=>obtain ⟨h⟩:=h;refine ⟨?_⟩;split at h<;>first | exact h | exact semW_mono hU (fun _ _ q=>q) _ _ h | exact ⟨h.1,semW_mono hU (fun _ _ q=>q) _ _ h.2⟩
 case lenS=>split at h<;>first | exact hK _ _ h | exact h
 case lenL=>split at h<;>first | exact hK _ _ h | exact h
 case mkFunc=>split at h<;>first | exact hK _ _ h | exact h
 case append=>
  split at h
  ·obtain ⟨h0,m,old,new,h1,h2,h3,h4,h5⟩:=h
   refine ⟨h0,m,old,new,h1,h2,h3,fun hc=>?_,fun hc=>⟨(h5 hc).1,fun nc b ha hb=>hK _ _ ((h5 hc).2 nc b ha hb)⟩⟩
   have h4:=h4 hc
   split at h4
   ·obtain ⟨a1,a2,c,e,f,a3,a4,a5,a6⟩:=h4
    exact ⟨a1,a2,c,e,f,a3,a4,a5,hK _ _ a6⟩
   ·exact hK _ _ h4
  ·exact h
 case mkSlice=>split at h<;>first | exact h | (obtain ⟨h1,h2,h3,h4,h5⟩:=h;exact ⟨h1,h2,h3,h4,fun b hb=>hK _ _ (h5 b hb)⟩)
 case min2=>split at h<;>first | exact hK _ _ h | exact h
 case max2=>split at h<;>first | exact hK _ _ h | exact h
 case mkIface=>obtain ⟨v,h1,h2⟩:=h;exact ⟨v,h1,hK _ _ h2⟩
 case mkMap=>exact fun b hb=>hK _ _ (h b hb)
 case raw=>
  cases h with
  | mk h=>exact .mk fun ρ hρ=>semW_mono hU (fun _ _ q=>q) _ _ (h ρ hρ)
  | comm h=>exact .comm fun ρ hρ=>(h ρ hρ).mono hK
theorem SI.step_mono {i:SI} {E:Env} {S:St} {K K':Env→St→Prop} (hK:∀ E S,K E S→K' E S) (h:i.step P E S K):i.step P E S K':=by
 unfold SI.step at h ⊢
 split at h
 ·exact SOp.W_mono (fun v S h=>hK _ _ h) _ h
 ·split at h
  ·split at h
   ·rename_i hb;simp only [hb,if_true];exact SOp.W_mono (fun v S h=>hK _ _ h) _ h
   ·rename_i hb;simp only [hb,if_false];exact hK _ _ h
  ·exact hK _ _ h
  ·exact h
theorem slimI_op {dr:Bool} {n:Nat} {ops:Array Oper} {o:Oper} {i:SI} (h:slimI P n dr ops o=some i):SlimOkC P o.op o.type i.op:=by
 unfold slimI at h
 split at h
 ·cases h
  simp only
  cases hs:slimOp? P o.op with
  | none=>exact slim_raw _ _
  | some s=>exact (slimOp?_ok hs _).toC
 ·cases h
theorem step_ops {dr:Bool} {n:Nat} {ops:Array Oper} {i:Nat} {o:Oper} {si:SI} {rest:List Nat} {a:Act} {E:Env} {S:St} {K:Act→St→Prop} (ho:ops[i]? = some o) (hs:slimI P n dr ops o=some si) (hf:Fits a n E)
    (h:si.step P E S fun E' S'=>∀ a',Fits a' n E'→a'.defers=a.defers→wpOps1 P ops rest a' S' K):wpOps1 P ops (i::rest) a S K:=by
  have hop:=slimI_op hs
  unfold slimI at hs
  split at hs
  case isFalse=>cases hs
  rename_i hc
  obtain ⟨hdf,hdn,hat⟩:=hc
  cases hs
  simp only at hop
  simp only [wpOps1,ho]
  have hput:∀ v,Fits (a.put o.dst v) n (E.set o.dst v):=fun v=>hf.put (fun x hx=>hdn x (by rw [hx];rfl)) v
  have hpd:∀ v,(a.put o.dst v).defers=a.defers:=fun v=>by unfold Act.put;split<;>rfl
  have run:(SOp.W P E S (fun v S'=>∀ a',Fits a' n (E.set o.dst v)→a'.defers=a.defers→wpOps1 P ops rest a' S' K) ((slimOp? P o.op).getD (.raw o.op o.type))) →
      (vB P (execOp a.eval o) S (fun nx S'=>match nx with
          | .value v=>wpOps1 P ops rest (a.put o.dst v) S' K
          | .skip=>wpOps1 P ops rest (a.put o.dst undef) S' K
          | .enter f args=>Calls1 P f args S' fun v S''=>wpOps1 P ops rest (a.put o.dst v) S'' K
          | .round l f tmps assign body=>Round1 P l f tmps assign body S' fun v S''=>wpOps1 P ops rest (a.put o.dst v) S'' K
          | _=>False) (fun _ _=>False))∨CommO P a.eval o.op S (fun v S''=>wpOps1 P ops rest (a.put o.dst v) S'' K):=by
    intro hw
    rcases hop E a.eval S _ o rfl rfl (fun x v hx=>hf.ev hx) hw with h1 | h1
    case inr=>exact .inr (h1.mono fun v S' q=>q _ (hput _) (hpd _))
    refine .inl (semW_mono (fun nx S' hu=>?_) (fun _ _ hf=>hf) _ _ h1)
    cases nx<;>simp only [UponS] at hu ⊢ <;> first | exact hu _ (hput _) (hpd _) | exact Calls1.mono hu (fun v S' q=>q _ (hput _) (hpd _)) | exact fun m F c cs k=>hu m F c cs fun v S' q=>k v S' (q _ (hput _) (hpd _)) | exact hu
  unfold SI.step at h
  simp only at h
  cases hg:o.guard with
  | none=>
    simp only [hg,Option.map_none] at h
    have hw:Region.wanted o (yielded ops a.tmps)=true:=by simp [Region.wanted,hg]
    rw [if_pos hw]
    exact (run h).imp_left fun h=>⟨hdf,h⟩
  | some g=>
    obtain ⟨j,t⟩:=g
    simp only [hg,Option.map_some] at h
    split at h
    · rename_i b hb
      have hy:yielded ops a.tmps j=some b:=by
        unfold yielded
        rw [Option.bind_eq_some_iff] at hb
        obtain ⟨d,hd,hb⟩:=hb
        rw [hd]
        simp only [Option.bind_some]
        rw [hf.2 d _ hb]
      split at h
      · rename_i hbt
        have hw:Region.wanted o (yielded ops a.tmps)=true:=by simp [Region.wanted,hg,hy,hbt]
        rw [if_pos hw]
        exact (run h).imp_left fun h=>⟨hdf,h⟩
      · rename_i hbt
        have hw:Region.wanted o (yielded ops a.tmps)=false:=by simp [Region.wanted,hg,hy,hbt]
        rw [hw]
        simp only [Bool.false_eq_true,if_false]
        exact h _ (hput _) (hpd _)
    · rename_i v hnb hb
      have hy:yielded ops a.tmps j=none:=by
        unfold yielded
        rw [Option.bind_eq_some_iff] at hb
        obtain ⟨d,hd,hb⟩:=hb
        rw [hd]
        simp only [Option.bind_some]
        rw [hf.2 d _ hb]
        cases v<;>first | rfl | exact absurd rfl (hnb _)
      have hw:Region.wanted o (yielded ops a.tmps)=false:=by simp [Region.wanted,hg,hy]
      rw [hw]
      simp only [Bool.false_eq_true,if_false]
      exact h _ (hput _) (hpd _)
    · exact h.elim
theorem optAll_get {α β:Type} {f:α→Option β}:∀ {l:List α} {r:List β},optAll (l.map f)=some r→r.length=l.length∧∀ (i:Nat) (x:α),l[i]? = some x→∃ y,f x=some y∧r[i]? = some y:=by
 intro l r h
 have h2:=optAll_map h
 have hlen:l.length=r.length:=by simpa using congrArg List.length h2
 refine ⟨hlen.symm,fun i x hx=>?_⟩
 have h3:=congrArg (·[i]?) h2
 simp only [List.getElem?_map,hx,Option.map_some] at h3
 cases hr:r[i]? with
 | none=>rw [hr] at h3;simp at h3
 | some y=>rw [hr] at h3;simp at h3;exact ⟨y,h3,rfl⟩
theorem wpI_ops {dr:Bool} {n:Nat} {ops:Array Oper}:∀ (is:List SI) (k:Nat) (a:Act) (E:Env) (S:St) (K:Act→St→Prop),(∀ j,j<is.length→∃ o si,ops[k+j]? = some o∧slimI P n dr ops o=some si∧is[j]? = some si)→Fits a n E →
    wpI P is E S (fun E' S'=>∀ a',Fits a' n E'→a'.defers=a.defers→K a' S')→wpOps1 P ops (List.range' k is.length) a S K:=by
  intro is
  induction is with
  | nil=>exact fun k a E S K _ hf h=>h a hf rfl
  | cons x is ih=>
    intro k a E S K hall hf h
    obtain ⟨o,si,ho,hs,hx⟩:=hall 0 (by simp)
    cases hx
    simp only [List.length_cons,List.range'_succ]
    refine step_ops (by simpa using ho) hs hf (SI.step_mono (fun E' S' h' a' hf' hd'=>?_) h)
    refine ih (k+1) a' E' S' K (fun j hj=>?_) hf' ?_
    · obtain ⟨o,si,h1,h2,h3⟩:=hall (j+1) (by simpa using hj)
      exact ⟨o,si,by rw [← h1];congr 1;omega,h2,by simpa using h3⟩
    · have:∀ is E S,wpI P is E S (fun E' S'=>∀ a'',Fits a'' n E'→a''.defers=a.defers→K a'' S')→wpI P is E S (fun E' S'=>∀ a'',Fits a'' n E'→a''.defers=a'.defers→K a'' S'):=by
        intro is
        induction is with
        | nil=>intro E S h a'' h1 h2;exact h a'' h1 (h2.trans hd')
        | cons y is ih2=>intro E S h;exact SI.step_mono (fun E S h=>ih2 E S h) h
      exact this _ _ _ h'
theorem wpI_mono:∀ {is:List SI} {E:Env} {S:St} {K K':Env→St→Prop},(∀ E S,K E S→K' E S)→wpI P is E S K→wpI P is E S K':=by
 intro is
 induction is with
 | nil=>exact fun hk h=>hk _ _ h
 | cons y is ih=>exact fun hk h=>SI.step_mono (fun E S h=>ih hk h) h
def lin (ops:Array Oper) (fuel t:Nat) (listed:Array Bool):List Nat:=Region.linearise.go .any ops fuel t listed []
theorem lin_go (ops:Array Oper):∀ (fuel t:Nat) (listed:Array Bool) (acc:List Nat),Region.linearise.go .any ops fuel t listed acc=acc.reverse++lin ops fuel t listed:=by
 intro fuel
 induction fuel with
 | zero=>intro t l acc;simp [Region.linearise.go,lin]
 | succ fuel ih=>
  intro t l acc
  simp only [Region.linearise.go,lin]
  split
  ·rename_i i _
   rw [ih _ _ (i::acc),ih _ _ [i]];simp
  ·simp
theorem wpD_ops {n:Nat} {ops:Array Oper} {is:List SI} {bl:List Nat} (hall:∀ (j:Nat) o,ops[j]? = some o→∃ si,slimI P n true ops o=some si∧is[j]? = some si):∀ (fuel t:Nat) (listed:Array Bool) (D:List Nat) (a:Act) (E:Env) (S:St) (K:Act→St→Prop),Fits a n E →
    listed.size=ops.size→D.Nodup→(∀ i,i∈D↔listed[i]? = some false)→wpD P is bl fuel D E S (fun E' S'=>∀ a',Fits a' n E'→a'.defers=a.defers→K a' S')→wpOps1 P ops (lin ops fuel t listed) a S K:=by
  intro fuel
  induction fuel with
  | zero=>exact fun t listed D a E S K hf _ _ _ h=>h a hf rfl
  | succ fuel ih=>
    intro t listed D a E S K hf hsz hnd hD h
    simp only [lin,Region.linearise.go]
    generalize hq:List.filter _ (List.range ops.size)=rs
    have hrs:∀ i,i∈rs↔i∈rdy is D:=by
      subst hq
      intro i
      simp only [rdy,List.mem_filter,List.mem_range,Bool.and_eq_true,Bool.not_eq_true']
      constructor
      · rintro ⟨h1,h2,h3⟩
        have hl:listed[i]? = some false:=by
          rw [Array.getD_eq_getD_getElem?] at h2
          rw [Array.getElem?_eq_getElem (by omega)] at h2 ⊢
          simpa using h2
        refine ⟨(hD i).2 hl,?_⟩
        have ho:ops[i]? = some ops[i]:=Array.getElem?_eq_getElem h1
        obtain ⟨si,hs,hi⟩:=hall i _ ho
        rw [hi]
        rw [ho] at h3
        simp only [Option.map_some,Option.getD_some] at h3
        unfold slimI at hs
        split at hs
        case isFalse=>cases hs
        rename_i hc
        cases hs
        simp only [if_true,List.all_eq_true,List.mem_map,List.mem_filter,Bool.not_eq_true',forall_exists_index,and_imp]
        rintro j e he hb rfl
        have h4:=(Array.all_eq_true.1 h3)
        obtain ⟨ix,hix,hie⟩:=Array.getElem_of_mem (Array.mem_toList_iff.1 he)
        have h5:=h4 ix hix
        rw [hie,hb] at h5
        simp only [Bool.not_true,Bool.false_or] at h5
        have:¬ e.on∈D:=by
          rw [hD]
          intro hc
          rw [Array.getD_eq_getD_getElem?,hc] at h5
          cases h5
        simpa using this
      · rintro ⟨h1,h2⟩
        have hl:=(hD i).1 h1
        have hlt:i<ops.size:=by
          have:=(Array.getElem?_eq_some_iff.1 hl).1;omega
        refine ⟨hlt,by rw [Array.getD_eq_getD_getElem?,hl];rfl,?_⟩
        have ho:ops[i]? = some ops[i]:=Array.getElem?_eq_getElem hlt
        obtain ⟨si,hs,hi⟩:=hall i _ ho
        rw [hi] at h2
        rw [ho]
        simp only [Option.map_some,Option.getD_some]
        unfold slimI at hs
        split at hs
        case isFalse=>cases hs
        rename_i hc
        obtain ⟨_,_,hat⟩:=hc
        cases hs
        simp only [if_true,List.all_eq_true,List.mem_map,List.mem_filter,Bool.not_eq_true',forall_exists_index,and_imp] at h2
        rw [Array.all_eq_true]
        intro ix hix
        have hon:=(Array.all_eq_true.1 hat) ix hix
        simp only [decide_eq_true_eq] at hon
        by_cases hb:Region.binds .any (ops[i].after[ix])=true
        · have:=h2 _ (ops[i].after[ix]) (by simp) hb rfl
          have hn:¬ (ops[i].after[ix]).on∈D:=by simpa using this
          rw [hD] at hn
          rw [hb]
          simp only [Bool.not_true,Bool.false_or]
          rw [Array.getD_eq_getD_getElem?]
          rw [Array.getElem?_eq_getElem (by omega)] at hn ⊢
          simpa using hn
        · simp [hb]
    split
    · rename_i i hi
      have him:=(hrs i).1 (List.mem_of_getElem? hi)
      have hiD:i∈D:=by unfold rdy at him;exact (List.mem_filter.1 him).1
      have hl:=(hD i).1 hiD
      have hlt:i<ops.size:=by
        have:=(Array.getElem?_eq_some_iff.1 hl).1;omega
      have ho:ops[i]? = some ops[i]:=Array.getElem?_eq_getElem hlt
      obtain ⟨si,hs,hsi⟩:=hall i _ ho
      rw [lin_go]
      refine step_ops ho hs hf (SI.step_mono (fun E' S' h' a' hf' hd'=>?_) (h.2 i him si hsi))
      refine ih _ _ (D.erase i) a' E' S' K hf' (by simpa using hsz) (hnd.erase i) (fun x=>?_) ?_
      · rw [hnd.mem_erase_iff,hD]
        by_cases hx:x=i
        · subst hx
          have:x<listed.size:=by omega
          simp [this]
        · rw [Array.getElem?_setIfInBounds_ne (Ne.symm hx)]
          simp [hx]
      · rw [hd'];exact h'.2
    · rename_i hn
      refine h.1 ?_ a hf rfl
      have:rs=[]:=by
        rw [List.eq_nil_iff_length_eq_zero]
        by_cases h0:rs.length=0
        · exact h0
        · exfalso
          rw [List.getElem?_eq_none_iff] at hn
          have:=Nat.mod_lt t (Nat.pos_of_ne_zero h0)
          omega
      rw [List.eq_nil_iff_forall_not_mem] at this ⊢
      exact fun i hi=>this i ((hrs i).2 hi)
theorem wpS_sound {n:Nat}:∀ (c:Code) (sc:SCode) (a:Act) (E:Env) (S:St) (Q:SEx→Env→St→Prop) (Q':Ex→Act→St→Prop),slimCode P n c=some sc→Fits a n E→wpS P sc E S Q →
    (∀ e a' E' S',Fits a' n E'→a'.defers=a.defers→Q e E' S'→Q' (match e with | .normal=>.normal | .exit id=>.exit id | .ret=>.ret) a' S')→wpc P c a S Q':=by
  intro c
  induction c with
  | skip=>
    intro sc a E S Q Q' hs hf h hq
    cases hs
    exact wpc_skip (hq .normal a E S hf rfl h)
  | region id ops dr=>
    intro sc a E S Q Q' hs hf h hq
    simp only [slimCode,Option.bind_eq_some_iff] at hs
    obtain ⟨is,his,hs⟩:=hs
    obtain ⟨hlen,hget⟩:=optAll_get his
    split at hs
    · rename_i hdr
      split at hs
      · rename_i hmix
        cases hs
        subst hdr
        obtain ⟨bl,h⟩:=h
        refine wpc_region_draw fun t=>?_
        have e:Region.schedule (P.follows .mixedOrders) ops t=lin ops ops.size t (Array.replicate ops.size false):=by
          rw [hmix]
          simp only [Region.schedule,Bool.true_or,if_true,Region.linearise,lin_go,List.reverse_nil,List.nil_append]
        rw [e]
        have hl:is.length=ops.size:=by simpa using hlen
        rw [hl] at h
        refine wpD_ops (n:=n) (is:=is) (bl:=bl) (fun j o ho=>hget j o (by simpa using ho)) ops.size t _ (List.range ops.size) a E S _ hf (by simp) List.nodup_range (fun i=>?_) ?_
        · simp [List.mem_range,Array.getElem?_replicate]
        · have:∀ (fuel:Nat) (D:List Nat) (E:Env) (S:St),wpD P is bl fuel D E S (Q .normal)→wpD P is bl fuel D E S (fun E' S'=>∀ a',Fits a' n E'→a'.defers=a.defers→Q' .normal a' S'):=by
            intro fuel
            induction fuel with
            | zero=>intro D E S h a' hf' hd';exact hq .normal a' E S hf' hd' h
            | succ fuel ih=>intro D E S h;exact ⟨fun e a' hf' hd'=>hq .normal a' E S hf' hd' (h.1 e),fun i hi x hx=>SI.step_mono (fun E' S' h'=>⟨h'.1,ih _ _ _ h'.2⟩) (h.2 i hi x hx)⟩
          exact this _ _ _ _ h
      · cases hs
    · rename_i hdr
      have hdr':dr=false:=by simpa using hdr
      cases hs
      subst hdr'
      refine wpc_region ?_
      have hl:is.length=ops.size:=by simpa using hlen
      have:=wpI_ops (P:=P) (dr:=false) (n:=n) (ops:=ops) is 0 a E S (Q' .normal) (fun j hj=>?_) hf (wpI_mono (fun E' S' h' a' hf' hd'=>hq .normal a' E' S' hf' hd' h') h)
      · rw [hl] at this;rw [List.range_eq_range'];exact this
      · have ho:ops[j]? = some ops[j]:=Array.getElem?_eq_getElem (by omega)
        obtain ⟨si,h1,h2⟩:=hget j ops[j] (by rw [Array.getElem?_toList];exact ho)
        exact ⟨_,si,by rw [Nat.zero_add];exact ho,h1,h2⟩
  | seq x y ihx ihy=>
    intro sc a E S Q Q' hs hf h hq
    simp only [slimCode,Option.bind_eq_some_iff] at hs
    obtain ⟨sx,hx,sy,hy,hs⟩:=hs
    cases hs
    refine wpc_seq (ihx sx a E S _ _ hx hf h fun e a' E' S' hf' hd' q=>?_)
    cases e with
    | normal=>
      obtain ⟨E1,hle,q⟩:=q
      exact ihy sy a' E1 S' Q Q' hy (hf'.le hle) q fun e a'' E'' S'' hf'' hd'' q=>hq e a'' E'' S'' hf'' (hd''.trans hd') q
    | exit id=>exact hq (.exit id) a' E' S' hf' hd' q
    | ret=>exact hq .ret a' E' S' hf' hd' q
  | cond x c1 c2 ih1 ih2=>
    intro sc a E S Q Q' hs hf h hq
    simp only [slimCode,Option.bind_eq_some_iff] at hs
    obtain ⟨s1,h1,s2,h2,hs⟩:=hs
    cases hs
    simp only [wpS] at h
    split at h
    · rename_i t ht
      refine wpc_cond (hf.ev ht) ?_
      cases t with
      | true=>exact ih1 s1 a E S Q Q' h1 hf (h.1 rfl) hq
      | false=>exact ih2 s2 a E S Q Q' h2 hf (h.2 rfl) hq
    · exact h.elim
  | block id c ih=>
    intro sc a E S Q Q' hs hf h hq
    simp only [slimCode,Option.bind_eq_some_iff] at hs
    obtain ⟨s1,h1,hs⟩:=hs
    cases hs
    refine wpc_block (ih s1 a E S _ _ h1 hf h fun e a' E' S' hf' hd' q=>?_)
    cases e with
    | normal=>exact hq .normal a' E' S' hf' hd' q
    | exit id'=>
      simp only [SEx.blk,Ex.blk] at q ⊢
      split at q
      · rename_i e;simp only [e,if_true];exact hq .normal a' E' S' hf' hd' q
      · rename_i e;simp only [e,if_false];exact hq (.exit id') a' E' S' hf' hd' q
    | ret=>exact hq .ret a' E' S' hf' hd' q
  | loop c ih=>
    intro sc a E S Q Q' hs hf h hq
    simp only [slimCode,Option.bind_eq_some_iff] at hs
    obtain ⟨s1,h1,hs⟩:=hs
    cases hs
    obtain ⟨I,⟨E0,m,hle,hm⟩,hI⟩:=h
    refine wpc_loop (fun a' S' k=>∃ E',Fits a' n E'∧a'.defers=a.defers∧I E' S' k) ⟨E0,hf.le hle,rfl,hm⟩ ?_
    rintro a' S' k ⟨E',hf',hd',hk⟩
    refine ih s1 a' E' S' _ _ h1 hf' (hI E' S' k hk) fun e a'' E'' S'' hf'' hd'' q=>?_
    cases e with
    | normal=>obtain ⟨E1,n',hlt,hle,hn'⟩:=q;exact ⟨n',hlt,E1,hf''.le hle,hd''.trans hd',hn'⟩
    | exit id=>exact hq (.exit id) a'' E'' S'' hf'' (hd''.trans hd') q
    | ret=>exact hq .ret a'' E'' S'' hf'' (hd''.trans hd') q
  | exit id=>
    intro sc a E S Q Q' hs hf h hq
    cases hs
    exact wpc_exit (hq (.exit id) a E S hf rfl h)
  | ret=>
    intro sc a E S Q Q' hs hf h hq
    cases hs
    exact wpc_ret (hq .ret a E S hf rfl h)
  | refuse _=>
    intro sc a E S Q Q' hs hf h hq
    cases hs
    exact h.elim
  | _=>intro sc a E S Q Q' hs;cases hs
inductive SRes where
 | tmp (t:Nat)
 | cell1 (t:Nat)
 | cellN (t n:Nat)
def slimRes (P:Program):ResultVar→Option SRes
 | .tmp t=>some (.tmp t)
 | .cell t ty=>(aggT P ty).bind fun b=>if b then (P.info? ty).bind fun i=>some (.cellN t i.size) else some (.cell1 t)
def SRes.val (E:Env) (S:St):SRes→Option Value
 | .tmp t=>E.get t
 | .cell1 t=>match E.get t with
  | some (.pointer (some a))=>S.cell? a
  | _=>none
 | .cellN t n=>match E.get t with
  | some (.pointer (some a))=>(S.cells? a n).map fun vs=>.agg vs.toArray
  | _=>none
def resVals (E:Env) (S:St):List SRes→Option (List Value)
 | []=>some []
 | r::rs=>match r.val E S,resVals E S rs with
  | some v,some vs=>some (v::vs)
  | _,_=>none
def resVal:List Value→Value
 | [v]=>v
 | vs=>.tuple vs.toArray
structure SFn where
 n:Nat
 code:SCode
 res:List SRes
def slimFn (P:Program) (fn:Func):Option SFn:=
 fn.body.bind fun c=>(slimCode P fn.ntmps c).bind fun sc=>(optAll (fn.results.toList.map (slimRes P))).bind fun rs=>some ⟨fn.ntmps,sc,rs⟩
theorem semW_loadVar1 {ty0:TypeId} (hA:aggT P ty0=some false) {a:Addr} {v:Value} {S:St} {K:Value→St→Prop} {Kp:Value→St→Prop} (h:S.cell? a=some v) (k:K v S):vB P (loadVar ty0 a) S K Kp:=by
 simp only [loadVar,zy,semW_isAgg hA,Bool.false_eq_true,if_false]
 exact semW_load h k
theorem semW_loadVarN {ty0:TypeId} {i:TypeInfo} (hA:aggT P ty0=some true) (hi:P.info? ty0=some i) {a:Addr} {vs:List Value} {S:St} {K:Value→St→Prop} {Kp:Value→St→Prop} (h:S.cells? a i.size=some vs) (k:K (.agg vs.toArray) S):vB P (loadVar ty0 a) S K Kp:=by
 simp only [loadVar,zy,semW_isAgg hA,if_true,semW_sizeOf hi]
 exact semW_loadCells h (by simpa [zF] using k)
theorem semW_results {fn:Func} {rs:List SRes} {a:Act} {n:Nat} {E:Env} {S:St} {vs:List Value} {K:Value→St→Prop} {Kp:Value→St→Prop} (hr:optAll (fn.results.toList.map (slimRes P))=some rs) (hf:Fits a n E)
    (hv:resVals E S rs=some vs) (hK:K (resVal vs) S):vB P (results fn a.tmps) S K Kp:=by
  unfold results
  rw [zy]
  have hget:∀ t v,E.get t=some v→a.tmps.getD t undef=v:=fun t v h=>by rw [Array.getD_eq_getD_getElem?,hf.2 t v h];rfl
  have key:∀ (l:List ResultVar) (rs:List SRes) (vs:List Value) (K:List Value→St→Prop),optAll (l.map (slimRes P))=some rs→resVals E S rs=some vs→K vs S →
      vB P (l.mapM (m:=Sem) fun r=>match r with
        | .tmp t=>pure (a.tmps.getD t undef)
        | .cell x t=>do loadVar t (← asAddr (a.tmps.getD x undef))) S K Kp:=by
    intro l
    induction l with
    | nil=>intro rs vs K h1 h2 h3;cases h1;cases h2;simpa [zF] using h3
    | cons r l ih=>
      intro rs vs K h1 h2 h3
      simp only [List.map_cons] at h1
      cases hsr:slimRes P r with
      | none=>rw [hsr] at h1;cases h1
      | some sr=>
        rw [hsr] at h1
        simp only [optAll,Option.map_eq_some_iff] at h1
        obtain ⟨rs',h1,rfl⟩:=h1
        simp only [resVals] at h2
        split at h2
        · rename_i v vs' hv hvs
          cases h2
          simp only [List.mapM_cons,zy]
          have rest:vB P (l.mapM (m:=Sem) fun r=>match r with
              | .tmp t=>pure (a.tmps.getD t undef)
              | .cell x t=>do loadVar t (← asAddr (a.tmps.getD x undef))) S (fun b S'=>vB P (pure (v::b)) S' K Kp) Kp:=ih _ _ _ h1 hvs (by simpa [zF] using h3)
          cases r with
          | tmp t=>
            cases hsr
            simp only [SRes.val] at hv
            simp only [zF,hget _ _ hv]
            exact rest
          | cell x ty=>
            simp only [slimRes,Option.bind_eq_some_iff] at hsr
            obtain ⟨b,hb,hsr⟩:=hsr
            split at hsr
            · rename_i hbt
              subst hbt
              simp only [Option.bind_eq_some_iff] at hsr
              obtain ⟨i,hi,hsr⟩:=hsr
              cases hsr
              simp only [SRes.val] at hv
              split at hv
              · rename_i ad had
                simp only [Option.map_eq_some_iff] at hv
                obtain ⟨ws,hws,rfl⟩:=hv
                simp only [hget _ _ had,asAddr,zy,zF]
                exact semW_loadVarN hb hi hws rest
              · cases hv
            · rename_i hbt
              have hbt:b=false:=by simpa using hbt
              subst hbt
              cases hsr
              simp only [SRes.val] at hv
              split at hv
              · rename_i ad had
                simp only [hget _ _ had,asAddr,zy,zF]
                exact semW_loadVar1 hb hv rest
              · cases hv
        · cases h2
  have h2:=key fn.results.toList rs vs (fun l S=>vB P (pure (if h:l.toArray.size=1 then l.toArray[0] else .tuple l.toArray)) S K Kp) hr hv (by
    rw [zF]
    cases vs with
    | nil=>exact hK
    | cons v vs=>cases vs with
      | nil=>exact hK
      | cons w vs=>exact hK)
  rw [← Array.toArray_toList (xs:=fn.results),List.mapM_toArray,map_eq_pure_bind,zy]
  simp only [zF] at h2 ⊢
  exact h2
theorem calls1_slim {f:FuncId} {fn:Func} {sf:SFn} {args:List Value} {S:St} {K:Value→St→Prop} (hf:P.funcs[f]? = some fn) (hs:slimFn P fn=some sf) (hn:args.length≤sf.n)
    (h:wpS P sf.code (Env.of args) S fun e E S'=>(match e with | .exit _=>False | _=>True)∧∃ vs,resVals E S' sf.res=some vs∧K (resVal vs) S'):Calls1 P f args.toArray S K:=by
  simp only [slimFn,Option.bind_eq_some_iff] at hs
  obtain ⟨c,hc,sc,hsc,rs,hrs,hs⟩:=hs
  cases hs
  simp only at hn h
  refine calls1_of hf hc (wpS_sound (n:=fn.ntmps) c sc _ (Env.of args) S _ _ hsc ⟨?_,?_⟩ h ?_)
  · simp;omega
  · intro t v ht
    rw [Env.get_of] at ht
    simp only
    have hlt:t<args.length:=by
      rw [List.getElem?_eq_some_iff] at ht;exact ht.1
    rw [Array.getElem?_append_left (by simpa using hlt)]
    simpa using ht
  · intro e a' E' S' hf' hd' q
    obtain ⟨q1,vs,q2,q3⟩:=q
    refine ⟨by cases e<;>first | exact q1 | trivial,?_⟩
    rw [hd']
    simp only [RetW]
    exact semW_results hrs hf' q2 q3
end
end
section
open Go
open Go.Conc (G)
section
variable {P:Program}
def FinR (P:Program) (K:Value→St→Prop):Goroutine→St→Prop:=fun g S=>∃ fr fn,g=G fr []∧fr.mode=.returning∧fr.defers=[]∧fr.kind=.normal∧P.inits.idxOf? fr.fn=none∧P.funcs[fr.fn]? = some fn∧S.g=.idle∧vB P (results fn fr.tmps) S K (fun _ _=>False)
theorem finR_ok {W0:World} {K:Value→St→Prop} {Post:Value→World→Prop} (hP:∀ v S',K v S'→∀ w',S'.In w'→RowKit.Below W0.heap.size W0 w'→Post v w'):FinOk P W0 Post (FinR P K):=by
 rintro g S ⟨fr,fn,rfl,hm,hd,hkd,hno,hf,hi,h⟩
 refine ⟨hi,rfl,fun w hin=>?_⟩
 rcases semW_run _ S w #[] h hin with ⟨v,S',w',es,hr,hq,hkp,hev⟩ | ⟨_,_,_,_,_,hf,_⟩
 case inr=>exact hf.elim
 rw [Array.empty_append] at hr
 refine ⟨v,w',seen P fr.fn es,S',?_,hkp,fun e he=>hev e (mem_seen he),hP v S' hq w' hkp.inn⟩
 simp only [G,stepG,Go.unwind,hm,hd,hf,hr,doReturn,hkd,hno]
 simp [GStep.after]
theorem go1_slim {f:FuncId} {fn:Func} {sf:SFn} {args:List Value} {S:St} {K:Value→St→Prop} (hK:∀ v S,K v S→S.g=.idle) (hno:P.inits.idxOf? f=none) (hf:P.funcs[f]? = some fn) (hs:slimFn P fn=some sf) (hn:args.length≤sf.n)
    (h:wpS P sf.code (Env.of args) S fun e E S'=>(match e with | .exit _=>False | _=>True)∧∃ vs,resVals E S' sf.res=some vs∧K (resVal vs) S'):Go1 P true (FinR P K) (G (Frame.enter P f args.toArray .normal) []) S:=by
  simp only [slimFn,Option.bind_eq_some_iff] at hs
  obtain ⟨c,hc,sc,hsc,rs,hrs,hs⟩:=hs
  cases hs
  simp only at hn h
  have e:Frame.enter P f args.toArray .normal=({fn:=f,tmps:=#[],todo:=[],defers:=[],mode:=.run,kind:=.normal}:Frame).atR {tmps:=args.toArray++Array.replicate (fn.ntmps-args.toArray.size) undef,defers:=[]} [.code c]:=by
    simp [Frame.enter,Frame.atR,hf,hc]
  rw [e]
  refine wpS_sound (n:=fn.ntmps) c sc _ (Env.of args) S _ (fun e a' S'=>(match e with | .exit _=>False | _=>True)∧a'.defers=[]∧S'.g=.idle∧vB P (results fn a'.tmps) S' K (fun _ _=>False)) hsc ⟨?_,?_⟩ h ?_ true (FinR P K) _ [] [] (by simp) ?_
  · simp;omega
  · intro t v ht
    rw [Env.get_of] at ht
    simp only
    have hlt:t<args.length:=by
      rw [List.getElem?_eq_some_iff] at ht;exact ht.1
    rw [Array.getElem?_append_left (by simpa using hlt)]
    simpa using ht
  · intro e a' E' S' hf' hd' q
    obtain ⟨q1,vs,q2,q3⟩:=q
    exact ⟨by cases e<;>first | exact q1 | trivial,hd',hK _ _ q3,semW_results hrs hf' q2 q3⟩
  · intro e a' S' q
    have fin:∀ todo,Go1 P true (FinR P K) (G {({fn:=f,tmps:=#[],todo:=[],defers:=[],mode:=.run,kind:=.normal}:Frame).atR a' todo with mode:=.returning} []) S':=
      fun todo=>.fin ⟨_,fn,rfl,rfl,q.2.1,rfl,hno,hf,q.2.2.1,q.2.2.2⟩
    cases e with
    | normal=>exact .off fin
    | exit id=>exact q.1.elim
    | ret=>exact fin
end
end
section
def SOp.reads:SOp→List Operand
 | .mv x | .box _ x | .load1 x | .loadN _ x | .nilchk x | .not x | .conv _ x | .strBytes _ x | .bytesStr x | .fieldAddr _ x | .extract x _ | .lenS x | .lenL x | .mkIface _ x=>[x]
 | .pick a b c=>[a,b,c]
 | .alloc .. | .mkMap=>[]
 | .build _ _ ps | .buildSlice _ _ _ _ ps=>ps.map (·.2)
 | .store _ x y | .bin _ x y | .eqv _ _ x y | .strIdx x y | .idxAddr _ x y | .append _ _ _ _ x y | .mkSlice _ _ _ _ x y | .min2 x y | .max2 x y=>[x,y]
 | .sliceS x l h=>x::(l.toList++h.toList)
 | .sliceL _ x l h m=>x::(l.toList++h.toList++m.toList)
 | .call _ xs=>xs
 | .callv x xs=>x::xs
 | .mkFunc _ a b=>a++b
 | .raw op _=>op.operands.toList
def opSlot:Operand→Option Nat
 | .tmp t=>some t
 | _=>none
def SI.slots (i:SI):List Nat:=i.op.reads.filterMap opSlot++(match i.guard with | some (some g,_)=>[g] | _=>[])
theorem Env.ev_set {E:Env} {d:Option Nat} {v:Value} {x:Operand} (h:∀ t,d=some t→opSlot x≠some t):(E.set d v).ev x=E.ev x:=by
 cases d with
 | none=>rfl
 | some d=>
  cases x with
  | tmp t=>
   have h2:=h d rfl
   simp only [opSlot,ne_eq,Option.some.injEq] at h2
   simp only [Env.ev,Env.get_set,if_neg h2]
  | _=>rfl
theorem evs_congr {E E':Env}:∀ {xs:List Operand},(∀ x∈xs,E.ev x=E'.ev x)→E.evs xs=E'.evs xs:=by
 intro xs
 induction xs with
 | nil=>exact fun _=>rfl
 | cons x xs ih=>intro h;simp only [Env.evs,h x (by simp),ih fun y hy=>h y (by simp [hy])]
theorem partsOf_congr {E E':Env}:∀ {xs:List (Nat × Operand)},(∀ x∈xs.map (·.2),E.ev x=E'.ev x)→partsOf E xs=partsOf E' xs:=by
 intro xs
 induction xs with
 | nil=>exact fun _=>rfl
 | cons x xs ih=>intro h;obtain ⟨i,x⟩:=x;simp only [partsOf,h x (by simp),ih fun y hy=>h y (by simp at hy ⊢;exact .inr hy)]
theorem evo_congr {E E':Env} {x:Option Operand} (h:∀ y∈x.toList,E.ev y=E'.ev y):E.evo x=E'.evo x:=by
 cases x with
 | none=>rfl
 | some y=>simp only [Env.evo,h y (by simp)]
theorem SOp.W_congr {P:Program} {E E':Env} {S:St} {K:Value→St→Prop} {s:SOp} (h:∀ x∈s.reads,E.ev x=E'.ev x):s.W P E S K→s.W P E' S K:=by
 cases s<;>simp only [SOp.reads,List.mem_cons,List.not_mem_nil,or_false,forall_eq_or_imp,forall_eq,List.mem_append] at h<;>simp only [SOp.W]
 case mv=>rw [h];exact id
 case pick=>rw [h.1,h.2.1,h.2.2];exact id
 case alloc=>exact id
 case box=>rw [h];exact id
 case build=>rw [partsOf_congr h];exact id
 case buildSlice=>rw [partsOf_congr h];exact id
 case load1=>rw [h];exact id
 case loadN=>rw [h];exact id
 case store=>rw [h.1,h.2];exact id
 case nilchk=>rw [h];exact id
 case bin=>rw [h.1,h.2];exact id
 case eqv=>rw [h.1,h.2];exact id
 case not=>rw [h];exact id
 case conv=>rw [h];exact id
 case strBytes=>rw [h];exact id
 case bytesStr=>rw [h];exact id
 case fieldAddr=>rw [h];exact id
 case strIdx=>rw [h.1,h.2];exact id
 case idxAddr=>rw [h.1,h.2];exact id
 case sliceS=>rw [h.1,evo_congr fun y hy=>h.2 y (.inl hy),evo_congr fun y hy=>h.2 y (.inr hy)];exact id
 case sliceL=>rw [h.1,evo_congr fun y hy=>h.2 y (.inl (.inl hy)),evo_congr fun y hy=>h.2 y (.inl (.inr hy)),evo_congr fun y hy=>h.2 y (.inr hy)];exact id
 case extract=>rw [h];exact id
 case call=>rw [evs_congr h];exact id
 case callv=>rw [h.1,evs_congr h.2];exact id
 case lenS=>rw [h];exact id
 case lenL=>rw [h];exact id
 case mkFunc=>rw [evs_congr fun y hy=>h y (.inl hy),evs_congr fun y hy=>h y (.inr hy)];exact id
 case append=>rw [h.1,h.2];exact id
 case mkSlice=>rw [h.1,h.2];exact id
 case min2=>rw [h.1,h.2];exact id
 case max2=>rw [h.1,h.2];exact id
 case mkIface=>rw [h];exact id
 case mkMap=>exact id
 case raw=>
  intro hh
  cases hh with
  | mk hh=>exact .mk fun ρ hρ=>hh ρ fun x hx v hv=>hρ x hx v (by rw [← h x hx];exact hv)
  | comm hh=>exact .comm fun ρ hρ=>hh ρ fun x hx v hv=>hρ x hx v (by rw [← h x hx];exact hv)
theorem mem_slots {i:SI} {x:Operand} {t:Nat} (hx:x∈i.op.reads) (ht:opSlot x=some t):t∈i.slots:=by
 unfold SI.slots
 exact List.mem_append_left _ (List.mem_filterMap.2 ⟨x,hx,ht⟩)
theorem SI.step_set {P:Program} {i:SI} {E:Env} {S:St} {K:Env→St→Prop} {d:Option Nat} {v:Value} (h:∀ t,d=some t→t∉i.slots) (hs:i.step P (E.set d v) S fun E' S'=>∀ u,E'=(E.set d v).set i.dst u→K (E.set i.dst u) S'):i.step P E S K:=by
 have hev:∀ x∈i.op.reads,(E.set d v).ev x=E.ev x:=fun x hx=>Env.ev_set fun t ht hc=>h t ht (mem_slots hx hc)
 unfold SI.step at hs ⊢
 split at hs
 ·exact SOp.W_congr hev (SOp.W_mono (fun u S' q=>q u rfl) _ hs)
 ·rename_i g t hg
  have hge:g.bind (E.set d v).get=g.bind E.get:=by
   cases g with
   | none=>rfl
   | some g=>
    simp only [Option.bind_some]
    cases d with
    | none=>rfl
    | some d=>
     rw [Env.get_set,if_neg]
     intro e;subst e
     exact h g rfl (by unfold SI.slots;rw [hg];simp)
  rw [hge] at hs
  split at hs
  ·split at hs
   ·rename_i hb;simp only [hb,if_true];exact SOp.W_congr hev (SOp.W_mono (fun u S' q=>q u rfl) _ hs)
   ·rename_i hb;simp only [hb,if_false];exact hs undef rfl
  ·exact hs undef rfl
  ·exact hs
def Lt (P:Program) (i:SI) (E:Env) (S:St) (v:Value):Prop:=∀ K:Env→St→Prop,K (E.set i.dst v) S→i.step P E S K
def okFirst (is:List SI) (D:List Nat) (i:Nat):Bool:=
 match is[i]? with
 | none=>false
 | some x=>D.all fun j=>j==i||match is[j]? with
  | none=>false
  | some y=>y.after.contains i||(match y.dst with | some d=>!x.slots.contains d&&(x.dst != some d) | none=>true)&&(match x.dst with | some d=>!y.slots.contains d | none=>true)
theorem okFirst_erase {is:List SI} {D:List Nat} {i j:Nat} (h:okFirst is D i=true):okFirst is (D.erase j) i=true:=by
 unfold okFirst at h ⊢
 split at h
 ·cases h
 ·simp only [List.all_eq_true] at h ⊢
  exact fun k hk=>h k (List.mem_of_mem_erase hk)
theorem rdy_erase {is:List SI} {D:List Nat} {i j:Nat} (hnd:D.Nodup) (hij:j≠i) (h:j∈rdy is D):j∈rdy is (D.erase i):=by
 unfold rdy at h ⊢
 rw [List.mem_filter] at h ⊢
 obtain ⟨h1,h2⟩:=h
 refine ⟨(hnd.mem_erase_iff).2 ⟨hij,h1⟩,?_⟩
 split at h2
 ·simp only [List.all_eq_true,Bool.not_eq_true',List.contains_eq_mem,decide_eq_false_iff_not] at h2 ⊢
  exact fun k hk hc=>h2 k hk (List.mem_of_mem_erase hc)
 ·cases h2
def Closed (is:List SI) (D:List Nat):Prop:=∀ m,m∉D→∀ p∈aft_ is m,p∉D
theorem Closed.erase {is:List SI} {D:List Nat} {j:Nat} (hnd:D.Nodup) (h:Closed is D) (hj:j∈rdy is D):Closed is (D.erase j):=by
 intro m hm p hp hc
 have hpD:=List.mem_of_mem_erase hc
 by_cases hmD:m∈D
 ·have hmj:m=j:=by
   apply Classical.byContradiction
   intro hne
   exact hm ((hnd.mem_erase_iff).2 ⟨hne,hmD⟩)
  subst hmj
  have h2:=(List.mem_filter.1 hj).2
  unfold aft_ at hp
  split at h2
  ·rename_i y hy
   rw [hy] at hp
   simp only [List.all_eq_true,Bool.not_eq_true',List.contains_eq_mem,decide_eq_false_iff_not] at h2
   exact h2 p hp hpD
  ·cases h2
 ·exact h m hmD p hp hpD
theorem Closed.ancL {is:List SI} {D:List Nat} (h:Closed is D):∀ (n:Nat) (l:List Nat),(∀ p∈l,p∉D)→∀ p∈ancL is n l,p∉D:=by
 intro n
 induction n with
 | zero=>exact fun l hl=>hl
 | succ n ih=>
  intro l hl
  simp only [Go.Proofs.YtnccejlibbgpkaaGreatDoor.ancL]
  refine ih _ fun p hp=>?_
  rw [List.mem_eraseDups,List.mem_append,List.mem_flatMap] at hp
  rcases hp with hp | ⟨q,hq,hp⟩
  ·exact hl p hp
  ·exact h q (hl q hq) p hp
theorem Closed.anc {is:List SI} {D:List Nat} (h:Closed is D) (n j:Nat) (hj:∀ p∈aft_ is j,p∉D):∀ p∈anc is n j,p∉D:=h.ancL n _ hj
theorem rdy_aft {is:List SI} {D:List Nat} {j:Nat} (hj:j∈rdy is D):∀ p∈aft_ is j,p∉D:=by
 intro p hp hc
 have h2:=(List.mem_filter.1 hj).2
 unfold aft_ at hp
 split at h2
 ·rename_i y hy
  rw [hy] at hp
  simp only [List.all_eq_true,Bool.not_eq_true',List.contains_eq_mem,decide_eq_false_iff_not] at h2
  exact h2 p hp hc
 ·cases h2
theorem Env.set_get_other {E:Env} {d:Option Nat} {v:Value} {t:Nat} (h:∀ x,d=some x→t≠x):(E.set d v).get t=E.get t:=by
 cases d with
 | none=>rfl
 | some d=>rw [Env.get_set,if_neg (h d rfl)]
theorem Lt_set {P:Program} {i:SI} {E:Env} {S:St} {v u:Value} {d:Option Nat} (h:∀ t,d=some t→t∉i.slots) (hl:Lt P i E S v):Lt P i (E.set d u) S v:=by
 intro K hK
 have hev:∀ x∈i.op.reads,E.ev x=(E.set d u).ev x:=fun x hx=>(Env.ev_set fun t ht hc=>h t ht (mem_slots hx hc)).symm
 have h1:=hl (fun E' S'=>∀ w,E'=E.set i.dst w→K ((E.set d u).set i.dst w) S')
 unfold SI.step at h1 ⊢
 split
 ·rename_i hg
  simp only [hg] at h1
  refine SOp.W_congr hev (SOp.W_mono (fun w S' q=>q w rfl) _ (h1 ?_))
  intro w hw
  cases hd:i.dst with
  | none=>rw [hd] at hK;exact hK
  | some x=>
   rw [hd] at hw hK
   have:v=w:=by
    have:=congrFun hw x
    simp only [Env.set,if_true] at this
    exact Option.some.inj this
   subst this
   exact hK
 ·rename_i g t hg
  have hge:g.bind (E.set d u).get=g.bind E.get:=by
   cases g with
   | none=>rfl
   | some g=>
    simp only [Option.bind_some]
    refine Env.set_get_other fun x hx e=>?_
    subst e
    exact h g hx (by unfold SI.slots;rw [hg];simp)
  rw [hge]
  simp only [hg] at h1
  have hpre:∀ w,E.set i.dst v=E.set i.dst w→K ((E.set d u).set i.dst w) S:=by
   intro w hw
   cases hd:i.dst with
   | none=>rw [hd] at hK;exact hK
   | some x=>
    rw [hd] at hw hK
    have:v=w:=by
     have:=congrFun hw x
     simp only [Env.set,if_true] at this
     exact Option.some.inj this
    subst this
    exact hK
  have h2:=h1 hpre
  split at h2
  ·split at h2
   ·rename_i hb;simp only [hb,if_true]
    exact SOp.W_congr hev (SOp.W_mono (fun w S' q=>q w rfl) _ h2)
   ·rename_i hb;simp only [hb,if_false];exact h2 undef rfl
  ·exact h2 undef rfl
  ·exact h2
theorem wpD_first {P:Program} {is:List SI} {bl:List Nat} {i:Nat} {x:SI} {v:Value} (hx:is[i]? = some x):∀ (n:Nat) (D:List Nat) (E:Env) (S:St) (K:Env→St→Prop),D.Nodup→Closed is D→D.length=n+1→i∈rdy is D→okFirst is D i=true →
    (∀ S',(x.op.isLoad=true→Stays bl S S')→Lt P x E S' v)→wpD P is bl n (D.erase i) (E.set x.dst v) S K→wpD P is bl (n+1) D E S K:=by
  intro n
  induction n with
  | zero=>
    intro D E S K hnd hcl hlen hi hok hl h
    refine ⟨fun e=>by rw [e] at hi;simp at hi,fun j hj y hy=>?_⟩
    have hjD:j∈D:=(List.mem_filter.1 hj).1
    have hiD:i∈D:=(List.mem_filter.1 hi).1
    have:j=i:=by
      obtain ⟨z,rfl⟩:=List.length_eq_one_iff.1 hlen
      simp at hjD hiD;rw [hjD,hiD]
    subst this
    rw [hx] at hy;cases hy
    exact hl S (fun _ _ _ _ h=>h) _ ⟨fun _ _ _ _ h=>h,h⟩
  | succ n ih=>
    intro D E S K hnd hcl hlen hi hok hl h
    refine ⟨fun e=>by rw [e] at hi;simp at hi,fun j hj y hy=>?_⟩
    have hjD:j∈D:=(List.mem_filter.1 hj).1
    have hiD:i∈D:=(List.mem_filter.1 hi).1
    by_cases hji:j=i
    · subst hji
      rw [hx] at hy;cases hy
      exact hl S (fun _ _ _ _ h=>h) _ ⟨fun _ _ _ _ h=>h,h⟩
    · have hok':=hok
      unfold okFirst at hok'
      simp only [hx,List.all_eq_true] at hok'
      have hjok:=hok' j hjD
      have hji':(j==i)=false:=by simpa using hji
      simp only [hji',Bool.false_or,hy] at hjok
      have hna:y.after.contains i=false:=by
        have:=(List.mem_filter.1 hj).2
        simp only [hy,List.all_eq_true,Bool.not_eq_true',List.contains_eq_mem,decide_eq_false_iff_not] at this
        simp only [List.contains_eq_mem,decide_eq_false_iff_not]
        exact fun hc=>this i hc hiD
      rw [hna,Bool.false_or,Bool.and_eq_true] at hjok
      obtain ⟨h1,h2⟩:=hjok
      have hyx:∀ d,y.dst=some d→d∉x.slots∧x.dst≠some d:=by
        intro d hd
        rw [hd] at h1
        simpa using h1
      have hxy:∀ d,x.dst=some d→d∉y.slots:=by
        intro d hd
        rw [hd] at h2
        simpa using h2
      have hstep:=h.2 j (rdy_erase hnd hji hj) y hy
      have hstep2:y.step P (E.set x.dst v) S fun E' S'=>∀ u,E'=(E.set x.dst v).set y.dst u→(ldOpen is j=true→Stays bl S S')∧wpD P is bl (n+1) (D.erase j) (E.set y.dst u) S' K:=by
        refine SI.step_mono (fun E' S' q u hu=>?_) hstep
        refine ⟨q.1,?_⟩
        have hld:x.op.isLoad=true→ldOpen is j=true:=by
          intro hx2
          unfold ldOpen
          rw [List.any_eq_true]
          refine ⟨i,List.mem_range.2 (List.getElem?_eq_some_iff.1 hx).1,?_⟩
          have e3:(anc is 9 j).contains i=false:=by
            simp only [List.contains_eq_mem,decide_eq_false_iff_not]
            exact fun hc=>hcl.anc 9 j (rdy_aft hj) i hc hiD
          have e1:(i != j)=true:=by simpa using Ne.symm hji
          have e2:isLd is i=true:=by unfold isLd;rw [hx];exact hx2
          simp only [e1,e2,e3,Bool.true_and,Bool.not_false]
        have hq:=q.2
        subst hu
        refine ih (D.erase j) (E.set y.dst u) S' K (hnd.erase j) (hcl.erase hnd hj) (by rw [List.length_erase_of_mem hjD,hlen];rfl) (rdy_erase hnd (Ne.symm hji) hi) (okFirst_erase hok) (fun S'' hS''=>?_) ?_
        · exact Lt_set (fun t ht=>(hyx t ht).1) (hl S'' fun hx2 b e hb he=>hS'' hx2 b e hb (q.1 (hld hx2) b e hb he))
        · rw [List.erase_comm] at hq
          have hcomm:(E.set y.dst u).set x.dst v=(E.set x.dst v).set y.dst u:=by
            cases hxd:x.dst with
            | none=>rfl
            | some dx=>
              cases hyd:y.dst with
              | none=>rfl
              | some dy=>exact Env.set_comm E (fun e=>by subst e;exact (hyx _ hyd).2 hxd) _ _
          rw [hcomm];exact hq
      exact SI.step_set (fun t ht=>hxy t ht) hstep2
end
section
def Odd (o:Obj):Prop:=∃ v,o=.cells #[v] 158 (0,0)
structure Gro (S S':St):Prop where
 eq:S'.g=S.g
 keep:∀ b e,S b=some e→∃ o,S' b=some ⟨o,e.wr⟩
 ro:∀ b e,S b=some e→e.wr=false→S' b=some e
 new:∀ b e,S b=none→S' b=some e→e.wr=true∨Odd e.o
theorem Gro.refl (S:St):Gro S S:=⟨rfl,fun b e h=>⟨e.o,h⟩,fun _ _ h _=>h,fun b e h h'=>by rw [h] at h';cases h'⟩
theorem Gro.trans {S S1 S2:St} (k:Gro S1 S2) (h:Gro S S1):Gro S S2 where
 eq:=k.eq.trans h.eq
 keep b e hb:=by
  obtain ⟨o,ho⟩:=h.keep b e hb
  exact k.keep b ⟨o,e.wr⟩ ho
 ro b e hb hw:=k.ro b e (h.ro b e hb hw) hw
 new b e hb he:=by
  cases h1:S1 b with
  | none=>exact k.new b e h1 he
  | some e1=>
   cases hw:e1.wr with
   | true=>
    obtain ⟨o,ho⟩:=k.keep b e1 h1
    rw [he] at ho;cases ho
    exact .inl hw
   | false=>
    have:=k.ro b e1 h1 hw
    rw [he] at this;cases this
    exact h.new b e hb h1
theorem Gro.isNone {S S':St} (h:Gro S S') {b:Nat} (hb:S' b=Option.none):S b=Option.none:=by
 cases hs:S b with
 | none=>rfl
 | some e=>obtain ⟨o,ho⟩:=h.keep b e hs;rw [hb] at ho;cases ho
theorem Gro.put {S:St} {b:Nat} (h:∀ e,S b=some e→e.wr=true) (o:Obj):Gro S (S.put b o) where
 eq:=rfl
 keep x e hx:=by
  by_cases hxb:x=b
  ·subst hxb;exact ⟨o,by rw [S.put_same,h e hx]⟩
  ·exact ⟨e.o,by rw [S.put_ne _ hxb];exact hx⟩
 ro x e hx hw:=by
  have hxb:x≠b:=by rintro rfl;rw [h e hx] at hw;cases hw
  rw [S.put_ne _ hxb];exact hx
 new x e hx he:=by
  by_cases hxb:x=b
  ·subst hxb;rw [S.put_same] at he;cases he;exact .inl rfl
  ·rw [S.put_ne _ hxb,hx] at he;cases he
theorem Gro.put0 {S:St} {b:Nat} (h:S b=none) (o:Obj):Gro S (S.put b o):=.put (fun e he=>by rw [h] at he;cases he) o
theorem Gro.put1 {S:St} {b:Nat} {o0:Obj} (h:S b=some ⟨o0,true⟩) (o:Obj):Gro S (S.put b o):=.put (fun e he=>by rw [h] at he;cases he;rfl) o
structure Ext (X:List Nat) (S S':St):Prop where
 g:Gro S S'
 ext:Stays X S S'
theorem Ext.refl (X:List Nat) (S:St):Ext X S S:=⟨.refl S,fun _ _ _ h=>h⟩
theorem Ext.trans {X:List Nat} {S S1 S2:St} (h:Ext X S S1) (k:Ext X S1 S2):Ext X S S2:=⟨k.g.trans h.g,fun b e hb he=>k.ext b e hb (h.ext b e hb he)⟩
theorem Ext.mono {X Y:List Nat} {S S':St} (h:Ext X S S') (hs:∀ b∈X,b∈Y):Ext Y S S':=⟨h.g,fun b e hb he=>h.ext b e (fun hc=>hb (hs b hc)) he⟩
theorem Ext.up {X:List Nat} {S S':St} (h:Ext [] S S'):Ext X S S':=h.mono (by simp)
theorem Ext.get {S S':St} (h:Ext [] S S') {b:Nat} {e:Ent} (hb:S b=some e):S' b=some e:=h.ext b e (by simp) hb
theorem Ext.cells {S S':St} (h:Ext [] S S') {a:Addr} {n:Nat} {vs:List Value} (hc:S.cells? a n=some vs):S'.cells? a n=some vs:=by
 unfold St.cells? at hc ⊢
 split at hc
 ·rename_i c e f wr hs
  rw [h.get hs];exact hc
 ·cases hc
theorem Ext.cell {S S':St} (h:Ext [] S S') {a:Addr} {v:Value} (hc:S.cell? a=some v):S'.cell? a=some v:=by
 unfold St.cell? at hc ⊢
 split at hc
 ·rename_i c e f wr hs
  rw [h.get hs];exact hc
 ·cases hc
theorem Ext.isNone {S S':St} (h:Ext [] S S') {b:Nat} (hb:S' b=none):S b=none:=by
 cases hs:S b with
 | none=>rfl
 | some e=>rw [h.get hs] at hb;cases hb
theorem zG {X:List Nat} {S S':St} (h:Stays X S S') {a:Addr} {n:Nat} {vs:List Value} (hX:a.block∉X) (hc:S.cells? a n=some vs):S'.cells? a n=some vs:=by
 unfold St.cells? at hc ⊢
 split at hc
 ·rename_i c e f wr hs
  rw [h _ _ hX hs];exact hc
 ·cases hc
theorem zB {X:List Nat} {S S':St} (h:Stays X S S') {a:Addr} {v:Value} (hX:a.block∉X) (hc:S.cell? a=some v):S'.cell? a=some v:=by
 unfold St.cell? at hc ⊢
 split at hc
 ·rename_i c e f wr hs
  rw [h _ _ hX hs];exact hc
 ·cases hc
@[reducible] def Cs (cs:List Value) (e:TypeId):Obj:=.cells cs.toArray e (0,0)
inductive Has:List (Nat × Obj)→Nat→Obj→Prop
 | head {L:List (Nat × Obj)} {b:Nat} {o:Obj}:Has ((b,o)::L) b o
 | tail {L:List (Nat × Obj)} {p:Nat × Obj} {b:Nat} {o:Obj}:Has L b o→Has (p::L) b o
inductive Upd:List (Nat × Obj)→Nat→Obj→Obj→List (Nat × Obj)→Prop
 | head {L:List (Nat × Obj)} {b:Nat} {o o':Obj}:Upd ((b,o)::L) b o o' ((b,o')::L)
 | tail {L L':List (Nat × Obj)} {p:Nat × Obj} {b:Nat} {o o':Obj}:Upd L b o o' L'→Upd (p::L) b o o' (p::L')
theorem Has.mem {L:List (Nat × Obj)} {b:Nat} {o:Obj} (h:Has L b o):(b,o)∈L:=by
 induction h with
 | head=>simp
 | tail _ ih=>simp [ih]
theorem Upd.mem {L L':List (Nat × Obj)} {b:Nat} {o o':Obj} (h:Upd L b o o' L'):(b,o)∈L:=by
 induction h with
 | head=>simp
 | tail _ ih=>simp [ih]
theorem Upd.keys {L L':List (Nat × Obj)} {b:Nat} {o o':Obj} (h:Upd L b o o' L'):L'.map (·.1)=L.map (·.1):=by
 induction h with
 | head=>simp
 | tail _ ih=>simp [ih]
theorem Upd.back {L L':List (Nat × Obj)} {b:Nat} {o o':Obj} (h:Upd L b o o' L') (hnd:(L.map (·.1)).Nodup):∀ x u,(x,u)∈L'→(x=b∧u=o')∨(x≠b∧(x,u)∈L):=by
 induction h with
 | @head L b o o'=>
  intro x u hx
  simp only [List.map_cons,List.nodup_cons] at hnd
  simp only [List.mem_cons,Prod.mk.injEq] at hx
  rcases hx with ⟨rfl,rfl⟩ | hx
  ·exact .inl ⟨rfl,rfl⟩
  ·refine .inr ⟨fun e=>?_,by simp [hx]⟩
   subst e
   exact hnd.1 (List.mem_map_of_mem hx)
 | @tail L L' p b o o' hu ih=>
  intro x u hx
  simp only [List.map_cons,List.nodup_cons] at hnd
  simp only [List.mem_cons] at hx
  rcases hx with rfl | hx
  ·refine .inr ⟨fun e=>?_,by simp⟩
   simp only at e hnd
   subst e
   exact hnd.1 (List.mem_map_of_mem hu.mem)
  ·rcases ih hnd.2 x u hx with h | ⟨h1,h2⟩
   ·exact .inl h
   ·exact .inr ⟨h1,by simp [h2]⟩
structure Loc (X:List Nat) (S0 S:St) (L:List (Nat × Obj)):Prop where
 g:Gro S0 S
 ext:Stays X S0 S
 own:∀ b o,(b,o)∈L→S b=some ⟨o,true⟩
 fresh:∀ b o,(b,o)∈L→S0 b=none∨b∈X
 nodup:(L.map (·.1)).Nodup
variable {X:List Nat} {S0 S S':St} {L L':List (Nat × Obj)}
theorem Loc.start (X:List Nat) (S:St):Loc X S S []:=⟨.refl S,fun _ _ _ h=>h,by simp,by simp,by simp⟩
theorem Loc.start1 {b:Nat} {o:Obj} (h:S b=some ⟨o,true⟩):Loc [b] S S [(b,o)]:=⟨.refl S,fun _ _ _ h=>h,by simp [h],by simp,by simp⟩
theorem Loc.qx (H:Loc X S0 S L):Ext X S0 S:=⟨H.g,H.ext⟩
theorem Loc.get (H:Loc X S0 S L) {b:Nat} {o:Obj} (h:Has L b o):S b=some ⟨o,true⟩:=H.own b o h.mem
theorem Loc.alloc (H:Loc X S0 S L) {b:Nat} (hb:S b=none) (o:Obj):Loc X S0 (S.put b o) ((b,o)::L) where
 g:=(Gro.put0 hb o).trans H.g
 ext x e hx he:=by
  have:=H.ext x e hx he
  rw [St.put_ne _ _ (fun e'=>by subst e';rw [hb] at this;cases this)];exact this
 own x u hx:=by
  simp only [List.mem_cons,Prod.mk.injEq] at hx
  rcases hx with ⟨rfl,rfl⟩ | hx
  ·exact St.put_same _ _ _
  ·have:=H.own x u hx
   rw [St.put_ne _ _ (fun e'=>by subst e';rw [hb] at this;cases this)];exact this
 fresh x u hx:=by
  simp only [List.mem_cons,Prod.mk.injEq] at hx
  rcases hx with ⟨rfl,rfl⟩ | hx
  ·cases hs:S0 x with
   | none=>exact .inl rfl
   | some e=>
    by_cases hX:x∈X
    ·exact .inr hX
    ·have:=H.ext x e hX hs;rw [hb] at this;cases this
  ·exact H.fresh x u hx
 nodup:=by
  simp only [List.map_cons,List.nodup_cons]
  refine ⟨fun hc=>?_,H.nodup⟩
  obtain ⟨⟨x,u⟩,hx,rfl⟩:=List.mem_map.1 hc
  have:=H.own x u hx
  simp only at hb
  rw [hb] at this;cases this
theorem Loc.put (H:Loc X S0 S L) {b:Nat} {o o':Obj} (hu:Upd L b o o' L'):Loc X S0 (S.put b o') L' where
 g:=(Gro.put1 (H.own b o hu.mem) o').trans H.g
 ext x e hx he:=by
  have hm:=H.fresh b o hu.mem
  have:x≠b:=by
   rintro rfl
   rcases hm with h | h
   ·rw [h] at he;cases he
   ·exact hx h
  rw [St.put_ne _ _ this];exact H.ext x e hx he
 own x u hx:=by
  rcases hu.back H.nodup x u hx with ⟨rfl,rfl⟩ | ⟨hne,hx⟩
  ·exact St.put_same _ _ _
  ·rw [St.put_ne _ _ hne];exact H.own x u hx
 fresh x u hx:=by
  rcases hu.back H.nodup x u hx with ⟨rfl,rfl⟩ | ⟨_,hx⟩
  ·exact H.fresh x o hu.mem
  ·exact H.fresh x u hx
 nodup:=by rw [hu.keys];exact H.nodup
theorem Loc.call (H:Loc X S0 S L) (h:Ext [] S S'):Loc X S0 S' L:=
 ⟨h.g.trans H.g,fun b e hb he=>h.get (H.ext b e hb he),fun b o hb=>h.get (H.own b o hb),H.fresh,H.nodup⟩
theorem Loc.callX (H:Loc X S0 S L) {b:Nat} {o o':Obj} (h:Ext [b] S S') (hu:Upd L b o o' L') (hb:S' b=some ⟨o',true⟩):Loc X S0 S' L' where
 g:=h.g.trans H.g
 ext x e hx he:=by
  have hm:=H.fresh b o hu.mem
  have:x≠b:=by
   rintro rfl
   rcases hm with h | h
   ·rw [h] at he;cases he
   ·exact hx h
  exact h.ext x e (by simpa using this) (H.ext x e hx he)
 own x u hx:=by
  rcases hu.back H.nodup x u hx with ⟨rfl,rfl⟩ | ⟨hne,hx⟩
  ·exact hb
  ·exact h.ext x _ (by simpa using hne) (H.own x u hx)
 fresh x u hx:=by
  rcases hu.back H.nodup x u hx with ⟨rfl,rfl⟩ | ⟨_,hx⟩
  ·exact H.fresh x o hu.mem
  ·exact H.fresh x u hx
 nodup:=by rw [hu.keys];exact H.nodup
theorem Loc.sub (H:Loc X S0 S L) (h:L'.Sublist L):Loc X S0 S L':=
 ⟨H.g,H.ext,fun b o hb=>H.own b o (h.subset hb),fun b o hb=>H.fresh b o (h.subset hb),(h.map _).nodup H.nodup⟩
variable {P:Program} {E:Env} {K:Value→St→Prop}
@[reducible] def vQ (b off:Nat):Value:=.pointer (some ⟨b,off,none⟩)
@[reducible] def sl (b off n cap:Nat):Value:=.slice (some ⟨b,off,none⟩) n cap
@[reducible] def int (n:Int):Value:=.int .i64 n
theorem vP {x:Operand} {v:Value} (h:E.ev x=some v) (k:K v S):(SOp.mv x).W P E S K:=⟨v,h,k⟩
theorem vN {c a b:Operand} {t:Bool} {va vb v:Value} (hc:E.ev c=some (.bool t)) (ha:E.ev a=some va) (hb:E.ev b=some vb) (hv:(bif t then va else vb)=v) (k:K v S):(SOp.pick c a b).W P E S K:=by
 simp only [SOp.W,hc,ha,hb]
 subst hv
 cases t<;>exact k
theorem Ext.put_new {b:Nat} (hb:S b=none) (o:Obj):Ext [] S (S.put b o):=
 ⟨.put0 hb o,fun x e _ he=>by rw [St.put_ne _ _ (fun e'=>by subst e';rw [hb] at he;cases he)];exact he⟩
theorem Ext.put_old {b:Nat} {o0:Obj} (h:S b=some ⟨o0,true⟩) (o:Obj):Ext [b] S (S.put b o):=
 ⟨.put1 h o,fun x e hx he=>by rw [St.put_ne _ _ (by simpa using hx)];exact he⟩
theorem W_alloc {e:TypeId} {z:Value} {zs:List Value} (H:Loc X S0 S L) (hz:z.cells=zs.toArray) (k:∀ b S',S b=none→Ext [] S S'→Loc X S0 S' ((b,Cs zs e)::L)→K (vQ b 0) S'):(SOp.alloc e z).W P E S K:=by
 intro b hb
 exact k b _ hb (.put_new hb _) (by have:=H.alloc hb (.cells z.cells e);rw [hz] at this ⊢;exact this)
theorem W_box {e:TypeId} {x:Operand} {v:Value} {vs:List Value} (H:Loc X S0 S L) (hx:E.ev x=some v) (hz:v.cells=vs.toArray) (k:∀ b S',S b=none→Ext [] S S'→Loc X S0 S' ((b,Cs vs e)::L)→K (vQ b 0) S'):(SOp.box e x).W P E S K:=
 ⟨v,hx,fun b hb=>k b _ hb (.put_new hb _) (by have:=H.alloc hb (.cells v.cells e);rw [hz] at this ⊢;exact this)⟩
theorem vl {x:Operand} {b off:Nat} {cs:List Value} {e:TypeId} {v:Value} (H:Loc X S0 S L) (hx:E.ev x=some (vQ b off)) (hb:Has L b (Cs cs e)) (hv:cs[off]? = some v) (k:K v S):(SOp.load1 x).W P E S K:=by
 simp only [SOp.W,hx]
 exact ⟨v,by simp [St.cell?,H.get hb,hv],k⟩
def subl (cs:List Value) (off n:Nat):Option (List Value):=if off+n≤cs.length then some ((cs.drop off).take n) else none
theorem cells_own {b off n:Nat} {cs vs:List Value} {e:TypeId} (hs:S b=some ⟨Cs cs e,true⟩) (hv:subl cs off n=some vs):S.cells? ⟨b,off,none⟩ n=some vs:=by
 unfold subl at hv
 split at hv
 ·rename_i h
  cases hv
  simp [St.cells?,hs,h]
 ·cases hv
theorem vK {n:Nat} {x:Operand} {b off:Nat} {cs vs:List Value} {e:TypeId} (H:Loc X S0 S L) (hx:E.ev x=some (vQ b off)) (hb:Has L b (Cs cs e)) (hv:subl cs off n=some vs) (k:K (.agg vs.toArray) S):(SOp.loadN n x).W P E S K:=by
 simp only [SOp.W,hx]
 exact ⟨vs,cells_own (H.get hb) hv,k⟩
theorem zE {x:Operand} {a:Addr} {v:Value} (hx:E.ev x=some (.pointer (some a))) (hc:S.cell? a=some v) (k:K v S):(SOp.load1 x).W P E S K:=by
 simp only [SOp.W,hx]
 exact ⟨v,hc,k⟩
theorem zU {n:Nat} {x:Operand} {a:Addr} {vs:List Value} (hx:E.ev x=some (.pointer (some a))) (hc:S.cells? a n=some vs) (k:K (.agg vs.toArray) S):(SOp.loadN n x).W P E S K:=by
 simp only [SOp.W,hx]
 exact ⟨vs,hc,k⟩
theorem setCells_list (vs:List Value):∀ (c:Array Value) (off:Nat),off+vs.length≤c.size→(setCells c off vs).toList=c.toList.take off++vs++c.toList.drop (off+vs.length):=by
 induction vs with
 | nil=>intro c off _;simp [setCells]
 | cons v vs ih=>
  intro c off h
  simp only [List.length_cons] at h
  rw [setCells,ih _ _ (by simp;omega)]
  simp only [Array.toList_setIfInBounds]
  have hl:off+(vs.length+1)≤c.toList.length:=by simpa using h
  generalize c.toList=c at hl
  have e1:(c.set off v).take (off+1)=c.take off++[v]:=by
   rw [List.take_set]
   apply List.ext_getElem?
   intro i
   grind
  rw [e1,List.drop_set]
  grind
def setl (cs:List Value) (off:Nat) (vs:List Value):List Value:=cs.take off++vs++cs.drop (off+vs.length)
theorem W_store {n:Nat} {x y:Operand} {b off:Nat} {u:Value} {cs cs' us:List Value} {e:TypeId} (H:Loc X S0 S L) (hx:E.ev x=some (vQ b off)) (hy:E.ev y=some u) (hu:u.cells=us.toArray) (h1:us.all vV=true) (hn:us.length=n) (h0:n≠0)
    (hU:Upd L b (Cs cs e) (Cs cs' e) L') (hb:off+n≤cs.length) (hc:setl cs off us=cs') (k:∀ S',Ext [b] S S'→Loc X S0 S' L'→K undef S'):(SOp.store n x y).W P E S K:=by
  simp only [SOp.W,hx,hy]
  refine ⟨trivial,by rw [hu];simpa using hn,fun y hy=>?_,cs.toArray,e,(0,0),H.own _ _ hU.mem,Nat.le_refl _,by simpa using hb,?_⟩
  · rw [hu] at hy
    exact List.all_eq_true.1 h1 y (by simpa using hy)
  · rw [if_neg h0]
    have e1:setCells cs.toArray off u.cells.toList=cs'.toArray:=by
      rw [← Array.toList_inj,setCells_list _ _ _ (by rw [hu];simp;omega),hu]
      simpa [setl] using hc
    rw [e1]
    exact k _ (.put_old (H.own _ _ hU.mem) _) (H.put hU)
theorem vL {x:Operand} {a:Addr} (h:E.ev x=some (.pointer (some a))) (k:K (.pointer (some a)) S):(SOp.nilchk x).W P E S K:=by simp only [SOp.W,h];exact k
theorem W_bin {op:BinOp} {x y:Operand} {kd:IntKind} {a b:Int} {v:Value} (hx:E.ev x=some (.int kd a)) (hy:E.ev y=some (.int kd b)) (hv:binI op kd a b=some v) (k:K v S):(SOp.bin op x y).W P E S K:=by
 simp only [SOp.W,hx,hy];exact ⟨trivial,v,hv,k⟩
theorem W_add {x y:Operand} {a b:Int} (hx:E.ev x=some (int a)) (hy:E.ev y=some (int b)) (h0:-9223372036854775808≤a+b) (h1:a+b≤9223372036854775807) (k:K (int (a+b)) S):(SOp.bin .add x y).W P E S K:=
 W_bin hx hy (by simp only [binI,wrap64_in h0 h1]) k
theorem W_sub {x y:Operand} {a b:Int} (hx:E.ev x=some (int a)) (hy:E.ev y=some (int b)) (h0:-9223372036854775808≤a-b) (h1:a-b≤9223372036854775807) (k:K (int (a-b)) S):(SOp.bin .sub x y).W P E S K:=
 W_bin hx hy (by simp only [binI,wrap64_in h0 h1]) k
theorem W_mul {x y:Operand} {a b:Int} (hx:E.ev x=some (int a)) (hy:E.ev y=some (int b)) (h0:-9223372036854775808≤a*b) (h1:a*b≤9223372036854775807) (k:K (int (a*b)) S):(SOp.bin .mul x y).W P E S K:=
 W_bin hx hy (by simp only [binI,wrap64_in h0 h1]) k
theorem W_binS {op:BinOp} {x y:Operand} {a b:ByteArray} {v:Value} (hx:E.ev x=some (.string a)) (hy:E.ev y=some (.string b)) (hv:binS op a b=some v) (k:K v S):(SOp.bin op x y).W P E S K:=by
 simp only [SOp.W,hx,hy];exact ⟨v,hv,k⟩
theorem W_not {x:Operand} {t:Bool} (h:E.ev x=some (.bool t)) (k:K (.bool !t) S):(SOp.not x).W P E S K:=by simp only [SOp.W,h];exact k
theorem W_conv {kd kd':IntKind} {x:Operand} {n m:Int} (h:E.ev x=some (.int kd' n)) (hm:kd.wrap n=m) (k:K (.int kd m) S):(SOp.conv kd x).W P E S K:=by subst hm;simp only [SOp.W,h];exact k
theorem addr_add (b off n:Nat):(⟨b,off,none⟩:Addr).add n=⟨b,off+n,none⟩:=by
 unfold Addr.add;split<;>simp_all
theorem zz {o:Nat} {x:Operand} {b off:Nat} (h:E.ev x=some (vQ b off)) (k:K (vQ b (off+o)) S):(SOp.fieldAddr o x).W P E S K:=by
 simp only [SOp.W,h,addr_add];exact k
theorem W_strIdx {x i:Operand} {s:ByteArray} {kd:IntKind} {n:Int} {c:UInt8} (hx:E.ev x=some (.string s)) (hi:E.ev i=some (.int kd n)) (h0:0≤n) (hc:s[n.toNat]? = some c) (k:K (.int .u8 c.toNat) S):(SOp.strIdx x i).W P E S K:=by
 simp only [SOp.W,hx,hi];exact ⟨h0,c,hc,k⟩
theorem vj {size:Nat} {x i:Operand} {b off n cap:Nat} {kd:IntKind} {j:Int} (hx:E.ev x=some (sl b off n cap)) (hi:E.ev i=some (.int kd j)) (h0:0≤j) (h1:j<n) (k:K (vQ b (off+j.toNat*size)) S):(SOp.idxAddr size x i).W P E S K:=by
 simp only [SOp.W,hx,hi,addr_add];exact ⟨h0,h1,k⟩
theorem vv {x:Operand} {i:Nat} {vs:Array Value} {v:Value} (hx:E.ev x=some (.tuple vs)) (hv:vs[i]? = some v) (k:K v S):(SOp.extract x i).W P E S K:=by
 simp only [SOp.W,hx];exact ⟨v,hv,k⟩
theorem W_lenS {x:Operand} {s:ByteArray} (hx:E.ev x=some (.string s)) (k:K (int s.size) S):(SOp.lenS x).W P E S K:=by simp only [SOp.W,hx];exact k
theorem W_lenL {x:Operand} {a:Option Addr} {n cap:Nat} (hx:E.ev x=some (.slice a n cap)) (k:K (int n) S):(SOp.lenL x).W P E S K:=by simp only [SOp.W,hx];exact k
theorem zS {f:FuncId} {xs:List Operand} {vs:List Value} (hx:E.evs xs=some vs) (k:Calls1 P f vs.toArray S K):(SOp.call f xs).W P E S K:=by simp only [SOp.W,hx];exact k
theorem W_mkFunc {fn:Fn} {xs ys:List Operand} {us vs:List Value} (hx:E.evs xs=some us) (hy:E.evs ys=some vs) (k:K (.func fn us.toArray vs.toArray) S):(SOp.mkFunc fn xs ys).W P E S K:=by simp only [SOp.W,hx,hy];exact k
theorem W_sliceS {x:Operand} {lo hi:Option Operand} {s:ByteArray} {l h:Option Value} {r:Nat × Nat × Nat} (hx:E.ev x=some (.string s)) (hl:E.evo lo=some l) (hh:E.evo hi=some h) (hr:bnds s.size s.size l h none=some r) (k:K (.string (s.extract r.1 r.2.1)) S):(SOp.sliceS x lo hi).W P E S K:=by
 simp only [SOp.W,hx,hl,hh];exact ⟨r,hr,k⟩
def fillL (place:Nat→Option (Nat × Nat)) (cs:List Value):List (Nat × Value)→Option (List Value)
 | []=>some cs
 | (i,v)::r=>match place i with
  | none=>none
  | some (off,size)=>if v.cells.toList.length=size∧off+size≤cs.length then fillL place (setl cs off v.cells.toList) r else none
theorem foldl_setl (vs:List Value):∀ (c:Array Value) (off k:Nat),off+k+vs.length≤c.size→(vs.zipIdx k).foldl (fun cs x=>cs.setIfInBounds (off+x.2) x.1) c=setCells c (off+k) vs:=by
 induction vs with
 | nil=>intro c off k _;simp [setCells]
 | cons v vs ih=>
  intro c off k h
  simp only [List.length_cons] at h
  simp only [List.zipIdx_cons,List.foldl_cons,setCells]
  rw [ih _ _ _ (by simp;omega),Nat.add_assoc off k 1]
theorem fillL_ok {place:Nat→Option (Nat × Nat)}:∀ {ps:List (Nat × Value)} {cs:List Value} {r:List Value},fillL place cs ps=some r→Instr.fill place cs.toArray ps=some r.toArray:=by
 intro ps
 induction ps with
 | nil=>intro cs r h;cases h;rfl
 | cons p ps ih=>
  intro cs r h
  obtain ⟨i,v⟩:=p
  simp only [fillL] at h
  simp only [Instr.fill]
  split at h
  ·cases h
  ·rename_i off size hp
   rw [hp]
   simp only
   split at h
   ·rename_i hc
    obtain ⟨h1,h2⟩:=hc
    have h1':v.cells.size=size:=by simpa using h1
    rw [if_neg (by simp [h1',h2])]
    have e:Array.foldl (fun cs x=>Array.setIfInBounds cs (off+x.snd) x.fst) cs.toArray v.cells.zipIdx=(setl cs off v.cells.toList).toArray:=by
     rw [← Array.foldl_toList,Array.toList_zipIdx,foldl_setl _ _ _ _ (by simp;omega)]
     rw [← Array.toList_inj,setCells_list _ _ _ (by simp;omega)]
     simp [setl]
    rw [e]
    exact ih h
   ·cases h
theorem vu {z:Array Value} {pl:List (Nat × Nat)} {parts:List (Nat × Operand)} {ps:List (Nat × Value)} {cs:List Value} (hp:partsOf E parts=some ps) (hc:fillL (pl[·]?) z.toList ps=some cs) (k:K (.agg cs.toArray) S):(SOp.build z pl parts).W P E S K:=by
 simp only [SOp.W,hp]
 exact ⟨_,by have:=fillL_ok hc;simpa using this,k⟩
theorem zM {e:TypeId} {size n:Nat} {init:Array Value} {parts:List (Nat × Operand)} {ps:List (Nat × Value)} {cs:List Value} (H:Loc X S0 S L) (hp:partsOf E parts=some ps) (hc:fillL (fun i=>some (i*size,size)) init.toList ps=some cs)
    (k:∀ b S',S b=none→Ext [] S S'→Loc X S0 S' ((b,Cs cs e)::L)→K (sl b 0 n n) S'):(SOp.buildSlice e size n init parts).W P E S K:=by
  simp only [SOp.W,hp]
  exact ⟨_,by have:=fillL_ok hc;simpa using this,fun b hb=>k b _ hb (.put_new hb _) (H.alloc hb _)⟩
theorem W_min2 {x y:Operand} {kd:IntKind} {a b:Int} (hx:E.ev x=some (.int kd a)) (hy:E.ev y=some (.int kd b)) (k:K (.int kd (min a b)) S):(SOp.min2 x y).W P E S K:=by
 simp only [SOp.W,hx,hy]
 have:(if b<a then b else a)=min a b:=by rw [Int.min_def];split<;>split<;>omega
 rw [this];exact k
theorem W_max2 {x y:Operand} {kd:IntKind} {a b:Int} (hx:E.ev x=some (.int kd a)) (hy:E.ev y=some (.int kd b)) (k:K (.int kd (max a b)) S):(SOp.max2 x y).W P E S K:=by
 simp only [SOp.W,hx,hy]
 have:(if b>a then b else a)=max a b:=by rw [Int.max_def];split<;>split<;>omega
 rw [this];exact k
theorem W_mkIface {t:TypeId} {x:Operand} {v:Value} (hx:E.ev x=some v) (k:K (.iface t v) S):(SOp.mkIface t x).W P E S K:=⟨v,hx,k⟩
variable {KE:Env→St→Prop} {r:List SI} {i:SI}
theorem vi (k:KE E S):wpI P [] E S KE:=k
theorem za {d:Option Nat} {op:SOp} {af:List Nat} (h:op.W P E S fun v S'=>wpI P r (E.set d v) S' KE):wpI P (⟨d,op,none,af⟩::r) E S KE:=h
theorem zh {d:Option Nat} {op:SOp} {af:List Nat} {g:Nat} {t:Bool} (hb:E g=some (.bool t)) (h:op.W P E S fun v S'=>wpI P r (E.set d v) S' KE):wpI P (⟨d,op,some (some g,t),af⟩::r) E S KE:=by
 simp only [wpI,SI.step,Option.bind_some,Env.get,hb,if_true];exact h
theorem wpI_no {d:Option Nat} {op:SOp} {af:List Nat} {g:Nat} {t b:Bool} (hb:E g=some (.bool b)) (hn:b≠t) (h:wpI P r (E.set d undef) S KE):wpI P (⟨d,op,some (some g,t),af⟩::r) E S KE:=by
 simp only [wpI,SI.step,Option.bind_some,Env.get,hb,if_neg hn];exact h
theorem wpI_un {d:Option Nat} {op:SOp} {af:List Nat} {g:Nat} {t:Bool} (hb:E g=some undef) (h:wpI P r (E.set d undef) S KE):wpI P (⟨d,op,some (some g,t),af⟩::r) E S KE:=by
 simp only [wpI,SI.step,Option.bind_some,Env.get,hb];exact h
variable {Q:SEx→Env→St→Prop} {a b:SCode}
theorem wpS_mono0:∀ (c:SCode) (E:Env) (S:St) (Q1 Q2:SEx→Env→St→Prop),(∀ e E S,Q1 e E S→Q2 e E S)→wpS P c E S Q1→wpS P c E S Q2:=by
 intro c
 induction c with
 | skip=>exact fun E S Q1 Q2 hq h=>hq _ _ _ h
 | run is=>exact fun E S Q1 Q2 hq h=>wpI_mono (fun E S h=>hq _ _ _ h) h
 | draw is=>
  rintro E S Q1 Q2 hq ⟨bl,h⟩
  refine ⟨bl,?_⟩
  have:∀ (fuel:Nat) (D:List Nat) (E:Env) (S:St),wpD P is bl fuel D E S (Q1 .normal)→wpD P is bl fuel D E S (Q2 .normal):=by
   intro fuel
   induction fuel with
   | zero=>exact fun D E S h=>hq _ _ _ h
   | succ fuel ih=>exact fun D E S h=>⟨fun e=>hq _ _ _ (h.1 e),fun i hi x hx=>SI.step_mono (fun E' S' h'=>⟨h'.1,ih _ _ _ h'.2⟩) (h.2 i hi x hx)⟩
  exact this _ _ _ _ h
 | seq a b iha ihb=>
  intro E S Q1 Q2 hq h
  refine iha E S _ _ (fun e E S h=>?_) h
  cases e with
  | normal=>obtain ⟨E1,hl,h⟩:=h;exact ⟨E1,hl,ihb _ _ _ _ hq h⟩
  | exit id=>exact hq _ _ _ h
  | ret=>exact hq _ _ _ h
 | cond x a b iha ihb=>
  intro E S Q1 Q2 hq h
  simp only [wpS] at h ⊢
  split at h
  ·exact ⟨fun e=>iha _ _ _ _ hq (h.1 e),fun e=>ihb _ _ _ _ hq (h.2 e)⟩
  ·exact h
 | block id a iha=>
  intro E S Q1 Q2 hq h
  refine iha E S _ _ (fun e E S h=>?_) h
  cases e with
  | normal=>exact hq _ _ _ h
  | exit id'=>
   simp only [SEx.blk] at h ⊢
   split<;>rename_i hc<;>simp only [hc,if_true,if_false] at h<;>exact hq _ _ _ h
  | ret=>exact hq _ _ _ h
 | loop a iha=>
  rintro E S Q1 Q2 hq ⟨I,h0,hI⟩
  refine ⟨I,h0,fun E0 S n h=>iha _ _ _ _ (fun e E S h=>?_) (hI E0 S n h)⟩
  cases e with
  | normal=>exact h
  | exit id=>exact hq _ _ _ h
  | ret=>exact hq _ _ _ h
 | exit id=>exact fun E S Q1 Q2 hq h=>hq _ _ _ h
 | ret=>exact fun E S Q1 Q2 hq h=>hq _ _ _ h
 | bad=>exact fun E S Q1 Q2 hq h=>h
theorem wpS_mono {Q':SEx→Env→St→Prop} (h:wpS P a E S Q) (hq:∀ e E S,Q e E S→Q' e E S):wpS P a E S Q':=wpS_mono0 _ _ _ _ _ hq h
theorem zK (h:wpS P a E S (SEx.thn (fun E' S'=>wpS P b E' S' Q) Q)):wpS P (.seq a b) E S Q:=by
 simp only [wpS]
 refine wpS_mono0 a E S _ _ (fun e E S h=>?_) h
 cases e with
 | normal=>exact ⟨E,.refl E,h⟩
 | exit id=>exact h
 | ret=>exact h
theorem zL {is:List SI} (h:wpI P is E S (Q .normal)):wpS P (.run is) E S Q:=h
theorem zv (h:Q .normal E S):wpS P .skip E S Q:=h
theorem zi (h:Q .ret E S):wpS P .ret E S Q:=h
theorem vq {id:Nat} (h:Q (.exit id) E S):wpS P (.exit id) E S Q:=h
theorem zJ {id:Nat} (h:wpS P a E S (SEx.blk id Q)):wpS P (.block id a) E S Q:=h
theorem zj {x:Operand} (hx:E.ev x=some (.bool true)) (h:wpS P a E S Q):wpS P (.cond x a b) E S Q:=by
 simp only [wpS,hx];exact ⟨fun _=>h,nofun⟩
theorem zr {x:Operand} (hx:E.ev x=some (.bool false)) (h:wpS P b E S Q):wpS P (.cond x a b) E S Q:=by
 simp only [wpS,hx];exact ⟨nofun,fun _=>h⟩
theorem wpS_cut (M:Env→St→Prop) (h:wpS P a E S (SEx.thn (fun E' S'=>∃ E1,Env.le E1 E'∧M E1 S') Q)) (hM:∀ E1 S1,M E1 S1→wpS P b E1 S1 Q):wpS P (.seq a b) E S Q:=by
 have:wpS P a E S (SEx.thn (fun E' S'=>∃ E1,Env.le E1 E'∧wpS P b E1 S' Q) Q):=by
  refine wpS_mono h fun e E S h=>?_
  cases e with
  | normal=>obtain ⟨E1,hl,h⟩:=h;exact ⟨E1,hl,hM _ _ h⟩
  | exit id=>exact h
  | ret=>exact h
 exact this
theorem vr (I:Env→St→Nat→Prop) (h0:∃ E0 n,Env.le E0 E∧I E0 S n) (h:∀ E0 S1 n,I E0 S1 n→wpS P a E0 S1 (SEx.thn (fun E' S'=>∃ E1 n',n'<n∧Env.le E1 E'∧I E1 S' n') Q)):wpS P (.loop a) E S Q:=⟨I,h0,h⟩
theorem ze {f:Env→St→Prop} (h:f E S):SEx.thn f Q .normal E S:=h
theorem zX {f:Env→St→Prop} {id:Nat} (h:Q (.exit id) E S):SEx.thn f Q (.exit id) E S:=h
theorem zw {f:Env→St→Prop} (h:Q .ret E S):SEx.thn f Q .ret E S:=h
theorem z5 {id:Nat} (h:Q .normal E S):SEx.blk id Q .normal E S:=h
theorem ve {id:Nat} (h:Q .ret E S):SEx.blk id Q .ret E S:=h
theorem vE {id:Nat} (h:Q .normal E S):SEx.blk id Q (.exit id) E S:=by simp only [SEx.blk,if_true];exact h
def Env.lst (l:List (Nat × Value)):Env:=fun t=>(l.find? (·.1==t)).map (·.2)
def leL (E:Env):List (Nat × Value)→Prop
 | []=>True
 | (t,v)::r=>E t=some v∧leL E r
theorem Env.qle {l:List (Nat × Value)} (h:leL E l):Env.le (Env.lst l) E:=by
 intro t v ht
 induction l with
 | nil=>cases ht
 | cons p l ih=>
  obtain ⟨t',v'⟩:=p
  simp only [Env.lst,List.find?_cons] at ht
  split at ht
  ·rename_i he
   have:t'=t:=by simpa using he
   subst this
   cases ht
   exact h.1
  ·exact ih h.2 ht
def nodupB:List Nat→Bool
 | []=>true
 | x::l=>!l.contains x&&nodupB l
theorem nodupB_ok {l:List Nat} (h:nodupB l=true):l.Nodup:=by
 induction l with
 | nil=>simp
 | cons x l ih=>
  simp only [nodupB,Bool.and_eq_true,Bool.not_eq_true',List.contains_eq_mem,decide_eq_false_iff_not] at h
  exact List.nodup_cons.2 ⟨h.1,ih h.2⟩
def closedB (is:List SI) (D:List Nat):Bool:=(List.range is.length).all fun m=>D.contains m||(aft_ is m).all fun p=>!D.contains p
theorem closedB_ok {is:List SI} {D:List Nat} (h:closedB is D=true):Closed is D:=by
 intro m hm p hp hc
 by_cases hl:m<is.length
 ·have:=(List.all_eq_true.1 h) m (List.mem_range.2 hl)
  simp only [Bool.or_eq_true,List.contains_eq_mem,decide_eq_true_eq,hm,false_or,List.all_eq_true,Bool.not_eq_true',decide_eq_false_iff_not] at this
  exact this p hp hc
 ·unfold aft_ at hp
  rw [List.getElem?_eq_none (by omega)] at hp
  cases hp
def mayFirst (is:List SI) (n:Nat) (D:List Nat) (i:Nat):Bool:=closedB is D&&nodupB D&&(D.length==n+1)&&(rdy is D).contains i&&okFirst is D i
theorem z9 {is:List SI} (X:List Nat) (h:wpD P is X is.length (List.range is.length) E S (Q .normal)):wpS P (.draw is) E S Q:=⟨X,h⟩
theorem wpD_lt {is:List SI} {Y:List Nat} {n:Nat} {D:List Nat} {v:Value} (i:Nat) {x:SI} (hx:is[i]? = some x) (hm:mayFirst is n D i=true) {D':List Nat} (hD:D.erase i=D') (hl:∀ S',(x.op.isLoad=true→Stays Y S S')→Lt P x E S' v) (h:wpD P is Y n D' (E.set x.dst v) S KE):wpD P is Y (n+1) D E S KE:=by
 subst hD
 simp only [mayFirst,Bool.and_eq_true] at hm
 exact wpD_first hx n D E S KE (nodupB_ok hm.1.1.1.2) (closedB_ok hm.1.1.1.1) (by simpa using hm.1.1.2) (by simpa using hm.1.2) hm.2 hl h
theorem wpD_cmp {is:List SI} {Y:List Nat} {n:Nat} {D:List Nat} {t0:Bool} {p:Prop} (i:Nat) {x:SI} (hx:is[i]? = some x) (hm:mayFirst is n D i=true) {D':List Nat} (hD:D.erase i=D') (hl:∀ S',(x.op.isLoad=true→Stays Y S S')→Lt P x E S' (.bool t0)) (hp:t0=true↔p)
    (h:∀ t:Bool,(t=true↔p)→wpD P is Y n D' (E.set x.dst (.bool t)) S KE):wpD P is Y (n+1) D E S KE:=wpD_lt i hx hm hD hl (h _ hp)
theorem step_no {d:Option Nat} {op:SOp} {af:List Nat} {g:Nat} {t b:Bool} (hb:E g=some (.bool b)) (hn:b≠t) (h:KE (E.set d undef) S):SI.step P ⟨d,op,some (some g,t),af⟩ E S KE:=by
 simp only [SI.step,Option.bind_some,Env.get,hb,if_neg hn];exact h
theorem zA {is:List SI} {Y:List Nat} {n:Nat} {D:List Nat} (i:Nat) {x:SI} (hr:rdy is D=[i]) (hx:is[i]? = some x) {D':List Nat} (hD:D.erase i=D') (h:x.step P E S fun E' S'=>(ldOpen is i=true→Stays Y S S')∧wpD P is Y n D' E' S' KE):wpD P is Y (n+1) D E S KE:=by
 subst hD
 refine ⟨fun e=>(by rw [hr] at e;cases e),fun j hj y hy=>?_⟩
 rw [hr] at hj
 obtain rfl:j=i:=by simpa using hj
 rw [hx] at hy;cases hy
 exact h
theorem wpD_two {is:List SI} {Y:List Nat} {n:Nat} {D:List Nat} (i j:Nat) {x y:SI} (hr:rdy is D=[i,j]) (hx:is[i]? = some x) (hy:is[j]? = some y) {D' D'':List Nat} (hD:D.erase i=D') (hD':D.erase j=D'')
    (h:x.step P E S fun E' S'=>(ldOpen is i=true→Stays Y S S')∧wpD P is Y n D' E' S' KE) (h':y.step P E S fun E' S'=>(ldOpen is j=true→Stays Y S S')∧wpD P is Y n D'' E' S' KE):wpD P is Y (n+1) D E S KE:=by
  subst hD hD'
  refine ⟨fun e=>(by rw [hr] at e;cases e),fun l hl z hz=>?_⟩
  rw [hr] at hl
  simp only [List.mem_cons,List.not_mem_nil,or_false] at hl
  rcases hl with rfl | rfl
  · rw [hx] at hz;cases hz;exact h
  · rw [hy] at hz;cases hz;exact h'
theorem ldNo {is:List SI} {j:Nat} {p:Prop} (h:ldOpen is j=false):ldOpen is j=true→p:=fun h'=>by rw [h] at h';cases h'
theorem zV {is:List SI} {Y:List Nat} {n:Nat} (h:KE E S):wpD P is Y n [] E S KE:=by
 cases n with
 | zero=>exact h
 | succ n=>exact ⟨fun _=>h,fun i hi=>by simp [rdy] at hi⟩
theorem zt {d:Option Nat} {op:SOp} {af:List Nat} (h:op.W P E S fun v S'=>KE (E.set d v) S'):SI.step P ⟨d,op,none,af⟩ E S KE:=h
theorem step_yes {d:Option Nat} {op:SOp} {af:List Nat} {g:Nat} {t:Bool} (hb:E g=some (.bool t)) (h:op.W P E S fun v S'=>KE (E.set d v) S'):SI.step P ⟨d,op,some (some g,t),af⟩ E S KE:=by
 simp only [SI.step,Option.bind_some,Env.get,hb,if_true];exact h
theorem zD {d:Option Nat} {op:SOp} {af:List Nat} {v:Value} (h:∀ K:Value→St→Prop,K v S→op.W P E S K):Lt P ⟨d,op,none,af⟩ E S v:=fun K hK=>h (fun v S'=>K (E.set d v) S') hK
theorem vd {d:Option Nat} {op:SOp} {af:List Nat} {g:Nat} {t:Bool} {v:Value} (hb:E g=some (.bool t)) (h:∀ K:Value→St→Prop,K v S→op.W P E S K):Lt P ⟨d,op,some (some g,t),af⟩ E S v:=
 fun K hK=>step_yes hb (h (fun v S'=>K (E.set d v) S') hK)
theorem vf {d:Option Nat} {op:SOp} {af:List Nat} {g:Nat} {t b:Bool} (hb:E g=some (.bool b)) (hn:b≠t):Lt P ⟨d,op,some (some g,t),af⟩ E S undef:=by
 intro K hK
 simp only [SI.step,Option.bind_some,Env.get,hb,if_neg hn];exact hK
theorem Loc.cell (H:Loc X S0 S L) {b off:Nat} {cs:List Value} {e:TypeId} {v:Value} (hb:Has L b (Cs cs e)) (hv:cs[off]? = some v):S.cell? ⟨b,off,none⟩=some v:=by
 simp [St.cell?,H.get hb,hv]
theorem Loc.cells (H:Loc X S0 S L) {b off n:Nat} {cs vs:List Value} {e:TypeId} (hb:Has L b (Cs cs e)) (hv:subl cs off n=some vs):S.cells? ⟨b,off,none⟩ n=some vs:=cells_own (H.get hb) hv
theorem zO:resVals E S []=some []:=rfl
theorem zZ {t:Nat} {v:Value} {rs:List SRes} {vs:List Value} (h:E.get t=some v) (hr:resVals E S rs=some vs):resVals E S (.tmp t::rs)=some (v::vs):=by
 simp only [resVals,SRes.val,h,hr]
theorem res_cell1 {t b off:Nat} {cs:List Value} {e:TypeId} {v:Value} {rs:List SRes} {vs:List Value} (H:Loc X S0 S L) (h:E.get t=some (vQ b off)) (hb:Has L b (Cs cs e)) (hv:cs[off]? = some v) (hr:resVals E S rs=some vs):resVals E S (.cell1 t::rs)=some (v::vs):=by
 simp only [resVals,SRes.val,h,H.cell hb hv,hr]
theorem zW {t n b off:Nat} {cs ws:List Value} {e:TypeId} {rs:List SRes} {vs:List Value} (H:Loc X S0 S L) (h:E.get t=some (vQ b off)) (hb:Has L b (Cs cs e)) (hv:subl cs off n=some ws) (hr:resVals E S rs=some vs):resVals E S (.cellN t n::rs)=some (.agg ws.toArray::vs):=by
 simp only [resVals,SRes.val,h,H.cells hb hv,hr,Option.map_some]
theorem bT {p:Prop} (h:true=true↔p):p:=h.1 rfl
theorem bF {p:Prop} (h:false=true↔p):¬ p:=fun q=>by simpa using h.2 q
theorem vU {x y:Operand} {kd:IntKind} {a b:Int} (hx:E.ev x=some (.int kd a)) (hy:E.ev y=some (.int kd b)) (k:∀ t:Bool,(t=true↔a<b)→K (.bool t) S):(SOp.bin .lss x y).W P E S K:=W_bin hx hy rfl (k _ (by simp))
theorem W_leq {x y:Operand} {kd:IntKind} {a b:Int} (hx:E.ev x=some (.int kd a)) (hy:E.ev y=some (.int kd b)) (k:∀ t:Bool,(t=true↔a≤b)→K (.bool t) S):(SOp.bin .leq x y).W P E S K:=W_bin hx hy rfl (k _ (by simp))
theorem W_gtr {x y:Operand} {kd:IntKind} {a b:Int} (hx:E.ev x=some (.int kd a)) (hy:E.ev y=some (.int kd b)) (k:∀ t:Bool,(t=true↔b<a)→K (.bool t) S):(SOp.bin .gtr x y).W P E S K:=W_bin hx hy rfl (k _ (by simp))
theorem W_geq {x y:Operand} {kd:IntKind} {a b:Int} (hx:E.ev x=some (.int kd a)) (hy:E.ev y=some (.int kd b)) (k:∀ t:Bool,(t=true↔b≤a)→K (.bool t) S):(SOp.bin .geq x y).W P E S K:=W_bin hx hy rfl (k _ (by simp))
theorem vT {x y:Operand} {kd:IntKind} {a b:Int} (hx:E.ev x=some (.int kd a)) (hy:E.ev y=some (.int kd b)) (k:∀ t:Bool,(t=true↔a=b)→K (.bool t) S):(SOp.bin .eql x y).W P E S K:=W_bin hx hy rfl (k _ (by simp))
theorem W_neI {x y:Operand} {kd:IntKind} {a b:Int} (hx:E.ev x=some (.int kd a)) (hy:E.ev y=some (.int kd b)) (k:∀ t:Bool,(t=true↔a≠b)→K (.bool t) S):(SOp.bin .neq x y).W P E S K:=W_bin hx hy rfl (k _ (by simp))
@[reducible] def t_ (n:Nat):Operand:=.tmp n
@[reducible] def i_ (d:Nat) (op:SOp):SI:=⟨some d,op,none,[]⟩
@[reducible] def n_ (op:SOp):SI:=⟨none,op,none,[]⟩
@[reducible] def g_ (d g:Nat) (b:Bool) (op:SOp):SI:=⟨some d,op,some (some g,b),[]⟩
@[reducible] def str (l:List UInt8):Value:=.string ⟨l.toArray⟩
theorem W_eqS {x y:Operand} {l m:List UInt8} (hx:E.ev x=some (str l)) (hy:E.ev y=some (str m)) (k:∀ t:Bool,(t=true↔l=m)→K (.bool t) S):(SOp.bin .eql x y).W P E S K:=
 W_binS hx hy rfl (k _ (by simp))
theorem W_neS {x y:Operand} {l m:List UInt8} (hx:E.ev x=some (str l)) (hy:E.ev y=some (str m)) (k:∀ t:Bool,(t=true↔l≠m)→K (.bool t) S):(SOp.bin .neq x y).W P E S K:=
 W_binS hx hy rfl (k _ (by simp))
theorem ba_append (l m:List UInt8):(⟨l.toArray⟩:ByteArray)++⟨m.toArray⟩=⟨(l++m).toArray⟩:=by
 apply ByteArray.ext
 simp
theorem W_catS {x y:Operand} {l m:List UInt8} (hx:E.ev x=some (str l)) (hy:E.ev y=some (str m)) (hb:l.length+m.length≤9223372036854775807) (k:K (str (l++m)) S):(SOp.bin .add x y).W P E S K:=by
 refine W_binS (v:=str (l++m)) hx hy ?_ k
 have h1:(⟨l.toArray⟩:ByteArray).size=l.length:=by simp [ByteArray.size]
 have h2:(⟨m.toArray⟩:ByteArray).size=m.length:=by simp [ByteArray.size]
 simp only [binS,h1,h2]
 rw [if_neg (by have:IntKind.i64.max=9223372036854775807:=rfl;omega),ba_append]
theorem vF {x:Operand} {l:List UInt8} (hx:E.ev x=some (str l)) (k:K (int l.length) S):(SOp.lenS x).W P E S K:=
 W_lenS hx (by simpa [ByteArray.size] using k)
theorem W_idxT {x i:Operand} {l:List UInt8} {kd:IntKind} {n:Int} {c:UInt8} (hx:E.ev x=some (str l)) (hi:E.ev i=some (.int kd n)) (h0:0≤n) (hc:l[n.toNat]? = some c) (k:K (.int .u8 c.toNat) S):(SOp.strIdx x i).W P E S K:=by
 refine W_strIdx hx hi h0 ?_ k
 obtain ⟨h1,h2⟩:=List.getElem?_eq_some_iff.1 hc
 have hs:n.toNat<(⟨l.toArray⟩:ByteArray).size:=by simpa [ByteArray.size] using h1
 rw [getElem?_pos (⟨l.toArray⟩:ByteArray) n.toNat hs,← h2]
 rfl
theorem ba_extract (l:List UInt8) (i j:Nat):(⟨l.toArray⟩:ByteArray).extract i j=⟨((l.drop i).take (j-i)).toArray⟩:=by
 apply ByteArray.ext
 simp
theorem W_slS {x:Operand} {lo hi:Operand} {l:List UInt8} {kd kd':IntKind} {i j:Int} (hx:E.ev x=some (str l)) (hl:E.ev lo=some (.int kd i)) (hh:E.ev hi=some (.int kd' j)) (h0:0≤i) (h1:i≤j) (h2:j≤l.length) (k:K (str ((l.drop i.toNat).take (j.toNat-i.toNat))) S):(SOp.sliceS x (some lo) (some hi)).W P E S K:=by
 refine W_sliceS (r:=(i.toNat,j.toNat,l.length)) hx (by simp [Env.evo,hl];rfl) (by simp [Env.evo,hh];rfl) ?_ (by rw [ba_extract];exact k)
 have hs:(⟨l.toArray⟩:ByteArray).size=l.length:=by simp [ByteArray.size]
 simp only [bnds,hs,bnd]
 have e1:(0≤j∧j≤(l.length:Int)):=⟨by omega,h2⟩
 simp [e1,show i≤max j 0 by omega,h0]
theorem W_slSlo {x:Operand} {lo:Operand} {l:List UInt8} {kd:IntKind} {i:Int} (hx:E.ev x=some (str l)) (hl:E.ev lo=some (.int kd i)) (h0:0≤i) (h1:i≤l.length) (k:K (str (l.drop i.toNat)) S):(SOp.sliceS x (some lo) none).W P E S K:=by
 refine W_sliceS (r:=(i.toNat,l.length,l.length)) hx (by simp [Env.evo,hl];rfl) rfl ?_ (by rw [ba_extract];rw [List.take_of_length_le (by simp)];exact k)
 have hs:(⟨l.toArray⟩:ByteArray).size=l.length:=by simp [ByteArray.size]
 simp [bnds,hs,bnd,h0,h1]
theorem W_slShi {x:Operand} {hi:Operand} {l:List UInt8} {kd:IntKind} {j:Int} (hx:E.ev x=some (str l)) (hh:E.ev hi=some (.int kd j)) (h0:0≤j) (h1:j≤l.length) (k:K (str (l.take j.toNat)) S):(SOp.sliceS x none (some hi)).W P E S K:=by
 refine W_sliceS (r:=(0,j.toNat,l.length)) hx rfl (by simp [Env.evo,hh];rfl) ?_ (by rw [ba_extract];simpa using k)
 have hs:(⟨l.toArray⟩:ByteArray).size=l.length:=by simp [ByteArray.size]
 simp [bnds,hs,bnd,h0,h1]
end
section
variable {P:Program} {X:List Nat} {S0 S S':St} {L L':List (Nat × Obj)} {E:Env} {K:Value→St→Prop}
structure Sl (S:St) (k:Nat) (a:Option Addr) (rows:List (List Value)):Prop where
 row:∀ i r,rows[i]? = some r→∃ b off,a=some ⟨b,off,none⟩∧S.cells? ⟨b,off+i*k,none⟩ k=some r
 base:∀ ad,a=some ad→∃ b off c e f wr,ad=⟨b,off,none⟩∧S b=some ⟨.cells c e f,wr⟩∧off≤c.size∧f=(0,0)
theorem Sl.mono {k:Nat} {a:Option Addr} {rows:List (List Value)} (h:Sl S k a rows) (he:Ext [] S S'):Sl S' k a rows where
 row i r hr:=by
  obtain ⟨b,off,h1,h2⟩:=h.row i r hr
  exact ⟨b,off,h1,he.cells h2⟩
 base ad ha:=by
  obtain ⟨b,off,c,e,f,wr,h1,h2,h3⟩:=h.base ad ha
  exact ⟨b,off,c,e,f,wr,h1,he.get h2,h3⟩
theorem Sl.ne {k:Nat} {a:Option Addr} {rows:List (List Value)} (h:Sl S k a rows) {b:Nat} (hb:S b=none):∀ b' off,a=some ⟨b',off,none⟩→b'≠b:=by
 intro b' off ha e
 obtain ⟨b1,o1,c,el,f,wr,h1,h2,_⟩:=h.base _ ha
 cases h1
 subst e
 rw [hb] at h2;cases h2
theorem Sl.ne2 {k:Nat} {a:Option Addr} {rows:List (List Value)} (h:Sl S k a rows) {b b0:Nat} (h0:∀ b' off,a=some ⟨b',off,none⟩→b'≠b0) (hb:b=b0∨S b=none):∀ b' off,a=some ⟨b',off,none⟩→b'≠b:=by
 rcases hb with rfl | hb
 ·exact h0
 ·exact h.ne hb
theorem Sl.qy {k:Nat} {a:Option Addr} {rows:List (List Value)} (h:Sl S k a rows) {b:Nat} (he:Ext [b] S S') (hne:∀ b' off,a=some ⟨b',off,none⟩→b'≠b):Sl S' k a rows where
 row i r hr:=by
  obtain ⟨b',off,h1,h2⟩:=h.row i r hr
  exact ⟨b',off,h1,zG he.ext (by simpa using hne b' off h1) h2⟩
 base ad ha:=by
  obtain ⟨b',off,c,e,f,wr,h1,h2,h3⟩:=h.base ad ha
  subst h1
  exact ⟨b',off,c,e,f,wr,rfl,he.ext b' _ (by simpa using hne b' off ha) h2,h3⟩
def Org (S:St) (a a1:Option Addr):Prop:=a1=a∨∀ b off,a1=some ⟨b,off,none⟩→S b=none
theorem Org.same (S:St) (a:Option Addr):Org S a a:=.inl rfl
theorem Org.new {a:Option Addr} {b off:Nat} (h:S b=none):Org S a (some ⟨b,off,none⟩):=.inr fun b' off' e=>by cases e;exact h
theorem Org.back {a a1:Option Addr} (h:Org S' a a1) (he:Ext [] S S'):Org S a a1:=by
 rcases h with h | h
 ·exact .inl h
 ·exact .inr fun b off e=>he.isNone (h b off e)
theorem Org.backX {X:List Nat} {a a1:Option Addr} (h:Org S' a a1) (he:Ext X S S'):Org S a a1:=by
 rcases h with h | h
 ·exact .inl h
 ·exact .inr fun b off e=>he.g.isNone (h b off e)
theorem Sl.own {X:List Nat} {k:Nat} {a:Option Addr} {rows:List (List Value)} (h:Sl S' k a rows) (he:Ext X S S') (hn:Org S none a) (hk:2≤k) {i:Nat} {r:List Value} (hr:rows[i]? = some r):∃ b off cs e,a=some ⟨b,off,none⟩∧S b=none∧S' b=some ⟨Cs cs e,true⟩∧off≤cs.length:=by
 obtain ⟨b0,off0,rfl,hc⟩:=h.row i r hr
 obtain ⟨b,off,c,e,f,wr,e1,h2,h3,rfl⟩:=h.base _ rfl
 cases e1
 have h4:S b0=none:=by
  rcases hn with e | hn
  ·cases e
  ·exact hn b0 off0 rfl
 rcases he.g.new b0 _ h4 h2 with h5 | ⟨v,h5⟩
 ·simp only at h5;subst h5
  exact ⟨b0,off0,c.toList,e,rfl,h4,by simpa [Cs] using h2,by simpa using h3⟩
 ·simp only at h5;cases h5
  simp only [St.cells?,h2] at hc
  split at hc
  ·rename_i h6;have:=h6.2;simp at this;omega
  ·cases hc
def OffS (a x:Option Addr):Prop:=∀ b off b' off',a=some ⟨b,off,none⟩→x=some ⟨b',off',none⟩→b≠b'
theorem OffS.new {k:Nat} {a x:Option Addr} {rows:List (List Value)} (h:Sl S k a rows) (hx:Org S none x):OffS a x:=by
 rintro b off b' off' rfl rfl rfl
 obtain ⟨_,_,c,e,f,wr,e1,h2,_⟩:=h.base _ rfl
 cases e1
 rcases hx with e | hx
 ·cases e
 ·rw [hx b off' rfl] at h2;cases h2
theorem OffS.at {a:Option Addr} {m:Nat} (h:∀ b off,a=some ⟨b,off,none⟩→b≠m):OffS a (some ⟨m,0,none⟩):=fun b off b' off' e e'=>by cases e';exact h b off e
theorem OffS.nil {a:Option Addr}:OffS a none:=fun b off b' off' _ e=>by cases e
theorem OffS.symm {a x:Option Addr} (h:OffS a x):OffS x a:=fun b off b' off' e e'=>(h b' off' b off e' e).symm
theorem Org.trans {a a1 a2:Option Addr} (h:Org S a a1) (k:Org S a1 a2):Org S a a2:=by
 rcases k with rfl | k
 ·exact h
 ·exact .inr k
theorem Org.ne {a a1:Option Addr} (h:Org S a a1) {b:Nat} {e:Ent} (hne:∀ b' off,a=some ⟨b',off,none⟩→b'≠b) (hb:S b=some e):∀ b' off,a1=some ⟨b',off,none⟩→b'≠b:=by
 rcases h with rfl | h
 ·exact hne
 ·intro b' off ha e'
  subst e'
  rw [h _ _ ha] at hb;cases hb
theorem Sl.nil (k:Nat):Sl S k none []:=⟨fun i r h=>by simp at h,nofun⟩
theorem cell_at {b o n i:Nat} {vs:List Value} {v:Value} (f:S.cells? ⟨b,o,none⟩ n=some vs) (hv:vs[i]? = some v):S.cell? ⟨b,o+i,none⟩=some v:=by
 unfold St.cells? at f
 split at f
 ·rename_i c e fr wr hs
  split at f
  ·rename_i hc
   cases f
   simp only [St.cell?]
   simp only at hs
   rw [hs]
   simp only [Option.isSome_none,Bool.false_eq_true,if_false]
   have:i<n:=by
    have:=(List.getElem?_eq_some_iff.1 hv).1
    simp at this;omega
   rw [List.getElem?_take_of_lt this,List.getElem?_drop] at hv
   rw [← Array.getElem?_toList];exact hv
  ·cases f
 ·cases f
theorem cells_at {b o n i m:Nat} {vs ws:List Value} (f:S.cells? ⟨b,o,none⟩ n=some vs) (hv:subl vs i m=some ws):S.cells? ⟨b,o+i,none⟩ m=some ws:=by
 unfold St.cells? at f ⊢
 split at f
 ·rename_i c e fr wr hs
  split at f
  ·rename_i hc
   cases f
   simp only at hs hc ⊢
   rw [hs]
   unfold subl at hv
   split at hv
   ·rename_i hl
    cases hv
    simp only [List.length_take,List.length_drop,Array.length_toList] at hl
    simp only [hc.1,true_and]
    rw [if_pos (by omega)]
    congr 1
    rw [List.drop_take,List.take_take,List.drop_drop]
    congr 1
    omega
   ·cases hv
  ·cases f
 ·cases f
theorem W_rem {x y:Operand} {n m:Nat} (hx:E.ev x=some (int n)) (hy:E.ev y=some (int m)) (hm:m≠0) (k:K (int (n % m:Nat)) S):(SOp.bin .rem x y).W P E S K:=
 W_bin hx hy (by simp only [binI];rw [if_neg (by omega)];rfl) k
theorem W_quo {x y:Operand} {n m:Nat} (hx:E.ev x=some (int n)) (hy:E.ev y=some (int m)) (hm:m≠0) (hn:n≤9223372036854775807) (k:K (int (n / m:Nat)) S):(SOp.bin .quo x y).W P E S K:=by
 refine W_bin (v:=int (n / m:Nat)) hx hy ?_ k
 simp only [binI]
 rw [if_neg (by omega)]
 have e:(n:Int).tdiv (m:Int)=((n / m:Nat):Int):=rfl
 have:n / m≤n:=Nat.div_le_self _ _
 rw [e]
 generalize n / m=q at this ⊢
 rw [wrap64_in (by omega) (by omega)]
theorem wrapu8_in {n:Int} (h0:0≤n) (h1:n≤255):IntKind.u8.wrap n=n:=by
 simp only [IntKind.wrap,IntKind.signed,IntKind.bits,Bool.false_and]
 simp only [Bool.false_eq_true,if_false]
 omega
theorem W_subu8 {x y:Operand} {a b:Int} (hx:E.ev x=some (.int .u8 a)) (hy:E.ev y=some (.int .u8 b)) (h0:0≤a-b) (h1:a-b≤255) (k:K (.int .u8 (a-b)) S):(SOp.bin .sub x y).W P E S K:=
 W_bin hx hy (by simp only [binI,wrapu8_in h0 h1]) k
@[reducible] def byt (c:UInt8):Value:=.int .u8 c.toNat
def BytesO (l:List UInt8) (cap:Nat) (e:TypeId):Obj:=.cells ((l.toArray.map fun c=>Value.int .u8 c.toNat)++Array.replicate (cap-l.length) (.int .u8 0)) e (cap,cap+1)
theorem W_strBytes {e:TypeId} {x:Operand} {l:List UInt8} (H:Loc X S0 S L) (hx:E.ev x=some (str l)) (k:∀ b cap S',l.length≤cap→S b=none→Ext [] S S'→Loc X S0 S' ((b,BytesO l cap e)::L)→K (sl b 0 l.length cap) S'):(SOp.strBytes e x).W P E S K:=by
 simp only [SOp.W,hx]
 intro cap b hc hb
 have hs:(⟨l.toArray⟩:ByteArray).size=l.length:=by simp [ByteArray.size]
 simp only [hs] at hc ⊢
 exact k b cap _ hc hb (.put_new hb _) (H.alloc hb _)
theorem Loc.byteAt (H:Loc X S0 S L) {b i:Nat} {l:List UInt8} {cap:Nat} {e:TypeId} {c:UInt8} (hb:Has L b (BytesO l cap e)) (hc:l[i]? = some c):S.cell? ⟨b,0+i*1,none⟩=some (byt c):=by
 have h:=H.get hb
 have hl:=(List.getElem?_eq_some_iff.1 hc).1
 simp only [St.cell?,h,BytesO,Option.isSome_none,Bool.false_eq_true,if_false,Nat.zero_add,Nat.mul_one]
 rw [Array.getElem?_append_left (by simpa using hl)]
 simp [hc]
theorem bytesOf_rows (l:List UInt8):bytesOf (l.map byt)=some l:=by
 induction l with
 | nil=>rfl
 | cons c l ih=>simp [bytesOf,ih]
theorem W_bytesStr {x:Operand} {a:Addr} {n cap:Nat} {l:List UInt8} (hx:E.ev x=some (.slice (some a) n cap)) (hc:S.cells? a n=some (l.map byt)) (k:K (str l) S):(SOp.bytesStr x).W P E S K:=by
 simp only [SOp.W,hx]
 exact ⟨_,l,hc,bytesOf_rows l,k⟩
theorem W_eqSd {x y:Operand} {l m:List UInt8} (hx:E.ev x=some (str l)) (hy:E.ev y=some (str m)) (k:K (.bool (decide (l=m))) S):(SOp.bin .eql x y).W P E S K:=
 W_eqS hx hy fun t ht=>by
  have e:t=decide (l=m):=by rw [Bool.eq_iff_iff,ht,decide_eq_true_iff]
  rw [e];exact k
theorem W_neSd {x y:Operand} {l m:List UInt8} (hx:E.ev x=some (str l)) (hy:E.ev y=some (str m)) (k:K (.bool (decide (l≠m))) S):(SOp.bin .neq x y).W P E S K:=
 W_neS hx hy fun t ht=>by
  have e:t=decide (l≠m):=by rw [Bool.eq_iff_iff,ht,decide_eq_true_iff]
  rw [e];exact k
inductive Rem:List (Nat × Obj)→Nat→Obj→List (Nat × Obj)→Prop
 | head {L:List (Nat × Obj)} {b:Nat} {o:Obj}:Rem ((b,o)::L) b o L
 | tail {L L':List (Nat × Obj)} {p:Nat × Obj} {b:Nat} {o:Obj}:Rem L b o L'→Rem (p::L) b o (p::L')
theorem Rem.mem {b:Nat} {o:Obj} (h:Rem L b o L'):(b,o)∈L:=by
 induction h with
 | head=>simp
 | tail _ ih=>simp [ih]
theorem Rem.sub {b:Nat} {o:Obj} (h:Rem L b o L'):L'.Sublist L:=by
 induction h with
 | head=>exact .cons _ (List.Sublist.refl _)
 | tail _ ih=>exact ih.cons_cons _
theorem Rem.upd {b:Nat} {o:Obj} (h:Rem L b o L') (o':Obj):∃ L2,Upd L b o o' L2∧Rem L2 b o' L':=by
 induction h with
 | head=>exact ⟨_,.head,.head⟩
 | tail _ ih=>obtain ⟨L2,h1,h2⟩:=ih;exact ⟨_,.tail h1,.tail h2⟩
theorem Rem.nin {b:Nat} {o:Obj} (h:Rem L b o L') (hnd:(L.map (·.1)).Nodup):b∉L'.map (·.1):=by
 induction h with
 | head=>simp only [List.map_cons,List.nodup_cons] at hnd;exact hnd.1
 | tail hr ih=>
  simp only [List.map_cons,List.nodup_cons,List.mem_cons,not_or] at hnd ⊢
  refine ⟨fun e=>hnd.1 ?_,ih hnd.2⟩
  rw [← e]
  exact List.mem_map_of_mem hr.mem
theorem Loc.front (H:Loc X S0 S L) {b:Nat} {o:Obj} (h:Rem L b o L'):Loc X S0 S ((b,o)::L') where
 g:=H.g
 ext:=H.ext
 own x u hx:=by
  rcases List.mem_cons.1 hx with e | hx
  ·cases e;exact H.own _ _ h.mem
  ·exact H.own x u (h.sub.subset hx)
 fresh x u hx:=by
  rcases List.mem_cons.1 hx with e | hx
  ·cases e;exact H.fresh _ _ h.mem
  ·exact H.fresh x u (h.sub.subset hx)
 nodup:=by
  simp only [List.map_cons,List.nodup_cons]
  exact ⟨h.nin H.nodup,(h.sub.map _).nodup H.nodup⟩
def Src (S:St) (size:Nat) (v:Value) (m:Nat) (new:List Value):Prop:=lenV v=some m∧readC S (m*size) v=some new
theorem Src.own (H:Loc X S0 S L) {b n cap size:Nat} {cs:List Value} {e:TypeId} (hb:Has L b (Cs cs e)) (hl:cs.length=n*size):Src S size (sl b 0 n cap) n cs:=
 ⟨rfl,cells_own (H.get hb) (by rw [← hl];simp [subl])⟩
theorem Src.str {l:List UInt8} {size:Nat}:Src S size (str l) l.length (l.map byt):=
 ⟨by simp [lenV,ByteArray.size],by simp [readC]⟩
theorem Src.nil {size cap:Nat}:Src S size (.slice none 0 cap) 0 []:=⟨rfl,rfl⟩
theorem cells_rows {size:Nat} {b off:Nat}:∀ {rows:List (List Value)},(∀ r∈rows,r.length=size)→(∃ c e f wr,S b=some ⟨.cells c e f,wr⟩∧off≤c.size)→(∀ i r,rows[i]? = some r→S.cells? ⟨b,off+i*size,none⟩ size=some r)→S.cells? ⟨b,off,none⟩ (rows.length*size)=some rows.flatten:=by
 intro rows hl ⟨c,e,f,wr,hb,ho⟩ h
 have key:∀ (rows:List (List Value)) (off:Nat),off≤c.size→(∀ r∈rows,r.length=size)→(∀ i r,rows[i]? = some r→S.cells? ⟨b,off+i*size,none⟩ size=some r)→off+rows.length*size≤c.size∧(c.toList.drop off).take (rows.length*size)=rows.flatten:=by
  intro rows
  induction rows with
  | nil=>intro off ho _ _;simpa using ho
  | cons r rows ih=>
   intro off ho hl h
   have h0:=h 0 r (by simp)
   simp only [St.cells?,hb,Nat.zero_mul,Nat.add_zero] at h0
   split at h0
   ·rename_i hc
    obtain ⟨h1,h2⟩:=ih (off+size) (by omega) (fun r hr=>hl r (by simp [hr])) (fun i r hr=>by
     have:=h (i+1) r (by simpa using hr)
     rw [show off+size+i*size=off+(i+1)*size by rw [Nat.add_mul];omega];exact this)
    have e1:(rows.length+1)*size=size+rows.length*size:=by rw [Nat.add_mul];omega
    refine ⟨by simp only [List.length_cons,e1];omega,?_⟩
    simp only [List.length_cons,List.flatten_cons,e1]
    rw [List.take_add,Option.some.inj h0,List.drop_drop,h2]
   ·cases h0
 obtain ⟨h1,h2⟩:=key rows off ho hl h
 simp only [St.cells?,hb]
 rw [if_pos ⟨rfl,h1⟩,h2]
theorem Src.sl {k n cap:Nat} {a:Option Addr} {rows:List (List Value)} (hs:Sl S k a rows) (hl:∀ r∈rows,r.length=k) (hn:rows.length=n):Src S k (.slice a n cap) n rows.flatten:=by
 refine ⟨rfl,?_⟩
 cases a with
 | none=>
  cases rows with
  | nil=>rfl
  | cons r rows=>
   obtain ⟨b,off,e,_⟩:=hs.row 0 r (by simp)
   cases e
 | some ad=>
  obtain ⟨b,off,c,e,f,wr,rfl,hb,ho,_⟩:=hs.base ad rfl
  subst hn
  simp only [readC]
  refine cells_rows hl ⟨c,e,f,wr,hb,ho⟩ fun i r' hr=>?_
  obtain ⟨b',off',e,hc'⟩:=hs.row i r' hr
  cases e;exact hc'
theorem setCells_take (c:Array Value) (cs:List Value) (o:Nat) (new:List Value) (hc:c=cs.toArray) (h:o+new.length≤cs.length):setCells c o new=(setl cs o new).toArray:=by
 subst hc
 rw [← Array.toList_inj,setCells_list _ _ _ (by simpa using h)]
 simp [setl]
theorem zeroCells_len (z:Array Value) (n:Nat):(Builtin.zeroCells z n).size=n*z.size:=by
 unfold Builtin.zeroCells
 simp
theorem W_append {e:TypeId} {size bytes:Nat} {z:Value} {x y:Operand} {b n cap m:Nat} {cs new:List Value} {v:Value} (H:Loc X S0 S L) (hx:E.ev x=some (sl b 0 n cap)) (hy:E.ev y=some v) (hr:Rem L b (Cs cs e) L') (hl:cs.length=cap*size) (hn:n≤cap)
    (hv:Src S size v m new) (h1:∀ u∈new,vV u=true) (hm:new.length=m*size) (hb:bytes≠0) (hfit:(n+m)*bytes≤140737488355328) (hz:z.cells.size=size)
    (k:∀ b' cap' cs' S',b'=b∨S b'=none→Loc X S0 S' ((b',Cs cs' e)::L')→Ext [b] S S'→n+m≤cap'→cs'.length=cap'*size→cs'.take ((n+m)*size)=cs.take (n*size)++new→K (sl b' 0 (n+m) cap') S'):(SOp.append e size bytes z x y).W P E S K:=by
  have hbS:=H.own _ _ hr.mem
  simp only [SOp.W,hx,hy]
  refine ⟨hb,m,cs.take (n*size),new,hv.1,?_,hv.2,fun hc=>⟨trivial,h1,cs.toArray,e,(0,0),hbS,Nat.le_refl _,?_,?_⟩,fun hc=>⟨?_,fun nc b' hnc hb'=>?_⟩⟩
  · have:n*size≤cap*size:=Nat.mul_le_mul_right _ hn
    exact cells_own hbS (by simp [subl];omega)
  · have:(n+m)*size≤cap*size:=Nat.mul_le_mul_right _ hc
    rw [Nat.add_mul] at this
    simp;omega
  · have hle:(n+m)*size≤cap*size:=Nat.mul_le_mul_right _ hc
    rw [Nat.add_mul] at hle
    by_cases hnew:new=[]
    · rw [if_pos hnew]
      subst hnew
      refine k b cap cs S (.inl rfl) (H.front hr) (Ext.refl _ _) hc hl ?_
      have:m*size=0:=by simpa using hm.symm
      rw [Nat.add_mul,this];simp
    · rw [if_neg hnew]
      have e1:setCells cs.toArray (0+n*size) new=(setl cs (n*size) new).toArray:=by
        rw [Nat.zero_add]
        exact setCells_take _ _ _ _ rfl (by omega)
      simp only [e1]
      obtain ⟨L2,hu,hr2⟩:=hr.upd (Cs (setl cs (n*size) new) e)
      refine k b cap _ _ (.inl rfl) ((H.put hu).front hr2) (Ext.put_old hbS _) hc ?_ ?_
      · simp [setl];omega
      · simp only [setl]
        have e2:(cs.take (n*size)).length=n*size:=by simp;omega
        rw [Nat.add_mul,List.append_assoc,List.take_append,e2,List.take_of_length_le (by omega),Nat.add_sub_cancel_left,List.take_append_of_le_length (by omega),List.take_of_length_le (l:=new) (by omega)]
  · have:=growslice_fits (need:=n+m) (old:=cap) (bytes:=bytes) (by omega) hfit
    omega
  · have hkey:Cs ((cs.take (n*size))++new++(Builtin.zeroCells z.cells (nc-(n+m))).toList) e=Obj.cells ((cs.take (n*size)).toArray++new.toArray++Builtin.zeroCells z.cells (nc-(n+m))) e:=by
      simp [Cs]
    rw [← hkey]
    have hne:b'≠b:=fun e=>by subst e;rw [hbS] at hb';cases hb'
    have hle:n*size≤cap*size:=Nat.mul_le_mul_right _ hn
    have hlen:((cs.take (n*size))++new).length=(n+m)*size:=by simp [Nat.add_mul];omega
    refine k b' nc _ _ (.inr hb') ((H.sub hr.sub).alloc hb' _) ((Ext.put_new hb' _).up) hnc ?_ ?_
    · rw [List.length_append,hlen,Array.length_toList,zeroCells_len,hz,← Nat.add_mul]
      congr 1;omega
    · rw [List.take_append_of_le_length (by omega),List.take_of_length_le (by omega)]
theorem W_appendZ {e:TypeId} {size bytes:Nat} {z:Value} {x y:Operand} {b m:Nat} {new:List Value} {v:Value} (H:Loc X S0 S L) (hx:E.ev x=some (sl b 0 0 0)) (hy:E.ev y=some v) (hr:Rem L b (Cs [] e) L')
    (hv:Src S size v m new) (h1:∀ u∈new,vV u=true) (hm:new.length=m*size) (hb:bytes≠0) (hs0:size≠0) (hfit:(0+m)*bytes≤140737488355328) (hz:z.cells.size=size)
    (k:∀ b' cap' cs' S',b'=b∨S b'=none→Loc X S0 S' ((b',Cs cs' e)::L')→Ext [] S S'→0+m≤cap'→cs'.length=cap'*size→cs'.take ((0+m)*size)=new→K (sl b' 0 (0+m) cap') S'):(SOp.append e size bytes z x y).W P E S K:=by
  have hbS:=H.own _ _ hr.mem
  simp only [SOp.W,hx,hy]
  refine ⟨hb,m,[],new,hv.1,cells_own hbS (by simp [subl]),hv.2,fun hc=>?_,fun hc=>⟨?_,fun nc b' hnc hb'=>?_⟩⟩
  · obtain rfl:m=0:=by omega
    obtain rfl:new=[]:=by simpa using hm
    refine ⟨trivial,h1,[].toArray,e,(0,0),hbS,Nat.le_refl _,by simp,?_⟩
    simp only [if_true]
    exact k b 0 [] S (.inl rfl) (H.front hr) (Ext.refl _ _) (Nat.le_refl _) (by simp) (by simp)
  · have:=growslice_fits (need:=0+m) (old:=0) (bytes:=bytes) (by omega) hfit
    omega
  · have hkey:Cs (new++(Builtin.zeroCells z.cells (nc-(0+m))).toList) e=Obj.cells ([].toArray++new.toArray++Builtin.zeroCells z.cells (nc-(0+m))) e:=by
      simp [Cs]
    rw [← hkey]
    refine k b' nc _ _ (.inr hb') ((H.sub hr.sub).alloc hb' _) (Ext.put_new hb' _) hnc ?_ ?_
    · rw [List.length_append,hm,Array.length_toList,zeroCells_len,hz,← Nat.add_mul]
      congr 1;omega
    · rw [Nat.zero_add,← hm,List.take_append_of_le_length (Nat.le_refl _),List.take_length]
theorem W_appendNew {e:TypeId} {size bytes:Nat} {z:Value} {x y:Operand} {a:Option Addr} {n cap m:Nat} {old new:List Value} {v:Value} (H:Loc X S0 S L) (hx:E.ev x=some (.slice a n cap)) (hy:E.ev y=some v) (hcap:cap<n+m)
    (ho:readC S (n*size) (.slice a n cap)=some old) (hol:old.length=n*size) (hv:Src S size v m new) (hm:new.length=m*size) (hb:bytes≠0) (hfit:(n+m)*bytes≤140737488355328) (hz:z.cells.size=size)
    (k:∀ b' cap' cs' S',S b'=none→Loc X S0 S' ((b',Cs cs' e)::L)→Ext [] S S'→n+m≤cap'→cs'.length=cap'*size→cs'.take ((n+m)*size)=old++new→K (sl b' 0 (n+m) cap') S'):(SOp.append e size bytes z x y).W P E S K:=by
  simp only [SOp.W,hx,hy]
  refine ⟨hb,m,old,new,hv.1,ho,hv.2,fun hc=>by omega,fun hc=>⟨?_,fun nc b' hnc hb'=>?_⟩⟩
  · have:=growslice_fits (need:=n+m) (old:=cap) (bytes:=bytes) (by omega) hfit
    omega
  · have hkey:Cs (old++new++(Builtin.zeroCells z.cells (nc-(n+m))).toList) e=Obj.cells (old.toArray++new.toArray++Builtin.zeroCells z.cells (nc-(n+m))) e:=by
      simp [Cs]
    rw [← hkey]
    have hlen:(old++new).length=(n+m)*size:=by simp [Nat.add_mul];omega
    refine k b' nc _ _ hb' (H.alloc hb' _) (Ext.put_new hb' _) hnc ?_ ?_
    · rw [List.length_append,hlen,Array.length_toList,zeroCells_len,hz,← Nat.add_mul]
      congr 1;omega
    · rw [List.take_append_of_le_length (by omega),List.take_of_length_le (by omega)]
theorem W_mkSlice {e:TypeId} {size bytes:Nat} {z:Value} {x y:Operand} {l c:Nat} (H:Loc X S0 S L) (hx:E.ev x=some (int l)) (hy:E.ev y=some (int c)) (hlc:l≤c) (hb:bytes*c≤140737488355328) (hc:c≤140737488355328) 
    (k:∀ b cs S',S b=none→Loc X S0 S' ((b,Cs cs e)::L)→Ext [] S S'→cs.length=c*size→K (sl b 0 l c) S'):(SOp.mkSlice e size bytes z x y).W P E S K:=by
  simp only [SOp.W,hx,hy]
  refine ⟨by omega,by omega,?_,?_,fun b hbn=>?_⟩
  · have:IntKind.i64.max=9223372036854775807:=rfl
    omega
  · have:((bytes*c:Nat):Int)≤2 ^ 48:=by have:=hb;omega
    simpa using this
  · simp only [Int.toNat_natCast]
    have hkey:∀ arr:Array Value,Cs arr.toList e=Obj.cells arr e:=fun arr=>by simp [Cs]
    rw [← hkey]
    refine k b _ _ hbn (H.alloc hbn _) (Ext.put_new hbn _) ?_
    simp
def OwnB (S:St) (b:Nat) (e:TypeId) (k cap:Nat) (rows:List (List Value)):Prop:=
 ∃ cs,S b=some ⟨Cs cs e,true⟩∧rows.length≤cap∧cs.length=cap*k∧cs.take (rows.length*k)=rows.flatten∧∀ r∈rows,r.length=k
theorem flat_at {k:Nat}:∀ {rows:List (List Value)} {i:Nat} {r:List Value},(∀ r∈rows,r.length=k)→rows[i]? = some r→(rows.flatten.drop (i*k)).take k=r:=by
 intro rows
 induction rows with
 | nil=>intro i r _ h;simp at h
 | cons x rows ih=>
  intro i r hl h
  cases i with
  | zero=>
   simp at h;subst h
   have:=hl x (by simp)
   simp [← this]
  | succ i=>
   simp at h
   have hx:=hl x (by simp)
   rw [List.flatten_cons,Nat.add_mul,Nat.one_mul,Nat.add_comm,← List.drop_drop,List.drop_append_of_le_length (by omega),← hx,List.drop_length,List.nil_append]
   rw [hx]
   exact ih (fun r hr=>hl r (by simp [hr])) h
theorem flat_len {k:Nat} {rows:List (List Value)} (h:∀ r∈rows,r.length=k):rows.flatten.length=rows.length*k:=by
 induction rows with
 | nil=>simp
 | cons x rows ih=>
  rw [List.flatten_cons,List.length_append,ih fun r hr=>h r (by simp [hr]),h x (by simp),List.length_cons,Nat.add_mul];omega
theorem vc {k b:Nat} {e:TypeId} {cs:List Value} {rows:List (List Value)} {n:Nat} (hb:S b=some ⟨Cs cs e,true⟩) (hn:n=rows.length*k) (ht:cs.take n=rows.flatten) (hl:∀ r∈rows,r.length=k):Sl S k (some ⟨b,0,none⟩) rows:=by
 refine ⟨fun i r hr=>?_,fun ad e=>by cases e;exact ⟨b,0,_,_,_,_,rfl,hb,Nat.zero_le _,rfl⟩⟩
 refine ⟨b,0,rfl,cells_own hb ?_⟩
 have hi:=(List.getElem?_eq_some_iff.1 hr).1
 have h1:(i+1)*k≤rows.length*k:=Nat.mul_le_mul_right _ (by omega)
 have h2:rows.length*k≤cs.length:=by
  have:=congrArg List.length ht
  rw [flat_len hl,List.length_take] at this
  omega
 rw [Nat.add_mul,Nat.one_mul] at h1
 simp only [subl,Nat.zero_add]
 rw [if_pos (by omega)]
 congr 1
 rw [← flat_at hl hr,← ht,List.drop_take,List.take_take]
 congr 1
 omega
theorem OwnB.sl {b cap k:Nat} {e:TypeId} {rows:List (List Value)} (h:OwnB S b e k cap rows):Sl S k (some ⟨b,0,none⟩) rows:=by
 obtain ⟨cs,h1,_,_,h4,h5⟩:=h
 exact vc h1 rfl h4 h5
theorem OwnB.mono {b cap k:Nat} {e:TypeId} {rows:List (List Value)} (h:OwnB S b e k cap rows) (he:Ext [] S S'):OwnB S' b e k cap rows:=by
 obtain ⟨cs,h1,h2⟩:=h
 exact ⟨cs,he.get h1,h2⟩
theorem Loc.adopt (H:Loc X S0 S L) (hE:Ext [] S S') {b:Nat} {o:Obj} (hb:S b=none) (ho:S' b=some ⟨o,true⟩):Loc X S0 S' ((b,o)::L) where
 g:=(H.call hE).g
 ext:=(H.call hE).ext
 own x u hx:=by
  rcases List.mem_cons.1 hx with e | hx
  ·cases e;exact ho
  ·exact (H.call hE).own x u hx
 fresh x u hx:=by
  rcases List.mem_cons.1 hx with e | hx
  ·obtain ⟨rfl,rfl⟩:=Prod.mk.inj e
   cases hs:S0 x with
   | none=>exact .inl rfl
   | some e=>
    by_cases hX:x∈X
    ·exact .inr hX
    ·have:=H.ext x e hX hs;rw [hb] at this;cases this
  ·exact H.fresh x u hx
 nodup:=by
  simp only [List.map_cons,List.nodup_cons]
  refine ⟨fun hc=>?_,H.nodup⟩
  obtain ⟨⟨x,u⟩,hx,rfl⟩:=List.mem_map.1 hc
  have:=H.own x u hx
  simp only at hb
  rw [hb] at this;cases this
theorem Loc.new1 (H:Loc [] S0 S L) {b:Nat} {o:Obj} (h:Has L b o):S0 b=none:=by
 rcases H.fresh b o h.mem with h | h
 ·exact h
 ·cases h
theorem W_sliceL {size:Nat} {x:Operand} {lo hi mx:Option Operand} {a:Option Addr} {n cap:Nat} {l h m:Option Value} {r:Nat × Nat × Nat} (hx:E.ev x=some (.slice a n cap)) (hl:E.evo lo=some l) (hh:E.evo hi=some h) (hm:E.evo mx=some m) (hr:bnds n cap l h m=some r)
    (k:K (.slice (if r.2.2=r.1 then a else a.map (·.add (r.1*size))) (r.2.1-r.1) (r.2.2-r.1)) S):(SOp.sliceL size x lo hi mx).W P E S K:=by
  simp only [SOp.W,hx,hl,hh,hm];exact ⟨r,hr,k⟩
theorem Sl.take {k:Nat} {a:Option Addr} {rows:List (List Value)} (h:Sl S k a rows) (i:Nat):Sl S k a (rows.take i):=by
 refine ⟨fun j r hr=>h.row j r ?_,h.base⟩
 rw [List.getElem?_take] at hr
 split at hr
 ·exact hr
 ·cases hr
theorem W_slTake {α:Type} {l:List α} {size:Nat} {x y:Operand} {a:Option Addr} {cap:Nat} {kd:IntKind} {j:Int} (hx:E.ev x=some (.slice a l.length cap)) (hy:E.ev y=some (.int kd j)) (h0:0≤j) (h1:j≤l.length) (hc:l.length≤cap) (k:K (.slice a (l.take j.toNat).length cap) S):(SOp.sliceL size x none (some y) none).W P E S K:=by
 refine W_sliceL (l:=none) (h:=some (.int kd j)) (m:=none) (r:=(0,j.toNat,cap)) hx rfl (by simp [Env.evo,hy]) rfl ?_ ?_
 ·simp only [bnds,bnd,Option.isSome_none,Bool.false_eq_true,if_false]
  rw [if_pos ⟨h0,by omega⟩]
 ·have e1:(l.take j.toNat).length=j.toNat:=by rw [List.length_take];omega
  rw [e1] at k
  have e2:∀ x:Addr,x.add 0=x:=fun x=>by simp [Addr.add]
  have e3:(if cap=0 then a else Option.map (fun x=>x.add (0*size)) a)=a:=by
   simp only [Nat.zero_mul,e2]
   cases a<;>simp
  simp only [Nat.sub_zero]
  rw [e3];exact k
def OwnO (S0 S:St) (x:Option Addr) (e:TypeId) (k cap:Nat) (rows:List (List Value)):Prop:=(x=none∧rows=[]∧cap=0)∨∃ m,x=some ⟨m,0,none⟩∧S0 m=none∧OwnB S m e k cap rows
theorem OwnO.nil {e:TypeId} {k:Nat}:OwnO S S' none e k 0 []:=.inl ⟨rfl,rfl,rfl⟩
theorem OwnO.back {S00 S0 S:St} {x:Option Addr} {e:TypeId} {k cap:Nat} {rows:List (List Value)} (h:OwnO S0 S x e k cap rows) (he:Ext [] S00 S0):OwnO S00 S x e k cap rows:=
 h.imp_right fun ⟨m,h1,h2,h3⟩=>⟨m,h1,he.isNone h2,h3⟩
theorem OwnO.sl {S0 S:St} {x:Option Addr} {e:TypeId} {k cap:Nat} {rows:List (List Value)} (h:OwnO S0 S x e k cap rows):Sl S k x rows:=by
 rcases h with ⟨rfl,rfl,_⟩ | ⟨m,rfl,_,h⟩
 ·exact Sl.nil k
 ·exact h.sl
theorem OwnO.cap {S0 S:St} {x:Option Addr} {e:TypeId} {k cap:Nat} {rows:List (List Value)} (h:OwnO S0 S x e k cap rows):rows.length≤cap:=by
 rcases h with ⟨rfl,rfl,rfl⟩ | ⟨m,rfl,_,h⟩
 ·exact Nat.le_refl _
 ·obtain ⟨_,_,h,_⟩:=h;exact h
theorem OwnO.off {S0 S:St} {x:Option Addr} {e:TypeId} {k cap b:Nat} {rows:List (List Value)} {en:Ent} (h:OwnO S0 S x e k cap rows) (hb:S0 b=some en):∀ b' off,x=some ⟨b',off,none⟩→b'≠b:=by
 rcases h with ⟨rfl,_⟩ | ⟨m,rfl,h2,_⟩
 ·nofun
 ·rintro b' off e' rfl
  cases e'
  rw [h2] at hb;cases hb
theorem nin1 {a b:Nat} (h:a≠b):a∉[b]:=by simpa using h
end
end Go.Proofs.YtnccejlibbgpkaaGreatDoor
