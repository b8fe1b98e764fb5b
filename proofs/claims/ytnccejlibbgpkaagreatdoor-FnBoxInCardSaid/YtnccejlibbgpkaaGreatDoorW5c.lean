/-
  The law FnBoxIn answers true at every input that its row allows, at every start that lays its variables: part 3 of 7.
-/
import GoSem.Step
import Derived.Conc.Token
import Derived.AtR
import Derived.Conc.Own2
import Derived.Conc.CrowdComm
import Derived.Conc.CrowdTrace
import Derived.Conc.Fork
import Derived.Conc.CrowdStepC
import Derived.Below
import Derived.Laws.Append
import Derived.Test.YtnccejlibbgpkaaGreatDoorChecked
import Derived.Test.YtnccejlibbgpkaaGreatDoorProg
import Derived.MapKept
import Derived.Test.YtnccejlibbgpkaaGreatDoorW5b
set_option linter.unusedSimpArgs false
set_option linter.unusedVariables false
set_option linter.unusedSectionVars false
namespace Go.Proofs.YtnccejlibbgpkaaGreatDoor
section
def PORT:Bs:=[112,111,114,116,32]
def NONE:Bs:=[110,111,110,101]
def End.ok (e:End):Prop:=OkE e.a e.p
def End.inn (e:End):Prop:=InE e.a e.p
def End.out (e:End):Prop:=OutE e.a e.p
instance (e:End):Decidable e.ok:=by unfold End.ok;exact inferInstance
instance (e:End):Decidable e.inn:=by unfold End.inn;exact inferInstance
instance (e:End):Decidable e.out:=by unfold End.out;exact inferInstance
def End.txt (e:End):Bs:=eTxt e.a e.p
def End.line (e:End):Bs:=if e.ok then PORT++e.txt else []
noncomputable def rd (l:Bs):Option End:=open Classical in if h:∃ e:End,RdE l e.a e.p then some (Classical.choose h) else none
theorem rd_some {l:Bs} {e:End} (h:RdE l e.a e.p):rd l=some e:=by
 unfold rd
 have hx:∃ e:End,RdE l e.a e.p:=⟨e,h⟩
 rw [dif_pos hx]
 have:=RdE.uniq (Classical.choose_spec hx) h
 congr 1
 rcases hc:Classical.choose hx with ⟨a,p⟩
 rw [hc] at this
 obtain ⟨a',p'⟩:=e
 simp only at this
 rw [this.1,this.2]
theorem rd_none {l:Bs} (h:∀ a p,¬ RdE l a p):rd l=none:=by
 unfold rd
 rw [dif_neg]
 rintro ⟨e,he⟩;exact h _ _ he
theorem rd_spec {l:Bs} {e:End} (h:rd l=some e):RdE l e.a e.p:=by
 unfold rd at h
 split at h
 ·rename_i hx;cases h;exact Classical.choose_spec hx
 ·cases h
theorem rd_txt {e:End} (h:e.ok):rd e.txt=some e:=rd_some ⟨h,rfl⟩
noncomputable def said (l:Bs):Option End:=if PORT <+: l then rd (l.drop 5) else none
noncomputable def says (l:Bs):Option End:=(said l).bind fun e=>if e.inn then some e else none
noncomputable def boxP (l:Bs):Option Int:=(said l).bind fun e=>if e.a=50 then some e.p else none
def findE (es:List End) (e:End):Int:=if e∈es then (es.idxOf e:Nat) else -1
def portE (es:List End) (e:End):Int:=if e∈es then 500+(es.idxOf e:Nat) else 0
def endP (es:List End) (p:Int):Option End:=if 500≤p then es[(p-500).toNat]? else none
def putE (es:List End) (e:End):List End:=if e∈es∨6≤es.length then es else es++[e]
def putP (es:List End) (e:End):Int:=if e∈es then portE es e else if 6≤es.length then 0 else 500+es.length
def TabP (es:List End):Prop:=es.length≤6∧(∀ e∈es,e.inn)∧es.Nodup
noncomputable def vO (es:List End) (l:Bs):List End × Bs:=match says l with
 | none=>(es,l)
 | some e=>(putE es e,if putP es e=0 then NONE else (⟨50,putP es e⟩:End).line)
noncomputable def linesOut:List End→List Bs→List End × Bs
 | es,[]=>(es,[])
 | es,l::ls=>let r:=vO es l;let q:=linesOut r.1 ls;(q.1,r.2++[59]++q.2)
noncomputable def vI (es:List End) (s:Bs):List End × Bs:=linesOut es (zu s).1
noncomputable def lineIn (es:List End) (l:Bs):Bs:=match boxP l with
 | none=>l
 | some p=>match endP es p with
  | none=>l
  | some e=>e.line
theorem linesOut_snoc (es:List End) (ls:List Bs) (l:Bs):linesOut es (ls++[l])=((vO (linesOut es ls).1 l).1,(linesOut es ls).2++(vO (linesOut es ls).1 l).2++[59]):=by
 induction ls generalizing es with
 | nil=>simp [linesOut]
 | cons x ls ih=>simp [linesOut,ih]
theorem End.ext' {e f:End} (h:e.a=f.a∧e.p=f.p):e=f:=by
 cases e;cases f;simp at h;simp [h]
theorem End.ne' {e f:End} (h:¬ (e.a=f.a∧e.p=f.p)):e≠f:=by rintro rfl;exact h ⟨rfl,rfl⟩
theorem idxOf_at {es:List End} {e:End} {i:Nat} (h:es[i]? = some e) (hn:e∉es.take i):es.idxOf e=i:=by
 obtain ⟨hi,he⟩:=List.getElem?_eq_some_iff.1 h
 have hm:e∈es:=he ▸ List.getElem_mem hi
 rcases Nat.lt_trichotomy (es.idxOf e) i with h1 | h1 | h1
 ·exfalso
  apply hn
  have hlt:=List.idxOf_lt_length_of_mem hm
  have h2:es[es.idxOf e]=e:=List.getElem_idxOf hlt
  rw [List.mem_take_iff_getElem]
  exact ⟨es.idxOf e,by omega,h2⟩
 ·exact h1
 ·exfalso
  have h3:=List.not_of_lt_findIdx (p:=(· == e)) (xs:=es) (i:=i) (by simpa [List.idxOf] using h1)
  simp [he] at h3
theorem findE_at {es:List End} {e:End} {i:Nat} (h:es[i]? = some e) (hn:e∉es.take i):findE es e=i:=by
 have hm:e∈es:=List.mem_of_getElem? h
 unfold findE;rw [if_pos hm,idxOf_at h hn]
theorem findE_no {es:List End} {e:End} (h:e∉es):findE es e=-1:=by unfold findE;rw [if_neg h]
theorem findE_bd (es:List End) (e:End):-1≤findE es e∧findE es e<es.length:=by
 unfold findE
 split
 ·rename_i h;have:=List.idxOf_lt_length_of_mem h;omega
 ·omega
theorem portE_eq (es:List End) (e:End):portE es e=if findE es e<0 then 0 else 500+findE es e:=by
 unfold portE findE
 split
 ·rw [if_neg (by omega)]
 ·rfl
theorem endP_some {es:List End} {q:Int} {x:End} (h:es[(q-500).toNat]? = some x) (h0:500≤q):endP es q=some x:=by unfold endP;rw [if_pos h0,h]
theorem endP_none {es:List End} {q:Int} (h:¬ (500≤q∧q≤500+es.length-1)):endP es q=none:=by
 unfold endP
 split
 ·rw [List.getElem?_eq_none (by omega)]
 ·rfl
theorem putE_mem {es:List End} {e:End} (h:e∈es):putE es e=es∧putP es e=portE es e:=by
 unfold putE putP;rw [if_pos (.inl h),if_pos h];exact ⟨rfl,rfl⟩
theorem putE_full {es:List End} {e:End} (h:e∉es) (hf:6≤es.length):putE es e=es∧putP es e=0:=by
 unfold putE putP;rw [if_pos (.inr hf),if_neg h,if_pos hf];exact ⟨rfl,rfl⟩
theorem putE_new {es:List End} {e:End} (h:e∉es) (hf:¬ 6≤es.length):putE es e=es++[e]∧putP es e=500+es.length:=by
 unfold putE putP;rw [if_neg (by simp [h];omega),if_neg h,if_neg hf];exact ⟨rfl,rfl⟩
theorem not_mem_take_succ {es:List End} {e x:End} {i:Nat} (h:es[i]? = some x) (hn:e∉es.take i) (hx:x≠e):e∉es.take (i+1):=by
 rw [vS h]
 simp only [List.mem_append,List.mem_singleton,not_or]
 exact ⟨hn,fun h=>hx h.symm⟩
@[reducible] def zY (es:List End):List (List Value):=es.map End.row
theorem vG {es:List End}:∀ r∈zY es,r.length=2:=by
 intro r hr
 obtain ⟨x,_,rfl⟩:=List.mem_map.1 hr
 rfl
theorem endRows_len (es:List End):(zY es).length=es.length:=by simp
theorem endRows_flat_len (es:List End):(zY es).flatten.length=es.length*2:=by rw [flat_len vG,endRows_len]
theorem endRows_one {es:List End}:∀ u∈(zY es).flatten,vV u=true:=by
 intro u hu
 simp only [List.mem_flatten,List.mem_map] at hu
 obtain ⟨r,⟨e,_,rfl⟩,hu⟩:=hu
 simp at hu;rcases hu with rfl | rfl<;>rfl
theorem endRows_at {es:List End} {i:Nat} {e:End} (h:es[i]? = some e):(zY es)[i]? = some e.row:=by simp [h]
theorem Sl.takeE {S:St} {a:Option Addr} {es:List End} (h:Sl S 2 a (zY es)) (i:Nat):Sl S 2 a (zY (es.take i)):=by
 have:=h.take i
 simpa [zY,List.map_take] using this
theorem sl_put {X:List Nat} {S0 S:St} {L:List (Nat × Obj)} {b:Nat} {cs cs1:List Value} {es:List End} {e:End} (H:Loc X S0 S L) (hb:Has L b (Cs cs 31)) (h1:cs1.take ((0+es.length)*2)=(zY es).flatten) (h2:cs.take ((0+es.length+1)*2)=cs1.take ((0+es.length)*2)++e.row) :
    Sl S 2 (some ⟨b,0,none⟩) (zY (es++[e])):=by
  refine vc (H.get hb) (n:=(0+es.length+1)*2) (by simp) ?_ vG
  rw [h2,h1];simp
theorem own_put {X:List Nat} {S0 S:St} {L:List (Nat × Obj)} {b cap:Nat} {cs cs1:List Value} {es:List End} {e:End} (H:Loc X S0 S L) (hb:Has L b (Cs cs 31)) (h1:cs1.take ((0+es.length)*2)=(zY es).flatten) (h2:cs.take ((0+es.length+1)*2)=cs1.take ((0+es.length)*2)++e.row)
    (hn:es.length+1≤cap) (hl:cs.length=cap*2):OwnB S b 31 2 cap (zY (es++[e])):=by
  refine ⟨cs,H.get hb,by simpa using hn,hl,?_,vG⟩
  rw [show (zY (es++[e])).length=0+es.length+1 by simp,h2,h1];simp
theorem putE_len6 {es:List End} (e:End) (h:es.length≤6):(putE es e).length≤6:=by
 unfold putE;split
 ·exact h
 ·rename_i hc;simp at hc ⊢;omega
theorem lineOut_len6 {es:List End} (l:Bs) (h:es.length≤6):(vO es l).1.length≤6:=by
 unfold vO;split
 ·exact h
 ·exact putE_len6 _ h
theorem lineOut_none {es:List End} {l:Bs} (h:says l=none):vO es l=(es,l):=by unfold vO;rw [h]
theorem lineOut_full {es:List End} {l:Bs} {e:End} (h:says l=some e) (hp:putP es e=0):vO es l=(putE es e,NONE):=by unfold vO;rw [h];simp [hp]
theorem lineOut_port {es:List End} {l:Bs} {e:End} (h:says l=some e) (hp:¬ putP es e=0):vO es l=(putE es e,(⟨50,putP es e⟩:End).line):=by unfold vO;rw [h];simp [hp]
theorem prefix5 {l:Bs}:PORT <+: l↔l.take 5=PORT:=by
 rw [List.prefix_iff_eq_take];exact ⟨fun h=>h.symm,fun h=>h.symm⟩
theorem said_take {l:Bs} (h:l.take 5=PORT):said l=rd (l.drop 5):=by unfold said;rw [if_pos (prefix5.2 h)]
theorem said_ntake {l:Bs} (h:l.take 5≠PORT):said l=none:=by unfold said;rw [if_neg (fun hc=>h (prefix5.1 hc))]
theorem says_yes {l:Bs} {a p:Int} (h:l.take 5=PORT) (hr:RdE (l.drop 5) a p) (hi:InE a p):says l=some ⟨a,p⟩:=by
 unfold says;rw [said_take h,rd_some (e:=⟨a,p⟩) hr];exact if_pos hi
theorem says_no1 {l:Bs} {a p:Int} (h:l.take 5=PORT) (hr:RdE (l.drop 5) a p) (hi:¬ InE a p):says l=none:=by
 unfold says;rw [said_take h,rd_some (e:=⟨a,p⟩) hr];exact if_neg hi
theorem says_no2 {l:Bs} (h:l.take 5=PORT) (hr:∀ x y,¬ RdE (l.drop 5) x y):says l=none:=by
 unfold says;rw [said_take h,rd_none hr];rfl
theorem says_no3 {l:Bs} (h:l.take 5≠PORT):says l=none:=by
 unfold says;rw [said_ntake h];rfl
theorem box_yes {l:Bs} {a p:Int} (h:l.take 5=PORT) (hr:RdE (l.drop 5) a p) (hi:a=50):boxP l=some p:=by
 unfold boxP;rw [said_take h,rd_some (e:=⟨a,p⟩) hr];exact if_pos hi
theorem box_no1 {l:Bs} {a p:Int} (h:l.take 5=PORT) (hr:RdE (l.drop 5) a p) (hi:¬ a=50):boxP l=none:=by
 unfold boxP;rw [said_take h,rd_some (e:=⟨a,p⟩) hr];exact if_neg hi
theorem box_no2 {l:Bs} (h:l.take 5=PORT) (hr:∀ x y,¬ RdE (l.drop 5) x y):boxP l=none:=by
 unfold boxP;rw [said_take h,rd_none hr];rfl
theorem box_no3 {l:Bs} (h:l.take 5≠PORT):boxP l=none:=by
 unfold boxP;rw [said_ntake h];rfl
theorem lineIn_none {es:List End} {l:Bs} (h:boxP l=none):lineIn es l=l:=by unfold lineIn;rw [h]
theorem lineIn_no {es:List End} {l:Bs} {p:Int} (h:boxP l=some p) (he:endP es p=none):lineIn es l=l:=by unfold lineIn;rw [h];simp only;rw [he]
theorem lineIn_yes {es:List End} {l:Bs} {p:Int} {e:End} (h:boxP l=some p) (he:endP es p=some e):lineIn es l=e.line:=by unfold lineIn;rw [h];simp only;rw [he]
theorem take5_short {l:Bs} (h:l.length<5):l.take 5≠PORT:=by
 intro hc
 have:=congrArg List.length hc
 rw [List.length_take] at this
 simp [PORT] at this;omega
theorem eTxt_len {a p:Int} (h:OkE a p):(eTxt a p).length≤9:=by
 unfold OkE at h
 have h1:=dig_le4 (n:=a.toNat) (by omega)
 have h2:=dig_le4 (n:=p.toNat) (by omega)
 unfold eTxt;simp;omega
theorem eText_len (a p:Int):(eText a p).length≤9:=by
 unfold eText;split
 ·exact eTxt_len ‹_›
 ·simp
theorem End.line_eq (e:End):e.line=if e.ok then PORT++eText e.a e.p else []:=by
 unfold End.line;split
 ·rename_i h;rw [show eText e.a e.p=e.txt from if_pos h]
 ·rfl
theorem End.line_len (e:End):e.line.length≤14:=by
 rw [End.line_eq];split
 ·have:=eText_len e.a e.p;simp [PORT];omega
 ·simp
theorem lineOut_snd_len (es:List End) (l:Bs):(vO es l).2.length≤l.length+14:=by
 unfold vO;split
 ·simp
 ·simp only;split
  ·simp [NONE]
  ·have:=End.line_len ⟨50,putP es ‹_›⟩;omega
theorem lineIn_len (es:List End) (l:Bs):(lineIn es l).length≤l.length+14:=by
 unfold lineIn;split
 ·omega
 ·split
  ·omega
  ·have:=End.line_len ‹_›;omega
theorem linesOut_len6 {es:List End} (ls:List Bs) (h:es.length≤6):(linesOut es ls).1.length≤6:=by
 induction ls generalizing es with
 | nil=>exact h
 | cons l ls ih=>exact ih (lineOut_len6 l h)
theorem linesOut_take {es es1:List End} {ls:List Bs} {i:Nat} {x tx:Bs} (hx:ls[i]? = some x) (h:linesOut es (ls.take i)=(es1,tx)):linesOut es (ls.take (i+1))=((vO es1 x).1,tx++(vO es1 x).2++[59]):=by
 rw [vS hx,linesOut_snoc,h]
theorem mul_bd {i n:Nat} (h:i≤n) (hn:n≤1048576):i*(n+15)≤1099527356416:=by
 have:=Nat.mul_le_mul h (Nat.le_refl (n+15))
 have h2:=Nat.mul_le_mul hn (show n+15≤1048591 by omega)
 omega
theorem str_at {cs:List Value} {ls:List Bs} {i:Nat} {x:Bs} (h:cs.take ((strRows ls).length*1)=(strRows ls).flatten) (hx:ls[i]? = some x):cs[0+i*1]? = some (str x):=by
 rw [strRows_flat] at h
 have hi:=(List.getElem?_eq_some_iff.1 hx).1
 have h2:(cs.take ((strRows ls).length*1))[i]? = some (str x):=by rw [h];simp [hx]
 rw [List.getElem?_take_of_lt (by simpa using hi)] at h2
 simpa using h2
theorem spl_le (s:UInt8) (l:Bs):∀ x∈(spl s l).1,x.length≤l.length:=by
 induction l with
 | nil=>simp [spl]
 | cons c l ih=>
  simp only [spl]
  split
  ·intro x hx
   simp only [List.mem_cons] at hx
   rcases hx with rfl | hx
   ·simp
   ·have:=ih x hx;simp;omega
  ·split<;>rename_i h<;>rw [h] at ih
   ·simp
   ·intro x hx
    simp only [List.mem_cons] at hx
    rcases hx with rfl | hx
    ·have:=ih _ (List.mem_cons_self);simp only [List.length_cons];omega
    ·have:=ih x (by simp [hx]);simp only [List.length_cons];omega
theorem lines_le (l:Bs):∀ x∈(zu l).1,x.length≤l.length:=spl_le 59 l
theorem TabP_of {es:List End} (h1:es.length≤6) (h2:∀ e∈es,e.inn) (h3:es.Nodup):TabP es:=⟨h1,h2,h3⟩
theorem TabP_no1 {es:List End} {x:End} {i:Nat} (hx:es[i]? = some x) (h:¬ InE x.a x.p):¬ TabP es:=fun hp=>h (hp.2.1 x (List.mem_of_getElem? hx))
theorem TabP_no2 {es:List End} {x:End} {i:Nat} (hx:es[i]? = some x) (h:0≤findE (es.take i) x):¬ TabP es:=by
 intro hp
 have hm:x∈es.take i:=by
  apply Classical.byContradiction
  intro hn
  rw [findE_no hn] at h;omega
 have h2:=hp.2.2
 obtain ⟨hi,he⟩:=List.getElem?_eq_some_iff.1 hx
 rw [List.mem_take_iff_getElem] at hm
 obtain ⟨j,hj,hje⟩:=hm
 exact (List.pairwise_iff_getElem.1 h2) j i (by omega) hi (by omega) (by rw [hje,he])
theorem nodup_take_succ {es:List End} {x:End} {i:Nat} (hx:es[i]? = some x) (hn:(es.take i).Nodup) (h:¬ 0≤findE (es.take i) x):(es.take (i+1)).Nodup:=by
 have hm:x∉es.take i:=by
  intro hm
  exact h (by unfold findE;rw [if_pos hm];omega)
 rw [vS hx,List.nodup_append]
 refine ⟨hn,by simp,?_⟩
 intro a ha b hb e
 simp at hb;subst hb;subst e
 exact hm ha
theorem strRows_at {ls:List Bs} {i:Nat} {l:Bs} (h:ls[i]? = some l):(strRows ls)[i]? = some [str l]:=by simp [h]
variable {S:St} {E:Env} {K:Value→St→Prop}
theorem W_eqEv {x y:Operand} {a p c q:Int} (hx:E.ev x=some (.agg #[int a,int p])) (hy:E.ev y=some (.agg #[int c,int q])) (k:∀ t:Bool,(t=true↔a=c∧p=q)→K (.bool t) S):(SOp.eqv false 31 x y).W Tryz.prog E S K:=W_eqE hx hy (k _ decide_eq_true_iff)
end
section
variable {P:Program} {S:St} {E:Env} {K:Value→St→Prop}
def LEN8:Bs:=[0,1,2,2,3,3,3,3,4,4,4,4,4,4,4,4,5,5,5,5,5,5,5,5,5,5,5,5,5,5,5,5,6,6,6,6,6,6,6,6,6,6,6,6,6,6,6,6,6,6,6,6,6,6,6,6,6,6,6,6,6,6,6,6,7,7,7,7,7,7,7,7,7,7,7,7,7,7,7,7,7,7,7,7,7,7,7,7,7,7,7,7,7,7,7,7,7,7,7,7,7,7,7,7,7,7,7,7,7,7,7,7,7,7,7,7,7,7,7,7,7,7,7,7,7,7,7,7,8,8,8,8,8,8,8,8,8,8,8,8,8,8,8,8,8,8,8,8,8,8,8,8,8,8,8,8,8,8,8,8,8,8,8,8,8,8,8,8,8,8,8,8,8,8,8,8,8,8,8,8,8,8,8,8,8,8,8,8,8,8,8,8,8,8,8,8,8,8,8,8,8,8,8,8,8,8,8,8,8,8,8,8,8,8,8,8,8,8,8,8,8,8,8,8,8,8,8,8,8,8,8,8,8,8,8,8,8,8,8,8,8,8,8,8,8,8,8,8,8,8,8,8,8,8,8,8]
def SMALLS:Bs:=[48,48,48,49,48,50,48,51,48,52,48,53,48,54,48,55,48,56,48,57,49,48,49,49,49,50,49,51,49,52,49,53,49,54,49,55,49,56,49,57,50,48,50,49,50,50,50,51,50,52,50,53,50,54,50,55,50,56,50,57,51,48,51,49,51,50,51,51,51,52,51,53,51,54,51,55,51,56,51,57,52,48,52,49,52,50,52,51,52,52,52,53,52,54,52,55,52,56,52,57,53,48,53,49,53,50,53,51,53,52,53,53,53,54,53,55,53,56,53,57,54,48,54,49,54,50,54,51,54,52,54,53,54,54,54,55,54,56,54,57,55,48,55,49,55,50,55,51,55,52,55,53,55,54,55,55,55,56,55,57,56,48,56,49,56,50,56,51,56,52,56,53,56,54,56,55,56,56,56,57,57,48,57,49,57,50,57,51,57,52,57,53,57,54,57,55,57,56,57,57]
def DIG36:Bs:=[48,49,50,51,52,53,54,55,56,57,97,98,99,100,101,102,103,104,105,106,107,108,109,110,111,112,113,114,115,116,117,118,119,120,121,122]
theorem SMALLS_len:SMALLS.length=200:=by decide +kernel
theorem DIG36_len:DIG36.length=36:=by decide +kernel
theorem smalls_all:∀ k:Fin 100,SMALLS[2*k.val]? = some (dg (k.val / 10))∧SMALLS[2*k.val+1]? = some (dg (k.val % 10)):=by decide +kernel
theorem smalls0 {k:Nat} (h:k<100):SMALLS[2*k]? = some (dg (k / 10)):=(smalls_all ⟨k,h⟩).1
theorem smalls1 {k:Nat} (h:k<100):SMALLS[2*k+1]? = some (dg (k % 10)):=(smalls_all ⟨k,h⟩).2
theorem dig36_all:∀ k:Fin 10,DIG36[k.val]? = some (dg k.val):=by decide +kernel
theorem dig36 {k:Nat} (h:k<10):DIG36[k]? = some (dg k):=dig36_all ⟨k,h⟩
theorem len8_all:∀ k:Fin 256,∃ c:UInt8,LEN8[k.val]? = some c∧(100≤k.val→c=7∨c=8)∧(k.val=1→c=1)∧(k.val=2∨k.val=3→c=2):=by
 have h:∀ k:Fin 256,(100≤k.val→LEN8[k.val]? = some 7∨LEN8[k.val]? = some 8)∧(k.val=1→LEN8[k.val]? = some 1)∧(k.val=2∨k.val=3→LEN8[k.val]? = some 2):=by decide +kernel
 intro k
 obtain ⟨h1,h2,h3⟩:=h k
 have hl:LEN8.length=256:=by decide +kernel
 have hk:k.val<LEN8.length:=by rw [hl];exact k.isLt
 refine ⟨LEN8[k.val],List.getElem?_eq_getElem hk,?_⟩
 rw [List.getElem?_eq_getElem hk] at h1 h2 h3
 simp only [Option.some.injEq] at h1 h2 h3
 exact ⟨h1,h2,h3⟩
theorem dig2 {n:Nat} (h0:10≤n) (h:n<100):dig n=[dg (n / 10),dg (n % 10)]:=by rw [dig_ge (by omega),dig_lt (by omega)];rfl
theorem dig3 {n:Nat} (h0:100≤n) (h:n<1000):dig n=[dg (n / 100),dg (n % 100 / 10),dg (n % 100 % 10)]:=by
 rw [dig_ge (by omega),dig2 (by omega) (by omega)]
 simp only [List.cons_append,List.nil_append,List.cons.injEq,and_true]
 refine ⟨?_,?_,?_⟩<;>congr 1<;>omega
theorem smalls2 {n:Nat} (h0:10≤n) (h:n<100):(SMALLS.drop (2*n)).take 2=dig n:=by
 rw [dig2 h0 h]
 have h1:=smalls0 h
 have h2:=smalls1 h
 obtain ⟨i1,e1⟩:=List.getElem?_eq_some_iff.1 h1
 obtain ⟨i2,e2⟩:=List.getElem?_eq_some_iff.1 h2
 rw [List.drop_eq_getElem_cons i1,List.drop_eq_getElem_cons i2,e1,e2]
 rfl
theorem dig36_1 {n:Nat} (h:n<10):(DIG36.drop n).take 1=dig n:=by
 rw [dig_lt h]
 obtain ⟨i1,e1⟩:=List.getElem?_eq_some_iff.1 (dig36 h)
 rw [List.drop_eq_getElem_cons i1,e1];rfl
theorem wrapu32_in {n:Int} (h0:0≤n) (h1:n≤4294967295):IntKind.u32.wrap n=n:=by
 simp only [IntKind.wrap,IntKind.signed,IntKind.bits,Bool.false_and]
 simp only [Bool.false_eq_true,if_false]
 omega
theorem wrapu64_in {n:Int} (h0:0≤n) (h1:n≤18446744073709551615):IntKind.u64.wrap n=n:=by
 simp only [IntKind.wrap,IntKind.signed,IntKind.bits,Bool.false_and]
 simp only [Bool.false_eq_true,if_false]
 omega
theorem W_remU {kd:IntKind} {x y:Operand} {n m:Nat} (hx:E.ev x=some (.int kd n)) (hy:E.ev y=some (.int kd m)) (hm:m≠0) (k:K (.int kd (n % m:Nat)) S):(SOp.bin .rem x y).W P E S K:=
 W_bin hx hy (by simp only [binI];rw [if_neg (by omega)];rfl) k
theorem W_quoU {kd:IntKind} {x y:Operand} {n m:Nat} (hx:E.ev x=some (.int kd n)) (hy:E.ev y=some (.int kd m)) (hm:m≠0) (hw:kd.wrap ((n / m:Nat):Int)=(n / m:Nat)) (k:K (.int kd (n / m:Nat)) S):(SOp.bin .quo x y).W P E S K:=by
 refine W_bin (v:=.int kd (n / m:Nat)) hx hy ?_ k
 simp only [binI]
 rw [if_neg (by omega)]
 have e:(n:Int).tdiv (m:Int)=((n / m:Nat):Int):=rfl
 rw [e,hw]
theorem W_mulU {kd:IntKind} {x y:Operand} {n m:Nat} (hx:E.ev x=some (.int kd n)) (hy:E.ev y=some (.int kd m)) (hw:kd.wrap ((n*m:Nat):Int)=(n*m:Nat)) (k:K (.int kd (n*m:Nat)) S):(SOp.bin .mul x y).W P E S K:=by
 refine W_bin (v:=.int kd (n*m:Nat)) hx hy ?_ k
 simp only [binI]
 rw [← hw];rfl
theorem W_addU {kd:IntKind} {x y:Operand} {n m:Nat} (hx:E.ev x=some (.int kd n)) (hy:E.ev y=some (.int kd m)) (hw:kd.wrap ((n+m:Nat):Int)=(n+m:Nat)) (k:K (.int kd (n+m:Nat)) S):(SOp.bin .add x y).W P E S K:=by
 refine W_bin (v:=.int kd (n+m:Nat)) hx hy ?_ k
 simp only [binI]
 rw [← hw];rfl
theorem fdiv_nat (n m:Nat):(n:Int).fdiv (m:Int)=((n / m:Nat):Int):=by
 rw [Int.fdiv_eq_ediv_of_nonneg _ (by omega)];rfl
theorem W_shrU {t yt ty:TypeId} {x y:Operand} {kd k2:IntKind} {n j m:Nat} (hx:E.ev x=some (.int kd n)) (hy:E.ev y=some (.int k2 j)) (h1:j≤kd.bits) (hm:2 ^ j=m) (hk:K (.int kd (n / m:Nat)) S):(SOp.raw (.binOp .shr t x y yt) ty).W P E S K:=by
 refine W_shr hx hy (by omega) (by omega) ?_
 have e:((2:Int) ^ ((j:Int).toNat))=((m:Nat):Int):=by rw [← hm];simp
 rw [e,fdiv_nat];exact hk
structure Glob (S:St):Prop where
 p2:S.cell? ⟨4,2,none⟩=some (.int .u64 100)
 p3:S.cell? ⟨4,3,none⟩=some (.int .u64 1000)
 e1:∃ t a,S.cell? ⟨1,0,none⟩=some (.iface t a)
 e2:∃ t a,S.cell? ⟨2,0,none⟩=some (.iface t a)
theorem Glob.mono {S S':St} (h:Glob S) (he:Ext [] S S'):Glob S':=
 ⟨he.cell h.p2,he.cell h.p3,let ⟨t,a,h1⟩:=h.e1;⟨t,a,he.cell h1⟩,let ⟨t,a,h1⟩:=h.e2;⟨t,a,he.cell h1⟩⟩
end
section
open Go
theorem u8sub (c:UInt8):∃ w:Nat,IntKind.u8.wrap ((c.toNat:Int)-48)=w∧(48≤c.toNat→w=c.toNat-48)∧(c.toNat<48→208≤w):=by
 have hc:c.toNat<256:=c.toNat_lt
 simp only [IntKind.wrap,IntKind.signed,IntKind.bits,Bool.false_and,Bool.false_eq_true,if_false]
 by_cases h:48≤c.toNat
 ·exact ⟨c.toNat-48,by omega,by omega,by omega⟩
 ·exact ⟨c.toNat+208,by omega,by omega,by omega⟩
theorem W_errNil {P:Program} {E:Env} {S:St} {K:Value→St→Prop} {neg t0:Bool} {t:TypeId} {ms:Array (String × TypeId)} {x:Operand} {tx:TypeId} {vx:Value} (ht:P.underlying t=some (.interface ms)) (hx:E.ev x=some (bif t0 then .iface tx vx else .nilIface)) (hk:K (.bool (t0==neg)) S):(SOp.eqv neg t x (.const .nilIface)).W P E S K:=by
 cases t0 with
 | false=>exact W_eqnn ht rfl hx (by cases neg<;>exact hk)
 | true=>exact W_eqnil ht hx rfl (by cases neg<;>exact hk)
theorem Glob.nin1 {S:St} (h:Glob S) {b:Nat} (hb:S b=none):1∉[b]:=by
 obtain ⟨t,a,he⟩:=h.e1
 intro hm
 obtain rfl:1=b:=by simpa using hm
 simp [St.cell?,hb] at he
structure AtoiP (l:Bs) (t:Bool) (v:Int):Prop where
 lo:-1000000000000000000≤v
 hi:v≤1000000000000000000
 d:∀ n,l=dig n→t=false∧v=n
 e:l=[]→t=true
theorem AtoiP.nil:AtoiP [] true 0:=⟨by omega,by omega,fun n h=>by have:=dig_pos n;rw [← h] at this;simp at this,fun _=>rfl⟩
theorem AtoiP.bad {l:Bs} {c:UInt8} (hc:c∈l) (h:¬ (48≤c.toNat∧c.toNat≤57)):AtoiP l true 0:=⟨by omega,by omega,fun n e=>by subst e;exact absurd (dig_mem hc) h,fun e=>rfl⟩
theorem dig_head {n:Nat} {c:UInt8} {l:Bs} (h:c::l=dig n):48≤c.toNat∧c.toNat≤57:=dig_mem (n:=n) (h ▸ List.mem_cons_self)
theorem AtoiP.good {l:Bs} {n:Nat} (h0:l≠[]) (hn:n≤1000000000000000000) (hv:n=vD l):AtoiP l false n:=
 ⟨by omega,by omega,fun m e=>⟨rfl,by rw [hv,e,vD_dig]⟩,fun e=>absurd e h0⟩
theorem AtoiP.sign {l r:Bs} {s:UInt8} {v:Int} (h:l=s::r) (hs:s=43∨s=45) (h1:-1000000000000000000≤v) (h2:v≤1000000000000000000) (t:Bool):AtoiP l t v:=
 ⟨h1,h2,fun n e=>by have:=dig_head (h ▸ e);rcases hs with rfl | rfl<;>simp at this,fun e=>by rw [h] at e;cases e⟩
theorem AtoiP.head {l:Bs} {c:UInt8} {v:Int} (h:l[0]? = some c) (hs:¬ (48≤c.toNat∧c.toNat≤57)) (h1:-1000000000000000000≤v) (h2:v≤1000000000000000000) (t:Bool):AtoiP l t v:=
 ⟨h1,h2,fun n e=>by subst e;exact absurd (dig_mem (List.mem_of_getElem? h)) hs,fun e=>by rw [e] at h;cases h⟩
theorem sgn_drop {l:Bs} {c:UInt8} (h:l[0]? = some c) (hn:¬ (((l.drop (1:Int).toNat).length:Int)<1)) (hs:(c.toNat:Int)=45∨(c.toNat:Int)=43) :
    (l=l.drop (1:Int).toNat∧l.drop (1:Int).toNat≠[])∨((∃ s,l=s::l.drop (1:Int).toNat∧(s=43∨s=45))∧l.drop (1:Int).toNat≠[]):=by
  match l,h with
  | c'::r,h=>
    have e:c'=c:=by simpa using h
    subst e
    refine .inr ⟨⟨c',rfl,?_⟩,by intro e;rw [e] at hn;simp at hn⟩
    rcases hs with hs | hs
    · exact .inr (UInt8.toNat_inj.1 (by have:(45:UInt8).toNat=45:=rfl;omega))
    · exact .inl (UInt8.toNat_inj.1 (by have:(43:UInt8).toNat=43:=rfl;omega))
theorem pow18 {i:Nat} (h:i<18):10 ^ i≤100000000000000000:=Nat.le_trans (Nat.pow_le_pow_right (by omega) (show i≤17 by omega)) (by decide)
theorem pow18' {i:Nat} (h:i≤18):10 ^ i≤1000000000000000000:=Nat.le_trans (Nat.pow_le_pow_right (by omega) h) (by decide)
theorem rd_cut {l:Bs} {e:End} (h:rd l=some e):bef l 32=dig e.a.toNat∧aft l 32=dig e.p.toNat∧e.ok∧l=e.txt:=by
 have h1:=rd_spec h
 have hl:l=dig e.a.toNat++32::dig e.p.toNat:=by have:=words_two h1.words;simpa using this
 have hi:l.idxOf 32=(dig e.a.toNat).length:=by
  rw [hl,List.idxOf_append,if_neg (dig_no32 _)];simp
 refine ⟨?_,?_,h1.1,h1.2⟩
 ·unfold bef;rw [hi,hl,List.take_left]
 ·unfold aft;rw [hi,hl,← List.drop_drop,List.drop_left];rfl
def End.text (e:End):Bs:=if e.ok then e.txt else []
theorem rd_yes {l:Bs} {t1 t2:Bool} {v1 v2:Int} (h1:AtoiP (bef l 32) t1 v1) (e1:t1=false) (h:(⟨v1,v2⟩:End).text=l):rd l=some ⟨v1,v2⟩:=by
 unfold End.text at h
 split at h
 ·rename_i hok;rw [← h];exact rd_txt hok
 ·subst h;rw [h1.e rfl] at e1;cases e1
theorem rd_fail {l:Bs} {t1 t2:Bool} {v1 v2:Int} (h1:AtoiP (bef l 32) t1 v1) (h2:AtoiP (aft l 32) t2 v2) (h:t1=true∨t2=true∨(⟨v1,v2⟩:End).text≠l):rd l=none:=by
 rcases hr:rd l with _ | e
 ·rfl
 ·exfalso
  obtain ⟨a1,a2,a3,a4⟩:=rd_cut hr
  obtain ⟨b1,b2⟩:=h1.d _ a1
  obtain ⟨c1,c2⟩:=h2.d _ a2
  have hok:=a3
  unfold End.ok OkE at hok
  have he:(⟨v1,v2⟩:End)=e:=by
   cases e;simp only at *;rw [b2,c2];congr 1<;>omega
  rcases h with h | h | h
  ·rw [b1] at h;cases h
  ·rw [c1] at h;cases h
  ·apply h;rw [he];unfold End.text;rw [if_pos a3,a4]
end
section
structure Span where
 f:Int
 t:Int
 oa:Int
 ot:Int
 pl:Bool
@[reducible] def Span.row (s:Span):List Value:=[int s.f,int s.t,int s.oa,int s.ot,.bool s.pl]
@[reducible] def spanRows (l:List Span):List (List Value):=l.map Span.row
@[reducible] def segRows (l:List Seg):List (List Value):=l.map Seg.row
@[reducible] def vo (l:List Rule):List (List Value):=l.map Rule.row
@[reducible] def z_ (l:List Conn):List (List Value):=l.map Conn.row
theorem spanRows_five {l:List Span}:∀ r∈spanRows l,r.length=5:=by
 intro r hr;obtain ⟨x,_,rfl⟩:=List.mem_map.1 hr;rfl
theorem segRows_seven {l:List Seg}:∀ r∈segRows l,r.length=7:=by
 intro r hr;obtain ⟨x,_,rfl⟩:=List.mem_map.1 hr;rfl
theorem vt {l:List Rule}:∀ r∈vo l,r.length=7:=by
 intro r hr;obtain ⟨x,_,rfl⟩:=List.mem_map.1 hr;rfl
theorem zP {l:List Conn}:∀ r∈z_ l,r.length=7:=by
 intro r hr;obtain ⟨x,_,rfl⟩:=List.mem_map.1 hr;rfl
theorem spanRows_at {l:List Span} {i:Nat} {x:Span} (h:l[i]? = some x):(spanRows l)[i]? = some x.row:=by simp [h]
theorem segRows_at {l:List Seg} {i:Nat} {x:Seg} (h:l[i]? = some x):(segRows l)[i]? = some x.row:=by simp [h]
theorem ruleRows_at {l:List Rule} {i:Nat} {x:Rule} (h:l[i]? = some x):(vo l)[i]? = some x.row:=by simp [h]
theorem vz {l:List Conn} {i:Nat} {x:Conn} (h:l[i]? = some x):(z_ l)[i]? = some x.row:=by simp [h]
theorem ruleRows_one {l:List Rule}:∀ u∈(vo l).flatten,vV u=true:=by
 intro u hu
 simp only [List.mem_flatten,List.mem_map] at hu
 obtain ⟨r,⟨e,_,rfl⟩,hu⟩:=hu
 simp at hu;rcases hu with rfl | rfl | rfl | rfl | rfl | rfl | rfl<;>rfl
theorem connRows_one {l:List Conn}:∀ u∈(z_ l).flatten,vV u=true:=by
 intro u hu
 simp only [List.mem_flatten,List.mem_map] at hu
 obtain ⟨r,⟨e,_,rfl⟩,hu⟩:=hu
 simp at hu;rcases hu with rfl | rfl | rfl | rfl | rfl | rfl | rfl<;>rfl
theorem ruleRows_flat (l:List Rule):(vo l).flatten.length=l.length*7:=by rw [flat_len vt];simp
theorem connRows_flat (l:List Conn):(z_ l).flatten.length=l.length*7:=by rw [flat_len zP];simp
def lsum (ls:List Bs):Nat:=(ls.map fun x=>x.length+1).sum
theorem lsum_snoc (ls:List Bs) (x:Bs):lsum (ls++[x])=lsum ls+x.length+1:=by simp [lsum];omega
theorem lsum_take {ls:List Bs} {i:Nat} {x:Bs} (h:ls[i]? = some x):lsum (ls.take (i+1))=lsum (ls.take i)+x.length+1:=by rw [vS h,lsum_snoc]
theorem lsum_take_le (ls:List Bs) (i:Nat):lsum (ls.take i)≤lsum ls:=by
 induction ls generalizing i with
 | nil=>simp
 | cons x ls ih=>
  cases i with
  | zero=>simp [lsum]
  | succ i=>
   have:=ih i
   simp only [lsum,List.take_succ_cons,List.map_cons,List.sum_cons] at this ⊢
   omega
theorem lsum_lines (s:UInt8) (l:Bs):lsum (spl s l).1+(spl s l).2.length=l.length:=by
 induction l with
 | nil=>rfl
 | cons c l ih=>
  simp only [spl]
  split
  ·simp only [lsum,List.map_cons,List.sum_cons,List.length_nil,List.length_cons] at ih ⊢;omega
  ·split<;>rename_i h<;>rw [h] at ih<;>simp only [lsum,List.map_cons,List.sum_cons,List.length_cons,List.map_nil,List.sum_nil] at ih ⊢ <;> omega
theorem len_lsum (ls:List Bs):ls.length≤lsum ls:=by
 induction ls with
 | nil=>simp
 | cons x ls ih=>simp only [lsum,List.map_cons,List.sum_cons,List.length_cons] at ih ⊢;omega
def pairsF (a b:Nat):List Bs→List Bs→List Span
 | l::ls,m::ms=>⟨a,a+l.length+1,b,b+m.length+1,decide (m=l)⟩::pairsF (a+l.length+1) (b+m.length+1) ls ms
 | _,_=>[]
def pairs (ls ms:List Bs):List Span:=pairsF 0 0 ls ms
theorem pairsF_snoc (a b:Nat) (ls ms:List Bs) (l m:Bs) (h:ls.length=ms.length):pairsF a b (ls++[l]) (ms++[m])=pairsF a b ls ms++[⟨(a+lsum ls:Nat),(a+lsum ls:Nat)+l.length+1,(b+lsum ms:Nat),(b+lsum ms:Nat)+m.length+1,decide (m=l)⟩]:=by
 induction ls generalizing a b ms with
 | nil=>
  cases ms with
  | nil=>simp [pairsF,lsum]
  | cons=>simp at h
 | cons x ls ih=>
  cases ms with
  | nil=>simp at h
  | cons y ms=>
   simp only [List.cons_append,pairsF]
   rw [ih _ _ _ (by simpa using h)]
   simp only [lsum,List.map_cons,List.sum_cons,List.cons_append]
   congr 3
   simp only [Span.mk.injEq,and_true]
   omega
theorem pairs_take {ls ms:List Bs} {i:Nat} {l m:Bs} (hl:ls[i]? = some l) (hm:ms[i]? = some m):pairs (ls.take (i+1)) (ms.take (i+1))=pairs (ls.take i) (ms.take i)++[⟨(lsum (ls.take i):Nat),(lsum (ls.take i):Nat)+l.length+1,(lsum (ms.take i):Nat),(lsum (ms.take i):Nat)+m.length+1,decide (m=l)⟩]:=by
 have h1:=(List.getElem?_eq_some_iff.1 hl).1
 have h2:=(List.getElem?_eq_some_iff.1 hm).1
 rw [vS hl,vS hm]
 unfold pairs
 rw [pairsF_snoc _ _ _ _ _ _ (by simp;omega)]
 simp
theorem pairsF_take (a b:Nat) (ls ms:List Bs) (n:Nat) (h:n=min ls.length ms.length):pairsF a b (ls.take n) (ms.take n)=pairsF a b ls ms:=by
 subst h
 induction ls generalizing a b ms with
 | nil=>simp [pairsF]
 | cons x ls ih=>
  cases ms with
  | nil=>simp [pairsF]
  | cons y ms=>
   simp only [List.length_cons,Nat.succ_min_succ,List.take_succ_cons,pairsF]
   rw [ih]
theorem pairs_min {ls ms:List Bs} {n:Nat} (h:n=min ls.length ms.length):pairs (ls.take n) (ms.take n)=pairs ls ms:=pairsF_take 0 0 ls ms n h
theorem pairsF_len (a b:Nat) (ls ms:List Bs):(pairsF a b ls ms).length=min ls.length ms.length:=by
 induction ls generalizing a b ms with
 | nil=>simp [pairsF]
 | cons x ls ih=>
  cases ms with
  | nil=>simp [pairsF]
  | cons y ms=>simp only [pairsF,List.length_cons,ih,Nat.succ_min_succ]
noncomputable def spansO (s far:Bs):List Span:=pairs (zu s).1 (zu far).1
def outD (n:Int):List Span→Int→Int
 | [],_=>n
 | s::r,a=>if a<s.t then s.oa else outD s.ot r a
def backD (n:Int):List Span→Int→Int
 | [],_=>n
 | s::r,a=>if s.ot≤a then backD s.t r a else if s.pl=true∧s.oa<a then s.f+a-s.oa else s.f
theorem outD_drop {sp:List Span} {i:Nat} {x:Span} {n a:Int} (h:sp[i]? = some x) (ha:¬ a<x.t):outD n (sp.drop i) a=outD x.ot (sp.drop (i+1)) a:=by
 obtain ⟨hi,he⟩:=List.getElem?_eq_some_iff.1 h
 rw [List.drop_eq_getElem_cons hi,he,outD,if_neg ha]
theorem outD_hit {sp:List Span} {i:Nat} {x:Span} {n a:Int} (h:sp[i]? = some x) (ha:a<x.t):outD n (sp.drop i) a=x.oa:=by
 obtain ⟨hi,he⟩:=List.getElem?_eq_some_iff.1 h
 rw [List.drop_eq_getElem_cons hi,he,outD,if_pos ha]
theorem outD_end {sp:List Span} {i:Nat} {n a:Int} (h:sp.length≤i):outD n (sp.drop i) a=n:=by rw [List.drop_eq_nil_of_le h];rfl
theorem backD_drop {sp:List Span} {i:Nat} {x:Span} {n a:Int} (h:sp[i]? = some x) (ha:x.ot≤a):backD n (sp.drop i) a=backD x.t (sp.drop (i+1)) a:=by
 obtain ⟨hi,he⟩:=List.getElem?_eq_some_iff.1 h
 rw [List.drop_eq_getElem_cons hi,he,backD,if_pos ha]
theorem backD_hit {sp:List Span} {i:Nat} {x:Span} {n a:Int} (h:sp[i]? = some x) (ha:¬ x.ot≤a):backD n (sp.drop i) a=if x.pl=true∧x.oa<a then x.f+a-x.oa else x.f:=by
 obtain ⟨hi,he⟩:=List.getElem?_eq_some_iff.1 h
 rw [List.drop_eq_getElem_cons hi,he,backD,if_neg ha]
theorem backD_end {sp:List Span} {i:Nat} {n a:Int} (h:sp.length≤i):backD n (sp.drop i) a=n:=by rw [List.drop_eq_nil_of_le h];rfl
def SegB (c:UInt8):Prop:=LineB c∨c=59
def SegP (s:Seg):Prop:=s.s.ok∧s.d.ok∧(0≤s.sq∧s.sq≤240)∧(0≤s.ak∧s.ak≤240)∧s.dt.length≤12∧∀ c∈s.dt,SegB c
def grown (k:Bs) (s:Seg):Bs:=if s.sq<0∨(k.length:Int)<s.sq∨s.sq+s.dt.length≤k.length then k else k++s.dt.drop ((k.length:Int)-s.sq).toNat
def cutS (s:Seg) (far:Bs) (a:Nat):List Seg:=if a<far.length then {s with sq:=a,dt:=(far.drop a).take 12}::cutS s far (a+12) else []
termination_by far.length-a
def cutO (s:Seg) (far:Bs) (a:Nat):List Seg:=if a<far.length then cutS s far a else [{s with sq:=far.length,dt:=[]}]
theorem cutS_step {s:Seg} {far:Bs} {a:Nat} (h:a<far.length):cutS s far a={s with sq:=a,dt:=(far.drop a).take 12}::cutS s far (a+12):=by rw [cutS,if_pos h]
theorem cutS_end {s:Seg} {far:Bs} {a:Nat} (h:¬ a<far.length):cutS s far a=[]:=by rw [cutS,if_neg h]
def RuleP (r:Rule):Prop:=1≤r.i∧r.i≤r.j∧r.j≤9∧100≤r.o∧r.o≤r.q∧r.q≤109∧1≤r.p∧r.p≤r.r∧r.r≤999
def RulesP (rs:List Rule):Prop:=rs.length≤5∧∀ r∈rs,RuleP r
def FitsP (r:Rule) (e f:End):Prop:=(r.i≤e.a∧e.a≤r.j)∧(r.o≤f.a∧f.a≤r.q)∧(r.p≤f.p∧f.p≤r.r)
instance (r:Rule) (e f:End):Decidable (FitsP r e f):=by unfold FitsP;exact inferInstance
def mayR:List Rule→End→End→Bool
 | [],_,_=>true
 | r::rs,e,f=>if FitsP r e f then r.al else mayR rs e f
theorem mayR_drop {rs:List Rule} {i:Nat} {x:Rule} {e f:End} (h:rs[i]? = some x) (ha:¬ FitsP x e f):mayR (rs.drop i) e f=mayR (rs.drop (i+1)) e f:=by
 obtain ⟨hi,he⟩:=List.getElem?_eq_some_iff.1 h
 rw [List.drop_eq_getElem_cons hi,he,mayR,if_neg ha]
theorem mayR_hit {rs:List Rule} {i:Nat} {x:Rule} {e f:End} (h:rs[i]? = some x) (ha:FitsP x e f):mayR (rs.drop i) e f=x.al:=by
 obtain ⟨hi,he⟩:=List.getElem?_eq_some_iff.1 h
 rw [List.drop_eq_getElem_cons hi,he,mayR,if_pos ha]
theorem mayR_end {rs:List Rule} {i:Nat} {e f:End} (h:rs.length≤i):mayR (rs.drop i) e f=true:=by rw [List.drop_eq_nil_of_le h];rfl
end
section
structure Box where
 rs:List Rule
 es:List End
 cs:List Conn
def Box.nil:Box:=⟨[],[],[]⟩
def nearP (es:List End) (he ne:Bs):Prop:=(zu he).1.length=(zu ne).1.length∧(zu ne).2=[]∧ne.length≤240 ∧
 ∀ (i:Nat) (l m:Bs),(zu he).1[i]? = some l→(zu ne).1[i]? = some m→m=l∨m=lineIn es l
def knowsP (es:List End) (kn:Bs):Prop:=(vI es kn).1.length=es.length
def vA:List Conn→End→End→Int
 | [],_,_=>-1
 | c::cs,e,f=>if c.i=e∧c.o=f then 0 else if vA cs e f<0 then -1 else vA cs e f+1
theorem findC_bd (cs:List Conn) (e f:End):-1≤vA cs e f∧vA cs e f<cs.length:=by
 induction cs with
 | nil=>simp [vA]
 | cons c cs ih=>
  simp only [vA,List.length_cons]
  split
  ·omega
  ·split<;>omega
theorem findC_drop {cs:List Conn} {i:Nat} {x:Conn} {e f:End} (h:cs[i]? = some x) (ha:¬ (x.i=e∧x.o=f)):vA (cs.drop i) e f=if vA (cs.drop (i+1)) e f<0 then -1 else vA (cs.drop (i+1)) e f+1:=by
 obtain ⟨hi,he⟩:=List.getElem?_eq_some_iff.1 h
 rw [List.drop_eq_getElem_cons hi,he,vA,if_neg ha]
theorem findC_hit {cs:List Conn} {i:Nat} {x:Conn} {e f:End} (h:cs[i]? = some x) (ha:x.i=e∧x.o=f):vA (cs.drop i) e f=0:=by
 obtain ⟨hi,he⟩:=List.getElem?_eq_some_iff.1 h
 rw [List.drop_eq_getElem_cons hi,he,vA,if_pos ha]
theorem findC_end {cs:List Conn} {i:Nat} {e f:End} (h:cs.length≤i):vA (cs.drop i) e f=-1:=by rw [List.drop_eq_nil_of_le h];rfl
def FoundAt (cs:List Conn) (i:Nat) (e f:End):Prop:=vA cs e f=if vA (cs.drop i) e f<0 then -1 else vA (cs.drop i) e f+i
theorem FoundAt.zero (cs:List Conn) (e f:End):FoundAt cs 0 e f:=by
 unfold FoundAt
 have:=findC_bd cs e f
 simp only [List.drop_zero]
 split<;>omega
theorem FoundAt.succ {cs:List Conn} {i:Nat} {x:Conn} {e f:End} (h:FoundAt cs i e f) (hx:cs[i]? = some x) (ha:¬ (x.i=e∧x.o=f)):FoundAt cs (i+1) e f:=by
 unfold FoundAt at h ⊢
 rw [h,findC_drop hx ha]
 have:=findC_bd (cs.drop (i+1)) e f
 split<;>split<;>omega
theorem FoundAt.hit {cs:List Conn} {i:Nat} {x:Conn} {e f:End} (h:FoundAt cs i e f) (hx:cs[i]? = some x) (ha:x.i=e∧x.o=f):vA cs e f=i:=by
 unfold FoundAt at h
 rw [h,findC_hit hx ha]
 simp
theorem FoundAt.no {cs:List Conn} {i:Nat} {e f:End} (h:FoundAt cs i e f) (hi:cs.length≤i):vA cs e f=-1:=by
 unfold FoundAt at h
 rw [h,findC_end hi]
 simp
def ConnP (es:List End) (c:Conn):Prop:=c.i.inn∧c.o.out∧c.o.p=21∧c.i∈es∧StrP c.kn∧StrP c.he∧knowsP es c.kn∧nearP es c.he c.ne
def BoxP (b:Box):Prop:=TabP b.es∧RulesP b.rs∧b.cs.length≤3∧∀ (k:Nat) (c:Conn),b.cs[k]? = some c→ConnP b.es c∧vA (b.cs.take k) c.i c.o<0
def BoxZ (b:Box):Prop:=b.rs.length≤1048576∧b.es.length≤1048576∧b.cs.length≤1048576∧∀ c∈b.cs,c.kn.length≤1048576∧c.he.length≤1048576∧c.ne.length≤1048576
theorem Sl.takeC {S:St} {a:Option Addr} {cs:List Conn} (h:Sl S 7 a (z_ cs)) (i:Nat):Sl S 7 a (z_ (cs.take i)):=by
 have:=h.take i
 simpa [z_,List.map_take] using this
theorem Loc.nkey {X:List Nat} {S0 S:St} {L:List (Nat × Obj)} (H:Loc X S0 S L) {b:Nat} (hb:S b=none):b∉L.map (·.1):=by
 intro hc
 obtain ⟨⟨x,u⟩,hx,rfl⟩:=List.mem_map.1 hc
 have:=H.own x u hx
 simp only at hb
 rw [hb] at this;cases this
theorem Loc.add {X:List Nat} {S0 S:St} {L:List (Nat × Obj)} (H:Loc X S0 S L) {b:Nat} {o:Obj} (ho:S b=some ⟨o,true⟩) (hf:S0 b=none) (hk:b∉L.map (·.1)):Loc X S0 S ((b,o)::L) where
 g:=H.g
 ext:=H.ext
 own x u hx:=by
  rcases List.mem_cons.1 hx with e | hx
  ·cases e;exact ho
  ·exact H.own x u hx
 fresh x u hx:=by
  rcases List.mem_cons.1 hx with e | hx
  ·obtain ⟨rfl,rfl⟩:=Prod.mk.inj e;exact .inl hf
  ·exact H.fresh x u hx
 nodup:=by simp only [List.map_cons,List.nodup_cons];exact ⟨hk,H.nodup⟩
theorem Loc.add3 {X:List Nat} {S0 S S':St} {L:List (Nat × Obj)} (H:Loc X S0 S L) (he:Ext [] S S') {n1 n2 n3:Nat} {o1 o2 o3:Obj} (h1:S n1=none) (h2:S n2=none) (h3:S n3=none) (q1:S' n1=some ⟨o1,true⟩) (q2:S' n2=some ⟨o2,true⟩) (q3:S' n3=some ⟨o3,true⟩) (d12:n1≠n2) (d13:n1≠n3) (d23:n2≠n3)
    (f1:S0 n1=none) (f2:S0 n2=none) (f3:S0 n3=none):Loc X S0 S' ((n1,o1)::(n2,o2)::(n3,o3)::L):=by
  have k1:=H.nkey h1
  have k2:=H.nkey h2
  have k3:=H.nkey h3
  refine Loc.add (Loc.add (Loc.add (H.call he) q3 f3 k3) q2 f2 ?_) q1 f1 ?_
  · simp only [List.map_cons,List.mem_cons,not_or];exact ⟨d23,k2⟩
  · simp only [List.map_cons,List.mem_cons,not_or];exact ⟨d12,d13,k1⟩
noncomputable def linesIn (es:List End) (ls:List Bs):Bs:=(ls.map fun l=>lineIn es l++[59]).flatten
theorem linesIn_snoc (es:List End) (ls:List Bs) (l:Bs):linesIn es (ls++[l])=linesIn es ls++lineIn es l++[59]:=by simp [linesIn]
theorem linesIn_len (es:List End) (ls:List Bs):(linesIn es ls).length≤lsum ls+14*ls.length:=by
 induction ls with
 | nil=>simp [linesIn]
 | cons l ls ih=>
  have:=lineIn_len es l
  simp only [linesIn,lsum,List.map_cons,List.flatten_cons,List.sum_cons,List.length_append,List.length_cons,List.length_nil] at ih ⊢
  omega
def placeC (cs:List Conn) (e f:End):List Conn × Int:=if 0≤vA cs e f then (cs,vA cs e f) else if cs.length=3 then (cs,-1) else (cs++[⟨e,f,[],[],[]⟩],cs.length)
theorem placeC_old {cs:List Conn} {e f:End} (h:0≤vA cs e f):placeC cs e f=(cs,vA cs e f):=if_pos h
theorem placeC_full {cs:List Conn} {e f:End} (h:¬ 0≤vA cs e f) (hl:cs.length=3):placeC cs e f=(cs,-1):=by unfold placeC;rw [if_neg h,if_pos hl]
theorem placeC_new {cs:List Conn} {e f:End} (h:¬ 0≤vA cs e f) (hl:¬ cs.length=3):placeC cs e f=(cs++[⟨e,f,[],[],[]⟩],(cs.length:Int)):=by unfold placeC;rw [if_neg h,if_neg hl]
open Classical in
noncomputable def vR (c:Conn) (s:Seg):Conn:=if StrP (grown c.kn s) then {c with kn:=grown c.kn s} else c
noncomputable def ctlO (b:Box) (s:Seg) (port:Int):Box × List Seg:=
 let pl:=placeC b.cs s.s s.d
 if pl.2<0 then ({b with cs:=pl.1},[]) else match pl.1[pl.2.toNat]? with
  | none=>({b with cs:=pl.1},[])
  | some c0=>
   let c:=vR c0 s
   let st:=vI b.es c.kn
   (⟨b.rs,st.1,pl.1.set pl.2.toNat c⟩,cutO {s with s:=⟨50,port⟩,ak:=backD 0 (spansO c.he c.ne) s.ak} st.2 (outD 0 (spansO c.kn st.2) s.sq).toNat)
theorem Loc.callR {X:List Nat} {S0 S S':St} {L L':List (Nat × Obj)} (H:Loc X S0 S L) {n m:Nat} {o o':Obj} (hr:Rem L n o L') (he:Ext [n] S S') (hm:m=n∨S m=none) (ho:S' m=some ⟨o',true⟩):Loc X S0 S' ((m,o')::L'):=by
 have hn:=hr.nin H.nodup
 have hfr:=H.fresh n o hr.mem
 have hst:∀ x u,(x,u)∈L'→S' x=some ⟨u,true⟩:=by
  intro x u hx
  refine he.ext x _ ?_ (H.own x u (hr.sub.subset hx))
  simp only [List.mem_singleton]
  rintro rfl
  exact hn (List.mem_map_of_mem hx)
 have hmk:m∉L'.map (·.1):=by
  rcases hm with rfl | hm
  ·exact hn
  ·intro hc
   obtain ⟨⟨x,u⟩,hx,rfl⟩:=List.mem_map.1 hc
   have:=H.own x u (hr.sub.subset hx)
   simp only at hm
   rw [hm] at this;cases this
 refine ⟨he.g.trans H.g,fun b e hb hs=>?_,fun x u hx=>?_,fun x u hx=>?_,?_⟩
 ·refine he.ext b e ?_ (H.ext b e hb hs)
  simp only [List.mem_singleton]
  rintro rfl
  rcases hfr with h | h
  ·rw [h] at hs;cases hs
  ·exact hb h
 ·rcases List.mem_cons.1 hx with e | hx
  ·cases e;exact ho
  ·exact hst x u hx
 ·rcases List.mem_cons.1 hx with e | hx
  ·obtain ⟨rfl,rfl⟩:=Prod.mk.inj e
   rcases hm with rfl | hm
   ·exact hfr
   ·by_cases hX:x∈X
    ·exact .inr hX
    ·refine .inl ?_
     cases hs:S0 x with
     | none=>rfl
     | some e=>have:=H.ext x e hX hs;rw [hm] at this;cases this
  ·exact H.fresh x u (hr.sub.subset hx)
 ·simp only [List.map_cons,List.nodup_cons]
  exact ⟨hmk,(hr.sub.map _).nodup H.nodup⟩
theorem portE_zero {es:List End} {e:End}:portE es e=0↔e∉es:=by
 unfold portE;split
 ·rename_i h;simp [h];omega
 ·rename_i h;simp [h]
end
section
theorem row_sub {k j:Nat} {cs:List Value} {rows:List (List Value)} {r:List Value} (ht:cs.take (rows.length*k)=rows.flatten) (hl:∀ r∈rows,r.length=k) (hr:rows[j]? = some r):subl cs (0+j*k) k=some r:=by
 have hj:=(List.getElem?_eq_some_iff.1 hr).1
 have h1:(j+1)*k≤rows.length*k:=Nat.mul_le_mul_right _ hj
 have h2:rows.length*k≤cs.length:=by
  have:=congrArg List.length ht
  rw [flat_len hl,List.length_take] at this
  omega
 rw [Nat.add_mul,Nat.one_mul] at h1
 simp only [subl,Nat.zero_add]
 rw [if_pos (by omega)]
 congr 1
 rw [← flat_at hl hr,← ht,List.drop_take,List.take_take]
 congr 1
 omega
theorem flat_set {k:Nat}:∀ {rows:List (List Value)} {j:Nat} {r:List Value},(∀ r∈rows,r.length=k)→r.length=k→j<rows.length→(rows.set j r).flatten=setl rows.flatten (j*k) r:=by
 intro rows
 induction rows with
 | nil=>intro j r _ _ h;simp at h
 | cons x rows ih=>
  intro j r hl hr hj
  have hx:=hl x (by simp)
  cases j with
  | zero=>
   simp only [List.set_cons_zero,List.flatten_cons,setl,Nat.zero_mul,List.take_zero,List.nil_append,Nat.zero_add]
   rw [hr,← hx,List.drop_append_of_le_length (Nat.le_refl _),List.drop_length,List.nil_append]
  | succ j=>
   simp only [List.set_cons_succ,List.flatten_cons]
   rw [ih (fun r hr=>hl r (by simp [hr])) hr (by simpa using hj)]
   simp only [setl,Nat.add_mul,Nat.one_mul]
   rw [List.take_append,List.take_of_length_le (l:=x) (by omega),hx,Nat.add_sub_cancel,List.drop_append,(List.drop_eq_nil_of_le (by omega):x.drop (j*k+k+r.length)=[]),List.nil_append,List.append_assoc,List.append_assoc,List.append_assoc,hx]
   congr 4
   omega
theorem row_setl {k j:Nat} {cs:List Value} {rows:List (List Value)} {r:List Value} (ht:cs.take (rows.length*k)=rows.flatten) (hl:∀ r∈rows,r.length=k) (hr:r.length=k) (hj:j<rows.length) :
    (setl cs (0+j*k) r).take ((rows.set j r).length*k)=(rows.set j r).flatten:=by
  rw [flat_set hl hr hj,← ht,List.length_set,Nat.zero_add]
  have h1:(j+1)*k≤rows.length*k:=Nat.mul_le_mul_right _ hj
  rw [Nat.add_mul,Nat.one_mul] at h1
  have h2:rows.length*k≤cs.length:=by
    have:=congrArg List.length ht
    rw [flat_len hl,List.length_take] at this
    omega
  simp only [setl,List.append_assoc]
  rw [List.take_append,List.length_take,List.take_take,List.take_append]
  have e1:min (rows.length*k) (j*k)=j*k:=by omega
  have e2:min (j*k) cs.length=j*k:=by omega
  have e3:(List.take (rows.length*k) cs).take (j*k)=cs.take (j*k):=by rw [List.take_take];congr 1;omega
  rw [e1,e2,e3,List.take_of_length_le (l:=r) (by omega),List.drop_take,hr]
  congr 3
  omega
theorem setl_len {cs:List Value} {o:Nat} {r:List Value} (h:o+r.length≤cs.length):(setl cs o r).length=cs.length:=by
 simp only [setl,List.length_append,List.length_take,List.length_drop];omega
theorem pairsF_bd (a b:Nat) (ls ms:List Bs):∀ x∈pairsF a b ls ms,((a:Int)≤x.f∧x.f≤x.t∧x.t≤a+lsum ls)∧((b:Int)≤x.oa∧x.oa≤x.ot∧x.ot≤b+lsum ms):=by
 induction ls generalizing a b ms with
 | nil=>simp [pairsF]
 | cons l ls ih=>
  cases ms with
  | nil=>simp [pairsF]
  | cons m ms=>
   intro x hx
   simp only [pairsF,List.mem_cons] at hx
   simp only [lsum,List.map_cons,List.sum_cons] at ih ⊢
   rcases hx with rfl | hx
   ·simp only;omega
   ·have:=ih _ _ _ x hx
    omega
theorem spansO_bd (l m:Bs):∀ x∈spansO l m,(0≤x.f∧x.f≤x.t∧x.t≤l.length)∧(0≤x.oa∧x.oa≤x.ot∧x.ot≤m.length):=by
 intro x hx
 have h:=pairsF_bd 0 0 _ _ x hx
 have h1:=lsum_lines 59 l
 have h2:=lsum_lines 59 m
 simp only [zu] at h
 omega
theorem outD_bd {B:Int}:∀ {sp:List Span} {n a:Int},(0≤n∧n≤B)→(∀ x∈sp,(0≤x.oa∧x.oa≤B)∧(0≤x.ot∧x.ot≤B))→0≤outD n sp a∧outD n sp a≤B:=by
 intro sp
 induction sp with
 | nil=>intro n a h _;exact h
 | cons x sp ih=>
  intro n a h hx
  simp only [outD]
  split
  ·exact (hx x (by simp)).1
  ·exact ih (hx x (by simp)).2 fun y hy=>hx y (by simp [hy])
theorem outO_bd (l m:Bs) (a:Int):0≤outD 0 (spansO l m) a∧outD 0 (spansO l m) a≤m.length:=
 outD_bd (by omega) fun x hx=>by have:=spansO_bd l m x hx;omega
theorem spansO_ok {l m:Bs} (hl:l.length≤1099527356416) (hm:m.length≤1099527356416):∀ x∈spansO l m,(0≤x.f∧x.f≤4398046511104)∧(0≤x.oa∧x.oa≤4398046511104):=by
 intro x hx
 have:=spansO_bd l m x hx
 omega
theorem spansO_len (l m:Bs):(spansO l m).length≤l.length:=by
 unfold spansO pairs
 rw [pairsF_len]
 have:=strLines_len l
 omega
theorem grown_len (l:Bs) (s:Seg):(grown l s).length≤l.length+s.dt.length:=by
 unfold grown;split
 ·omega
 ·simp
theorem spl_mono (s:UInt8):∀ (m l:Bs),(spl s l).1.length≤(spl s (l++m)).1.length:=by
 intro m
 induction m with
 | nil=>simp
 | cons c m ih=>
  intro l
  have h1:=ih (l++[c])
  rw [List.append_assoc,List.singleton_append] at h1
  refine Nat.le_trans ?_ h1
  rw [spl_snoc]
  split
  ·simp
  ·exact Nat.le_refl _
theorem grown_mono (l:Bs) (s:Seg):(zu l).1.length≤(zu (grown l s)).1.length:=by
 unfold grown;split
 ·exact Nat.le_refl _
 ·exact spl_mono 59 _ l
theorem placeC_bd {cs:List Conn} {e f:End} (h:¬ (placeC cs e f).2<0):(placeC cs e f).2.toNat<(placeC cs e f).1.length:=by
 have hb:=findC_bd cs e f
 by_cases h1:0≤vA cs e f
 ·rw [placeC_old h1];simp only;omega
 ·by_cases h2:cs.length=3
  ·rw [placeC_full h1 h2] at h;simp at h
  ·rw [placeC_new h1 h2];simp
theorem placeC_mem {cs:List Conn} {e f:End} {p:Conn→Prop} (h:∀ c∈cs,p c) (hn:p ⟨e,f,[],[],[]⟩):∀ c∈(placeC cs e f).1,p c:=by
 by_cases h1:0≤vA cs e f
 ·rw [placeC_old h1];exact h
 ·by_cases h2:cs.length=3
  ·rw [placeC_full h1 h2];exact h
  ·rw [placeC_new h1 h2]
   intro c hc
   rcases List.mem_append.1 hc with hc | hc
   ·exact h c hc
   ·simp at hc;subst hc;exact hn
theorem knownC_yes {c:Conn} {s:Seg} (h:StrP (grown c.kn s)):({c with kn:=grown c.kn s}:Conn)=vR c s:=by unfold vR;rw [if_pos h]
theorem knownC_no {c:Conn} {s:Seg} (h:¬ StrP (grown c.kn s)):c=vR c s:=by unfold vR;rw [if_neg h]
theorem knownC_len {c:Conn} {s:Seg}:(vR c s).kn.length≤c.kn.length+s.dt.length:=by
 unfold vR;split
 ·exact grown_len _ _
 ·omega
theorem knownC_rest (c:Conn) (s:Seg):(vR c s).i=c.i∧(vR c s).o=c.o∧(vR c s).he=c.he∧(vR c s).ne=c.ne:=by
 unfold vR;split<;>exact ⟨rfl,rfl,rfl,rfl⟩
theorem ctlO_no {b:Box} {s:Seg} {port:Int} (h:(placeC b.cs s.s s.d).2<0):ctlO b s port=(⟨b.rs,b.es,(placeC b.cs s.s s.d).1⟩,[]):=by
 simp only [ctlO,if_pos h]
theorem ctlO_yes {b:Box} {s:Seg} {port:Int} {c0 c:Conn} (h:¬ (placeC b.cs s.s s.d).2<0) (hx:(placeC b.cs s.s s.d).1[(placeC b.cs s.s s.d).2.toNat]? = some c0) (hc:c=vR c0 s) :
    ctlO b s port=(⟨b.rs,(vI b.es c.kn).1,(placeC b.cs s.s s.d).1.set (placeC b.cs s.s s.d).2.toNat c⟩,cutO {s with s:=⟨50,port⟩,ak:=backD 0 (spansO c.he c.ne) s.ak} (vI b.es c.kn).2 (outD 0 (spansO c.kn (vI b.es c.kn).2) s.sq).toNat):=by
  subst hc
  simp only [ctlO,if_neg h,hx]
open Classical in
noncomputable def boxOutP (b:Box) (s:Seg):Box × List Seg:=
 if BoxP b∧SegP s∧s.s.inn∧s.d.out∧mayR b.rs s.s s.d=true then
  if putP b.es s.s=0 then (b,[])
  else if s.d.p=21 then ctlO {b with es:=putE b.es s.s} s (putP b.es s.s)
  else ({b with es:=putE b.es s.s},[{s with s:=⟨50,putP b.es s.s⟩}])
 else (if BoxP b then b else Box.nil,[])
open Classical in
noncomputable def heardC (es:List End) (c:Conn) (s:Seg):Conn:=
 if StrP (grown c.he s) then {c with he:=grown c.he s,ne:=c.ne++linesIn es ((zu (grown c.he s)).1.drop (zu c.he).1.length)} else c
noncomputable def inO (b:Box) (s:Seg) (k:Nat):Box × List Seg:=
 match b.cs[k]? with
 | none=>(b,[])
 | some c0=>
  let c:=heardC b.es c0 s
  ({b with cs:=b.cs.set k c},cutO {s with d:=c.i,ak:=backD 0 (spansO c.kn (vI b.es c.kn).2) s.ak} c.ne (outD 0 (spansO c.he c.ne) s.sq).toNat)
open Classical in
noncomputable def vC (b:Box) (s:Seg):Box × List Seg:=
  if BoxP b∧SegP s∧s.s.out∧s.d.a=50 then
    match endP b.es s.d.p with
    | none=>(b,[])
    | some e=>if mayR b.rs e s.s=true then
        if 0≤vA b.cs e s.s then inO b s (vA b.cs e s.s).toNat
        else if s.s.p=21 then (b,[]) else (b,[{s with d:=e}])
      else (b,[])
  else (if BoxP b then b else Box.nil,[])
theorem heardC_yes {es:List End} {c:Conn} {s:Seg} (h:StrP (grown c.he s)):({c with he:=grown c.he s,ne:=c.ne++linesIn es ((zu (grown c.he s)).1.drop (zu c.he).1.length)}:Conn)=heardC es c s:=by unfold heardC;rw [if_pos h]
theorem heardC_no {es:List End} {c:Conn} {s:Seg} (h:¬ StrP (grown c.he s)):c=heardC es c s:=by unfold heardC;rw [if_neg h]
theorem inO_at {b:Box} {s:Seg} {k:Nat} {c0 c:Conn} (hx:b.cs[k]? = some c0) (hc:c=heardC b.es c0 s) :
    inO b s k=({b with cs:=b.cs.set k c},cutO {s with d:=c.i,ak:=backD 0 (spansO c.kn (vI b.es c.kn).2) s.ak} c.ne (outD 0 (spansO c.he c.ne) s.sq).toNat):=by
  subst hc
  simp only [inO,hx]
theorem boxOutP_not {b:Box} {s:Seg} (h:¬ (BoxP b∧SegP s∧s.s.inn∧s.d.out∧mayR b.rs s.s s.d=true)):(BoxP b→boxOutP b s=(b,[]))∧(¬ BoxP b→boxOutP b s=(Box.nil,[])):=by
 unfold boxOutP
 rw [if_neg h]
 exact ⟨fun h=>by rw [if_pos h],fun h=>by rw [if_neg h]⟩
theorem boxInP_not {b:Box} {s:Seg} (h:¬ (BoxP b∧SegP s∧s.s.out∧s.d.a=50)):(BoxP b→vC b s=(b,[]))∧(¬ BoxP b→vC b s=(Box.nil,[])):=by
 unfold vC
 rw [if_neg h]
 exact ⟨fun h=>by rw [if_pos h],fun h=>by rw [if_neg h]⟩
theorem boxOutP_full {b:Box} {s:Seg} (h:BoxP b∧SegP s∧s.s.inn∧s.d.out∧mayR b.rs s.s s.d=true) (hp:putP b.es s.s=0):boxOutP b s=(b,[]):=by
 unfold boxOutP;rw [if_pos h,if_pos hp]
theorem boxOutP_ctl {b:Box} {s:Seg} (h:BoxP b∧SegP s∧s.s.inn∧s.d.out∧mayR b.rs s.s s.d=true) (hp:¬ putP b.es s.s=0) (hc:s.d.p=21):boxOutP b s=ctlO {b with es:=putE b.es s.s} s (putP b.es s.s):=by
 unfold boxOutP;rw [if_pos h,if_neg hp,if_pos hc]
theorem boxOutP_one {b:Box} {s:Seg} (h:BoxP b∧SegP s∧s.s.inn∧s.d.out∧mayR b.rs s.s s.d=true) (hp:¬ putP b.es s.s=0) (hc:¬ s.d.p=21):boxOutP b s=({b with es:=putE b.es s.s},[{s with s:=⟨50,putP b.es s.s⟩}]):=by
 unfold boxOutP;rw [if_pos h,if_neg hp,if_neg hc]
theorem boxInP_none {b:Box} {s:Seg} (h:BoxP b∧SegP s∧s.s.out∧s.d.a=50) (he:endP b.es s.d.p=none):vC b s=(b,[]):=by
 unfold vC;rw [if_pos h];simp only [he]
theorem boxInP_deny {b:Box} {s:Seg} {e:End} (h:BoxP b∧SegP s∧s.s.out∧s.d.a=50) (he:endP b.es s.d.p=some e) (hm:¬ mayR b.rs e s.s=true):vC b s=(b,[]):=by
 unfold vC;rw [if_pos h];simp only [he,if_neg hm]
theorem boxInP_in {b:Box} {s:Seg} {e:End} (h:BoxP b∧SegP s∧s.s.out∧s.d.a=50) (he:endP b.es s.d.p=some e) (hm:mayR b.rs e s.s=true) (hf:0≤vA b.cs e s.s):vC b s=inO b s (vA b.cs e s.s).toNat:=by
 unfold vC;rw [if_pos h];simp only [he,if_pos hm,if_pos hf]
theorem boxInP_ctl {b:Box} {s:Seg} {e:End} (h:BoxP b∧SegP s∧s.s.out∧s.d.a=50) (he:endP b.es s.d.p=some e) (hm:mayR b.rs e s.s=true) (hf:¬ 0≤vA b.cs e s.s) (hc:s.s.p=21):vC b s=(b,[]):=by
 unfold vC;rw [if_pos h];simp only [he,if_pos hm,if_neg hf,if_pos hc]
theorem boxInP_one {b:Box} {s:Seg} {e:End} (h:BoxP b∧SegP s∧s.s.out∧s.d.a=50) (he:endP b.es s.d.p=some e) (hm:mayR b.rs e s.s=true) (hf:¬ 0≤vA b.cs e s.s) (hc:¬ s.s.p=21):vC b s=(b,[{s with d:=e}]):=by
 unfold vC;rw [if_pos h];simp only [he,if_pos hm,if_neg hf,if_neg hc]
theorem BoxP.small {b:Box} (h:BoxP b):b.rs.length≤5∧b.es.length≤6∧b.cs.length≤3∧∀ c∈b.cs,c.kn.length≤120∧c.he.length≤120∧c.ne.length≤240:=by
 refine ⟨h.2.1.1,h.1.1,h.2.2.1,fun c hc=>?_⟩
 obtain ⟨k,hk⟩:=List.getElem?_of_mem hc
 obtain ⟨_,_,_,_,p1,p2,_,p3⟩:=(h.2.2.2 k c hk).1
 exact ⟨p1.2.2,p2.2.2,p3.2.2.1⟩
theorem addr_map {b off i:Nat}:(some ⟨b,off,none⟩:Option Addr).map (·.add i)=some ⟨b,off+i,none⟩:=by simp [addr_add]
theorem Sl.drop {S:St} {k:Nat} {a:Option Addr} {rows:List (List Value)} (h:Sl S k a rows) (i:Nat) (hi:i≤rows.length):Sl S k (a.map (·.add (i*k))) (rows.drop i):=by
 refine ⟨fun j r hr=>?_,fun ad ha=>?_⟩
 ·rw [List.getElem?_drop] at hr
  obtain ⟨b,off,rfl,hc⟩:=h.row _ _ hr
  refine ⟨b,off+i*k,addr_map,?_⟩
  rw [show off+i*k+j*k=off+(i+j)*k by rw [Nat.add_mul];omega]
  exact hc
 ·cases a with
  | none=>cases ha
  | some ad0=>
   obtain ⟨b,off,c,e,f,wr,rfl,hs,ho,hff⟩:=h.base _ rfl
   rw [addr_map] at ha
   cases ha
   refine ⟨b,off+i*k,c,e,f,wr,rfl,hs,?_,hff⟩
   cases i with
   | zero=>simpa using ho
   | succ i=>
    obtain ⟨r,hr⟩:∃ r,rows[i]? = some r:=⟨rows[i]'(by omega),by simp⟩
    obtain ⟨b',off',e',hc⟩:=h.row i r hr
    cases e'
    simp only [St.cells?,hs] at hc
    split at hc
    ·rename_i hl
     rw [Nat.add_mul,Nat.one_mul];omega
    ·cases hc
theorem W_slDrop {P:Program} {S:St} {E:Env} {K:Value→St→Prop} {α:Type} {l:List α} {size:Nat} {x y:Operand} {a:Option Addr} {cap:Nat} {kd:IntKind} {j:Nat} {f:List α→List (List Value)} (hx:E.ev x=some (.slice a l.length cap)) (hy:E.ev y=some (.int kd j)) (h1:j≤l.length) (hc:l.length≤cap)
    (hs:Sl S size a (f l)) (hf:(f l).drop j=f (l.drop j)) (hl:(f l).length=l.length)
    (k:∀ a' cap',Sl S size a' (f (l.drop j))→(l.drop j).length≤cap'→(∀ b,(∀ b' off,a=some ⟨b',off,none⟩→b'≠b)→∀ b' off,a'=some ⟨b',off,none⟩→b'≠b)→K (.slice a' (l.drop j).length cap') S):(SOp.sliceL size x (some y) none none).W P E S K:=by
  refine W_sliceL (l:=some (.int kd (j:Int))) (h:=none) (m:=none) (r:=(j,l.length,cap)) hx (by simp [Env.evo,hy]) rfl rfl ?_ ?_
  · simp only [bnds,bnd,Option.isSome_none,Bool.false_eq_true,if_false]
    rw [if_pos (by omega)]
    simp
  · have e1:(l.drop j).length=l.length-j:=by simp
    simp only
    rw [← e1]
    refine k _ _ ?_ (by omega) ?_
    · by_cases hcj:cap=j
      · rw [if_pos hcj]
        have:l.drop j=[]:=List.drop_eq_nil_of_le (by omega)
        rw [← hf]
        have hd:(f l).drop j=[]:=List.drop_eq_nil_of_le (by omega)
        rw [hd]
        exact ⟨fun i r h=>by simp at h,hs.base⟩
      · rw [if_neg hcj,← hf]
        exact hs.drop _ (by omega)
    · intro b hb
      by_cases hcj:cap=j
      · rw [if_pos hcj];exact hb
      · rw [if_neg hcj]
        intro b' off' e
        cases a with
        | none=>cases e
        | some ad=>
          obtain ⟨b0,o0,_,_,_,_,rfl,_,_⟩:=hs.base ad rfl
          rw [addr_map] at e
          cases e
          exact hb _ _ rfl
theorem lsum_drop_le (ls:List Bs) (i:Nat):lsum (ls.drop i)≤lsum ls:=by
 have:lsum ls=lsum (ls.take i)+lsum (ls.drop i):=by
  simp only [lsum]
  rw [← List.sum_append,← List.map_append,List.take_append_drop]
 omega
theorem heardC_len (es:List End) (c:Conn) (s:Seg):(heardC es c s).he.length≤c.he.length+s.dt.length∧(heardC es c s).ne.length≤c.ne.length+15*(c.he.length+s.dt.length)∧(heardC es c s).kn=c.kn∧(heardC es c s).i=c.i∧(heardC es c s).o=c.o:=by
 unfold heardC
 have hg:=grown_len c.he s
 split
 ·refine ⟨hg,?_,rfl,rfl,rfl⟩
  simp only [List.length_append]
  have h1:=linesIn_len es ((zu (grown c.he s)).1.drop (zu c.he).1.length)
  have h2:=lsum_drop_le (zu (grown c.he s)).1 (zu c.he).1.length
  have h3:=lsum_lines 59 (grown c.he s)
  have h4:=len_lsum ((zu (grown c.he s)).1.drop (zu c.he).1.length)
  simp only [zu] at *
  omega
 ·exact ⟨by omega,by omega,rfl,rfl,rfl⟩
def OrgX (n:Nat) (S:St) (a a1:Option Addr):Prop:=a1=a∨∀ b off,a1=some ⟨b,off,none⟩→b=n∨S b=none
theorem OrgX.same (n:Nat) (S:St) (a:Option Addr):OrgX n S a a:=.inl rfl
theorem OrgX.of {n:Nat} {S0 S:St} {a a1:Option Addr} (h:Org S a a1) (he:Ext [n] S0 S):OrgX n S0 a a1:=by
 rcases h with h | h
 ·exact .inl h
 ·refine .inr fun b off e=>?_
  have h1:=h b off e
  by_cases hb:b=n
  ·exact .inl hb
  ·refine .inr ?_
   cases hs:S0 b with
   | none=>rfl
   | some e=>have:=he.ext b e (by simpa using hb) hs;rw [h1] at this;cases this
theorem OrgX.ne {n y:Nat} {S:St} {a a1:Option Addr} {e:Ent} (h:OrgX n S a a1) (hy:y≠n) (hs:S y=some e) (hne:∀ b off,a=some ⟨b,off,none⟩→b≠y):∀ b off,a1=some ⟨b,off,none⟩→b≠y:=by
 rcases h with rfl | h
 ·exact hne
 ·rintro b off e' rfl
  rcases h _ off e' with h | h
  ·exact hy h
  ·rw [h] at hs;cases hs
theorem Org.ofX {n:Nat} {S0 S:St} {a a1:Option Addr} (h:OrgX n S a a1) (he:Ext [] S0 S) (hn:S0 n=none) (ha:Org S0 none a):Org S0 none a1:=by
 rcases h with rfl | h
 ·exact ha
 ·refine .inr fun b off e=>?_
  rcases h b off e with rfl | h
  ·exact hn
  ·exact he.isNone h
theorem Org.own {S0:St} {b:Nat} (h:S0 b=none):Org S0 none (some ⟨b,0,none⟩):=.new h
structure BoxM (S0 S:St) (x1 x2 x3:Option Addr) (d2 d3:Nat) (q:Box):Prop where
 r:Sl S 7 x1 (vo q.rs)
 e:Sl S 2 x2 (zY q.es)
 c:(x3=none∧q.cs=[]∧d3=0)∨∃ m,x3=some ⟨m,0,none⟩∧S0 m=none∧OwnB S m 49 7 d3 (z_ q.cs)∧(∀ b off,x1=some ⟨b,off,none⟩→b≠m)∧(∀ b off,x2=some ⟨b,off,none⟩→b≠m)
 l2:q.es.length≤d2
 l3:q.cs.length≤d3
 o1:Org S0 none x1
 o2:Org S0 none x2
structure NotIn (x1 x2 x3:Option Addr) (b:Nat):Prop where
 p1:∀ b' off,x1=some ⟨b',off,none⟩→b'≠b
 p2:∀ b' off,x2=some ⟨b',off,none⟩→b'≠b
 p3:∀ b' off,x3=some ⟨b',off,none⟩→b'≠b
theorem OwnB.qy {S S':St} {b n k cap:Nat} {e:TypeId} {rows:List (List Value)} (h:OwnB S b e k cap rows) (he:Ext [n] S S') (hn:b≠n):OwnB S' b e k cap rows:=by
 obtain ⟨cs,h1,h2⟩:=h
 exact ⟨cs,he.ext b _ (by simpa using hn) h1,h2⟩
theorem BoxM.mono {S0 S S':St} {x1 x2 x3:Option Addr} {d2 d3:Nat} {q:Box} (h:BoxM S0 S x1 x2 x3 d2 d3 q) (he:Ext [] S S'):BoxM S0 S' x1 x2 x3 d2 d3 q:=
 ⟨h.r.mono he,h.e.mono he,h.c.imp_right fun ⟨m,p1,p2,p3,p4⟩=>⟨m,p1,p2,p3.mono he,p4⟩,h.l2,h.l3,h.o1,h.o2⟩
theorem BoxM.qy {S0 S S':St} {x1 x2 x3:Option Addr} {d2 d3 b:Nat} {q:Box} (h:BoxM S0 S x1 x2 x3 d2 d3 q) (he:Ext [b] S S') (hb:NotIn x1 x2 x3 b):BoxM S0 S' x1 x2 x3 d2 d3 q:=
 ⟨h.r.qy he hb.p1,h.e.qy he hb.p2,h.c.imp_right fun ⟨m,p1,p2,p3,p4⟩=>⟨m,p1,p2,p3.qy he (hb.p3 _ _ p1),p4⟩,h.l2,h.l3,h.o1,h.o2⟩
theorem BoxM.back {S00 S0 S:St} {x1 x2 x3:Option Addr} {d2 d3:Nat} {q:Box} (h:BoxM S0 S x1 x2 x3 d2 d3 q) (he:Ext [] S00 S0):BoxM S00 S x1 x2 x3 d2 d3 q:=
 ⟨h.r,h.e,h.c.imp_right fun ⟨m,p1,p2,p3,p4⟩=>⟨m,p1,he.isNone p2,p3,p4⟩,h.l2,h.l3,h.o1.back he,h.o2.back he⟩
theorem BoxM.slc {S0 S:St} {x1 x2 x3:Option Addr} {d2 d3:Nat} {q:Box} (h:BoxM S0 S x1 x2 x3 d2 d3 q):Sl S 7 x3 (z_ q.cs):=by
 rcases h.c with ⟨rfl,h2,_⟩ | ⟨m,rfl,_,h2,_⟩
 ·rw [h2];exact Sl.nil 7
 ·exact h2.sl
theorem BoxM.old {S0 S:St} {x1 x2 x3:Option Addr} {d2 d3 b:Nat} {e:Ent} {q:Box} (h:BoxM S0 S x1 x2 x3 d2 d3 q) (hb:S0 b=some e):NotIn x1 x2 x3 b:=by
 refine ⟨h.o1.ne nofun hb,h.o2.ne nofun hb,?_⟩
 rcases h.c with ⟨rfl,_⟩ | ⟨m,rfl,h2,_⟩
 ·nofun
 ·rintro b' off e' rfl
  cases e'
  rw [h2] at hb;cases hb
theorem BoxM.ne {S0 S:St} {x1 x2 x3:Option Addr} {d2 d3 b:Nat} {q:Box} (h:BoxM S0 S x1 x2 x3 d2 d3 q) (hb:S b=none):NotIn x1 x2 x3 b:=⟨h.r.ne hb,h.e.ne hb,h.slc.ne hb⟩
theorem BoxM.nil (S0 S:St):BoxM S0 S none none none 0 0 Box.nil:=⟨.nil _,.nil _,.inl ⟨rfl,rfl,rfl⟩,Nat.le_refl _,Nat.le_refl _,.same _ _,.same _ _⟩
theorem own_ne {a b:Nat} (h:a≠b):∀ b' off,(some ⟨a,0,none⟩:Option Addr)=some ⟨b',off,none⟩→b'≠b:=by
 rintro b' off e rfl
 cases e;exact h rfl
theorem new_ne {n b y:Nat} {S:St} {e:Ent} (h:b=n∨S b=none) (hy:y≠n) (hs:S y=some e):∀ b' off,(some ⟨b,0,none⟩:Option Addr)=some ⟨b',off,none⟩→b'≠y:=by
 rintro b' off e' rfl
 cases e'
 rcases h with h | h
 ·exact hy h
 ·rw [h] at hs;cases hs
end
section
theorem putE_ge (es:List End) (e:End):es.length≤(putE es e).length:=by
 unfold putE;split
 ·exact Nat.le_refl _
 ·simp
theorem lineOut_ge (es:List End) (l:Bs):es.length≤(vO es l).1.length:=by
 unfold vO;split
 ·exact Nat.le_refl _
 ·exact putE_ge _ _
theorem linesOut_ge (es:List End) (ls:List Bs):es.length≤(linesOut es ls).1.length:=by
 induction ls generalizing es with
 | nil=>exact Nat.le_refl _
 | cons x ls ih=>exact Nat.le_trans (lineOut_ge es x) (ih _)
theorem linesOut_app (es:List End) (a b:List Bs):(linesOut es (a++b)).1=(linesOut (linesOut es a).1 b).1:=by
 induction a generalizing es with
 | nil=>rfl
 | cons x a ih=>simp only [List.cons_append,linesOut];exact ih _
theorem knows_yes {es:List End} {l:Bs} (h:(linesOut es (zu l).1).1=es):knowsP es l:=by unfold knowsP vI;rw [h]
theorem knows_no {es:List End} {l:Bs} {a b:List Bs} {x:Bs} {e:End} (hl:(zu l).1=a++x::b) (ha:(linesOut es a).1=es) (hx:says x=some e) (hp:portE es e=0) (h6:es.length<6):¬ knowsP es l:=by
 unfold knowsP vI
 rw [hl,linesOut_app,ha]
 have hm:e∉es:=fun hm=>by unfold portE at hp;rw [if_pos hm] at hp;omega
 have h1:(vO es x).1=es++[e]:=by unfold vO;rw [hx];exact (putE_new hm (by omega)).1
 simp only [linesOut,h1]
 have:=linesOut_ge (es++[e]) b
 simp only [List.length_append,List.length_cons,List.length_nil] at this
 omega
theorem lineOut_stay {es:List End} {x:Bs} (h:says x=none∨∃ e,says x=some e∧(portE es e≠0∨6≤es.length)):(vO es x).1=es:=by
 unfold vO
 rcases h with h | ⟨e,h,hp⟩
 ·rw [h]
 ·rw [h]
  simp only
  by_cases hm:e∈es
  ·exact (putE_mem hm).1
  ·rcases hp with hp | hp
   ·exfalso;apply hp;unfold portE;exact if_neg hm
   ·exact (putE_full hm hp).1
theorem findC_take {e f:End}:∀ (cs:List Conn) (k:Nat) (c:Conn),cs[k]? = some c→c.i=e→c.o=f→(vA cs e f=k↔vA (cs.take k) e f<0):=by
 intro cs
 induction cs with
 | nil=>intro k c h;simp at h
 | cons x cs ih=>
  intro k c h hi ho
  cases k with
  | zero=>
   simp only [List.getElem?_cons_zero,Option.some.injEq] at h
   subst h
   simp [vA,hi,ho]
  | succ k=>
   simp only [List.getElem?_cons_succ] at h
   have:=ih k c h hi ho
   have hb:=findC_bd cs e f
   have hb2:=findC_bd (cs.take k) e f
   simp only [List.take_succ_cons,vA]
   split
   ·constructor
    ·intro h;omega
    ·intro h;omega
   ·split<;>split<;>omega
theorem BoxP_conn {b:Box} {k:Nat} {c:Conn} (hc:b.cs[k]? = some c):vA b.cs c.i c.o=k↔vA (b.cs.take k) c.i c.o<0:=findC_take b.cs k c hc rfl rfl
theorem OwnO.mono {S0 S S':St} {x:Option Addr} {e:TypeId} {k cap:Nat} {rows:List (List Value)} (h:OwnO S0 S x e k cap rows) (he:Ext [] S S'):OwnO S0 S' x e k cap rows:=
 h.imp_right fun ⟨m,h1,h2,h3⟩=>⟨m,h1,h2,h3.mono he⟩
theorem OwnO.qy {S0 S S':St} {x:Option Addr} {e:TypeId} {k cap n:Nat} {rows:List (List Value)} (h:OwnO S0 S x e k cap rows) (he:Ext [n] S S') (hn:∀ b' off,x=some ⟨b',off,none⟩→b'≠n):OwnO S0 S' x e k cap rows:=
 h.imp_right fun ⟨m,h1,h2,h3⟩=>⟨m,h1,h2,h3.qy he (hn _ _ h1)⟩
def OffB (a x:Option Addr):Prop:=∀ b off m,a=some ⟨b,off,none⟩→x=some ⟨m,0,none⟩→b≠m
theorem offB_of {S S':St} {a x:Option Addr} {e:TypeId} {k k2 cap:Nat} {rows rows2:List (List Value)} (h:OwnO S S' x e k cap rows) (hs:Sl S k2 a rows2):OffB a x:=by
 intro b off m ha hx hbm
 rcases h with ⟨rfl,_⟩ | ⟨m',rfl,hn,_⟩
 ·cases hx
 ·cases hx
  exact hs.ne hn b off ha hbm
def SpM (sp:List Span):Prop:=∀ (i j:Nat) (x y:Span),sp[i]? = some x→sp[j]? = some y→i≤j→x.t≤y.t∧x.ot≤y.ot
theorem pairsF_from (a b:Nat) (ls ms:List Bs):∀ x∈pairsF a b ls ms,(a:Int)<x.t∧(b:Int)<x.ot:=by
 induction ls generalizing a b ms with
 | nil=>simp [pairsF]
 | cons l ls ih=>
  cases ms with
  | nil=>simp [pairsF]
  | cons m ms=>
   intro x hx
   simp only [pairsF,List.mem_cons] at hx
   rcases hx with rfl | hx
   ·simp only;omega
   ·have:=ih _ _ _ x hx;omega
theorem SpM_pairsF (a b:Nat) (ls ms:List Bs):SpM (pairsF a b ls ms):=by
 induction ls generalizing a b ms with
 | nil=>intro i j x y h;simp [pairsF] at h
 | cons l ls ih=>
  cases ms with
  | nil=>intro i j x y h;simp [pairsF] at h
  | cons m ms=>
   intro i j x y hi hj hij
   simp only [pairsF] at hi hj
   cases j with
   | zero=>
    obtain rfl:i=0:=by omega
    rw [hi] at hj;cases hj;omega
   | succ j=>
    simp only [List.getElem?_cons_succ] at hj
    cases i with
    | zero=>
     simp only [List.getElem?_cons_zero,Option.some.injEq] at hi
     subst hi
     have:=pairsF_from _ _ _ _ y (List.mem_of_getElem? hj)
     simp only;omega
    | succ i=>
     simp only [List.getElem?_cons_succ] at hi
     exact ih _ _ _ i j x y hi hj (by omega)
theorem SpM_spansO (l m:Bs):SpM (spansO l m):=SpM_pairsF 0 0 _ _
theorem outD_skip {q n:Int} {sp:List Span}:∀ r,r≤sp.length→(∀ i x,i<r→sp[i]? = some x→¬ q<x.t)→(r=0∧outD n sp q=outD n (sp.drop 0) q)∨∃ x,0<r∧sp[r-1]? = some x∧outD n sp q=outD x.ot (sp.drop r) q:=by
 intro r
 induction r with
 | zero=>exact fun _ _=>.inl ⟨rfl,by simp⟩
 | succ r ih=>
  intro hr h
  obtain ⟨x,hx⟩:∃ x,sp[r]? = some x:=⟨sp[r]'(by omega),by simp⟩
  have hd:=fun n=>outD_drop (n:=n) hx (h r x (by omega) hx)
  refine .inr ⟨x,by omega,by simpa using hx,?_⟩
  rcases ih (by omega) (fun i x hi=>h i x (by omega)) with ⟨rfl,e⟩ | ⟨y,_,_,e⟩
  ·rw [e,hd]
  ·rw [e,hd]
theorem backD_skip {q n:Int} {sp:List Span}:∀ r,r≤sp.length→(∀ i x,i<r→sp[i]? = some x→¬ q<x.ot)→(r=0∧backD n sp q=backD n (sp.drop 0) q)∨∃ x,0<r∧sp[r-1]? = some x∧backD n sp q=backD x.t (sp.drop r) q:=by
 intro r
 induction r with
 | zero=>exact fun _ _=>.inl ⟨rfl,by simp⟩
 | succ r ih=>
  intro hr h
  obtain ⟨x,hx⟩:∃ x,sp[r]? = some x:=⟨sp[r]'(by omega),by simp⟩
  have hd:=fun n=>backD_drop (n:=n) (a:=q) hx (by have:=h r x (by omega) hx;omega)
  refine .inr ⟨x,by omega,by simpa using hx,?_⟩
  rcases ih (by omega) (fun i x hi=>h i x (by omega)) with ⟨rfl,e⟩ | ⟨y,_,_,e⟩
  ·rw [e,hd]
  ·rw [e,hd]
theorem outD_at {q n:Int} {sp:List Span} {r:Nat} {x:Span} (hr:∀ i x,i<r→sp[i]? = some x→¬ q<x.t) (hx:sp[r]? = some x) (hq:q<x.t):outD n sp q=x.oa:=by
 have hl:=(List.getElem?_eq_some_iff.1 hx).1
 rcases outD_skip (n:=n) r (by omega) hr with ⟨rfl,e⟩ | ⟨y,_,_,e⟩<;>rw [e,outD_hit hx hq]
theorem outD_last {q n:Int} {sp:List Span} {r:Nat} {x:Span} (hr:∀ i x,i<r→sp[i]? = some x→¬ q<x.t) (hl:r=sp.length) (h0:0<r) (hx:sp[r-1]? = some x):outD n sp q=x.ot:=by
 rcases outD_skip (n:=n) r (by omega) hr with ⟨e0,_⟩ | ⟨y,_,hy,e⟩
 ·omega
 ·rw [hx] at hy;cases hy;rw [e,outD_end (by omega)]
theorem outD_none {q n:Int} {sp:List Span} (hl:sp.length=0):outD n sp q=n:=by
 cases sp with
 | nil=>rfl
 | cons=>simp at hl
theorem backD_at {q n:Int} {sp:List Span} {r:Nat} {x:Span} (hr:∀ i x,i<r→sp[i]? = some x→¬ q<x.ot) (hx:sp[r]? = some x) (hq:q<x.ot):backD n sp q=if x.pl=true∧x.oa<q then x.f+q-x.oa else x.f:=by
 have hl:=(List.getElem?_eq_some_iff.1 hx).1
 rcases backD_skip (n:=n) r (by omega) hr with ⟨rfl,e⟩ | ⟨y,_,_,e⟩<;>rw [e,backD_hit hx (by omega)]
theorem backD_last {q n:Int} {sp:List Span} {r:Nat} {x:Span} (hr:∀ i x,i<r→sp[i]? = some x→¬ q<x.ot) (hl:r=sp.length) (h0:0<r) (hx:sp[r-1]? = some x):backD n sp q=x.t:=by
 rcases backD_skip (n:=n) r (by omega) hr with ⟨e0,_⟩ | ⟨y,_,hy,e⟩
 ·omega
 ·rw [hx] at hy;cases hy;rw [e,backD_end (by omega)]
theorem backD_none {q n:Int} {sp:List Span} (hl:sp.length=0):backD n sp q=n:=by
 cases sp with
 | nil=>rfl
 | cons=>simp at hl
end
set_option maxHeartbeats 1000000
section
open Go
section
variable {X:List Nat} {S0 S S':St} {L L' L1 L2:List (Nat × Obj)}
theorem Loc.start2 {b c:Nat} {o u:Obj} (hb:S b=some ⟨o,true⟩) (hc:S c=some ⟨u,true⟩) (hne:b≠c):Loc [b,c] S S [(b,o),(c,u)]:=
 ⟨.refl S,fun _ _ _ h=>h,by simp;rintro x w (⟨rfl,rfl⟩ | ⟨rfl,rfl⟩)<;>assumption,by simp;rintro x w (⟨rfl,rfl⟩ | ⟨rfl,rfl⟩)<;>simp,by simpa using hne⟩
theorem Upd.nodup {b:Nat} {o o':Obj} (h:Upd L b o o' L') (hn:(L.map (·.1)).Nodup):(L'.map (·.1)).Nodup:=by rw [h.keys];exact hn
theorem Loc.callX2 (H:Loc X S0 S L) {b c:Nat} {o o' u u':Obj} (h:Ext [b,c] S S') (hu:Upd L b o o' L1) (hv:Upd L1 c u u' L2) (hb:S' b=some ⟨o',true⟩) (hc:S' c=some ⟨u',true⟩) (hne:b≠c):Loc X S0 S' L2:=by
 have hm1:=H.fresh b o hu.mem
 have hc1:(c,u)∈L:=by
  rcases hu.back H.nodup c u hv.mem with ⟨e,_⟩ | ⟨_,h⟩
  ·exact absurd e.symm hne
  ·exact h
 have hm2:=H.fresh c u hc1
 refine ⟨h.g.trans H.g,fun x e hx he=>?_,fun x w hx=>?_,fun x w hx=>?_,?_⟩
 ·have h1:x≠b:=by
   rintro rfl
   rcases hm1 with h | h
   ·rw [h] at he;cases he
   ·exact hx h
  have h2:x≠c:=by
   rintro rfl
   rcases hm2 with h | h
   ·rw [h] at he;cases he
   ·exact hx h
  exact h.ext x e (by simp [h1,h2]) (H.ext x e hx he)
 ·rcases hv.back (hu.nodup H.nodup) x w hx with ⟨rfl,rfl⟩ | ⟨hne2,hx⟩
  ·exact hc
  ·rcases hu.back H.nodup x w hx with ⟨rfl,rfl⟩ | ⟨hne1,hx⟩
   ·exact hb
   ·exact h.ext x _ (by simp [hne1,hne2]) (H.own x w hx)
 ·rcases hv.back (hu.nodup H.nodup) x w hx with ⟨rfl,rfl⟩ | ⟨_,hx⟩
  ·exact hm2
  ·rcases hu.back H.nodup x w hx with ⟨rfl,rfl⟩ | ⟨_,hx⟩
   ·exact hm1
   ·exact H.fresh x w hx
 ·rw [hv.keys,hu.keys];exact H.nodup
theorem Loc.newB (H:Loc X S0 S L) {b:Nat} (hb:S b=none):S0 b=none∨b∈X:=by
 cases hs:S0 b with
 | none=>exact .inl rfl
 | some e=>
  by_cases hX:b∈X
  ·exact .inr hX
  ·have:=H.ext b e hX hs;rw [hb] at this;cases this
theorem Loc.also (H:Loc X S0 S L) {n:Nat} {w:Obj} (hn:S0 n=none∨n∈X) (hk:n∉L.map (·.1)) (ho:S n=some ⟨w,true⟩):Loc X S0 S ((n,w)::L):=
 ⟨H.g,H.ext,fun x u hx=>by
  rcases List.mem_cons.1 hx with e | hx
  ·cases e;exact ho
  ·exact H.own x u hx,fun x u hx=>by
  rcases List.mem_cons.1 hx with e | hx
  ·cases e;exact hn
  ·exact H.fresh x u hx,by simp only [List.map_cons,List.nodup_cons];exact ⟨hk,H.nodup⟩⟩
theorem Loc.nokey (H:Loc X S0 S L) {b:Nat} (hb:S b=none):b∉L.map (·.1):=by
 intro hc
 obtain ⟨⟨x,u⟩,hx,rfl⟩:=List.mem_map.1 hc
 have:=H.own x u hx
 simp only at hb
 rw [hb] at this;cases this
theorem Loc.callXnew (H:Loc X S0 S L) {b n:Nat} {o o' w:Obj} (h:Ext [b] S S') (hu:Upd L b o o' L') (hb:S' b=some ⟨o',true⟩) (hn:S n=none) (ho:S' n=some ⟨w,true⟩):Loc X S0 S' ((n,w)::L'):=
 (H.callX h hu hb).also (H.newB hn) (by rw [hu.keys];exact H.nokey hn) ho
theorem Loc.callB (H:Loc X S0 S L) {b c n:Nat} {o o' u w:Obj} (h:Ext [b,c] S S') (hu:Upd L b o o' L1) (hr:Rem L1 c u L2) (hne:b≠c) (hb:S' b=some ⟨o',true⟩) (hn:n=c∨S n=none) (ho:S' n=some ⟨w,true⟩):Loc X S0 S' ((n,w)::L2):=by
 have hnd:=hu.nodup H.nodup
 have hc1:(c,u)∈L:=by
  rcases hu.back H.nodup c u hr.mem with ⟨e,_⟩ | ⟨_,h⟩
  ·exact absurd e.symm hne
  ·exact h
 have hcn:=hr.nin hnd
 have base:Loc X S0 S' L2:=by
  have hm1:=H.fresh b o hu.mem
  have hm2:=H.fresh c u hc1
  refine ⟨h.g.trans H.g,fun x e hx he=>?_,fun x v hx=>?_,fun x v hx=>?_,?_⟩
  ·refine h.ext x e ?_ (H.ext x e hx he)
   simp only [List.mem_cons,List.not_mem_nil,or_false,not_or]
   refine ⟨?_,?_⟩
   ·rintro rfl
    rcases hm1 with h | h
    ·rw [h] at he;cases he
    ·exact hx h
   ·rintro rfl
    rcases hm2 with h | h
    ·rw [h] at he;cases he
    ·exact hx h
  ·have hxc:x≠c:=by rintro rfl;exact hcn (List.mem_map.2 ⟨_,hx,rfl⟩)
   rcases hu.back H.nodup x v (hr.sub.subset hx) with ⟨rfl,rfl⟩ | ⟨hxb,hx⟩
   ·exact hb
   ·exact h.ext x _ (by simp [hxb,hxc]) (H.own x v hx)
  ·rcases hu.back H.nodup x v (hr.sub.subset hx) with ⟨rfl,rfl⟩ | ⟨_,hx⟩
   ·exact hm1
   ·exact H.fresh x v hx
  ·exact (hr.sub.map _).nodup hnd
 rcases hn with rfl | hn
 ·exact base.also (H.fresh n u hc1) hcn ho
 ·refine base.also (H.newB hn) (fun hm=>?_) ho
  apply H.nokey hn
  rw [← hu.keys]
  exact (hr.sub.map _).subset hm
theorem Loc.callDrop (H:Loc X S0 S L) {c:Nat} {u:Obj} (h:Ext [c] S S') (hr:Rem L c u L2):Loc X S0 S' L2:=by
 have hcn:=hr.nin H.nodup
 have hm2:=H.fresh c u hr.mem
 refine ⟨h.g.trans H.g,fun x e hx he=>?_,fun x v hx=>?_,fun x v hx=>H.fresh x v (hr.sub.subset hx),(hr.sub.map _).nodup H.nodup⟩
 ·refine h.ext x e ?_ (H.ext x e hx he)
  simp only [List.mem_singleton]
  rintro rfl
  rcases hm2 with h | h
  ·rw [h] at he;cases he
  ·exact hx h
 ·have hxc:x≠c:=by rintro rfl;exact hcn (List.mem_map.2 ⟨_,hx,rfl⟩)
  exact h.ext x _ (by simpa using hxc) (H.own x v (hr.sub.subset hx))
theorem Sl.monoX2 {k:Nat} {a:Option Addr} {rows:List (List Value)} (h:Sl S k a rows) {b c:Nat} (he:Ext [b,c] S S') (hb:∀ b' off,a=some ⟨b',off,none⟩→b'≠b) (hc:∀ b' off,a=some ⟨b',off,none⟩→b'≠c):Sl S' k a rows where
 row i r hr:=by
  obtain ⟨b',off,h1,h2⟩:=h.row i r hr
  exact ⟨b',off,h1,zG he.ext (by simp [hb b' off h1,hc b' off h1]) h2⟩
 base ad ha:=by
  obtain ⟨b',off,c',e,f,wr,rfl,h2,h3⟩:=h.base ad ha
  exact ⟨b',off,c',e,f,wr,rfl,he.ext _ _ (by simp [hb b' off ha,hc b' off ha]) h2,h3⟩
theorem nin2 {a b c:Nat} (h:a≠b) (h':a≠c):a∉[b,c]:=by simp [h,h']
theorem W_mkMap {P:Program} {E:Env} {K:Value→St→Prop} (H:Loc X S0 S L) (k:∀ r S',S r=none→Ext [] S S'→Loc X S0 S' ((r,.map #[] 0)::L)→K (.map (some r)) S'):SOp.mkMap.W P E S K:=
 fun b hb=>k b _ hb (.put_new hb _) (H.alloc hb _)
end
theorem W_clip {P:Program} {E:Env} {S:St} {K:Value→St→Prop} {size:Nat} {x y z:Operand} {a:Option Addr} {n c:Nat} (hx:E.ev x=some (.slice a n c)) (hy:E.ev y=some (int n)) (hz:E.ev z=some (int n)) (hn:n≤c) (k:K (.slice a n n) S):(SOp.sliceL size x none (some y) (some z)).W P E S K:=by
 refine W_sliceL (l:=none) (h:=some (int n)) (m:=some (int n)) (r:=(0,n,n)) hx rfl (by simp [Env.evo,hy]) (by simp [Env.evo,hz]) ?_ ?_
 ·simp only [bnds,bnd,Option.isSome_some,if_true]
  rw [if_pos ⟨by omega,by omega⟩]
  simp only [Int.toNat_natCast]
  rw [if_pos ⟨by omega,by omega⟩]
 ·have e2:∀ x:Addr,x.add 0=x:=fun x=>by simp [Addr.add]
  have e3:(if n=0 then a else Option.map (fun x=>x.add (0*size)) a)=a:=by
   simp only [Nat.zero_mul,e2]
   cases a<;>simp
  simp only [Nat.sub_zero]
  rw [e3];exact k
theorem W_ptrEqB {E:Env} {S:St} {K:Value→St→Prop} {neg:Bool} {x y:Operand} {a:Addr} (hx:E.ev x=some (.pointer (some a))) (hy:E.ev y=some (.pointer (some a))) (k:K (.bool (true != neg)) S):(SOp.eqv neg 211 x y).W Tryz.prog E S K:=by
 obtain ⟨i,hi,hs⟩:=Option.map_eq_some_iff.1 tryzPT.s213
 exact W_ptrEq tryzPT.u211 hi (by rw [hs];decide) hx hy k
section
variable {α β:Type} [DecidableEq α]
def addM (kv:List (α × β)) (k:α) (v:β):List (α × β):=if (findM kv k 0).isSome then kv else kv++[(k,v)]
theorem addM_no {kv:List (α × β)} {k:α} {v:β} (h:findM kv k 0=none):addM kv k v=kv++[(k,v)]:=by unfold addM;rw [h];rfl
theorem addM_yes {kv:List (α × β)} {k:α} {v:β} (h:(findM kv k 0).isSome=true):addM kv k v=kv:=by unfold addM;rw [if_pos h]
theorem findM_snoc (kv:List (α × β)) (k x:α) (v:β) (i:Nat):findM (kv++[(k,v)]) x i=match findM kv x i with
    | some r=>some r
    | none=>if x=k then some (i+kv.length,v) else none:=by
  induction kv generalizing i with
  | nil=>simp [findM]
  | cons p kv ih=>
    obtain ⟨a,b⟩:=p
    simp only [List.cons_append,findM]
    by_cases h:x=a
    · simp [h]
    · simp only [h,if_false,ih]
      split
      · rfl
      · rw [show i+1+kv.length=i+((a,b)::kv).length by simp;omega]
theorem findM_at {kv:List (α × β)} {x:α} {i j:Nat} {v:β} (h:findM kv x i=some (j,v)):i≤j∧kv[j-i]? = some (x,v):=by
 induction kv generalizing i with
 | nil=>cases h
 | cons p kv ih=>
  obtain ⟨a,b⟩:=p
  simp only [findM] at h
  by_cases hx:x=a
  ·rw [if_pos hx] at h
   simp only [Option.some.injEq,Prod.mk.injEq] at h
   obtain ⟨rfl,rfl⟩:=h
   exact ⟨Nat.le_refl _,by simp [hx]⟩
  ·rw [if_neg hx] at h
   obtain ⟨h1,h2⟩:=ih h
   refine ⟨by omega,?_⟩
   rw [show j-i=(j-(i+1))+1 by omega];simpa using h2
def valM (kv:List (α × β)) (x:α):Option β:=(findM kv x 0).map (·.2)
theorem valM_snoc (kv:List (α × β)) (k x:α) (v:β):valM (kv++[(k,v)]) x=match valM kv x with
    | some r=>some r
    | none=>if x=k then some v else none:=by
  unfold valM
  rw [findM_snoc]
  rcases findM kv x 0 with _ | ⟨j,w⟩
  · simp only [Option.map_none];split<;>rfl
  · rfl
theorem valM_add (kv:List (α × β)) (k x:α) (v:β):valM (addM kv k v) x=match valM kv x with
    | some r=>some r
    | none=>if x=k then some v else none:=by
  rcases h:findM kv k 0 with _ | r
  · rw [addM_no h,valM_snoc]
  · rw [addM_yes (by rw [h];rfl)]
    rcases hx:valM kv x with _ | w
    · by_cases e:x=k
      · subst e;unfold valM at hx;rw [h] at hx;cases hx
      · simp [e]
    · rfl
end
structure Maps (es:List End) (i:Nat) (kv0:List (End × Int)) (kv1:List (Int × End)):Prop where
 m0:∀ e,valM kv0 e=if e∈es.take i then some (500+((es.take i).idxOf e:Nat):Int) else none
 m1:∀ p,valM kv1 p=if 500≤p then (es.take i)[(p-500).toNat]? else none
theorem Maps.nil (es:List End):Maps es 0 [] []:=⟨fun e=>by simp [valM,findM],fun p=>by simp [valM,findM]⟩
theorem Maps.step {es:List End} {i:Nat} {kv0:List (End × Int)} {kv1:List (Int × End)} {e:End} (h:Maps es i kv0 kv1) (he:es[i]? = some e):Maps es (i+1) (addM kv0 e (500+(i:Int))) (addM kv1 (500+(i:Int)) e):=by
 have hi:i<es.length:=(List.getElem?_eq_some_iff.1 he).1
 have hl:(es.take i).length=i:=by simp;omega
 constructor
 ·intro x
  rw [valM_add,h.m0,vS he]
  by_cases hx:x∈es.take i
  ·simp only [hx,if_true,List.mem_append,true_or,List.idxOf_append]
  ·simp only [hx,if_false,List.mem_append,false_or,List.mem_singleton,List.idxOf_append]
   by_cases hxe:x=e
   ·subst hxe;simp [hl]
   ·simp [hxe]
 ·intro p
  rw [valM_add,h.m1,vS he]
  by_cases hp:500≤p
  ·simp only [hp,if_true,List.getElem?_append,hl]
   by_cases h1:(p-500).toNat<i
   ·simp only [h1,if_true]
    have:(es.take i)[(p-500).toNat]? = some (es.take i)[(p-500).toNat]:=List.getElem?_eq_getElem (by omega)
    rw [this]
   ·have h2:(es.take i)[(p-500).toNat]? = none:=by rw [List.getElem?_eq_none];omega
    simp only [h1,if_false,h2]
    by_cases hpi:p=500+(i:Int)
    ·rw [if_pos hpi,show (p-500).toNat-i=0 by omega];rfl
    ·rw [if_neg hpi,List.getElem?_eq_none (by simp;omega)]
  ·simp only [hp,if_false]
   rw [if_neg (by omega)]
theorem Maps.put {es:List End} {i:Nat} {kv0:List (End × Int)} {kv1:List (Int × End)} {e:End} (h:Maps es (i+1) kv0 kv1) (he:es[i]? = some e):∃ j,findM kv1 (500+(i:Int)) 0=some (j,e)∧kv1[j]? = some (500+(i:Int),e):=by
 have h1:=h.m1 (500+(i:Int))
 rw [if_pos (by omega),show (500+(i:Int)-500).toNat=i by omega,List.getElem?_take,if_pos (by omega),he] at h1
 unfold valM at h1
 rcases hf:findM kv1 (500+(i:Int)) 0 with _ | ⟨j,w⟩
 ·rw [hf] at h1;cases h1
 ·rw [hf] at h1
  simp only [Option.map_some,Option.some.injEq] at h1
  subst h1
  exact ⟨j,rfl,by simpa using (findM_at hf).2⟩
theorem Maps.port {es:List End} {kv0:List (End × Int)} {kv1:List (Int × End)} (h:Maps es es.length kv0 kv1) (e:End):((findM kv0 e 0).map (·.2)).getD 0=portE es e:=by
 have:=h.m0 e
 unfold valM at this
 rw [this,List.take_length]
 unfold portE
 split<;>rfl
theorem Maps.theEnd {es:List End} {kv0:List (End × Int)} {kv1:List (Int × End)} (h:Maps es es.length kv0 kv1) (p:Int):(findM kv1 p 0).map (·.2)=endP es p:=by
 have:=h.m1 p
 unfold valM at this
 rw [this,List.take_length]
 unfold endP;rfl
theorem kvs_same {es:Array MapEntry} {kv:List (Int × End)} {j:Nat} {n:Int} {e:End} (h:kvs es=kv.map fun p=>(int p.1,p.2.v)) (hj:kv[j]? = some (n,e)):kvs (es.modify j fun x=>{x with key:=int n,val:=e.v})=kv.map fun p=>(int p.1,p.2.v):=by
 rw [kvs_modify,h]
 apply List.ext_getElem?
 intro m
 rw [List.getElem?_set]
 by_cases hm:j=m
 ·subst hm
  have hl:=(List.getElem?_eq_some_iff.1 hj).1
  have he:=(List.getElem?_eq_some_iff.1 hj).2
  simp [hl,he]
 ·simp [hm]
theorem W_part {E:Env} {S:St} {K:Value→St→Prop} {t ty ft:TypeId} {fs:Array Field} {f:Field} {x:Operand} {i:Nat} {cs:Array Value} {v:Value} (ht:Tryz.prog.underlying t=some (.struct fs)) (hf:fs[i]? = some f) (hft:f.type=ft) (ha:aggT Tryz.prog ft=some false) (hx:E.ev x=some (.agg cs)) (hv:cs[f.offset]? = some v) (hk:K v S):(SOp.raw (.field t x i) ty).W Tryz.prog E S K:=
 W_field ht hf hx (partF_one (by rw [hft];exact ha) hv) hk
theorem agg98:aggT Tryz.prog 98=some false:=by kernel_rfl
theorem agg99:aggT Tryz.prog 99=some false:=by kernel_rfl
end
section
variable {S0:St} {K:Value→St→Prop}
variable {a hi lo n p:Int} {c:UInt8}
theorem ct70  (k:∀ (t:Bool) S',Ext [] S0 S'→(t=true↔lo≤n∧n≤hi)→K (.bool t) S') :
  zC 70 #[int n,int lo,int hi] S0 K:=by
 refine zGh (sf:=s70) Tryz.func70 fun H=>zR (zn O (zNR (zn O (zn O (za (W_geq O O fun t9 h9=>zn O ?_))))))
 rcases t9 with _|_
 ·replace h9:=bF h9
  refine zH O (zH O (zH O (vp O O O O (zn O (zN (zi (z0 O ?_)))))))
  exact k _ _ H.qx (by first | assumption | (simp;done) | (simp;omega) | (simp_all;done) | (simp_all;omega))
 ·replace h9:=bT h9
  refine zh O (vP O (zh O (vP O (zh O (W_leq O O fun t13 h13=>vp O O O O (zn O (zN (zi (z0 O ?_)))))))))
  exact k _ _ H.qx (by first | assumption | (simp;done) | (simp;omega) | (simp_all;done) | (simp_all;omega))
theorem ct157  (k:∀ (t:Bool) S',Ext [] S0 S'→(t=true↔1≤n∧n≤999)→K (.bool t) S') :
  zC 157 #[int n] S0 K:=by
 refine zGh (sf:=s157) Tryz.func157 fun H=>zR (zn O (zNR (zn O (vM O (ct70  fun t4 S hE h4=>?_)))))
 replace H:=H.call hE
 refine zn O (zN (zi (z0 O ?_)))
 exact k _ _ H.qx (by first | assumption | (simp;done) | (simp;omega) | (simp_all;done) | (simp_all;omega))
theorem ct156  (k:∀ (t:Bool) S',Ext [] S0 S'→(t=true↔1≤n∧n≤9)→K (.bool t) S') :
  zC 156 #[int n] S0 K:=by
 refine zGh (sf:=s156) Tryz.func156 fun H=>zR (zn O (zNR (zn O (vM O (ct70  fun t4 S hE h4=>?_)))))
 replace H:=H.call hE
 refine zn O (zN (zi (z0 O ?_)))
 exact k _ _ H.qx (by first | assumption | (simp;done) | (simp;omega) | (simp_all;done) | (simp_all;omega))
theorem ct173  (k:∀ (t:Bool) S',Ext [] S0 S'→(t=true↔100≤n∧n≤109)→K (.bool t) S') :
  zC 173 #[int n] S0 K:=by
 refine zGh (sf:=s173) Tryz.func173 fun H=>zR (zn O (zNR (zn O (vM O (ct70  fun t4 S hE h4=>?_)))))
 replace H:=H.call hE
 refine zn O (zN (zi (z0 O ?_)))
 exact k _ _ H.qx (by first | assumption | (simp;done) | (simp;omega) | (simp_all;done) | (simp_all;omega))
theorem ct67  (k:∀ (t:Bool) S',Ext [] S0 S'→(t=true↔InE a p)→K (.bool t) S') :
  zC 67 #[.agg #[int a,int p]] S0 K:=by
 refine zGh (sf:=s67) Tryz.func67 fun H=>zR (zBx H O O fun b1 S hb1 hE H=>zn O (zNR (zFa O (zL1 H O .h O (vM O (ct156  fun t5 S hE h5=>?_))))))
 replace H:=H.call hE
 refine zn O ?_
 rcases t5 with _|_
 ·replace h5:=bF h5
  refine zH O (zH O (zH O (vp O O O O (zn O (zN (zi (z0 O ?_)))))))
  exact k _ _ H.qx (by simp only [InE,OutE,OkE] at *;first | assumption | (simp;done) | (simp;omega) | (simp_all;done) | (simp_all;omega))
 ·replace h5:=bT h5
  refine zh O (zz O (zh O (vl H O .h O (zh O (zS O (ct157  fun t9 S hE h9=>?_))))))
  replace H:=H.call hE
  refine vp O O O O (zn O (zN (zi (z0 O ?_))))
  exact k _ _ H.qx (by simp only [InE,OutE,OkE] at *;first | assumption | (simp;done) | (simp;omega) | (simp_all;done) | (simp_all;omega))
theorem ct146  (k:∀ (t:Bool) S',Ext [] S0 S'→(t=true↔OutE a p)→K (.bool t) S') :
  zC 146 #[.agg #[int a,int p]] S0 K:=by
 refine zGh (sf:=s146) Tryz.func146 fun H=>zR (zBx H O O fun b1 S hb1 hE H=>zn O (zNR (zFa O (zL1 H O .h O (vM O (ct173  fun t5 S hE h5=>?_))))))
 replace H:=H.call hE
 refine zn O ?_
 rcases t5 with _|_
 ·replace h5:=bF h5
  refine zH O (zH O (zH O (vp O O O O (zn O (zN (zi (z0 O ?_)))))))
  exact k _ _ H.qx (by simp only [InE,OutE,OkE] at *;first | assumption | (simp;done) | (simp;omega) | (simp_all;done) | (simp_all;omega))
 ·replace h5:=bT h5
  refine zh O (zz O (zh O (vl H O .h O (zh O (zS O (ct157  fun t9 S hE h9=>?_))))))
  replace H:=H.call hE
  refine vp O O O O (zn O (zN (zi (z0 O ?_))))
  exact k _ _ H.qx (by simp only [InE,OutE,OkE] at *;first | assumption | (simp;done) | (simp;omega) | (simp_all;done) | (simp_all;omega))
theorem ct89  (k:∀ (t:Bool) S',Ext [] S0 S'→(t=true↔OkE a p)→K (.bool t) S') :
  zC 89 #[.agg #[int a,int p]] S0 K:=by
 refine zGh (sf:=s89) Tryz.func89 fun H=>zR (zBx H O O fun b1 S hb1 hE H=>zn O (zNR (zFa O (zL1 H O .h O (vM O (ct156  fun t5 S hE h5=>?_))))))
 replace H:=H.call hE
 refine zn O ?_
 rcases t5 with _|_
 ·replace h5:=bF h5
  refine zh O (zz O (zh O (vl H O .h O (zh O (zS O (ct173  fun t9 S hE h9=>?_))))))
  replace H:=H.call hE
  refine vp O O O O (zn O ?_)
  rcases t9 with _|_
  ·replace h9:=bF h9
   refine zh O (zz O (zh O (vl H O .h O (zh O (vT O O fun t14 h14=>vp O O O O (zn O ?_))))))
   rcases t14 with _|_
   ·replace h14:=bF h14
    refine zH O (zH O (zH O (vp O O O O (zn O (zN (zi (z0 O ?_)))))))
    exact k _ _ H.qx (by simp only [InE,OutE,OkE] at *;first | assumption | (simp;done) | (simp;omega) | (simp_all;done) | (simp_all;omega))
   ·replace h14:=bT h14
    refine zh O (zz O (zh O (vl H O .h O (zh O (zS O (ct157  fun t19 S hE h19=>?_))))))
    replace H:=H.call hE
    refine vp O O O O (zn O (zN (zi (z0 O ?_))))
    exact k _ _ H.qx (by simp only [InE,OutE,OkE] at *;first | assumption | (simp;done) | (simp;omega) | (simp_all;done) | (simp_all;omega))
  ·replace h9:=bT h9
   refine zH O (zH O (zH O (vp O O O O (zn O (zh O (zz O (zh O (vl H O .h O (zh O (zS O (ct157  fun t19 S hE h19=>?_)))))))))))
   replace H:=H.call hE
   refine vp O O O O (zn O (zN (zi (z0 O ?_))))
   exact k _ _ H.qx (by simp only [InE,OutE,OkE] at *;first | assumption | (simp;done) | (simp;omega) | (simp_all;done) | (simp_all;omega))
 ·replace h5:=bT h5
  refine zH O (zH O (zH O (vp O O O O (zn O (zH O (zH O (zH O (vp O O O O (zn O (zh O (zz O (zh O (vl H O .h O (zh O (zS O (ct157  fun t19 S hE h19=>?_))))))))))))))))
  replace H:=H.call hE
  refine vp O O O O (zn O (zN (zi (z0 O ?_))))
  exact k _ _ H.qx (by simp only [InE,OutE,OkE] at *;first | assumption | (simp;done) | (simp;omega) | (simp_all;done) | (simp_all;omega))
theorem ct88  (k:∀ (t:Bool) S',Ext [] S0 S'→(t=true↔LineB c)→K (.bool t) S') :
  zC 88 #[.int .u8 c.toNat] S0 K:=by
 refine zGh (sf:=s88) Tryz.func88 fun H=>zR (zn O (zNR (zn O (za (W_geq O O fun t4 h4=>zn O ?_)))))
 rcases t4 with _|_
 ·replace h4:=bF h4
  refine zH O (zH O (vp O O O O (zn O (zh O (vP O (zh O (W_geq O O fun t11 h11=>zh O (vP O ?_))))))))
  rcases t11 with _|_
  ·replace h11:=bF h11
   refine zH O (zH O (zh O (vN O O O O (vp O O O O (zn O (zh O (vP O (zh O (vT O O fun t19 h19=>vp O O O O (zn O (zN (zi (z0 O ?_)))))))))))))
   exact k _ _ H.qx (by unfold LineB;first | (simp;omega) | (simp_all;omega))
  ·replace h11:=bT h11
   refine zh O (vP O (zh O (W_leq O O fun t14 h14=>zh O (vN O O O O (vp O O O O (zn O ?_))))))
   rcases t14 with _|_
   ·replace h14:=bF h14
    refine zh O (vP O (zh O (vT O O fun t19 h19=>vp O O O O (zn O (zN (zi (z0 O ?_)))))))
    exact k _ _ H.qx (by unfold LineB;first | (simp;omega) | (simp_all;omega))
   ·replace h14:=bT h14
    refine zH O (zH O (vp O O O O (zn O (zN (zi (z0 O ?_))))))
    exact k _ _ H.qx (by unfold LineB;first | (simp;omega) | (simp_all;omega))
 ·replace h4:=bT h4
  refine zh O (vP O (zh O (W_leq O O fun t7 h7=>vp O O O O (zn O ?_))))
  rcases t7 with _|_
  ·replace h7:=bF h7
   refine zh O (vP O (zh O (W_geq O O fun t11 h11=>zh O (vP O ?_))))
   rcases t11 with _|_
   ·replace h11:=bF h11
    refine zH O (zH O (zh O (vN O O O O (vp O O O O (zn O (zh O (vP O (zh O (vT O O fun t19 h19=>vp O O O O (zn O (zN (zi (z0 O ?_)))))))))))))
    exact k _ _ H.qx (by unfold LineB;first | (simp;omega) | (simp_all;omega))
   ·replace h11:=bT h11
    refine zh O (vP O (zh O (W_leq O O fun t14 h14=>zh O (vN O O O O (vp O O O O (zn O ?_))))))
    rcases t14 with _|_
    ·replace h14:=bF h14
     refine zh O (vP O (zh O (vT O O fun t19 h19=>vp O O O O (zn O (zN (zi (z0 O ?_)))))))
     exact k _ _ H.qx (by unfold LineB;first | (simp;omega) | (simp_all;omega))
    ·replace h14:=bT h14
     refine zH O (zH O (vp O O O O (zn O (zN (zi (z0 O ?_))))))
     exact k _ _ H.qx (by unfold LineB;first | (simp;omega) | (simp_all;omega))
  ·replace h7:=bT h7
   refine zH O (zH O (zH O (wpI_un O (wpI_un O (zH O (vp O O O O (zn O (zH O (zH O (vp O O O O (zn O (zN (zi (z0 O ?_))))))))))))))
   exact k _ _ H.qx (by unfold LineB;first | (simp;omega) | (simp_all;omega))
theorem ct85  (k:∀ (t:Bool) S',Ext [] S0 S'→(t=true↔lo≤n∧n≤hi)→K (.bool t) S') :
  zC 85 #[int n,int lo,int hi] S0 K:=by
 refine zGh (sf:=s85) Tryz.func85 fun H=>zR (zn O (zNR (zn O (zn O (za (W_geq O O fun t9 h9=>zn O ?_))))))
 rcases t9 with _|_
 ·replace h9:=bF h9
  refine zH O (zH O (zH O (vp O O O O (zn O (zN (zi (z0 O ?_)))))))
  exact k _ _ H.qx (by first | assumption | (simp;done) | (simp;omega) | (simp_all;done) | (simp_all;omega))
 ·replace h9:=bT h9
  refine zh O (vP O (zh O (vP O (zh O (W_leq O O fun t13 h13=>vp O O O O (zn O (zN (zi (z0 O ?_)))))))))
  exact k _ _ H.qx (by first | assumption | (simp;done) | (simp;omega) | (simp_all;done) | (simp_all;omega))
theorem ct90  (k:∀ (t:Bool) S',Ext [] S0 S'→(t=true↔InE a p)→K (.bool t) S') :
  zC 90 #[.agg #[int a,int p]] S0 K:=by
 refine zGh (sf:=s90) Tryz.func90 fun H=>zR (zBx H O O fun b1 S hb1 hE H=>zn O (zNR (zFa O (zL1 H O .h O (vM O (ct85  fun t5 S hE h5=>?_))))))
 replace H:=H.call hE
 refine zn O ?_
 rcases t5 with _|_
 ·replace h5:=bF h5
  refine zH O (zH O (zH O (vp O O O O (zn O (zN (zi (z0 O ?_)))))))
  exact k _ _ H.qx (by simp only [InE,OutE,OkE] at *;first | assumption | (simp;done) | (simp;omega) | (simp_all;done) | (simp_all;omega))
 ·replace h5:=bT h5
  refine zh O (zz O (zh O (vl H O .h O (zh O (zS O (ct85  fun t9 S hE h9=>?_))))))
  replace H:=H.call hE
  refine vp O O O O (zn O (zN (zi (z0 O ?_))))
  exact k _ _ H.qx (by simp only [InE,OutE,OkE] at *;first | assumption | (simp;done) | (simp;omega) | (simp_all;done) | (simp_all;omega))
theorem ct77  (k:∀ (t:Bool) S',Ext [] S0 S'→(t=true↔OutE a p)→K (.bool t) S') :
  zC 77 #[.agg #[int a,int p]] S0 K:=by
 refine zGh (sf:=s77) Tryz.func77 fun H=>zR (zBx H O O fun b1 S hb1 hE H=>zn O (zNR (zFa O (zL1 H O .h O (vM O (ct85  fun t5 S hE h5=>?_))))))
 replace H:=H.call hE
 refine zn O ?_
 rcases t5 with _|_
 ·replace h5:=bF h5
  refine zH O (zH O (zH O (vp O O O O (zn O (zN (zi (z0 O ?_)))))))
  exact k _ _ H.qx (by simp only [InE,OutE,OkE] at *;first | assumption | (simp;done) | (simp;omega) | (simp_all;done) | (simp_all;omega))
 ·replace h5:=bT h5
  refine zh O (zz O (zh O (vl H O .h O (zh O (zS O (ct85  fun t9 S hE h9=>?_))))))
  replace H:=H.call hE
  refine vp O O O O (zn O (zN (zi (z0 O ?_))))
  exact k _ _ H.qx (by simp only [InE,OutE,OkE] at *;first | assumption | (simp;done) | (simp;omega) | (simp_all;done) | (simp_all;omega))
theorem ct84  (k:∀ (t:Bool) S',Ext [] S0 S'→(t=true↔OkE a p)→K (.bool t) S') :
  zC 84 #[.agg #[int a,int p]] S0 K:=by
 refine zGh (sf:=s84) Tryz.func84 fun H=>zR (zBx H O O fun b1 S hb1 hE H=>zn O (zNR (zLn (vs:=[_,_]) H O .h O (vM O (ct90  fun t4 S hE h4=>?_)))))
 replace H:=H.call hE
 refine zn O ?_
 rcases t4 with _|_
 ·replace h4:=bF h4
  refine zh O (vK (vs:=[_,_]) H O .h O (zh O (zS O (ct77  fun t7 S hE h7=>?_))))
  replace H:=H.call hE
  refine vp O O O O (zn O ?_)
  rcases t7 with _|_
  ·replace h7:=bF h7
   refine zh O (zz O (zh O (vl H O .h O (zh O (vT O O fun t12 h12=>zh O (vP O ?_))))))
   rcases t12 with _|_
   ·replace h12:=bF h12
    refine zH O (zH O (zH O (zh O (vN O O O O (vp O O O O (zn O (zN (zi (z0 O ?_)))))))))
    exact k _ _ H.qx (by simp only [InE,OutE,OkE] at *;first | assumption | (simp;done) | (simp;omega) | (simp_all;done) | (simp_all;omega))
   ·replace h12:=bT h12
    refine zh O (zz O (zh O (vl H O .h O (zh O (zS O (ct85  fun t16 S hE h16=>?_))))))
    replace H:=H.call hE
    refine zh O (vN O O O O (vp O O O O (zn O (zN (zi (z0 O ?_))))))
    exact k _ _ H.qx (by simp only [InE,OutE,OkE] at *;first | assumption | (simp;done) | (simp;omega) | (simp_all;done) | (simp_all;omega))
  ·replace h7:=bT h7
   refine zH O (zH O (zH O (zH O (wpI_un O (wpI_un O (wpI_un O (zH O (vp O O O O (zn O (zN (zi (z0 O ?_))))))))))))
   exact k _ _ H.qx (by simp only [InE,OutE,OkE] at *;first | assumption | (simp;done) | (simp;omega) | (simp_all;done) | (simp_all;omega))
 ·replace h4:=bT h4
  refine zH O (zH O (vp O O O O (zn O (zH O (zH O (zH O (zH O (wpI_un O (wpI_un O (wpI_un O (zH O (vp O O O O (zn O (zN (zi (z0 O ?_))))))))))))))))
  exact k _ _ H.qx (by simp only [InE,OutE,OkE] at *;first | assumption | (simp;done) | (simp;omega) | (simp_all;done) | (simp_all;omega))
theorem ct86  (k:∀ (t:Bool) S',Ext [] S0 S'→(t=true↔LineB c)→K (.bool t) S') :
  zC 86 #[.int .u8 c.toNat] S0 K:=by
 refine zGh (sf:=s86) Tryz.func86 fun H=>zR (zn O (zNR (zn O (za (W_geq O O fun t4 h4=>zn O ?_)))))
 rcases t4 with _|_
 ·replace h4:=bF h4
  refine zH O (zH O (vp O O O O (zn O (zh O (vP O (zh O (W_geq O O fun t11 h11=>zh O (vP O ?_))))))))
  rcases t11 with _|_
  ·replace h11:=bF h11
   refine zH O (zH O (zh O (vN O O O O (vp O O O O (zn O (zh O (vP O (zh O (vT O O fun t19 h19=>vp O O O O (zn O (zN (zi (z0 O ?_)))))))))))))
   exact k _ _ H.qx (by unfold LineB;first | (simp;omega) | (simp_all;omega))
  ·replace h11:=bT h11
   refine zh O (vP O (zh O (W_leq O O fun t14 h14=>zh O (vN O O O O (vp O O O O (zn O ?_))))))
   rcases t14 with _|_
   ·replace h14:=bF h14
    refine zh O (vP O (zh O (vT O O fun t19 h19=>vp O O O O (zn O (zN (zi (z0 O ?_)))))))
    exact k _ _ H.qx (by unfold LineB;first | (simp;omega) | (simp_all;omega))
   ·replace h14:=bT h14
    refine zH O (zH O (vp O O O O (zn O (zN (zi (z0 O ?_))))))
    exact k _ _ H.qx (by unfold LineB;first | (simp;omega) | (simp_all;omega))
 ·replace h4:=bT h4
  refine zh O (vP O (zh O (W_leq O O fun t7 h7=>vp O O O O (zn O ?_))))
  rcases t7 with _|_
  ·replace h7:=bF h7
   refine zh O (vP O (zh O (W_geq O O fun t11 h11=>zh O (vP O ?_))))
   rcases t11 with _|_
   ·replace h11:=bF h11
    refine zH O (zH O (zh O (vN O O O O (vp O O O O (zn O (zh O (vP O (zh O (vT O O fun t19 h19=>vp O O O O (zn O (zN (zi (z0 O ?_)))))))))))))
    exact k _ _ H.qx (by unfold LineB;first | (simp;omega) | (simp_all;omega))
   ·replace h11:=bT h11
    refine zh O (vP O (zh O (W_leq O O fun t14 h14=>zh O (vN O O O O (vp O O O O (zn O ?_))))))
    rcases t14 with _|_
    ·replace h14:=bF h14
     refine zh O (vP O (zh O (vT O O fun t19 h19=>vp O O O O (zn O (zN (zi (z0 O ?_)))))))
     exact k _ _ H.qx (by unfold LineB;first | (simp;omega) | (simp_all;omega))
    ·replace h14:=bT h14
     refine zH O (zH O (vp O O O O (zn O (zN (zi (z0 O ?_))))))
     exact k _ _ H.qx (by unfold LineB;first | (simp;omega) | (simp_all;omega))
  ·replace h7:=bT h7
   refine zH O (zH O (zH O (wpI_un O (wpI_un O (zH O (vp O O O O (zn O (zH O (zH O (vp O O O O (zn O (zN (zi (z0 O ?_))))))))))))))
   exact k _ _ H.qx (by unfold LineB;first | (simp;omega) | (simp_all;omega))
end
section
variable {S0:St} {K:Value→St→Prop}
variable {l:Bs}
theorem ct60 (hl:l.length≤1099511627776) (k:∀ (t:Bool) S',Ext [] S0 S'→(t=true↔LinP l)→K (.bool t) S') :
  zC 60 #[str l] S0 K:=by
 refine zGh (sf:=s60) Tryz.func60 fun H=>zR (zn O (zN (zSS (zn O (za (W_strBytes H O fun b6 cap6 S hc6 hb6 hE H=>zLl O (zn O (zN (zJ ?_)))))))))
 refine vr (fun E S m_=>∃ (i:Nat),E=Env.lst [(0,str l),(6,sl b6 0 l.length cap6),(7,int l.length),(8,int i)]∧Loc [] S0 S [(b6,BytesO l cap6 5)]∧(i≤l.length)∧(∀ c∈l.take i,LineB c)∧m_=l.length-i) ?_ ?_
 ·skip
  refine ⟨_,_,?le,0,O,H,(by omega),(by simp),O⟩
  case le=>exact Env.qle ⟨O,O,O,O,⟨⟩⟩
 ·skip
  rintro _ S _ ⟨i,rfl,H,hi,hp,rfl⟩
  refine zR (za (vU O O fun t9 h9=>zN (zK ?_)))
  rcases t9 with _|_
  ·replace h9:=bF h9
   refine zr O (vq (zX (zX (vE (ze (zR (zn O (za (vF O (za (W_leq O O fun t18 h18=>zn O (zN (zi (z0 O ?_))))))))))))))
   rw [show i=l.length by omega,List.take_length] at hp
   exact k _ _ H.qx (h18.trans ⟨fun h=>⟨hp,by omega⟩,fun h=>by have:=h.2;omega⟩)
  ·replace h9:=bT h9
   obtain ⟨c,hc⟩:∃ c,l[i]? = some c:=⟨l[i]'(by omega),by simp⟩
   refine zj O (zv (ze (zK (zJ (zR (zIa O O (za (zE O (H.byteAt .h hc) (zn O (zNR (zn O (vM O (ct88  fun t13 S hE h13=>?_)))))))))))))
   replace H:=H.call hE
   refine zNt O (zN ?_)
   rcases t13 with _|_
   ·replace h13:=bF h13
    refine zj O (zR (zn O (zN (zi (ve (zw (zw (ve (zw (z0 O ?_))))))))))
    exact k _ _ H.qx ⟨nofun,fun h=>absurd (h.1 c (List.mem_of_getElem? hc)) h13⟩
   ·replace h13:=bT h13
    refine zr O (zv (z5 (ze (zL (zAd O O (zn O (zN ?_)))))))
    refine ⟨_,_,?lt,?le,(i+1),O,H,(by omega),(mem_take_succ hc hp h13),O⟩
    case lt=>omega
    case le=>exact Env.qle ⟨O,O,O,O,⟨⟩⟩
theorem ct73 (hl:l.length≤1099511627776) (k:∀ (t:Bool) S',Ext [] S0 S'→(t=true↔LinP l)→K (.bool t) S') :
  zC 73 #[str l] S0 K:=by
 refine zGh (sf:=s73) Tryz.func73 fun H=>zR (zn O (zN (zSS (zn O (za (vF O (za (W_gtr O O fun t6 h6=>zN ?_))))))))
 rcases t6 with _|_
 ·replace h6:=bF h6
  refine zr O (zv (ze (zSS (zn O (zN (zJ ?_))))))
  refine vr (fun E S m_=>∃ (i:Nat),E=Env.lst [(0,str l),(3,int i)]∧Loc [] S0 S []∧(i≤l.length)∧(∀ c∈l.take i,LineB c)∧m_=l.length-i) ?_ ?_
  ·skip
   refine ⟨_,_,?le,0,O,H,(by omega),(by simp),O⟩
   case le=>exact Env.qle ⟨O,O,⟨⟩⟩
  ·skip
   rintro _ S _ ⟨i,rfl,H,hi,hp,rfl⟩
   refine zSS (zn O (zn O (za (vF O (za (vU O O fun t10 h10=>zN ?_))))))
   rcases t10 with _|_
   ·replace h10:=bF h10
    refine zr O (vq (zX (zX (vE (ze (zR (zn O (zN (zi (z0 O ?_))))))))))
    rw [show i=l.length by omega,List.take_length] at hp
    exact k _ _ H.qx ⟨fun _=>⟨hp,by omega⟩,fun _=>rfl⟩
   ·replace h10:=bT h10
    obtain ⟨c,hc⟩:∃ c,l[i]? = some c:=⟨l[i]'(by omega),by simp⟩
    refine zj O (zv (ze (zK (zJ (zR (zn O (zn O (za (W_idxT O O (by omega) hc (vM O (ct86  fun t16 S hE h16=>?_)))))))))))
    replace H:=H.call hE
    refine zNt O (zN ?_)
    rcases t16 with _|_
    ·replace h16:=bF h16
     refine zj O (zR (zn O (zN (zi (ve (zw (zw (ve (zw (z0 O ?_))))))))))
     exact k _ _ H.qx ⟨nofun,fun h=>absurd (h.1 c (List.mem_of_getElem? hc)) h16⟩
    ·replace h16:=bT h16
     refine zr O (zv (z5 (ze (zL (zn O (zAd O O (zn O (zN ?_))))))))
     refine ⟨_,_,?lt,?le,(i+1),O,H,(by omega),(mem_take_succ hc hp h16),O⟩
     case lt=>omega
     case le=>exact Env.qle ⟨O,O,⟨⟩⟩
 ·replace h6:=bT h6
  refine zj O (zR (zn O (zN (zi (zw (z0 O ?_))))))
  exact k _ _ H.qx ⟨nofun,fun h=>by have:=h.2;omega⟩
theorem ct72 (hl:l.length≤2199023255552) (k:∀ b cap S',Ext [] S0 S'→(S0 b=none)→(OwnB S' b 9 1 cap (strRows (zu l).1))→K (.tuple #[sl b 0 (zu l).1.length cap,str (zu l).2]) S') :
  zC 72 #[str l] S0 K:=by
 refine zGh (sf:=s72) Tryz.func72 fun H=>zR (zn O (zn O (zNR (za (zM (cs:=[]) H O O fun b7 S hb7 hE H=>zn O (zNR (zn O (zN (zSS (zn O (zN (zJ ?_))))))))))))
 refine vr (fun E S m_=>∃ (i:Nat) (fr:Nat) (ls:List Bs) (b4:Nat) (cap4:Nat) (cs4:List Value),E=Env.lst [(0,str l),(4,sl b4 0 ls.length cap4),(5,int fr),(6,int i)]∧Loc [] S0 S [(b4,Cs cs4 9)]∧(i≤l.length)∧(fr≤i)∧(ls.length≤cap4)∧(cs4.length=cap4*1)∧(cs4.take (ls.length*1)=ls.map str)∧(zu (l.take i)=(ls,(l.take i).drop fr))∧(ls.length≤i)∧m_=l.length-i) ?_ ?_
 ·skip
  refine ⟨_,_,?le,0,0,[],b7,0,[],O,H,(by omega),(by omega),(by simp),(by simp),(by simp),(by simp [zu,spl]),(by simp),O⟩
  case le=>exact Env.qle ⟨O,O,O,O,⟨⟩⟩
 ·skip
  rintro _ S _ ⟨i,fr,ls,b4,cap4,cs4,rfl,H,hi,hfr,hn,hcl,hct,hs,hln,rfl⟩
  refine zSS (zn O (zn O (za (vF O (za (vU O O fun t11 h11=>zN ?_))))))
  rcases t11 with _|_
  ·replace h11:=bF h11
   refine zr O (vq (zX (zX (vE (ze (zK (z9 [] (vH 0 O O O (vH 1 O O O (vH 2 O O O (vJ 3 O O (fun _ _ hK=>W_slSlo O O (by omega) (by omega) hK) (vH 4 O O O (vH 5 O O O (zV (ze (zi (⟨trivial,_,(zZ O (zZ O zO)),?_⟩)))))))))))))))))
   rw [show i=l.length by omega,List.take_length] at hs
   have e1:ls=(zu l).1:=by rw [hs]
   have e2:l.drop (fr:Int).toNat=(zu l).2:=by rw [hs];rfl
   rw [e2];subst e1
   exact k _ _ _ H.qx (H.new1 .h) ⟨_,H.get .h,by simpa using hn,hcl,by rw [strRows_flat];simpa using hct,strRows_one⟩
  ·replace h11:=bT h11
   obtain ⟨c,hc⟩:∃ c,l[i]? = some c:=⟨l[i]'(by omega),by simp⟩
   have hsn:=strLines_snoc (l.take i) c
   rw [← vS hc,hs] at hsn
   refine zj O (zv (ze (zK (zJ (zR (zn O (zn O (za (W_idxT O O (by omega) hc (za (vT O O fun t17 h17=>zN ?_)))))))))))
   rcases t17 with _|_
   ·replace h17:=bF h17
    refine zr O (zv (z5 (ze (zL (zn O (zAd O O (zn O (zN ?_))))))))
    rw [if_neg (by rintro rfl;exact h17 rfl)] at hsn
    refine ⟨_,_,?lt,?le,(i+1),fr,ls,b4,cap4,cs4,O,H,(by omega),(by omega),hn,hcl,hct,?_,(by omega),O⟩
    case lt=>omega
    case le=>exact Env.qle ⟨O,O,O,O,⟨⟩⟩
    rw [hsn,vS hc,List.drop_append_of_le_length (by simp;omega)]
   ·replace h17:=bT h17
    refine zj O (zR (zn O (zn O (zn O (zn O (za (W_slS O O O (by omega) (by omega) (by omega) (za (zM (cs:=[_]) H O O fun b23 S hb23 hE H=>za (W_append H O O .h1 hcl hn (Src.own H .h O) (by simp [vV]) O (by decide) (by omega) O fun b24 cap24 cs24 S hb24 H hE hn24 hcl24 hct24=>zn O (zN (zL (zn O (zAd O O (zn O (vi (z5 (ze (zL (zn O (zAd O O (zn O (zN ?_)))))))))))))))))))))))
    have hc59:c=59:=UInt8.toNat_inj.1 (by have:(c.toNat:Int)=59:=h17;show c.toNat=59;omega)
    subst hc59
    rw [if_pos rfl] at hsn
    refine ⟨_,_,?lt,?le,(i+1),(i+1),(ls++[(l.take i).drop fr]),b24,cap24,cs24,O,(H.sub (.cons_cons _ (.cons _ .slnil))),(by omega),(by omega),(by simpa using hn24),hcl24,?_,?_,(by simp;omega),O⟩
    case lt=>omega
    case le=>exact Env.qle ⟨rfl,(by rw [List.length_append];rfl),rfl,rfl,trivial⟩
    ·rw [List.length_append,List.map_append,← hct]
     exact hct24.trans (by rw [show (l.drop (fr:Int).toNat).take ((i:Int).toNat-(fr:Int).toNat)=(l.take i).drop fr from (List.drop_take ..).symm];rfl)
    ·rw [hsn];simp
end
section
variable {S0:St} {K:Value→St→Prop}
variable {l p:Bs} {c:UInt8}
theorem ct227  (k:∀  S',Ext [] S0 S'→K (int (idx1 l c)) S') :
  zC 227 #[str l,byt c] S0 K:=by
 refine zGh (sf:=s227) Tryz.func227 fun H=>zR (zn O (zNR (zn O (zn O (za (W_x237 O O (zn O (zN (zi (z0 O ?_))))))))))
 exact k _ H.qx
theorem ct217  (k:∀  S',Ext [] S0 S'→K (int (idx1 l c)) S') :
  zC 217 #[str l,str [c]] S0 K:=by
 refine zGh (sf:=s217) Tryz.func217 fun H=>zR (zn O (zNR (zn O (za (vF O (zn O (zN (zK (zJ (zR (zn O (za (vT O O fun t18 h18=>zn O ?_)))))))))))))
 rcases t18 with _|_
 ·replace h18:=bF h18
  refine zh O (vP O (zh O (vP O (zh O (W_eqS O O fun t22 h22=>vp O O O O (zn O (zN ?_)))))))
  rcases t22 with _|_
  ·replace h22:=bF h22
   refine zr O (zR (zn O (za (vT O O fun t26 h26=>zn O (zN ?_)))))
   rcases t26 with _|_
   ·replace h26:=bF h26
    exact absurd rfl h26
   ·replace h26:=bT h26
    refine zj O (zR (zn O (zn O (za (W_idxT O O (by omega) O (vM O (ct227  fun S hE =>?_)))))))
    replace H:=H.call hE
    refine zn O (zN (zi (ve (zw (z0 O ?_)))))
    exact k _ H.qx
  ·replace h22:=bT h22
   refine zj O (zR (zn O (zN (zi (ve (zw (z0 O ?_)))))))
   subst h22
   rw [show idx1 [c] c=0 by simp [idx1]] at k
   exact k _ H.qx
 ·replace h18:=bT h18
  exact absurd h18 (by simp)
theorem ct218 (hl:l.length≤1099511627776) (k:∀ (t:Bool) S',Ext [] S0 S'→(t=true↔c∈l)→K (.tuple #[str (bef l c),str (aft l c),.bool t]) S') :
  zC 218 #[str l,str [c]] S0 K:=by
 refine zGh (sf:=s218) Tryz.func218 fun H=>zR (zn O (zn O (zn O (zN (zSS (zn O (zn O (vM O (ct217  fun S hE =>?_)))))))))
 replace H:=H.call hE
 refine zn O (zNR (zn O (za (W_geq O O fun t12 h12=>zN ?_))))
 rcases t12 with _|_
 ·replace h12:=bF h12
  obtain ⟨hm,h1,h2⟩:=idx1_neg h12
  refine zr O (zv (ze (zR (zn O (zn O (zn O (zn O (zN (zi (⟨trivial,_,(zZ O (zZ O (zZ O zO))),?_⟩))))))))))
  rw [h1,h2] at k
  exact k false _ H.qx ⟨nofun,fun h=>absurd h hm⟩
 ·replace h12:=bT h12
  obtain ⟨hm,hi,hlt⟩:=idx1_pos h12
  simp only [hi]
  have hc1:[c].length=1:=rfl
  refine zj O (zK (z9 [] (vH 0 O O O (vH 1 O O O (vJ 2 O O (fun _ _ hK=>W_slShi O O (by omega) (by omega) hK) (vH 3 O O O (vH 4 O O O (vH 5 O O O (vJ 6 O O (fun _ _ hK=>vF O hK) (vJ 7 O O (fun _ _ hK=>W_add O O (by omega) (by omega) hK) (vJ 8 O O (fun _ _ hK=>W_slSlo O O (by omega) (by omega) hK) (vH 9 O O O (vH 10 O O O (vH 11 O O O (zV (ze (zi (zw (⟨trivial,_,(zZ O (zZ O (zZ O zO))),?_⟩)))))))))))))))))))
  exact k true _ H.qx ⟨fun _=>hm,fun _=>rfl⟩
theorem ct180 (hl:l.length≤1099511627776) (k:∀ (t:Bool) S',Ext [] S0 S'→(t=true↔c∈l)→K (.tuple #[str (bef l c),str (aft l c),.bool t]) S') :
  zC 180 #[str l,str [c]] S0 K:=by
 refine zGh (sf:=s180) Tryz.func180 fun H=>zR (zn O (zn O (zn O (zNR (zn O (zn O (vM O (ct218 (by omega) fun t9 S hE h9=>?_))))))))
 replace H:=H.call hE
 refine zEx O O (zEx O O (zEx O O (zn O (zn O (zn O (zN (zi (⟨trivial,_,(zZ O (zZ O (zZ O zO))),?_⟩))))))))
 exact k t9 _ H.qx h9
theorem ct95  (k:∀  S',Ext [] S0 S'→K (int (l.count c:Nat)) S') :
  zC 95 #[str l,str [c]] S0 K:=by
 refine zGh (sf:=s95) Tryz.func95 fun H=>zR (zn O (zN (zSS (zn O (za (vF O (za (vT O O fun t9 h9=>zN ?_))))))))
 rcases t9 with _|_
 ·replace h9:=bF h9
  refine zr O (zv (ze (zSS (zn O (za (vF O (za (vT O O fun t15 h15=>zN ?_))))))))
  rcases t15 with _|_
  ·replace h15:=bF h15
   exact absurd rfl h15
  ·replace h15:=bT h15
   refine zj O (zR (zn O (zn O (za (W_idxT O O (by omega) O (za (W_x177 O O (zn O (zN (zi (zw (z0 O ?_))))))))))))
   exact k _ H.qx
 ·replace h9:=bT h9
  exact absurd h9 (by simp)
theorem ct181 (hl:l.length≤1099511627776) (k:∀ (r:Int) S',Ext [] S0 S'→(LastI l c r)→K (int r) S') :
  zC 181 #[str l,byt c] S0 K:=by
 refine zGh (sf:=s181) Tryz.func181 fun H=>zR (zn O (zN (zSS (zn O (za (vF O (zSb O O (zn O (zN (zJ ?_))))))))))
 refine vr (fun E S m_=>∃ (n:Nat),E=Env.lst [(0,str l),(1,byt c),(5,int (n-1))]∧Loc [] S0 S []∧(n≤l.length)∧(c∉l.drop n)∧m_=2*n) ?_ ?_
 ·skip
  refine ⟨_,_,?le,l.length,O,H,(by omega),(by simp),O⟩
  case le=>exact Env.qle ⟨O,O,O,⟨⟩⟩
 ·skip
  rintro _ S _ ⟨n,rfl,H,hn,hp,rfl⟩
  refine zSS (zn O (za (W_geq O O fun t10 h10=>zN ?_)))
  rcases t10 with _|_
  ·replace h10:=bF h10
   refine zr O (vq (zX (zX (vE (ze (zR (zn O (zN (zi (z0 O ?_))))))))))
   obtain rfl:n=0:=by omega
   exact k _ _ H.qx (.inl ⟨rfl,by simpa using hp⟩)
  ·replace h10:=bT h10
   obtain ⟨x,hc⟩:∃ x,l[((n:Int)-1).toNat]? = some x:=⟨l[((n:Int)-1).toNat]'(by omega),by simp⟩
   refine zj O (zv (ze (zK (zJ (zR (zn O (zn O (za (W_idxT O O (by omega) hc (zn O (za (vT O O fun t17 h17=>zN ?_))))))))))))
   rcases t17 with _|_
   ·replace h17:=bF h17
    refine zr O (zv (z5 (ze (zL (zn O (zSb O O (zn O (zN ?_))))))))
    obtain ⟨m,rfl⟩:∃ m,n=m+1:=⟨n-1,by omega⟩
    have hm:(((m+1:Nat):Int)-1)=(m:Int):=by omega
    rw [hm] at hc
    refine ⟨_,_,?lt,?le,m,O,H,(by omega),(by
     have hx:l[m]? = some x:=hc
     obtain ⟨hml,hxe⟩:=List.getElem?_eq_some_iff.1 hx
     rw [List.drop_eq_getElem_cons hml,hxe]
     simp only [List.mem_cons,not_or]
     exact ⟨fun e=>h17 (by rw [e]),hp⟩),rfl⟩
    case lt=>omega
    case le=>exact Env.qle ⟨rfl,rfl,(by show some (int (((m+1:Nat):Int)-1-1))=_;rw [hm]),trivial⟩
   ·replace h17:=bT h17
    refine zj O (zR (zn O (zn O (zN (zi (ve (zw (zw (ve (zw (z0 O ?_)))))))))))
    have hx:x=c:=UInt8.toNat_inj.1 (by omega)
    subst hx
    exact k _ _ H.qx (.inr ⟨n-1,by omega,by rw [← hc];congr 1;omega,by rw [show n-1+1=n by omega];exact hp⟩)
theorem ct97 (hl:l.length≤1099511627776) (k:∀ (r:Int) S',Ext [] S0 S'→(LastI l c r)→K (int r) S') :
  zC 97 #[str l,str [c]] S0 K:=by
 refine zGh (sf:=s97) Tryz.func97 fun H=>zR (zn O (zNR (zn O (za (vF O (zn O (zN (zK (zJ (zR (zn O (za (vT O O fun t10 h10=>zn O (zN ?_))))))))))))))
 rcases t10 with _|_
 ·replace h10:=bF h10
  refine zr O (zR (zn O (za (vT O O fun t15 h15=>zn O (zN ?_)))))
  rcases t15 with _|_
  ·replace h15:=bF h15
   exact absurd rfl h15
  ·replace h15:=bT h15
   refine zj O (zR (zn O (zn O (za (W_idxT O O (by omega) O (vM O (ct181 (by omega) fun r19 S hE h19=>?_)))))))
   replace H:=H.call hE
   refine zn O (zN (zi (ve (zw (z0 O ?_)))))
   exact k _ _ H.qx h19
 ·replace h10:=bT h10
  exact absurd h10 (by simp)
theorem ct245  (k:∀ (t:Bool) S',Ext [] S0 S'→(t=true↔p <+: l)→K (.bool t) S') :
  zC 245 #[str l,str p] S0 K:=by
 refine zGh (sf:=s245) Tryz.func245 fun H=>zR (zn O (zNR (zn O (za (vF O (zn O (za (vF O (za (W_geq O O fun t9 h9=>zn O ?_))))))))))
 rcases t9 with _|_
 ·replace h9:=bF h9
  refine zH O (zH O (zH O (zH O (zH O (zH O (vp O O O O (zn O (zN (zi (z0 O ?_))))))))))
  exact k _ _ H.qx ⟨nofun,fun h=>absurd h.length_le (by omega)⟩
 ·replace h9:=bT h9
  refine zh O (vP O (zh O (vP O (zh O (vF O (zh O (W_slShi O O (by omega) (by omega) (zh O (vP O (zh O (W_eqS O O fun t16 h16=>vp O O O O (zn O (zN (zi (z0 O ?_)))))))))))))))
  exact k _ _ H.qx (h16.trans ⟨fun h=>by rw [List.prefix_iff_eq_take];exact h.symm,fun h=>(List.prefix_iff_eq_take.1 h).symm⟩)
theorem ct239  (k:∀ (t:Bool) S',Ext [] S0 S'→(t=true↔p <+: l)→K (.tuple #[str (bif t then l.drop p.length else l),.bool t]) S') :
  zC 239 #[str l,str p] S0 K:=by
 refine zGh (sf:=s239) Tryz.func239 fun H=>zR (zn O (zn O (zN (zSS (zn O (zn O (vM O (ct245  fun t8 S hE h8=>?_))))))))
 replace H:=H.call hE
 refine zNt O (zN ?_)
 rcases t8 with _|_
 ·replace h8:=bF h8
  refine zj O (zR (zn O (zn O (zn O (zN (zi (zw (⟨trivial,_,(zZ O (zZ O zO)),?_⟩))))))))
  exact k false _ H.qx ⟨nofun,fun h=>absurd h h8⟩
 ·replace h8:=bT h8
  have hle:=(h8:p <+: l).length_le
  refine zr O (zv (ze (zR (zn O (zn O (za (vF O (za (W_slSlo O O (by omega) (by omega) (zn O (zn O (zN (zi (⟨trivial,_,(zZ O (zZ O zO)),?_⟩))))))))))))))
  exact k true _ H.qx ⟨fun _=>h8,fun _=>rfl⟩
theorem ct231  (k:∀ (t:Bool) S',Ext [] S0 S'→(t=true↔p <+: l)→K (.tuple #[str (bif t then l.drop p.length else l),.bool t]) S') :
  zC 231 #[str l,str p] S0 K:=by
 refine zGh (sf:=s231) Tryz.func231 fun H=>zR (zn O (zn O (zNR (zn O (zn O (vM O (ct239  fun t8 S hE h8=>?_)))))))
 replace H:=H.call hE
 refine zEx O O (zEx O O (zn O (zn O (zN (zi (⟨trivial,_,(zZ O (zZ O zO)),?_⟩))))))
 exact k _ _ H.qx h8
end
section
variable {S0:St} {K:Value→St→Prop}
variable {l:Bs}
theorem ct244 {n:Nat} (hn:n≤1099511627776) (k:∀  S',Ext [] S0 S'→K (str (dig n)) S') :
  zC 244 #[int n] S0 K:=by
 refine zGh (sf:=s244) Tryz.func244 fun H=>?_
 obtain ⟨n0,hn0⟩:∃ n0,n=n0:=⟨n,rfl⟩
 have hn1:n0≤1099511627776:=by omega
 rw [show dig n=dig n0 by rw [hn0]] at k
 refine zR (zn O (zNR (zn O (zN (zK (zJ ?_))))))
 refine vr (fun E S m_=>∃ (n:Nat) (o:Bs),E=Env.lst [(0,int n),(3,str o)]∧Loc [] S0 S []∧(n≤1099511627776)∧(dig n0=dig n++o)∧(o.length+n≤n0)∧m_=2*n) ?_ ?_
 ·skip
  refine ⟨_,_,?le,n,[],O,H,hn,(by simp [hn0]),(by simp [hn0]),O⟩
  case le=>exact Env.qle ⟨O,O,⟨⟩⟩
 ·skip
  rintro _ S _ ⟨n,o,rfl,H,hn,ho,hol,rfl⟩
  refine zSS (zn O (za (W_gtr O O fun t5 h5=>zN ?_)))
  rcases t5 with _|_
  ·replace h5:=bF h5
   refine zr O (vq (zX (zX (vE (ze (zR (zn O (zAd O O (za (W_conv (m:=((dg n).toNat:Nat)) O (by rw [dg_nat (by omega),wrapu8_in (by omega) (by omega)];omega) (za (zM (cs:=[_]) H O O fun b19 S hb19 hE H=>za (W_bytesStr (l:=[dg n]) O (H.cells .h O) (zn O (za (W_catS (l:=[dg n]) O O (by simp;omega) (zn O (zN (zi (z0 O ?_))))))))))))))))))))
   rw [ho,dig_lt (by omega)] at k
   exact k _ H.qx
  ·replace h5:=bT h5
   refine zj O (zv (ze (zJ (zR (zn O (za (W_rem (m:=10) O O (by decide) (zAd O O (za (W_conv (m:=((dg (n % 10)).toNat:Nat)) O (by rw [dg_nat (by omega),wrapu8_in (by omega) (by omega)];omega) (za (zM (cs:=[_]) H O O fun b10 S hb10 hE H=>za (W_bytesStr (l:=[dg (n % 10)]) O (H.cells .h O) (zn O (za (W_catS (l:=[dg (n % 10)]) O O (by simp;omega) (zn O (zN (zL (zn O (za (W_quo (m:=10) O O (by decide) (by omega) (zn O (vi (z5 (ze ?_))))))))))))))))))))))))))
   refine ⟨_,_,?lt,?le,(n / 10),(dg (n % 10)::o),O,(H.sub (.cons _ .slnil)),(by omega),(by rw [ho,dig_ge (by omega)];simp),(by simp;omega),O⟩
   case lt=>omega
   case le=>exact Env.qle ⟨O,O,⟨⟩⟩
theorem ct243  (k:∀ (r:Int) S',Ext [] S0 S'→(NumP l r)→K (int r) S') :
  zC 243 #[str l] S0 K:=by
 refine zGh (sf:=s243) Tryz.func243 fun H=>zR (zn O (zN (zSS (zn O (za (vF O (za (vT O O fun t7 h7=>zn O ?_))))))))
 rcases t7 with _|_
 ·replace h7:=bF h7
  refine zh O (vP O (zh O (vF O (zh O (W_gtr O O fun t11 h11=>vp O O O O (zN ?_))))))
  rcases t11 with _|_
  ·replace h11:=bF h11
   refine zr O (zv (ze (zR (zn O (zN (zSS (zn O (zN (zJ ?_)))))))))
   refine vr (fun E S m_=>∃ (i:Nat) (v:Nat),E=Env.lst [(0,str l),(3,int v),(4,int i)]∧Loc [] S0 S []∧(i≤l.length)∧(v=vD (l.take i))∧(v<10 ^ i)∧(∀ c∈l.take i,48≤c.toNat∧c.toNat≤57)∧m_=l.length-i) ?_ ?_
   ·skip
    refine ⟨_,_,?le,0,0,O,H,(by omega),(by simp [vD]),(by simp),(by simp),O⟩
    case le=>exact Env.qle ⟨O,O,O,⟨⟩⟩
   ·skip
    rintro _ S _ ⟨i,v,rfl,H,hi,hv,hb,hd,rfl⟩
    refine zSS (zn O (zn O (za (vF O (za (vU O O fun t16 h16=>zN ?_))))))
    rcases t16 with _|_
    ·replace h16:=bF h16
     obtain rfl:i=l.length:=by omega
     rw [List.take_length] at hv
     have hv4:v<10000:=Nat.lt_of_lt_of_le hb (Nat.pow_le_pow_right (n:=10) (by decide) (show l.length≤4 by omega))
     refine zr O (vq (zX (zX (vE (ze (zSS (zn O (vM O (ct244 (by omega) fun S hE =>?_)))))))))
     replace H:=H.call hE
     refine zn O (za (W_neS O O fun t40 h40=>zN ?_))
     rcases t40 with _|_
     ·replace h40:=bF h40
      refine zr O (zv (ze (zR (zn O (zn O (zN (zi (z0 O ?_))))))))
      exact k _ _ H.qx (.inl ⟨v,by omega,(Classical.not_not.1 h40).symm,rfl⟩)
     ·replace h40:=bT h40
      refine zj O (zR (zn O (zN (zi (zw (z0 O ?_))))))
      exact k _ _ H.qx (.inr ⟨fun n hn e=>h40 (by rw [hv,e,vD_dig]),rfl⟩)
    ·replace h16:=bT h16
     obtain ⟨c,hc⟩:∃ c,l[i]? = some c:=⟨l[i]'(by omega),by simp⟩
     have hv4:v<10000:=Nat.lt_of_lt_of_le hb (Nat.pow_le_pow_right (n:=10) (by decide) (show i≤4 by omega))
     have hc8:=UInt8.toNat_lt c
     refine zj O (zv (ze (zK (zJ (zSS (zn O (zn O (za (W_idxT O O (by omega) hc (za (vU O O fun t22 h22=>zn O ?_)))))))))))
     rcases t22 with _|_
     ·replace h22:=bF h22
      refine zh O (vP O (zh O (vP O (zh O (W_idxT O O (by omega) hc (zh O (W_gtr O O fun t27 h27=>vp O O O O (zN ?_))))))))
      rcases t27 with _|_
      ·replace h27:=bF h27
       refine zr O (zv (ze (zL (zn O (za (W_mul O O (by omega) (by omega) (zn O (zn O (za (W_idxT O O (by omega) hc (za (W_subu8 O O (by omega) (by omega) (za (W_conv O (wrap64_in (by omega) (by omega)) (zAd O O (zn O (vi (z5 (ze (zL (zn O (zAd O O (zn O (zN ?_))))))))))))))))))))))))
       refine ⟨_,_,?lt,?le,(i+1),(v*10+(c.toNat-48)),O,H,(by omega),(by rw [vS hc,vD_snoc,hv]),(by rw [Nat.pow_succ];omega),(mem_take_succ hc hd ⟨by omega,by omega⟩),O⟩
       case lt=>omega
       case le=>exact Env.qle ⟨rfl,(by show some (int ((v:Int)*10+((c.toNat:Int)-48)))=_;congr 2;omega),rfl,trivial⟩
      ·replace h27:=bT h27
       refine zj O (zR (zn O (zN (zi (zw (ve (zw (zw (ve (zw (z0 O ?_)))))))))))
       exact k _ _ H.qx (.inr ⟨fun n hn e=>by have:=dig_mem (n:=n) (c:=c) (e ▸ List.mem_of_getElem? hc);omega,rfl⟩)
     ·replace h22:=bT h22
      refine zH O (zH O (zH O (zH O (vp O O O O (zN (zj O (zR (zn O (zN (zi (zw (ve (zw (zw (ve (zw (z0 O ?_)))))))))))))))))
      exact k _ _ H.qx (.inr ⟨fun n hn e=>by have:=dig_mem (n:=n) (c:=c) (e ▸ List.mem_of_getElem? hc);omega,rfl⟩)
  ·replace h11:=bT h11
   refine zj O (zR (zn O (zN (zi (zw (z0 O ?_))))))
   exact k _ _ H.qx (.inr ⟨fun n hn e=>by have:=dig_le4 hn;rw [← e] at this;omega,rfl⟩)
 ·replace h7:=bT h7
  refine zH O (zH O (zH O (vp O O O O (zN (zj O (zR (zn O (zN (zi (zw (z0 O ?_)))))))))))
  exact k _ _ H.qx (.inr ⟨fun n hn e=>by have:=dig_pos n;rw [← e] at this;omega,rfl⟩)
theorem ct242 (hl:l.length≤1099511627776) (k:∀ b cap S',Ext [] S0 S'→(S0 b=none)→(OwnB S' b 9 1 cap (strRows (words l)))→K (sl b 0 (words l).length cap) S') :
  zC 242 #[str l] S0 K:=by
 refine zGh (sf:=s242) Tryz.func242 fun H=>zR (zn O (zNR (za (zM (cs:=[]) H O O fun b6 S hb6 hE H=>zn O (zNR (zn O (zN (zSS (zn O (zN (zJ ?_)))))))))))
 refine vr (fun E S m_=>∃ (i:Nat) (w:Bs) (ls:List Bs) (b3:Nat) (cap3:Nat) (cs3:List Value),E=Env.lst [(0,str l),(3,sl b3 0 ls.length cap3),(4,str w),(5,int i)]∧Loc [] S0 S [(b3,Cs cs3 9)]∧(i≤l.length)∧(ls.length≤cap3)∧(cs3.length=cap3*1)∧(cs3.take (ls.length*1)=ls.map str)∧(spl 32 (l.take i)=(ls,w))∧(ls.length≤i)∧(w.length≤i)∧m_=l.length-i) ?_ ?_
 ·skip
  refine ⟨_,_,?le,0,[],[],b6,0,[],O,H,(by omega),(by simp),(by simp),(by simp),(by simp [spl]),(by simp),(by simp),O⟩
  case le=>exact Env.qle ⟨O,O,O,O,⟨⟩⟩
 ·skip
  rintro _ S _ ⟨i,w,ls,b3,cap3,cs3,rfl,H,hi,hn,hcl,hct,hs,hln,hwn,rfl⟩
  refine zSS (zn O (zn O (za (vF O (za (vU O O fun t10 h10=>zN ?_))))))
  rcases t10 with _|_
  ·replace h10:=bF h10
   refine zr O (vq (zX (zX (vE (ze (zR (zn O (zn O (za (zM (cs:=[_]) H O O fun b30 S hb30 hE H=>za (W_append H O O .h1 hcl hn (Src.own H .h O) (by simp [vV]) O (by decide) (by omega) O fun b31 cap31 cs31 S hb31 H hE hn31 hcl31 hct31=>zn O (zN (zi (z0 O ?_))))))))))))))
   rw [show i=l.length by omega,List.take_length] at hs
   have e1:words l=ls++[w]:=by unfold words;rw [hs]
   rw [e1] at k
   rw [show (ls.length+1)=(ls++[w]).length by simp]
   exact k _ _ _ H.qx (H.new1 .h) ⟨_,H.get .h,by simpa using hn31,hcl31,by rw [strRows_flat,List.map_append,← hct];simpa using hct31,strRows_one⟩
  ·replace h10:=bT h10
   obtain ⟨c,hc⟩:∃ c,l[i]? = some c:=⟨l[i]'(by omega),by simp⟩
   have hsn:=spl_snoc 32 (l.take i) c
   rw [← vS hc,hs] at hsn
   refine zj O (zv (ze (zK (zJ (zR (zn O (zn O (za (W_idxT O O (by omega) hc (za (vT O O fun t16 h16=>zN ?_)))))))))))
   rcases t16 with _|_
   ·replace h16:=bF h16
    refine zr O (zL (zn O (zn O (zn O (zn O (zAd O O (za (W_slS O O O (by omega) (by omega) (by omega) (za (W_catS O O (by simp only [List.length_take,List.length_drop];omega) (zn O (vi (z5 (ze (zL (zn O (zAd O O (zn O (zN ?_)))))))))))))))))))
    rw [if_neg (by rintro rfl;exact h16 rfl)] at hsn
    have hx1:(l.drop (i:Int).toNat).take (((i:Int)+1).toNat-(i:Int).toNat)=[c]:=by
     obtain ⟨h1,h2⟩:=List.getElem?_eq_some_iff.1 hc
     rw [show ((i:Int)+1).toNat-(i:Int).toNat=1 by omega,show (i:Int).toNat=i by omega,List.drop_eq_getElem_cons h1,h2];rfl
    refine ⟨_,_,?lt,?le,(i+1),(w++[c]),ls,b3,cap3,cs3,O,H,(by omega),hn,hcl,hct,?_,(by omega),(by simp;omega),O⟩
    case lt=>omega
    case le=>exact Env.qle ⟨rfl,rfl,(by show some (str (w++_))=_;rw [hx1]),rfl,trivial⟩
    exact hsn
   ·replace h16:=bT h16
    refine zj O (zR (zn O (zn O (za (zM (cs:=[_]) H O O fun b19 S hb19 hE H=>za (W_append H O O .h1 hcl hn (Src.own H .h O) (by simp [vV]) O (by decide) (by omega) O fun b20 cap20 cs20 S hb20 H hE hn20 hcl20 hct20=>zn O (zN (zL (zn O (vi (z5 (ze (zL (zn O (zAd O O (zn O (zN ?_)))))))))))))))))
    have hc59:c=32:=UInt8.toNat_inj.1 (by have:(c.toNat:Int)=32:=h16;show c.toNat=32;omega)
    subst hc59
    rw [if_pos rfl] at hsn
    refine ⟨_,_,?lt,?le,(i+1),[],(ls++[w]),b20,cap20,cs20,O,(H.sub (.cons_cons _ (.cons _ .slnil))),(by omega),(by simpa using hn20),hcl20,?_,?_,(by simp;omega),(by simp),O⟩
    case lt=>omega
    case le=>exact Env.qle ⟨rfl,(by rw [List.length_append];rfl),rfl,rfl,trivial⟩
    ·rw [List.length_append,List.map_append,← hct]
     exact hct20
    ·exact hsn
end
section
variable {S0:St} {K:Value→St→Prop}
variable {a:Int}
theorem ct244i (h0:0≤a) (h1:a≤9999) (k:∀ S',Ext [] S0 S'→(dig a.toNat).length≤4→K (str (dig a.toNat)) S'):Calls1 Tryz.prog 244 #[int a] S0 K:=by
 obtain ⟨n,rfl⟩:∃ n:Nat,a=n:=⟨a.toNat,by omega⟩
 exact ct244 (by omega) fun S' hE=>k S' hE (dig_le4 (by omega))
theorem ct236 {p:Int}  (k:∀  S',Ext [] S0 S'→K (str (eText a p)) S') :
  zC 236 #[.agg #[int a,int p]] S0 K:=by
 refine zGh (sf:=s236) Tryz.func236 fun H=>zR (zBx H O O fun b1 S hb1 hE H=>zn O (zN (zSS (zLn (vs:=[_,_]) H O .h O (vM O (ct84  fun t4 S hE h4=>?_))))))
 replace H:=H.call hE
 refine zNt O (zN ?_)
 rcases t4 with _|_
 ·replace h4:=bF h4
  refine zj O (zR (zn O (zN (zi (zw (z0 O ?_))))))
  rw [show eText a p=[] from if_neg h4] at k
  exact k _ H.qx
 ·replace h4:=bT h4
  have hok:=h4
  unfold OkE at hok
  refine zr O (zv (ze (zK (z9 [] (zLf 0 O O O (vg 1 O O (fun S' hS'=>zD fun K hK=>zE O (zB (hS' O) (by simp) (H.cell .h O)) hK) (zLf 4 O O O (vg 5 O O (fun S' hS'=>zD fun K hK=>zE O (zB (hS' O) (by simp) (H.cell .h O)) hK) (zA 2 (by kernel_rfl) O O (zt (zS O (ct244i (by omega) (by omega) fun S hE h8=>?_))))))))))))
  replace H:=H.call hE
  refine ⟨fun _=>hE.up.ext,vJ 3 O O (fun _ _ hK=>W_catS O O (by simp;omega) hK) (zA 6 (by kernel_rfl) O O (zt (zS O (ct244i (by omega) (by omega) fun S hE h12=>?_))))⟩
  replace H:=H.call hE
  refine zLd (vJ 7 O O (fun _ _ hK=>W_catS O O (by simp;omega) hK) (vH 8 O O O (zV (ze (zi (z0 O ?_))))))
  rw [show eText a p=eTxt a p from if_pos h4] at k
  exact k _ H.qx
theorem ct235 {l:Bs} (hl:l.length≤1099511627776) (k:∀ (a p:Int) (t:Bool) S',Ext [] S0 S'→(t=true→RdE l a p)→(t=false→a=0∧p=0∧∀ x y,¬ RdE l x y)→K (.tuple #[.agg #[int a,int p],.bool t]) S') :
  zC 235 #[str l] S0 K:=by
 refine zGh (sf:=s235) Tryz.func235 fun H=>zR (zAl H O fun b2 S hb2 hE H=>zn O (zNR (zn O (vM O (ct242 (by omega) fun b7 cap7 S hE hb7 hO7=>?_)))))
 replace H:=H.call hE
 refine zn O (zN (zSS (zn O (zLl O (za (W_neI O O fun t10 h10=>zN ?_))))))
 rcases t10 with _|_
 ·replace h10:=bF h10
  refine zr O (zv (ze (zK ?_)))
  obtain ⟨w0,w1,hw⟩:=len2 (show (words l).length=2 by omega)
  have f0:S.cell? ⟨b7,0,none⟩=some (str w0):=by
   obtain ⟨b,off,e,hc⟩:=hO7.sl.row 0 [str w0] (by rw [hw];rfl)
   cases e;exact cell_at (i:=0) hc rfl
  have f1:S.cell? ⟨b7,1,none⟩=some (str w1):=by
   obtain ⟨b,off,e,hc⟩:=hO7.sl.row 1 [str w1] (by rw [hw];rfl)
   cases e;exact cell_at (i:=0) hc rfl
  refine z9 [] (vH 0 O O O (vJ 1 O O (fun _ _ hK=>vj O O (by omega) (by omega) hK) (vg 2 O O (fun S' hS'=>zD fun K hK=>zE O (zB (hS' O) (by simp) f0) hK) (vH 4 O O O (vJ 5 O O (fun _ _ hK=>vj O O (by omega) (by omega) hK) (vg 6 O O (fun S' hS'=>zD fun K hK=>zE O (zB (hS' O) (by simp) f1) hK) (wpD_two 3 9 (by kernel_rfl) O O O O ?_ ?_)))))))
  ·skip
   refine zt (zS O (ct243  fun r15 S hE h15=>?_))
   replace H:=H.call hE
   refine ⟨fun _=>hE.up.ext,wpD_two 7 9 (by kernel_rfl) O O O O ?_ ?_⟩
   ·skip
    refine zt (zS O (ct243  fun r19 S hE h19=>?_))
    replace H:=H.call hE
    refine zLd (vJ 8 O O (fun _ _ hK=>vu (cs:=[_,_]) O O hK) (zA 9 (by kernel_rfl) O O (zt (W_alloc H O fun b5 S hb5 hE H=>⟨fun _=>hE.up.ext,zA 10 (by kernel_rfl) O O (zt (zSt H O O O .h O fun S hE H=>zLd (zV (ze (zSS (zLn (vs:=[_,_]) H O .h O (vM O (ct84  fun t22 S hE h22=>?_))))))))⟩))))
    replace H:=H.call hE
    refine zNt O (zN ?_)
    rcases t22 with _|_
    ·replace h22:=bF h22
     refine zj O (zR (za (vu (cs:=[_,_]) O O (zSs H O O O .h1 O fun S hE H=>zn O (zN (zi (zw (⟨trivial,_,(zW (ws:=[_,_]) H O .h1 O (zZ O zO)),?_⟩))))))))
     exact k 0 0 false _ H.qx nofun (fun _=>⟨rfl,rfl,not_rd_of_num hw h15 h19 h22⟩)
    ·replace h22:=bT h22
     refine zr O (zv (ze (zR (zLn (vs:=[_,_]) H O .h O (zSs H O O O .h1 O fun S hE H=>zn O (zN (zi (⟨trivial,_,(zW (ws:=[_,_]) H O .h1 O (zZ O zO)),?_⟩))))))))
     exact k _ _ true _ H.qx (fun _=>rd_of_num hw h15 h19 h22) nofun
   ·skip
    refine zt (W_alloc H O fun b5 S hb5 hE H=>⟨fun _=>hE.up.ext,zA 7 (by kernel_rfl) O O (zt (zS O (ct243  fun r19 S hE h19=>?_)))⟩)
    replace H:=H.call hE
    refine zLd (vJ 8 O O (fun _ _ hK=>vu (cs:=[_,_]) O O hK) (zA 10 (by kernel_rfl) O O (zt (zSt H O O O .h O fun S hE H=>zLd (zV (ze (zSS (zLn (vs:=[_,_]) H O .h O (vM O (ct84  fun t22 S hE h22=>?_))))))))))
    replace H:=H.call hE
    refine zNt O (zN ?_)
    rcases t22 with _|_
    ·replace h22:=bF h22
     refine zj O (zR (za (vu (cs:=[_,_]) O O (zSs H O O O .h1 O fun S hE H=>zn O (zN (zi (zw (⟨trivial,_,(zW (ws:=[_,_]) H O .h1 O (zZ O zO)),?_⟩))))))))
     exact k 0 0 false _ H.qx nofun (fun _=>⟨rfl,rfl,not_rd_of_num hw h15 h19 h22⟩)
    ·replace h22:=bT h22
     refine zr O (zv (ze (zR (zLn (vs:=[_,_]) H O .h O (zSs H O O O .h1 O fun S hE H=>zn O (zN (zi (⟨trivial,_,(zW (ws:=[_,_]) H O .h1 O (zZ O zO)),?_⟩))))))))
     exact k _ _ true _ H.qx (fun _=>rd_of_num hw h15 h19 h22) nofun
  ·skip
   refine zt (W_alloc H O fun b5 S hb5 hE H=>⟨fun _=>hE.up.ext,zA 3 (by kernel_rfl) O O (zt (zS O (ct243  fun r15 S hE h15=>?_)))⟩)
   replace H:=H.call hE
   refine ⟨fun _=>hE.up.ext,zA 7 (by kernel_rfl) O O (zt (zS O (ct243  fun r19 S hE h19=>?_)))⟩
   replace H:=H.call hE
   refine zLd (vJ 8 O O (fun _ _ hK=>vu (cs:=[_,_]) O O hK) (zA 10 (by kernel_rfl) O O (zt (zSt H O O O .h O fun S hE H=>zLd (zV (ze (zSS (zLn (vs:=[_,_]) H O .h O (vM O (ct84  fun t22 S hE h22=>?_))))))))))
   replace H:=H.call hE
   refine zNt O (zN ?_)
   rcases t22 with _|_
   ·replace h22:=bF h22
    refine zj O (zR (za (vu (cs:=[_,_]) O O (zSs H O O O .h1 O fun S hE H=>zn O (zN (zi (zw (⟨trivial,_,(zW (ws:=[_,_]) H O .h1 O (zZ O zO)),?_⟩))))))))
    exact k 0 0 false _ H.qx nofun (fun _=>⟨rfl,rfl,not_rd_of_num hw h15 h19 h22⟩)
   ·replace h22:=bT h22
    refine zr O (zv (ze (zR (zLn (vs:=[_,_]) H O .h O (zSs H O O O .h1 O fun S hE H=>zn O (zN (zi (⟨trivial,_,(zW (ws:=[_,_]) H O .h1 O (zZ O zO)),?_⟩))))))))
    exact k _ _ true _ H.qx (fun _=>rd_of_num hw h15 h19 h22) nofun
 ·replace h10:=bT h10
  refine zj O (zR (za (vu (cs:=[_,_]) O O (zSs H O O O .h O fun S hE H=>zn O (zN (zi (zw (⟨trivial,_,(zW (ws:=[_,_]) H O .h O (zZ O zO)),?_⟩))))))))
  exact k 0 0 false _ H.qx nofun (fun _=>⟨rfl,rfl,not_rd_of_len (by omega)⟩)
end
section
variable {S0:St} {K:Value→St→Prop}
variable {e:End} {es:List End} {cap:Nat} {a:Option Addr}
theorem ct136 (hs:Sl S0 2 a (zY es)) (hcp:es.length≤cap) (hl:es.length≤1099511627776) (k:∀  S',Ext [] S0 S'→K (int (findE es e)) S') :
  zC 136 #[.agg #[.slice a es.length cap],e.v] S0 K:=by
 refine zGh (sf:=s136) Tryz.func136 fun H=>zR (zBx H O O fun b2 S hb2 hE H=>zBx H O O fun b3 S hb3 hE H=>zn O (zN (zSS (zn O (zN (zJ ?_))))))
 refine vr (fun E S m_=>∃ (i:Nat),E=Env.lst [(2,vQ b2 0),(3,vQ b3 0),(5,int i)]∧Loc [] S0 S [(b3,Cs e.row 31),(b2,Cs [.slice a es.length cap] 26)]∧(i≤es.length)∧(e∉es.take i)∧m_=es.length-i) ?_ ?_
 ·skip
  refine ⟨_,_,?le,0,O,H,(by omega),(by simp),O⟩
  case le=>exact Env.qle ⟨O,O,O,⟨⟩⟩
 ·skip
  rintro _ S _ ⟨i,rfl,H,hi,hn,rfl⟩
  refine zSS (zn O (zFa O (zL1 H O .h1 O (zLl O (za (vU O O fun t10 h10=>zN ?_))))))
  rcases t10 with _|_
  ·replace h10:=bF h10
   refine zr O (vq (zX (zX (vE (ze (zR (zn O (zN (zi (z0 O ?_))))))))))
   rw [show i=es.length by omega,List.take_length] at hn
   rw [findE_no hn] at k
   exact k _ H.qx
  ·replace h10:=bT h10
   obtain ⟨x,hx⟩:∃ x,es[i]? = some x:=⟨es[i]'(by omega),by simp⟩
   obtain ⟨b,off,rfl,hc⟩  :=hs.row i _ (endRows_at hx)
   refine zj O (zv (ze (zK (zJ (zK (z9 [] (zLf 0 O O O (vg 1 O O (fun S' hS'=>zD fun K hK=>zE O (zB (hS' O) (by simp) (H.cell .h1 O)) hK) (vH 2 O O O (vJ 3 O O (fun _ _ hK=>vj O O (by omega) (by omega) hK) (vg 4 O O (fun S' hS'=>zD fun K hK=>zU (vs:=[_,_]) O (zG (hS' O) (by simp) (H.qx.cells hc)) hK) (vg 5 O O (fun S' hS'=>zD fun K hK=>zU O (zG (hS' O) (by simp) (H.cells (vs:=[_,_]) .h O)) hK) (zCm 6 O O (fun S' _=>zD fun K hK=>W_eqE O O hK) fun t19 h19=>zV (ze ?_))))))))))))))
   rcases t19 with _|_
   ·replace h19:=bF h19
    refine zr O (zv (z5 (ze (zL (zn O (zAd O O (zn O (zN ?_))))))))
    refine ⟨_,_,?lt,?le,(i+1),O,H,(by omega),(not_mem_take_succ hx hn (End.ne' h19)),O⟩
    case lt=>omega
    case le=>exact Env.qle ⟨O,O,O,⟨⟩⟩
   ·replace h19:=bT h19
    refine zj O (zR (zn O (zn O (zN (zi (ve (zw (zw (ve (zw (z0 O ?_)))))))))))
    rw [End.ext' h19] at hx
    rw [findE_at hx hn] at k
    exact k _ H.qx
theorem ct138 (hs:Sl S0 2 a (zY es)) (hcp:es.length≤cap) (hl:es.length≤1099511627776) (k:∀  S',Ext [] S0 S'→K (int (portE es e)) S') :
  zC 138 #[.agg #[.slice a es.length cap],e.v] S0 K:=by
 refine zGh (sf:=s138) Tryz.func138 fun H=>zR (zBx H O O fun b2 S hb2 hE H=>zBx H O O fun b3 S hb3 hE H=>zn O (zNR (zLn (vs:=[_]) H O .h1 O (zLn (vs:=[_,_]) H O .h O (vM O (ct136 (hs.mono H.qx) hcp (by omega) fun S hE =>?_))))))
 replace H:=H.call hE
 have hf:=findE_bd es e
 refine zn O (zN (zSS (zn O (za (vU O O fun t10 h10=>zN ?_)))))
 rcases t10 with _|_
 ·replace h10:=bF h10
  refine zr O (zv (ze (zR (zn O (zAd O O (zn O (zN (zi (z0 O ?_)))))))))
  rw [portE_eq,if_neg h10] at k
  exact k _ H.qx
 ·replace h10:=bT h10
  refine zj O (zR (zn O (zN (zi (zw (z0 O ?_))))))
  rw [portE_eq,if_pos h10] at k
  exact k _ H.qx
theorem ct80 {q:Int} (hs:Sl S0 2 a (zY es)) (hcp:es.length≤cap) (hl:es.length≤1099511627776) (k:∀ (e:End) (t:Bool) S',Ext [] S0 S'→(t=true→endP es q=some e)→(t=false→endP es q=none∧e=⟨0,0⟩)→K (.tuple #[e.v,.bool t]) S') :
  zC 80 #[.agg #[.slice a es.length cap],int q] S0 K:=by
 refine zGh (sf:=s80) Tryz.func80 fun H=>zR (zBx H O O fun b2 S hb2 hE H=>zAl H O fun b4 S hb4 hE H=>zn O (zN (zSS (zn O (zFa O (zL1 H O .h1 O (zLl O (zAd O O (zSb O O (vM O (ct85  fun t12 S hE h12=>?_)))))))))))
 replace H:=H.call hE
 refine zNt O (zN ?_)
 rcases t12 with _|_
 ·replace h12:=bF h12
  refine zj O (zR (za (vu (cs:=[_,_]) O O (zSs H O O O .h O fun S hE H=>zn O (zN (zi (zw (⟨trivial,_,(zW (ws:=[_,_]) H O .h O (zZ O zO)),?_⟩))))))))
  exact k ⟨0,0⟩ false _ H.qx nofun fun _=>⟨endP_none h12,rfl⟩
 ·replace h12:=bT h12
  obtain ⟨x,hx⟩:∃ x,es[(q-500).toNat]? = some x:=⟨es[(q-500).toNat]'(by omega),by simp⟩
  obtain ⟨b,off,rfl,hc⟩:=hs.row _ _ (endRows_at hx)
  refine zr O (zv (ze (zR (zFa O (zL1 H O .h1 O (zn O (zSb O O (zIa O O (za (zU (vs:=[_,_]) O (H.qx.cells hc) (zSs H O O O .h O fun S hE H=>zn O (zN (zi (⟨trivial,_,(zW (ws:=[_,_]) H O .h O (zZ O zO)),?_⟩))))))))))))))
  exact k x true _ H.qx (fun _=>endP_some hx h12.1) nofun
theorem ct161 (hs:Sl S0 2 a (zY es)) (hcp:es.length≤cap) (hl:es.length≤1099511627776) (k:∀ b cap S',Ext [] S0 S'→(S0 b=none)→(OwnB S' b 31 2 cap (zY es))→K (.agg #[sl b 0 es.length cap]) S') :
  zC 161 #[.agg #[.slice a es.length cap]] S0 K:=by
 refine zGh (sf:=s161) Tryz.func161 fun H=>zR (zBx H O O fun b1 S hb1 hE H=>zAl H O fun b2 S hb2 hE H=>zNR (za (zM (cs:=[]) H O O fun b3 S hb3 hE H=>zFa O (zL1 H O .h2 O (za (W_append (new:=(zY es).flatten) H O O .h O (Nat.le_refl _) (Src.sl (hs.mono H.qx) vG (by simp)) endRows_one (endRows_flat_len es) (by decide) (by omega) O fun b6 cap6 cs6 S hb6 H hE hn6 hcl6 hct6=>za (vu (cs:=[_]) O O (zSs H O O O .h1 O fun S hE H=>zN (zi (⟨trivial,_,(zW (ws:=[_]) H O .h1 O zO),?_⟩))))))))))
 rw [show (0+es.length)=es.length by omega]
 exact k _ _ _ H.qx (H.new1 .h) ⟨_,H.get .h,by simpa using hn6,hcl6,by simpa using hct6,vG⟩
theorem ct91 (hs:Sl S0 2 a (zY es)) (hcp:es.length≤cap) (hl:es.length≤6) (k:∀ (a1:Option Addr) (cap1:Nat) S',Ext [] S0 S'→(Sl S' 2 a1 (zY (putE es e)))→((putE es e).length≤cap1)→(Org S0 a a1)→((a1=a∧cap1=cap∧putE es e=es)∨∃ b,a1=some ⟨b,0,none⟩∧S0 b=none∧OwnB S' b 31 2 cap1 (zY (putE es e)))→K (.tuple #[.agg #[.slice a1 (putE es e).length cap1],int (putP es e)]) S') :
  zC 91 #[.agg #[.slice a es.length cap],e.v] S0 K:=by
 refine zGh (sf:=s91) Tryz.func91 fun H=>zR (zBx H O O fun b2 S hb2 hE H=>zBx H O O fun b3 S hb3 hE H=>zAl H O fun b4 S hb4 hE H=>zn O (zNR (zLn (vs:=[_]) H O .h2 O (zLn (vs:=[_,_]) H O .h1 O (vM O (ct138 (hs.mono H.qx) hcp (by omega) fun S hE =>?_))))))
 replace H:=H.call hE
 refine zn O (zN (zSS (zn O (za (W_gtr O O fun t11 h11=>zN ?_)))))
 rcases t11 with _|_
 ·replace h11:=bF h11
  have hm:e∉es:=fun hm=>by unfold portE at h11;rw [if_pos hm] at h11;omega
  refine zr O (zv (ze (zSS (zFa O (zL1 H O .h2 O (zLl O (za (vT O O fun t17 h17=>zN ?_))))))))
  rcases t17 with _|_
  ·replace h17:=bF h17
   refine zr O (zv (ze (zK (z9 [] (zLf 1 O O O (vg 2 O O (fun S' hS'=>zD fun K hK=>zE O (zB (hS' O) (by simp) (H.cell .h2 O)) hK) (vg 4 O O (fun S' hS'=>zD fun K hK=>zU O (zG (hS' O) (by simp) (H.cells (vs:=[_,_]) .h1 O)) hK) (wpD_two 0 5 (by kernel_rfl) O O O O ?_ ?_))))))))
   ·skip
    refine zt (zM (cs:=[]) H O O fun b19 S hb19 hE H=>⟨fun _=>hE.up.ext,wpD_two 3 5 (by kernel_rfl) O O O O ?_ ?_⟩)
    ·skip
     refine zt (W_appendZ (new:=(zY es).flatten) H O O .h (Src.sl (hs.mono H.qx) vG (by simp)) endRows_one (endRows_flat_len es) (by decide) (by decide) (by omega) O fun b22 cap22 cs22 S hb22 H hE hn22 hcl22 hct22=>⟨fun _=>hE.up.ext,zA 5 (by kernel_rfl) O O (zt (zM (cs:=[_,_]) H O O fun b24 S hb24 hE H=>⟨fun _=>hE.up.ext,zA 6 (by kernel_rfl) O O (zt (W_append H O O .h1 hcl22 hn22 (Src.own H .h O) (by simp [vV]) O (by decide) (by omega) O fun b25 cap25 cs25 S hb25 H hE hn25 hcl25 hct25=>zLd (zLf 7 O O O (zA 8 (by kernel_rfl) O O (zt (zSt H O O O .h4 O fun S hE H=>zLd (zV (ze (zK (z9 [b4] (vg 0 O O (fun S' hS'=>zD fun K hK=>zU O (zG (hS' O) (nin1 (by rintro rfl;exact absurd H.nodup (by simp))) (H.cells (vs:=[_]) .h4 O)) hK) (zLf 1 O O O (vg 2 O O (fun S' hS'=>zD fun K hK=>zE O (zB (hS' O) (nin1 (by rintro rfl;exact absurd H.nodup (by simp))) (H.cell .h4 O)) hK) (vJ 3 O O (fun _ _ hK=>W_lenL O hK) (vJ 4 O O (fun _ _ hK=>W_add O O (by omega) (by omega) hK) (vJ 5 O O (fun _ _ hK=>W_sub O O (by omega) (by omega) hK) (zA 6 (by kernel_rfl) O O (zt (zSt H O O O .h2 O fun S hE H=>⟨fun _=>hE.ext,vH 7 O O O (zV (ze (zi ?_)))⟩)))))))))))))))))))⟩))⟩)
     refine ⟨trivial,_,(zW (ws:=[_]) H O .h2 O (zZ O zO)),?_⟩
     obtain ⟨p1,p2⟩:=putE_new hm (show ¬ 6≤es.length by omega)
     rw [p1,p2] at k
     rw [show (0+es.length+1)=(es++[e]).length by simp,show (500:Int)+((es++[e]).length:Nat)-1=500+es.length by simp;omega]
     exact k _ _ _ H.qx (sl_put H .h hct22 hct25) (by simpa using hn25) (.new (H.new1 .h)) (.inr ⟨_,rfl,H.new1 .h,own_put H .h hct22 hct25 (by simpa using hn25) hcl25⟩)
    ·skip
     refine zt (zM (cs:=[_,_]) H O O fun b24 S hb24 hE H=>⟨fun _=>hE.up.ext,zA 3 (by kernel_rfl) O O (zt (W_appendZ (new:=(zY es).flatten) H O O .h1 (Src.sl (hs.mono H.qx) vG (by simp)) endRows_one (endRows_flat_len es) (by decide) (by decide) (by omega) O fun b22 cap22 cs22 S hb22 H hE hn22 hcl22 hct22=>⟨fun _=>hE.up.ext,zA 6 (by kernel_rfl) O O (zt (W_append H O O .h hcl22 hn22 (Src.own H .h1 O) (by simp [vV]) O (by decide) (by omega) O fun b25 cap25 cs25 S hb25 H hE hn25 hcl25 hct25=>zLd (zLf 7 O O O (zA 8 (by kernel_rfl) O O (zt (zSt H O O O .h4 O fun S hE H=>zLd (zV (ze (zK (z9 [b4] (vg 0 O O (fun S' hS'=>zD fun K hK=>zU O (zG (hS' O) (nin1 (by rintro rfl;exact absurd H.nodup (by simp))) (H.cells (vs:=[_]) .h4 O)) hK) (zLf 1 O O O (vg 2 O O (fun S' hS'=>zD fun K hK=>zE O (zB (hS' O) (nin1 (by rintro rfl;exact absurd H.nodup (by simp))) (H.cell .h4 O)) hK) (vJ 3 O O (fun _ _ hK=>W_lenL O hK) (vJ 4 O O (fun _ _ hK=>W_add O O (by omega) (by omega) hK) (vJ 5 O O (fun _ _ hK=>W_sub O O (by omega) (by omega) hK) (zA 6 (by kernel_rfl) O O (zt (zSt H O O O .h2 O fun S hE H=>⟨fun _=>hE.ext,vH 7 O O O (zV (ze (zi ?_)))⟩)))))))))))))))))))⟩))⟩)
     refine ⟨trivial,_,(zW (ws:=[_]) H O .h2 O (zZ O zO)),?_⟩
     obtain ⟨p1,p2⟩:=putE_new hm (show ¬ 6≤es.length by omega)
     rw [p1,p2] at k
     rw [show (0+es.length+1)=(es++[e]).length by simp,show (500:Int)+((es++[e]).length:Nat)-1=500+es.length by simp;omega]
     exact k _ _ _ H.qx (sl_put H .h hct22 hct25) (by simpa using hn25) (.new (H.new1 .h)) (.inr ⟨_,rfl,H.new1 .h,own_put H .h hct22 hct25 (by simpa using hn25) hcl25⟩)
   ·skip
    refine zt (zM (cs:=[_,_]) H O O fun b24 S hb24 hE H=>⟨fun _=>hE.up.ext,zA 0 (by kernel_rfl) O O (zt (zM (cs:=[]) H O O fun b19 S hb19 hE H=>⟨fun _=>hE.up.ext,zA 3 (by kernel_rfl) O O (zt (W_appendZ (new:=(zY es).flatten) H O O .h (Src.sl (hs.mono H.qx) vG (by simp)) endRows_one (endRows_flat_len es) (by decide) (by decide) (by omega) O fun b22 cap22 cs22 S hb22 H hE hn22 hcl22 hct22=>⟨fun _=>hE.up.ext,zA 6 (by kernel_rfl) O O (zt (W_append H O O .h hcl22 hn22 (Src.own H .h1 O) (by simp [vV]) O (by decide) (by omega) O fun b25 cap25 cs25 S hb25 H hE hn25 hcl25 hct25=>zLd (zLf 7 O O O (zA 8 (by kernel_rfl) O O (zt (zSt H O O O .h4 O fun S hE H=>zLd (zV (ze (zK (z9 [b4] (vg 0 O O (fun S' hS'=>zD fun K hK=>zU O (zG (hS' O) (nin1 (by rintro rfl;exact absurd H.nodup (by simp))) (H.cells (vs:=[_]) .h4 O)) hK) (zLf 1 O O O (vg 2 O O (fun S' hS'=>zD fun K hK=>zE O (zB (hS' O) (nin1 (by rintro rfl;exact absurd H.nodup (by simp))) (H.cell .h4 O)) hK) (vJ 3 O O (fun _ _ hK=>W_lenL O hK) (vJ 4 O O (fun _ _ hK=>W_add O O (by omega) (by omega) hK) (vJ 5 O O (fun _ _ hK=>W_sub O O (by omega) (by omega) hK) (zA 6 (by kernel_rfl) O O (zt (zSt H O O O .h2 O fun S hE H=>⟨fun _=>hE.ext,vH 7 O O O ?_⟩)))))))))))))))))))⟩))⟩))⟩)
    refine zV (ze (zi (⟨trivial,_,(zW (ws:=[_]) H O .h2 O (zZ O zO)),?_⟩)))
    obtain ⟨p1,p2⟩:=putE_new hm (show ¬ 6≤es.length by omega)
    rw [p1,p2] at k
    rw [show (0+es.length+1)=(es++[e]).length by simp,show (500:Int)+((es++[e]).length:Nat)-1=500+es.length by simp;omega]
    exact k _ _ _ H.qx (sl_put H .h hct22 hct25) (by simpa using hn25) (.new (H.new1 .h)) (.inr ⟨_,rfl,H.new1 .h,own_put H .h hct22 hct25 (by simpa using hn25) hcl25⟩)
  ·replace h17:=bT h17
   refine zj O (zR (zLn (vs:=[_]) H O .h2 O (zSs H O O O .h O fun S hE H=>zn O (zN (zi (zw (⟨trivial,_,(zW (ws:=[_]) H O .h O (zZ O zO)),?_⟩)))))))
   (obtain ⟨p1,p2⟩:=putE_full hm (show 6≤es.length by omega);rw [p1,p2] at k;exact k _ _ _ H.qx (hs.mono H.qx) hcp (.same _ _) (.inl ⟨rfl,rfl,rfl⟩))
 ·replace h11:=bT h11
  have hm:e∈es:=Classical.byContradiction fun hn=>by unfold portE at h11;rw [if_neg hn] at h11;omega
  obtain ⟨p1,p2⟩:=putE_mem hm
  refine zj O (zR (zLn (vs:=[_]) H O .h2 O (zn O (zSs H O O O .h O fun S hE H=>zn O (zN (zi (zw (⟨trivial,_,(zW (ws:=[_]) H O .h O (zZ O zO)),?_⟩))))))))
  (rw [p1,p2] at k;exact k _ _ _ H.qx (hs.mono H.qx) hcp (.same _ _) (.inl ⟨rfl,rfl,rfl⟩))
theorem ct57 (hs:Sl S0 2 a (zY es)) (hcp:es.length≤cap) (hl:es.length≤1099511627776) (k:∀ (t:Bool) S',Ext [] S0 S'→(t=true↔TabP es)→K (.bool t) S') :
  zC 57 #[.agg #[.slice a es.length cap]] S0 K:=by
 refine zGh (sf:=s57) Tryz.func57 fun H=>zR (zBx H O O fun b1 S hb1 hE H=>zn O (zN (zSS (zFa O (zL1 H O .h O (zLl O (za (W_gtr O O fun t7 h7=>zN ?_))))))))
 rcases t7 with _|_
 ·replace h7:=bF h7
  refine zr O (zv (ze (zSS (zn O (zN (zJ ?_))))))
  refine vr (fun E S m_=>∃ (i:Nat),E=Env.lst [(1,vQ b1 0),(3,int i)]∧Loc [] S0 S [(b1,Cs [.slice a es.length cap] 26)]∧(i≤es.length)∧(∀ e∈es.take i,e.inn)∧((es.take i).Nodup)∧m_=es.length-i) ?_ ?_
  ·skip
   refine ⟨_,_,?le,0,O,H,(by omega),(by simp),(by simp),O⟩
   case le=>exact Env.qle ⟨O,O,⟨⟩⟩
  ·skip
   rintro _ S _ ⟨i,rfl,H,hi,hp,hnd,rfl⟩
   refine zSS (zn O (zFa O (zL1 H O .h O (zLl O (za (vU O O fun t12 h12=>zN ?_))))))
   rcases t12 with _|_
   ·replace h12:=bF h12
    refine zr O (vq (zX (zX (vE (ze (zR (zn O (zN (zi (z0 O ?_))))))))))
    rw [show i=es.length by omega,List.take_length] at hp hnd
    exact k _ _ H.qx ⟨fun _=>TabP_of (by omega) hp hnd,fun _=>rfl⟩
   ·replace h12:=bT h12
    obtain ⟨x,hx⟩:∃ x,es[i]? = some x:=⟨es[i]'(by omega),by simp⟩
    obtain ⟨b,off,rfl,hc⟩  :=hs.row i _ (endRows_at hx)
    refine zj O (zv (ze (zK (zJ (zK (z9 [] (zLf 0 O O O (vg 1 O O (fun S' hS'=>zD fun K hK=>zE O (zB (hS' O) (by simp) (H.cell .h O)) hK) (vH 2 O O O (vJ 3 O O (fun _ _ hK=>vj O O (by omega) (by omega) hK) (vg 4 O O (fun S' hS'=>zD fun K hK=>zU (vs:=[_,_]) O (zG (hS' O) (by simp) (H.qx.cells hc)) hK) (zA 5 (by kernel_rfl) O O (zt (zS O (ct90  fun t20 S hE h20=>?_)))))))))))))))
    replace H:=H.call hE
    refine ⟨fun _=>hE.up.ext,vJ 6 O O (fun _ _ hK=>W_not O hK) (vH 7 O O O ?_)⟩
    rcases t20 with _|_
    ·replace h20:=bF h20
     refine vg 8 O O (fun S' _=>vf O (by decide)) (vg 9 O O (fun S' _=>vf O (by decide)) (vg 10 O O (fun S' _=>vf O (by decide)) (vg 11 O O (fun S' _=>vf O (by decide)) (vg 12 O O (fun S' _=>vf O (by decide)) (vg 13 O O (fun S' _=>vf O (by decide)) (vg 14 O O (fun S' _=>vf O (by decide)) (vg 15 O O (fun S' _=>vf O (by decide)) (vg 16 O O (fun S' _=>vf O (by decide)) (vg 17 O O (fun S' _=>vf O (by decide)) (zA 18 (by kernel_rfl) O O (step_no O (by decide) (⟨fun _=>fun _ _ _ h=>h,vg 19 O O (fun S' _=>vf O (by decide)) (vJ 20 O O (fun _ _ hK=>vN O O O O hK) (zV (ze (zj O (zR (zn O (zN (zi (ve (zw (zw (ve (zw (z0 O ?_))))))))))))))⟩))))))))))))
     exact k _ _ H.qx ⟨nofun,fun h=>absurd h (TabP_no1 hx h20)⟩
    ·replace h20:=bT h20
     refine vg 8 O O (fun S' _=>vd O fun K hK=>zz O hK) (vg 9 O O (fun S' hS'=>vd O fun K hK=>zE O (zB (hS' O) (by simp) (H.cell .h O)) hK) (vg 10 O O (fun S' _=>vd O fun K hK=>vP O hK) (vg 11 O O (fun S' _=>vd O fun K hK=>W_slTake (l:=es) O O (by omega) (by omega) hcp hK) (vg 12 O O (fun S' _=>vd O fun K hK=>vu (cs:=[_]) O O hK) (vg 13 O O (fun S' _=>vd O fun K hK=>zz O hK) (vg 14 O O (fun S' hS'=>vd O fun K hK=>zE O (zB (hS' O) (by simp) (H.cell .h O)) hK) (vg 15 O O (fun S' _=>vd O fun K hK=>vP O hK) (vg 16 O O (fun S' _=>vd O fun K hK=>vj O O (by omega) (by omega) hK) (vg 17 O O (fun S' hS'=>vd O fun K hK=>zU (vs:=[_,_]) O (zG (hS' O) (by simp) (H.qx.cells hc)) hK) (zA 18 (by kernel_rfl) O O (step_yes O (zS O (ct136 (es:=es.take i) ((hs.mono H.qx).takeE i) (by simp;omega) (by simp;omega) fun S hE =>?_)))))))))))))
     replace H:=H.call hE
     refine zLd (zCm 19 O O (fun S' _=>vd O fun K hK=>W_bin O O O hK) fun t34 h34=>vJ 20 O O (fun _ _ hK=>vN O O O O hK) (zV (ze ?_)))
     rcases t34 with _|_
     ·replace h34:=bF h34
      refine zr O (zv (z5 (ze (zL (zn O (zAd O O (zn O (zN ?_))))))))
      refine ⟨_,_,?lt,?le,(i+1),O,H,(by omega),(mem_take_succ hx hp h20),(nodup_take_succ hx hnd h34),O⟩
      case lt=>omega
      case le=>exact Env.qle ⟨O,O,⟨⟩⟩
     ·replace h34:=bT h34
      refine zj O (zR (zn O (zN (zi (ve (zw (zw (ve (zw (z0 O ?_))))))))))
      exact k _ _ H.qx ⟨nofun,fun h=>absurd h (TabP_no2 hx h34)⟩
 ·replace h7:=bT h7
  refine zj O (zR (zn O (zN (zi (zw (z0 O ?_))))))
  exact k _ _ H.qx ⟨nofun,fun h=>absurd h.1 (by omega)⟩
end
section
variable {S0:St} {K:Value→St→Prop}
variable {l:Bs} {es:List End} {cap:Nat} {a:Option Addr}
theorem ct226 (hl:l.length≤1099511627776) (k:∀ (e:End) (t:Bool) S',Ext [] S0 S'→(t=true→says l=some e)→(t=false→says l=none∧e=⟨0,0⟩)→K (.tuple #[e.v,.bool t]) S') :
  zC 226 #[str l] S0 K:=by
 refine zGh (sf:=s226) Tryz.func226 fun H=>zR (zAl H O fun b2 S hb2 hE H=>zn O (zN (zSS (zn O (za (vF O (za (vU O O fun t8 h8=>zn O ?_))))))))
 rcases t8 with _|_
 ·replace h8:=bF h8
  refine zh O (vP O (zh O (W_slShi O O (by omega) (by omega) (zh O (W_neS O O fun t12 h12=>vp O O O O (zN ?_))))))
  rcases t12 with _|_
  ·replace h12:=bF h12
   have hsd:l.take 5=PORT:=Classical.not_not.1 h12
   refine zr O (zv (ze (zR (zn O (za (W_slSlo O O (by omega) (by omega) (vM O (ct235 (by simp;omega) fun a18 p18 t18 S hE hy18 hn18=>?_))))))))
   replace H:=H.call hE
   have h18:t18=true↔t18=true:=Iff.rfl
   refine zn O (zEx O O (zEx O O (zAl H O fun b4 S hb4 hE H=>zSs H O O O .h O fun S hE H=>zn O (zN (zSS (zn O (zNt O (zn O ?_))))))))
   rcases t18 with _|_
   ·replace h18:=bF h18
    refine zH O (zH O (zH O (vp O O O O (zN (zj O (zR (za (vu (cs:=[_,_]) O O (zSs H O O O .h1 O fun S hE H=>zn O (zN (zi (zw (⟨trivial,_,(zW (ws:=[_,_]) H O .h1 O (zZ O zO)),?_⟩)))))))))))))
    exact k ⟨0,0⟩ false _ H.qx nofun (fun _=>⟨says_no2 hsd (hn18 rfl).2.2,rfl⟩)
   ·replace h18:=bT h18
    refine zh O (vK (vs:=[_,_]) H O .h O (zh O (zS O (ct90  fun t25 S hE h25=>?_))))
    replace H:=H.call hE
    refine zh O (W_not O (vp O O O O (zN ?_)))
    rcases t25 with _|_
    ·replace h25:=bF h25
     refine zj O (zR (za (vu (cs:=[_,_]) O O (zSs H O O O .h1 O fun S hE H=>zn O (zN (zi (zw (⟨trivial,_,(zW (ws:=[_,_]) H O .h1 O (zZ O zO)),?_⟩))))))))
     exact k ⟨0,0⟩ false _ H.qx nofun (fun _=>⟨says_no1 hsd (hy18 rfl) h25,rfl⟩)
    ·replace h25:=bT h25
     refine zr O (zv (ze (zR (zLn (vs:=[_,_]) H O .h O (zSs H O O O .h1 O fun S hE H=>zn O (zN (zi (⟨trivial,_,(zW (ws:=[_,_]) H O .h1 O (zZ O zO)),?_⟩))))))))
     exact k ⟨a18,p18⟩ true _ H.qx (fun _=>says_yes hsd (hy18 rfl) h25) nofun
  ·replace h12:=bT h12
   have hsd:l.take 5≠PORT:=h12
   refine zj O (zR (za (vu (cs:=[_,_]) O O (zSs H O O O .h O fun S hE H=>zn O (zN (zi (zw (⟨trivial,_,(zW (ws:=[_,_]) H O .h O (zZ O zO)),?_⟩))))))))
   exact k ⟨0,0⟩ false _ H.qx nofun (fun _=>⟨says_no3 hsd,rfl⟩)
 ·replace h8:=bT h8
  have hsd:=take5_short (l:=l) (by omega)
  refine zH O (zH O (zH O (vp O O O O (zN (zj O (zR (za (vu (cs:=[_,_]) O O (zSs H O O O .h O fun S hE H=>zn O (zN (zi (zw (⟨trivial,_,(zW (ws:=[_,_]) H O .h O (zZ O zO)),?_⟩)))))))))))))
  exact k ⟨0,0⟩ false _ H.qx nofun (fun _=>⟨says_no3 hsd,rfl⟩)
theorem ct224 (hl:l.length≤1099511627776) (k:∀ (p:Int) (t:Bool) S',Ext [] S0 S'→(t=true→boxP l=some p)→(t=false→boxP l=none∧p=0)→K (.tuple #[int p,.bool t]) S') :
  zC 224 #[str l] S0 K:=by
 refine zGh (sf:=s224) Tryz.func224 fun H=>zR (zn O (zn O (zN (zSS (zn O (za (vF O (za (vU O O fun t8 h8=>zn O ?_)))))))))
 rcases t8 with _|_
 ·replace h8:=bF h8
  refine zh O (vP O (zh O (W_slShi O O (by omega) (by omega) (zh O (W_neS O O fun t12 h12=>vp O O O O (zN ?_))))))
  rcases t12 with _|_
  ·replace h12:=bF h12
   have hsd:l.take 5=PORT:=Classical.not_not.1 h12
   refine zr O (zv (ze (zR (zn O (za (W_slSlo O O (by omega) (by omega) (vM O (ct235 (by simp;omega) fun a17 p17 t17 S hE hy17 hn17=>?_))))))))
   replace H:=H.call hE
   have h17:t17=true↔t17=true:=Iff.rfl
   refine zn O (zEx O O (zEx O O (zAl H O fun b4 S hb4 hE H=>zSs H O O O .h O fun S hE H=>zn O (zN (zSS (zn O (zNt O (zn O ?_))))))))
   rcases t17 with _|_
   ·replace h17:=bF h17
    refine zH O (zH O (zH O (vp O O O O (zN (zj O (zR (zn O (zn O (zN (zi (zw (⟨trivial,_,(zZ O (zZ O zO)),?_⟩))))))))))))
    exact k 0 false _ H.qx nofun (fun _=>⟨box_no2 hsd (hn17 rfl).2.2,rfl⟩)
   ·replace h17:=bT h17
    refine zh O (zz O (zh O (vl H O .h O (zh O (W_neI O O fun t25 h25=>vp O O O O (zN ?_))))))
    rcases t25 with _|_
    ·replace h25:=bF h25
     refine zr O (zv (ze (zR (zFa O (zL1 H O .h O (zn O (zn O (zN (zi (⟨trivial,_,(zZ O (zZ O zO)),?_⟩))))))))))
     exact k p17 true _ H.qx (fun _=>box_yes hsd (hy17 rfl) (Classical.not_not.1 h25)) nofun
    ·replace h25:=bT h25
     refine zj O (zR (zn O (zn O (zN (zi (zw (⟨trivial,_,(zZ O (zZ O zO)),?_⟩)))))))
     exact k 0 false _ H.qx nofun (fun _=>⟨box_no1 hsd (hy17 rfl) h25,rfl⟩)
  ·replace h12:=bT h12
   have hsd:l.take 5≠PORT:=h12
   refine zj O (zR (zn O (zn O (zN (zi (zw (⟨trivial,_,(zZ O (zZ O zO)),?_⟩)))))))
   exact k 0 false _ H.qx nofun (fun _=>⟨box_no3 hsd,rfl⟩)
 ·replace h8:=bT h8
  have hsd:=take5_short (l:=l) (by omega)
  refine zH O (zH O (zH O (vp O O O O (zN (zj O (zR (zn O (zn O (zN (zi (zw (⟨trivial,_,(zZ O (zZ O zO)),?_⟩))))))))))))
  exact k 0 false _ H.qx nofun (fun _=>⟨box_no3 hsd,rfl⟩)
theorem ct225 {e:End}  (k:∀  S',Ext [] S0 S'→K (str e.line) S') :
  zC 225 #[e.v] S0 K:=by
 refine zGh (sf:=s225) Tryz.func225 fun H=>zR (zBx H O O fun b1 S hb1 hE H=>zn O (zN (zSS (zLn (vs:=[_,_]) H O .h O (vM O (ct84  fun t4 S hE h4=>?_))))))
 replace H:=H.call hE
 refine zNt O (zN ?_)
 rcases t4 with _|_
 ·replace h4:=bF h4
  refine zj O (zR (zn O (zN (zi (zw (z0 O ?_))))))
  (rw [End.line_eq,if_neg (show ¬ e.ok from h4)] at k;exact k _ H.qx)
 ·replace h4:=bT h4
  refine zr O (zv (ze (zR (zLn (vs:=[_,_]) H O .h O (vM O (ct236  fun S hE =>?_))))))
  replace H:=H.call hE
  have hle:=eText_len e.a e.p
  refine za (W_catS O O (by simp;omega) (zn O (zN (zi (z0 O ?_)))))
  (rw [End.line_eq,if_pos (show e.ok from h4)] at k;exact k _ H.qx)
theorem ct22 (hl:l.length≤1099511627776) (k:∀ (t:Bool) S',Ext [] S0 S'→(t=true↔StrP l)→K (.bool t) S') :
  zC 22 #[str l] S0 K:=by
 refine zGh (sf:=s22) Tryz.func22 fun H=>zR (zn O (zN (zSS (zn O (za (vF O (za (W_gtr O O fun t8 h8=>zN ?_))))))))
 rcases t8 with _|_
 ·replace h8:=bF h8
  refine zr O (zv (ze (zR (zn O (vM O (ct72 (by omega) fun b11 cap11 S hE hb11 hO11=>?_))))))
  obtain ⟨cs11,ho11,hn11,hcl11,hct11,_⟩:=hO11
  replace H:=H.adopt hE hb11 ho11
  have hnl:=strLines_len l
  have hrl:(zu l).2.length≤l.length:=spl_rest_len 59 l
  have hal:=lines_le l
  refine zn O (zEx O O (zEx O O (zn O (zn O (zN (zSS (zn O (zN (zJ ?_)))))))))
  refine vr (fun E S m_=>∃ (i:Nat),E=Env.lst [(3,sl b11 0 (zu l).1.length cap11),(4,str (zu l).2),(5,int i)]∧Loc [] S0 S [(b11,Cs cs11 9)]∧(i≤(zu l).1.length)∧(∀ x∈(zu l).1.take i,LinP x)∧m_=(zu l).1.length-i) ?_ ?_
  ·skip
   refine ⟨_,_,?le,0,O,H,(by omega),(by simp),O⟩
   case le=>exact Env.qle ⟨O,O,O,⟨⟩⟩
  ·skip
   rintro _ S _ ⟨i,rfl,H,hi,hp,rfl⟩
   refine zSS (zn O (zn O (zLl O (za (vU O O fun t17 h17=>zN ?_)))))
   rcases t17 with _|_
   ·replace h17:=bF h17
    refine zr O (vq (zX (zX (vE (ze (zR (zn O (vM O (ct73 (by omega) fun t27 S hE h27=>?_)))))))))
    replace H:=H.call hE
    refine zn O (zN (zi (z0 O ?_)))
    rw [show i=(zu l).1.length by omega,List.take_length] at hp
    exact k _ _ H.qx (h27.trans ⟨fun h=>⟨hp,h,by omega⟩,fun h=>h.2.1⟩)
   ·replace h17:=bT h17
    obtain ⟨x,hx⟩:∃ x,(zu l).1[i]? = some x:=⟨(zu l).1[i]'(by omega),by simp⟩
    have hx11:=str_at hct11 hx
    refine zj O (zv (ze (zK (zJ (zR (zn O (zn O (zIa O O (zL1 H O .h hx11 (vM O (ct73 (by have:=hal x (List.mem_of_getElem? hx);omega) fun t24 S hE h24=>?_)))))))))))
    replace H:=H.call hE
    refine zNt O (zN ?_)
    rcases t24 with _|_
    ·replace h24:=bF h24
     refine zj O (zR (zn O (zN (zi (ve (zw (zw (ve (zw (z0 O ?_))))))))))
     exact k _ _ H.qx ⟨nofun,fun h=>absurd (h.1 x (List.mem_of_getElem? hx)) h24⟩
    ·replace h24:=bT h24
     refine zr O (zv (z5 (ze (zL (zn O (zAd O O (zn O (zN ?_))))))))
     refine ⟨_,_,?lt,?le,(i+1),O,H,(by omega),(mem_take_succ hx hp h24),O⟩
     case lt=>omega
     case le=>exact Env.qle ⟨O,O,O,⟨⟩⟩
 ·replace h8:=bT h8
  refine zj O (zR (zn O (zN (zi (zw (z0 O ?_))))))
  exact k _ _ H.qx ⟨nofun,fun h=>by have:=h.2.2;omega⟩
theorem ct216 (hs:Sl S0 2 a (zY es)) (hcp:es.length≤cap) (hl:es.length≤6) (hll:l.length≤1099511627776) (k:∀ (a1:Option Addr) (cap1:Nat) S',Ext [] S0 S'→(Sl S' 2 a1 (zY (vO es l).1))→((vO es l).1.length≤cap1)→(Org S0 a a1)→K (.tuple #[.agg #[.slice a1 (vO es l).1.length cap1],str (vO es l).2]) S') :
  zC 216 #[.agg #[.slice a es.length cap],str l] S0 K:=by
 refine zGh (sf:=s216) Tryz.func216 fun H=>zR (zBx H O O fun b2 S hb2 hE H=>zAl H O fun b4 S hb4 hE H=>zn O (zNR (zn O (vM O (ct226 (by omega) fun e12 t12 S hE hy12 hn12=>?_)))))
 replace H:=H.call hE
 have h12:t12=true↔t12=true:=Iff.rfl
 refine zn O (zEx O O (zEx O O (zAl H O fun b6 S hb6 hE H=>zSs H O O O .h O fun S hE H=>zn O (zN (zSS (zn O (zNt O (zN ?_))))))))
 rcases t12 with _|_
 ·replace h12:=bF h12
  refine zj O (zR (zLn (vs:=[_]) H O .h2 O (zn O (zSs H O O O .h1 O fun S hE H=>zn O (zN (zi (zw (⟨trivial,_,(zW (ws:=[_]) H O .h1 O (zZ O zO)),?_⟩))))))))
  (rw [lineOut_none (hn12 rfl).1] at k;exact k _ _ _ H.qx (hs.mono H.qx) hcp (.same _ _))
 ·replace h12:=bT h12
  refine zr O (zv (ze (zR (zLn (vs:=[_]) H O .h2 O (zLn (vs:=[_,_]) H O .h O (vM O (ct91 (hs.mono H.qx) hcp (by omega) fun a22 cap22 S hE hs22 hc22 ho22 hw22=>?_)))))))
  have hs22_b4:=ho22.ne (hs.ne (H.new1 .h1)) (H.get .h1)
  replace ho22:=ho22.back H.qx
  replace H:=H.call hE
  refine zn O (zEx O O (zEx O O (zAl H O fun b8 S hb8 hE H=>?_)))
  have hs22_b8:=hs22.ne hb8
  replace hs22:=hs22.mono hE
  refine zSs H O O O .h O fun S hE H=>?_
  replace hs22:=hs22.qy hE hs22_b8
  refine zn O (zN (zSS (zn O (za (vT O O fun t26 h26=>zN ?_)))))
  rcases t26 with _|_
  ·replace h26:=bF h26
   refine zr O (zv (ze (zK (z9 [] (vg 0 O O (fun S' hS'=>zD fun K hK=>zU O (zG (hS' O) (by simp) (H.cells (vs:=[_]) .h O)) hK) (vH 1 O O O (vJ 2 O O (fun _ _ hK=>vu (cs:=[_,_]) O O hK) (zA 3 (by kernel_rfl) O O (zt (zS O (ct225 (e:=⟨50,putP es e12⟩) fun S hE =>?_)))))))))))
   replace H:=H.call hE
   replace hs22:=hs22.mono hE
   refine ⟨fun _=>hE.up.ext,zA 4 (by kernel_rfl) O O (zt (zSt H O O O .h2 O fun S hE H=>?_))⟩
   replace hs22:=hs22.qy hE hs22_b4
   refine zLd (vH 5 O O O (zV (ze (zi (⟨trivial,_,(zW (ws:=[_]) H O .h2 O (zZ O zO)),?_⟩)))))
   (rw [lineOut_port (hy12 rfl) h26] at k;exact k _ _ _ H.qx hs22 hc22 ho22)
  ·replace h26:=bT h26
   refine zj O (zR (zLn (vs:=[_]) H O .h O (zSs H O O O .h2 O fun S hE H=>?_)))
   replace hs22:=hs22.qy hE hs22_b4
   refine zn O (zN (zi (zw (⟨trivial,_,(zW (ws:=[_]) H O .h2 O (zZ O zO)),?_⟩))))
   (rw [lineOut_full (hy12 rfl) h26] at k;exact k _ _ _ H.qx hs22 hc22 ho22)
theorem ct208 (hs:Sl S0 2 a (zY es)) (hcp:es.length≤cap) (hl:es.length≤1099511627776) (hll:l.length≤1099511627776) (k:∀  S',Ext [] S0 S'→K (str (lineIn es l)) S') :
  zC 208 #[.agg #[.slice a es.length cap],str l] S0 K:=by
 refine zGh (sf:=s208) Tryz.func208 fun H=>zR (zBx H O O fun b2 S hb2 hE H=>zn O (zNR (zn O (vM O (ct224 (by omega) fun p11 t11 S hE hy11 hn11=>?_)))))
 replace H:=H.call hE
 have h11:t11=true↔t11=true:=Iff.rfl
 refine zn O (zEx O O (zEx O O (zn O (zn O (zN (zSS (zn O (zNt O (zN ?_)))))))))
 rcases t11 with _|_
 ·replace h11:=bF h11
  refine zj O (zR (zn O (zn O (zN (zi (zw (z0 O ?_)))))))
  (rw [lineIn_none (hn11 rfl).1] at k;exact k _ H.qx)
 ·replace h11:=bT h11
  refine zr O (zv (ze (zR (zLn (vs:=[_]) H O .h O (zn O (vM O (ct80 (hs.mono H.qx) hcp (by omega) fun e20 t20 S hE hy20 hn20=>?_)))))))
  replace H:=H.call hE
  have h20:t20=true↔t20=true:=Iff.rfl
  refine zn O (zEx O O (zEx O O (zAl H O fun b7 S hb7 hE H=>zSs H O O O .h O fun S hE H=>zn O (zN (zSS (zn O (zNt O (zN ?_))))))))
  rcases t20 with _|_
  ·replace h20:=bF h20
   refine zj O (zR (zn O (zn O (zN (zi (zw (z0 O ?_)))))))
   (rw [lineIn_no (hy11 rfl) (hn20 rfl).1] at k;exact k _ H.qx)
  ·replace h20:=bT h20
   refine zr O (zv (ze (zR (zLn (vs:=[_,_]) H O .h O (vM O (ct225  fun S hE =>?_))))))
   replace H:=H.call hE
   refine zn O (zN (zi (z0 O ?_)))
   (rw [lineIn_yes (hy11 rfl) (hy20 rfl)] at k;exact k _ H.qx)
theorem ct175 (hs:Sl S0 2 a (zY es)) (hcp:es.length≤cap) (hl:es.length≤6) (hll:l.length≤1048576) (k:∀ (a1:Option Addr) (cap1:Nat) S',Ext [] S0 S'→(Sl S' 2 a1 (zY (vI es l).1))→((vI es l).1.length≤cap1)→(Org S0 a a1)→((vI es l).2.length≤1099527356416)→K (.tuple #[.agg #[.slice a1 (vI es l).1.length cap1],str (vI es l).2]) S') :
  zC 175 #[.agg #[.slice a es.length cap],str l] S0 K:=by
 refine zGh (sf:=s175) Tryz.func175 fun H=>?_
 have hq:=hs
 refine zR (zBx H O O fun b2 S hb2 hE H=>?_)
 have hq_b2:=hq.ne hb2
 replace hq:=hq.mono hE
 refine zAl H O fun b4 S hb4 hE H=>?_
 have hq_b4:=hq.ne hb4
 replace hq:=hq.mono hE
 refine zn O (zNR (zn O (vM O (ct72 (by omega) fun b14 cap14 S hE hb14 hO14=>?_))))
 obtain ⟨cs14,ho14,hn14,hcl14,hct14,_⟩:=hO14
 replace H:=H.adopt hE hb14 ho14
 have hnl:(zu l).1.length≤l.length:=strLines_len l
 have hal:=lines_le l
 have hlim:=linesOut_len6 (zu l).1 hl
 replace hq:=hq.mono hE
 refine zn O (zEx O O (zEx O O (zn O (zn O (zNR (zn O (zN (zSS (zn O (zN (zJ ?_)))))))))))
 refine vr (fun E S m_=>∃ (i:Nat) (a1:Option Addr) (cap1:Nat) (es1:List End) (tx:Bs),E=Env.lst [(2,vQ b2 0),(4,vQ b4 0),(6,sl b14 0 (zu l).1.length cap14),(8,str tx),(9,int i)]∧Loc [] S0 S [(b14,Cs cs14 9),(b4,Cs [.slice none 0 0] 26),(b2,Cs [.slice a1 es1.length cap1] 26)]∧(i≤(zu l).1.length)∧(linesOut es ((zu l).1.take i)=(es1,tx))∧(Sl S 2 a1 (zY es1))∧(∀ b off,a1=some ⟨b,off,none⟩→b≠b2)∧(∀ b off,a1=some ⟨b,off,none⟩→b≠b4)∧(es1.length≤cap1)∧(Org S0 a a1)∧(tx.length≤i*(l.length+15))∧(es1.length≤6)∧m_=(zu l).1.length-i) ?_ ?_
 ·skip
  refine ⟨_,_,?le,0,a,cap,es,[],O,H,(by omega),O,hq,hq_b2,hq_b4,hcp,(.same _ _),(by simp),hl,O⟩
  case le=>exact Env.qle ⟨O,O,O,O,O,⟨⟩⟩
 ·skip
  rintro _ S _ ⟨i,a1,cap1,es1,tx,rfl,H,hi,hlo,hq,hq_b2,hq_b4,hcp1,ho1,htl,hl1,rfl⟩
  have hes1:es1=es1:=rfl
  refine zSS (zn O (zn O (zLl O (za (vU O O fun t20 h20=>zN ?_)))))
  rcases t20 with _|_
  ·replace h20:=bF h20
   refine zr O (vq (zX (zX (vE (ze (zR (zLn (vs:=[_]) H O .h2 O (zn O (zSs H O O O .h1 O fun S hE H=>?_)))))))))
   replace hq:=hq.qy hE hq_b4
   refine zn O (zN (zi (⟨trivial,_,(zW (ws:=[_]) H O .h1 O (zZ O zO)),?_⟩)))
   rw [show i=(zu l).1.length by omega,List.take_length] at hlo
   have hst:vI es l=(es1,tx):=hlo
   have hmb:=mul_bd (i:=i) (n:=l.length) (by omega) hll
   rw [hst] at k
   exact k _ _ _ H.qx hq hcp1 ho1 (by show tx.length≤_;omega)
  ·replace h20:=bT h20
   obtain ⟨x,hx⟩:∃ x,(zu l).1[i]? = some x:=⟨(zu l).1[i]'(by omega),by simp⟩
   have hx14:=str_at hct14 hx
   have hmb:=mul_bd (i:=i) (n:=l.length) (by omega) hll
   refine zj O (zv (ze (zK (zJ (zK (z9 [] (vg 0 O O (fun S' hS'=>zD fun K hK=>zU O (zG (hS' O) (by simp) (H.cells (vs:=[_]) .h2 O)) hK) (vH 1 O O O (vH 2 O O O (vJ 3 O O (fun _ _ hK=>vj O O (by omega) (by omega) hK) (vg 4 O O (fun S' hS'=>zD fun K hK=>zE O (zB (hS' O) (by simp) (H.cell .h hx14)) hK) (wpD_two 5 9 (by kernel_rfl) O O O O ?_ ?_))))))))))))
   ·skip
    refine zt (zS O (ct216 hq hcp1 (by rw [hes1];exact hl1) (by have:=hal x (List.mem_of_getElem? hx);omega) fun a29 cap29 S hE hs29 hc29 ho29=>?_))
    have hs29_b4:=ho29.ne hq_b4 (H.get .h1)
    have hs29_b2:=ho29.ne hq_b2 (H.get .h2)
    replace ho29:=ho1.trans (ho29.back H.qx)
    replace H:=H.call hE
    have hsl:=lineOut_snd_len es1 x
    have hxl:=hal x (List.mem_of_getElem? hx)
    refine zLd (vH 6 O O O (vJ 7 O O (fun _ _ hK=>vv O O hK) (vJ 8 O O (fun _ _ hK=>vv O O hK) (zA 9 (by kernel_rfl) O O (zt (W_alloc H O fun b10 S hb10 hE H=>?_))))))
    have hs29_b10:=hs29.ne hb10
    replace hs29:=hs29.mono hE
    refine ⟨fun _=>hE.up.ext,zA 10 (by kernel_rfl) O O (zt (zSt H O O O .h O fun S hE H=>?_))⟩
    replace hs29:=hs29.qy hE hs29_b10
    refine zLd (vH 11 O O O (zV (ze (zR (zLn (vs:=[_]) H O .h O (zSs H O O O .h3 O fun S hE H=>?_))))))
    replace hs29:=hs29.qy hE hs29_b2
    refine zN (zL (zn O (zn O (za (W_catS O O (by omega) (za (W_catS O O (by simp only [List.length_append,List.length_cons,List.length_nil];omega) (zn O (vi (z5 (ze (zL (zn O (zAd O O (zn O (zN ?_))))))))))))))))
    refine ⟨_,_,?lt,?le,(i+1),a29,cap29,(vO es1 x).1,(tx++(vO es1 x).2++[59]),O,(H.sub (.cons _ (.cons_cons _ (.cons_cons _ (.cons_cons _ .slnil))))),(by omega),(linesOut_take hx hlo),hs29,hs29_b2,hs29_b4,hc29,ho29,(by rw [Nat.add_mul];simp only [List.length_append,List.length_cons,List.length_nil];omega),(lineOut_len6 x hl1),O⟩
    case lt=>omega
    case le=>exact Env.qle ⟨O,O,O,O,O,⟨⟩⟩
   ·skip
    refine zt (W_alloc H O fun b10 S hb10 hE H=>?_)
    have hq_b10:=hq.ne hb10
    replace hq:=hq.mono hE
    refine ⟨fun _=>hE.up.ext,zA 5 (by kernel_rfl) O O (zt (zS O (ct216 hq hcp1 (by rw [hes1];exact hl1) (by have:=hal x (List.mem_of_getElem? hx);omega) fun a29 cap29 S hE hs29 hc29 ho29=>?_)))⟩
    have hs29_b10:=ho29.ne hq_b10 (H.get .h)
    have hs29_b4:=ho29.ne hq_b4 (H.get .h2)
    have hs29_b2:=ho29.ne hq_b2 (H.get .h3)
    replace ho29:=ho1.trans (ho29.back H.qx)
    replace H:=H.call hE
    have hsl:=lineOut_snd_len es1 x
    have hxl:=hal x (List.mem_of_getElem? hx)
    refine zLd (vH 6 O O O (vJ 7 O O (fun _ _ hK=>vv O O hK) (vJ 8 O O (fun _ _ hK=>vv O O hK) (zA 10 (by kernel_rfl) O O (zt (zSt H O O O .h O fun S hE H=>?_))))))
    replace hs29:=hs29.qy hE hs29_b10
    refine zLd (vH 11 O O O (zV (ze (zR (zLn (vs:=[_]) H O .h O (zSs H O O O .h3 O fun S hE H=>?_))))))
    replace hs29:=hs29.qy hE hs29_b2
    refine zN (zL (zn O (zn O (za (W_catS O O (by omega) (za (W_catS O O (by simp only [List.length_append,List.length_cons,List.length_nil];omega) (zn O (vi (z5 (ze (zL (zn O (zAd O O (zn O (zN ?_))))))))))))))))
    refine ⟨_,_,?lt,?le,(i+1),a29,cap29,(vO es1 x).1,(tx++(vO es1 x).2++[59]),O,(H.sub (.cons _ (.cons_cons _ (.cons_cons _ (.cons_cons _ .slnil))))),(by omega),(linesOut_take hx hlo),hs29,hs29_b2,hs29_b4,hc29,ho29,(by rw [Nat.add_mul];simp only [List.length_append,List.length_cons,List.length_nil];omega),(lineOut_len6 x hl1),O⟩
    case lt=>omega
    case le=>exact Env.qle ⟨O,O,O,O,O,⟨⟩⟩
end
section
variable {S0:St} {K:Value→St→Prop}
variable {e f:End} {rs:List Rule} {cap:Nat} {a:Option Addr} {x:Rule}
theorem ct137  (k:∀ (t:Bool) S',Ext [] S0 S'→(t=true↔RuleP x)→K (.bool t) S') :
  zC 137 #[x.v] S0 K:=by
 refine zGh (sf:=s137) Tryz.func137 fun H=>zR (zBx H O O fun b1 S hb1 hE H=>zn O (zNR (zFa O (zL1 H O .h O (zFa O (zL1 H O .h O (vM O (ct85  fun t7 S hE h7=>?_))))))))
 replace H:=H.call hE
 refine zn O ?_
 rcases t7 with _|_
 ·replace h7:=bF h7
  refine zH O (zH O (zH O (vp O O O O (zn O (zH O (zH O (zH O (zH O (zH O (vp O O O O (zn O (zH O (zH O (zH O (vp O O O O (zn O (zH O (zH O (zH O (zH O (zH O (vp O O O O (zn O (zH O (zH O (zH O (vp O O O O (zn O ?_))))))))))))))))))))))))))))
  refine zN (zi (z0 O ?_))
  exact k _ _ H.qx (by unfold RuleP;first | (rw [h35];omega) | (simp;omega))
 ·replace h7:=bT h7
  refine zh O (zz O (zh O (vl H O .h O (zh O (W_leq O O fun t11 h11=>vp O O O O (zn O ?_))))))
  rcases t11 with _|_
  ·replace h11:=bF h11
   refine zH O (zH O (zH O (zH O (zH O (vp O O O O (zn O (zH O (zH O (zH O (vp O O O O (zn O (zH O (zH O (zH O (zH O (zH O (vp O O O O (zn O (zH O (zH O (zH O (vp O O O O (zn O (zN (zi (z0 O ?_))))))))))))))))))))))))))
   exact k _ _ H.qx (by unfold RuleP;first | (rw [h35];omega) | (simp;omega))
  ·replace h11:=bT h11
   refine zh O (zz O (zh O (vl H O .h O (zh O (zz O (zh O (vl H O .h O (zh O (zS O (ct85  fun t18 S hE h18=>?_))))))))))
   replace H:=H.call hE
   refine vp O O O O (zn O ?_)
   rcases t18 with _|_
   ·replace h18:=bF h18
    refine zH O (zH O (zH O (vp O O O O (zn O (zH O (zH O (zH O (zH O (zH O (vp O O O O (zn O (zH O (zH O (zH O (vp O O O O (zn O (zN (zi (z0 O ?_)))))))))))))))))))
    exact k _ _ H.qx (by unfold RuleP;first | (rw [h35];omega) | (simp;omega))
   ·replace h18:=bT h18
    refine zh O (zz O (zh O (vl H O .h O (zh O (W_leq O O fun t23 h23=>vp O O O O (zn O ?_))))))
    rcases t23 with _|_
    ·replace h23:=bF h23
     refine zH O (zH O (zH O (zH O (zH O (vp O O O O (zn O (zH O (zH O (zH O (vp O O O O (zn O (zN (zi (z0 O ?_))))))))))))))
     exact k _ _ H.qx (by unfold RuleP;first | (rw [h35];omega) | (simp;omega))
    ·replace h23:=bT h23
     refine zh O (zz O (zh O (vl H O .h O (zh O (zz O (zh O (vl H O .h O (zh O (zS O (ct85  fun t30 S hE h30=>?_))))))))))
     replace H:=H.call hE
     refine vp O O O O (zn O ?_)
     rcases t30 with _|_
     ·replace h30:=bF h30
      refine zH O (zH O (zH O (vp O O O O (zn O (zN (zi (z0 O ?_)))))))
      exact k _ _ H.qx (by unfold RuleP;first | (rw [h35];omega) | (simp;omega))
     ·replace h30:=bT h30
      refine zh O (zz O (zh O (vl H O .h O (zh O (W_leq O O fun t35 h35=>vp O O O O (zn O (zN (zi (z0 O ?_)))))))))
      exact k _ _ H.qx (by unfold RuleP;first | (rw [h35];omega) | (simp;omega))
theorem ct58 (hs:Sl S0 7 a (vo rs)) (hl:rs.length≤1099511627776) (k:∀ (t:Bool) S',Ext [] S0 S'→(t=true↔RulesP rs)→K (.bool t) S') :
  zC 58 #[.slice a rs.length cap] S0 K:=by
 refine zGh (sf:=s58) Tryz.func58 fun H=>zR (zn O (zN (zSS (zn O (zLl O (za (W_gtr O O fun t6 h6=>zN ?_)))))))
 rcases t6 with _|_
 ·replace h6:=bF h6
  refine zr O (zv (ze (zSS (zn O (zN (zJ ?_))))))
  refine vr (fun E S m_=>∃ (i:Nat),E=Env.lst [(0,.slice a rs.length cap),(3,int i)]∧Loc [] S0 S []∧(i≤rs.length)∧(∀ r∈rs.take i,RuleP r)∧m_=rs.length-i) ?_ ?_
  ·skip
   refine ⟨_,_,?le,0,O,H,(by omega),(by simp),O⟩
   case le=>exact Env.qle ⟨O,O,⟨⟩⟩
  ·skip
   rintro _ S _ ⟨i,rfl,H,hi,hp,rfl⟩
   refine zSS (zn O (zn O (zLl O (za (vU O O fun t10 h10=>zN ?_)))))
   rcases t10 with _|_
   ·replace h10:=bF h10
    refine zr O (vq (zX (zX (vE (ze (zR (zn O (zN (zi (z0 O ?_))))))))))
    rw [show i=rs.length by omega,List.take_length] at hp
    exact k _ _ H.qx ⟨fun _=>⟨by omega,hp⟩,fun _=>rfl⟩
   ·replace h10:=bT h10
    obtain ⟨x,hx⟩:∃ x,rs[i]? = some x:=⟨rs[i]'(by omega),by simp⟩
    obtain ⟨b,off,rfl,hc⟩:=hs.row i _ (ruleRows_at hx)
    refine zj O (zv (ze (zK (zJ (zR (zn O (zn O (zIa O O (za (zU (vs:=[_,_,_,_,_,_,_]) O (H.qx.cells hc) (vM O (ct137  fun t17 S hE h17=>?_))))))))))))
    replace H:=H.call hE
    refine zNt O (zN ?_)
    rcases t17 with _|_
    ·replace h17:=bF h17
     refine zj O (zR (zn O (zN (zi (ve (zw (zw (ve (zw (z0 O ?_))))))))))
     exact k _ _ H.qx ⟨nofun,fun h=>absurd (h.2 x (List.mem_of_getElem? hx)) h17⟩
    ·replace h17:=bT h17
     refine zr O (zv (z5 (ze (zL (zn O (zAd O O (zn O (zN ?_))))))))
     refine ⟨_,_,?lt,?le,(i+1),O,H,(by omega),(mem_take_succ hx hp h17),O⟩
     case lt=>omega
     case le=>exact Env.qle ⟨O,O,⟨⟩⟩
 ·replace h6:=bT h6
  refine zj O (zR (zn O (zN (zi (zw (z0 O ?_))))))
  exact k _ _ H.qx ⟨nofun,fun h=>absurd h.1 (by omega)⟩
theorem ct162  (k:∀ (t:Bool) S',Ext [] S0 S'→(t=true↔FitsP x e f)→K (.bool t) S') :
  zC 162 #[x.v,e.v,f.v] S0 K:=by
 refine zGh (sf:=s162) Tryz.func162 fun H=>zR (zBx H O O fun b3 S hb3 hE H=>zBx H O O fun b4 S hb4 hE H=>zBx H O O fun b5 S hb5 hE H=>zn O (zNR (zFa O (zL1 H O .h1 O (zFa O (zL1 H O .h2 O (zFa O (zL1 H O .h2 O (vM O (ct85  fun t13 S hE h13=>?_))))))))))
 replace H:=H.call hE
 refine zn O ?_
 rcases t13 with _|_
 ·replace h13:=bF h13
  refine zH O (zH O (zH O (zH O (zH O (zH O (zH O (vp O O O O (zn O (zH O (zH O (zH O (zH O (zH O (zH O (zH O (vp O O O O (zn O (zN (zi (z0 O ?_))))))))))))))))))))
  exact k _ _ H.qx (by unfold FitsP;first | (rw [h30];omega) | (simp;omega))
 ·replace h13:=bT h13
  refine zh O (zz O (zh O (vl H O .h O (zh O (zz O (zh O (vl H O .h2 O (zh O (zz O (zh O (vl H O .h2 O (zh O (zS O (ct85  fun t21 S hE h21=>?_))))))))))))))
  replace H:=H.call hE
  refine vp O O O O (zn O ?_)
  rcases t21 with _|_
  ·replace h21:=bF h21
   refine zH O (zH O (zH O (zH O (zH O (zH O (zH O (vp O O O O (zn O (zN (zi (z0 O ?_)))))))))))
   exact k _ _ H.qx (by unfold FitsP;first | (rw [h30];omega) | (simp;omega))
  ·replace h21:=bT h21
   refine zh O (zz O (zh O (vl H O .h O (zh O (zz O (zh O (vl H O .h2 O (zh O (zz O (zh O (vl H O .h2 O (zh O (zS O (ct85  fun t30 S hE h30=>?_))))))))))))))
   replace H:=H.call hE
   refine vp O O O O (zn O (zN (zi (z0 O ?_))))
   exact k _ _ H.qx (by unfold FitsP;first | (rw [h30];omega) | (simp;omega))
theorem ct81 (hs:Sl S0 7 a (vo rs)) (hl:rs.length≤1099511627776) (k:∀ (t:Bool) S',Ext [] S0 S'→(t=true↔mayR rs e f=true)→K (.bool t) S') :
  zC 81 #[.slice a rs.length cap,e.v,f.v] S0 K:=by
 refine zGh (sf:=s81) Tryz.func81 fun H=>zR (zBx H O O fun b4 S hb4 hE H=>zBx H O O fun b5 S hb5 hE H=>zn O (zN (zSS (zn O (zN (zJ ?_))))))
 refine vr (fun E S m_=>∃ (i:Nat),E=Env.lst [(0,.slice a rs.length cap),(4,vQ b4 0),(5,vQ b5 0),(7,int i)]∧Loc [] S0 S [(b5,Cs f.row 31),(b4,Cs e.row 31)]∧(i≤rs.length)∧(mayR rs e f=mayR (rs.drop i) e f)∧m_=rs.length-i) ?_ ?_
 ·skip
  refine ⟨_,_,?le,0,O,H,(by omega),(by simp),O⟩
  case le=>exact Env.qle ⟨O,O,O,O,⟨⟩⟩
 ·skip
  rintro _ S _ ⟨i,rfl,H,hi,hm,rfl⟩
  refine zSS (zn O (zn O (zLl O (za (vU O O fun t11 h11=>zN ?_)))))
  rcases t11 with _|_
  ·replace h11:=bF h11
   refine zr O (vq (zX (zX (vE (ze (zR (zn O (zN (zi (z0 O ?_))))))))))
   exact k _ _ H.qx (by rw [hm,mayR_end (by omega)])
  ·replace h11:=bT h11
   obtain ⟨x,hx⟩:∃ x,rs[i]? = some x:=⟨rs[i]'(by omega),by simp⟩
   obtain ⟨b,off,rfl,hc⟩:=hs.row i _ (ruleRows_at hx)
   refine zj O (zv (ze (zK (zJ (zK (z9 [] (vH 0 O O O (vH 1 O O O (vJ 2 O O (fun _ _ hK=>vj O O (by omega) (by omega) hK) (vg 3 O O (fun S' hS'=>zD fun K hK=>zU (vs:=[_,_,_,_,_,_,_]) O (zG (hS' O) (by simp) (H.qx.cells hc)) hK) (vg 4 O O (fun S' hS'=>zD fun K hK=>zU O (zG (hS' O) (by simp) (H.cells (vs:=[_,_]) .h1 O)) hK) (vg 5 O O (fun S' hS'=>zD fun K hK=>zU O (zG (hS' O) (by simp) (H.cells (vs:=[_,_]) .h O)) hK) (zA 6 (by kernel_rfl) O O (zt (zS O (ct162  fun t20 S hE h20=>?_))))))))))))))))
   replace H:=H.call hE
   refine zLd (zV (ze ?_))
   rcases t20 with _|_
   ·replace h20:=bF h20
    refine zr O (zv (z5 (ze (zL (zn O (zAd O O (zn O (zN ?_))))))))
    refine ⟨_,_,?lt,?le,(i+1),O,H,(by omega),(hm.trans (mayR_drop hx h20)),O⟩
    case lt=>omega
    case le=>exact Env.qle ⟨O,O,O,O,⟨⟩⟩
   ·replace h20:=bT h20
    refine zj O (zR (zn O (zn O (zIa O O (zFa O (za (zE O (cell_at (i:=0) (H.qx.cells hc) O) (zn O (zN (zi (ve (zw (zw (ve (zw (z0 O ?_))))))))))))))))
    exact k _ _ H.qx (by rw [hm,mayR_hit hx h20])
end
section
variable {S0:St} {K:Value→St→Prop}
variable {q:Int} {sp:List Span} {cap:Nat} {a:Option Addr} {s:Seg}
theorem ct29  (k:∀ (t:Bool) S',Ext [] S0 S'→(t=true↔SegP s)→K (.bool t) S') :
  zC 29 #[s.v] S0 K:=by
 refine zGh (sf:=s29) Tryz.func29 fun H=>zR (zBx H O O fun b1 S hb1 hE H=>zn O (zN (zSS (zFa O (zLn (vs:=[_,_]) H O .h O (vM O (ct84  fun t6 S hE h6=>?_)))))))
 replace H:=H.call hE
 refine zNt O (zn O ?_)
 rcases t6 with _|_
 ·replace h6:=bF h6
  refine zH O (zH O (zH O (zH O (vp O O O O (zn O (zH O (zH O (zH O (zH O (vp O O O O (zn O (zH O (zH O (zH O (zH O (vp O O O O (zn O (zH O (zH O (zH O (zH O (vp O O O O (zN (zj O (zR (zn O (zN (zi (zw ?_)))))))))))))))))))))))))))))
  refine z0 O ?_
  exact k _ _ H.qx ⟨nofun,fun h=>by obtain ⟨p1,p2,p3,p4,p5,p6⟩:=h;first | exact absurd p1 h6 | exact absurd p2 h11 | exact absurd p3 h17 | exact absurd p4 h23 | omega⟩
 ·replace h6:=bT h6
  refine zh O (zz O (zh O (vK (vs:=[_,_]) H O .h O (zh O (zS O (ct84  fun t11 S hE h11=>?_))))))
  replace H:=H.call hE
  refine zh O (W_not O (vp O O O O (zn O ?_)))
  rcases t11 with _|_
  ·replace h11:=bF h11
   refine zH O (zH O (zH O (zH O (vp O O O O (zn O (zH O (zH O (zH O (zH O (vp O O O O (zn O (zH O (zH O (zH O (zH O (vp O O O O (zN (zj O (zR (zn O (zN (zi (zw (z0 O ?_))))))))))))))))))))))))
   exact k _ _ H.qx ⟨nofun,fun h=>by obtain ⟨p1,p2,p3,p4,p5,p6⟩:=h;first | exact absurd p1 h6 | exact absurd p2 h11 | exact absurd p3 h17 | exact absurd p4 h23 | omega⟩
  ·replace h11:=bT h11
   refine zh O (zz O (zh O (vl H O .h O (zh O (zS O (ct85  fun t17 S hE h17=>?_))))))
   replace H:=H.call hE
   refine zh O (W_not O (vp O O O O (zn O ?_)))
   rcases t17 with _|_
   ·replace h17:=bF h17
    refine zH O (zH O (zH O (zH O (vp O O O O (zn O (zH O (zH O (zH O (zH O (vp O O O O (zN (zj O (zR (zn O (zN (zi (zw (z0 O ?_))))))))))))))))))
    exact k _ _ H.qx ⟨nofun,fun h=>by obtain ⟨p1,p2,p3,p4,p5,p6⟩:=h;first | exact absurd p1 h6 | exact absurd p2 h11 | exact absurd p3 h17 | exact absurd p4 h23 | omega⟩
   ·replace h17:=bT h17
    refine zh O (zz O (zh O (vl H O .h O (zh O (zS O (ct85  fun t23 S hE h23=>?_))))))
    replace H:=H.call hE
    refine zh O (W_not O (vp O O O O (zn O ?_)))
    rcases t23 with _|_
    ·replace h23:=bF h23
     refine zH O (zH O (zH O (zH O (vp O O O O (zN (zj O (zR (zn O (zN (zi (zw (z0 O ?_))))))))))))
     exact k _ _ H.qx ⟨nofun,fun h=>by obtain ⟨p1,p2,p3,p4,p5,p6⟩:=h;first | exact absurd p1 h6 | exact absurd p2 h11 | exact absurd p3 h17 | exact absurd p4 h23 | omega⟩
    ·replace h23:=bT h23
     refine zh O (zz O (zh O (vl H O .h O (zh O (vF O (zh O (W_gtr O O fun t30 h30=>vp O O O O (zN ?_))))))))
     rcases t30 with _|_
     ·replace h30:=bF h30
      refine zr O (zv (ze (zSS (zn O (zN (zJ ?_))))))
      refine vr (fun E S m_=>∃ (i:Nat),E=Env.lst [(1,vQ b1 0),(3,int i)]∧Loc [] S0 S [(b1,Cs s.row 33)]∧(i≤s.dt.length)∧(∀ c∈s.dt.take i,SegB c)∧m_=s.dt.length-i) ?_ ?_
      ·skip
       refine ⟨_,_,?le,0,O,H,(by omega),(by simp),O⟩
       case le=>exact Env.qle ⟨O,O,⟨⟩⟩
      ·skip
       rintro _ S _ ⟨i,rfl,H,hi,hp,rfl⟩
       refine zSS (zn O (zFa O (zL1 H O .h O (za (vF O (za (vU O O fun t36 h36=>zN ?_)))))))
       rcases t36 with _|_
       ·replace h36:=bF h36
        refine zr O (vq (zX (zX (vE (ze (zR (zn O (zN (zi (z0 O ?_))))))))))
        (rw [show i=s.dt.length by omega,List.take_length] at hp;exact k _ _ H.qx ⟨fun _=>⟨h6,h11,h17,h23,by omega,hp⟩,fun _=>rfl⟩)
       ·replace h36:=bT h36
        obtain ⟨c,hc⟩:∃ c,s.dt[i]? = some c:=⟨s.dt[i]'(by omega),by simp⟩
        refine zj O (zv (ze (zK (zJ (zR (zFa O (zL1 H O .h O (zn O (za (W_idxT O O (by omega) hc (vM O (ct86  fun t43 S hE h43=>?_))))))))))))
        replace H:=H.call hE
        refine zNt O (zn O ?_)
        rcases t43 with _|_
        ·replace h43:=bF h43
         refine zh O (zz O (zh O (vl H O .h O (zh O (vP O (zh O (W_idxT O O (by omega) hc (zh O (W_neI O O fun t50 h50=>vp O O O O (zN ?_))))))))))
         rcases t50 with _|_
         ·replace h50:=bF h50
          refine zr O (zv (z5 (ze (zL (zn O (zAd O O (zn O (zN ?_))))))))
          refine ⟨_,_,?lt,?le,(i+1),O,H,(by omega),(mem_take_succ hc hp (by first | exact .inl h43 | exact .inr (UInt8.toNat_inj.1 (by have:(c.toNat:Int)=59:=Classical.not_not.1 h50;show c.toNat=59;omega)))),O⟩
          case lt=>omega
          case le=>exact Env.qle ⟨O,O,⟨⟩⟩
         ·replace h50:=bT h50
          refine zj O (zR (zn O (zN (zi (ve (zw (zw (ve (zw (z0 O ?_))))))))))
          exact k _ _ H.qx ⟨nofun,fun h=>by rcases h.2.2.2.2.2 c (List.mem_of_getElem? hc) with h | h;exact absurd h h43;subst h;exact absurd rfl h50⟩
        ·replace h43:=bT h43
         refine zH O (zH O (zH O (zH O (zH O (vp O O O O (zN (zr O (zv (z5 (ze (zL (zn O (zAd O O (zn O (zN ?_)))))))))))))))
         refine ⟨_,_,?lt,?le,(i+1),O,H,(by omega),(mem_take_succ hc hp (by first | exact .inl h43 | exact .inr (UInt8.toNat_inj.1 (by have:(c.toNat:Int)=59:=Classical.not_not.1 h50;show c.toNat=59;omega)))),O⟩
         case lt=>omega
         case le=>exact Env.qle ⟨O,O,⟨⟩⟩
     ·replace h30:=bT h30
      refine zj O (zR (zn O (zN (zi (zw (z0 O ?_))))))
      exact k _ _ H.qx ⟨nofun,fun h=>by obtain ⟨p1,p2,p3,p4,p5,p6⟩:=h;first | exact absurd p1 h6 | exact absurd p2 h11 | exact absurd p3 h17 | exact absurd p4 h23 | omega⟩
theorem ct163 {l:Bs} (hl:l.length≤1099511627776) (hd:s.dt.length≤1099511627776) (k:∀  S',Ext [] S0 S'→K (str (grown l s)) S') :
  zC 163 #[str l,s.v] S0 K:=by
 refine zGh (sf:=s163) Tryz.func163 fun H=>zR (zBx H O O fun b3 S hb3 hE H=>zn O (zN (zSS (zFa O (zL1 H O .h O (za (vU O O fun t7 h7=>zn O ?_)))))))
 rcases t7 with _|_
 ·replace h7:=bF h7
  refine zh O (zz O (zh O (vl H O .h O (zh O (vP O (zh O (vF O (zh O (W_gtr O O fun t13 h13=>vp O O O O (zn O ?_))))))))))
  rcases t13 with _|_
  ·replace h13:=bF h13
   refine zh O (zz O (zh O (vl H O .h O (zh O (zz O (zh O (vl H O .h O (zh O (vF O (zh O (W_add O O (by omega) (by omega) (zh O (vP O (zh O (vF O (zh O (W_leq O O fun t24 h24=>vp O O O O (zN ?_))))))))))))))))))
   rcases t24 with _|_
   ·replace h24:=bF h24
    refine zr O (zv (ze (zR (zn O (zFa O (zL1 H O .h O (zn O (za (vF O (zFa O (zL1 H O .h O (zSb O O (za (W_slSlo O O (by omega) (by omega) (za (W_catS O O (by simp;omega) (zn O (zN (zi (z0 O ?_))))))))))))))))))))
    (rw [show grown l s=l++s.dt.drop ((l.length:Int)-s.sq).toNat from if_neg (by omega)] at k;exact k _ H.qx)
   ·replace h24:=bT h24
    refine zj O (zR (zn O (zn O (zN (zi (zw (z0 O ?_)))))))
    (rw [show grown l s=l from if_pos (by omega)] at k;exact k _ H.qx)
  ·replace h13:=bT h13
   refine zH O (zH O (zH O (zH O (zH O (zH O (zH O (zH O (zH O (vp O O O O (zN (zj O (zR (zn O (zn O (zN (zi (zw (z0 O ?_))))))))))))))))))
   (rw [show grown l s=l from if_pos (by omega)] at k;exact k _ H.qx)
 ·replace h7:=bT h7
  refine zH O (zH O (zH O (zH O (zH O (vp O O O O (zn O (zH O (zH O (zH O (zH O (zH O (zH O (zH O (zH O (zH O (vp O O O O (zN (zj O (zR (zn O (zn O (zN (zi (zw (z0 O ?_)))))))))))))))))))))))))
  (rw [show grown l s=l from if_pos (by omega)] at k;exact k _ H.qx)
theorem ct166 (hs:Sl S0 5 a (spanRows sp)) (hl:sp.length≤1099511627776) (k:∀  S',Ext [] S0 S'→K (int (outD 0 sp q)) S') :
  zC 166 #[.slice a sp.length cap,int q] S0 K:=by
 refine zGh (sf:=s166) Tryz.func166 fun H=>zR (zn O (zNR (zn O (zN (zSS (zn O (zN (zJ ?_))))))))
 refine vr (fun E S m_=>∃ (i:Nat) (n:Int),E=Env.lst [(0,.slice a sp.length cap),(1,int q),(5,int n),(6,int i)]∧Loc [] S0 S []∧(i≤sp.length)∧(outD 0 sp q=outD n (sp.drop i) q)∧m_=sp.length-i) ?_ ?_
 ·skip
  refine ⟨_,_,?le,0,0,O,H,(by omega),(by simp),O⟩
  case le=>exact Env.qle ⟨O,O,O,O,⟨⟩⟩
 ·skip
  rintro _ S _ ⟨i,n,rfl,H,hi,hm,rfl⟩
  refine zSS (zn O (zn O (zLl O (za (vU O O fun t10 h10=>zN ?_)))))
  rcases t10 with _|_
  ·replace h10:=bF h10
   refine zr O (vq (zX (zX (vE (ze (zR (zn O (zn O (zN (zi (z0 O ?_)))))))))))
   rw [hm,outD_end (by omega)] at k
   exact k _ H.qx
  ·replace h10:=bT h10
   obtain ⟨x,hx⟩:∃ x,sp[i]? = some x:=⟨sp[i]'(by omega),by simp⟩
   obtain ⟨b,off,rfl,hc⟩:=hs.row i _ (spanRows_at hx)
   refine zj O (zv (ze (zK (zJ (zSS (zn O (zn O (zn O (zIa O O (zFa O (za (zE O (cell_at (i:=1) (H.qx.cells hc) O) (za (vU O O fun t19 h19=>zN ?_))))))))))))))
   rcases t19 with _|_
   ·replace h19:=bF h19
    refine zr O (zv (ze (zL (zn O (zn O (zIa O O (zFa O (za (zE O (cell_at (i:=3) (H.qx.cells hc) O) (zn O (vi (z5 (ze (zL (zn O (zAd O O (zn O (zN ?_))))))))))))))))))
    refine ⟨_,_,?lt,?le,(i+1),x.ot,O,H,(by omega),(hm.trans (outD_drop hx h19)),O⟩
    case lt=>omega
    case le=>exact Env.qle ⟨O,O,O,O,⟨⟩⟩
   ·replace h19:=bT h19
    refine zj O (zR (zn O (zn O (zIa O O (zFa O (za (zE O (cell_at (i:=2) (H.qx.cells hc) O) (zn O (zN (zi (zw (ve (zw (zw (ve (zw (z0 O ?_)))))))))))))))))
    rw [hm,outD_hit hx h19] at k
    exact k _ H.qx
theorem ct168 (hs:Sl S0 5 a (spanRows sp)) (hl:sp.length≤1099511627776) (hq0:-1099511627776≤q) (hq1:q≤1099511627776) (hb:∀ x∈sp,(0≤x.f∧x.f≤4398046511104)∧(0≤x.oa∧x.oa≤4398046511104)) (k:∀  S',Ext [] S0 S'→K (int (backD 0 sp q)) S') :
  zC 168 #[.slice a sp.length cap,int q] S0 K:=by
 refine zGh (sf:=s168) Tryz.func168 fun H=>zR (zn O (zNR (zn O (zN (zSS (zn O (zN (zJ ?_))))))))
 refine vr (fun E S m_=>∃ (i:Nat) (n:Int),E=Env.lst [(0,.slice a sp.length cap),(1,int q),(5,int n),(6,int i)]∧Loc [] S0 S []∧(i≤sp.length)∧(backD 0 sp q=backD n (sp.drop i) q)∧m_=sp.length-i) ?_ ?_
 ·skip
  refine ⟨_,_,?le,0,0,O,H,(by omega),(by simp),O⟩
  case le=>exact Env.qle ⟨O,O,O,O,⟨⟩⟩
 ·skip
  rintro _ S _ ⟨i,n,rfl,H,hi,hm,rfl⟩
  refine zSS (zn O (zn O (zLl O (za (vU O O fun t11 h11=>zN ?_)))))
  rcases t11 with _|_
  ·replace h11:=bF h11
   refine zr O (vq (zX (zX (vE (ze (zR (zn O (zn O (zN (zi (z0 O ?_)))))))))))
   (rw [hm,backD_end (by omega)] at k;exact k _ H.qx)
  ·replace h11:=bT h11
   obtain ⟨x,hx⟩:∃ x,sp[i]? = some x:=⟨sp[i]'(by omega),by simp⟩
   obtain ⟨b,off,rfl,hc⟩:=hs.row i _ (spanRows_at hx)
   have hbx:=hb x (List.mem_of_getElem? hx)
   refine zj O (zv (ze (zK (zJ (zR (zn O (zn O (zIa O O (za (zU (vs:=[_,_,_,_,_]) O (H.qx.cells hc) (zAl H O fun b7 S hb7 hE H=>zSs H O O O .h O fun S hE H=>zN (zSS (zn O (zFa O (zL1 H O .h O (za (W_geq O O fun t21 h21=>zN ?_)))))))))))))))))
   rcases t21 with _|_
   ·replace h21:=bF h21
    refine zr O (zv (ze (zSS (zFa O (zL1 H O .h O ?_)))))
    obtain ⟨tpl,htpl⟩:∃ tpl,x.pl=tpl:=⟨_,rfl⟩
    have hpl:tpl=true↔x.pl=true:=by rw [htpl]
    rw [htpl]
    refine zn O ?_
    rcases tpl with _|_
    ·replace hpl:=bF hpl
     refine zH O (zH O (zH O (zH O (vp O O O O (zN (zr O (zv (ze (zR (zFa O (zL1 H O .h O (zn O (zN (zi (ve (zw (zw (ve (zw (z0 O ?_))))))))))))))))))))
     (rw [hm,backD_hit hx h21,if_neg (fun h=>by rw [htpl] at h;cases h.1)] at k;exact k _ H.qx)
    ·replace hpl:=bT hpl
     refine zh O (vP O (zh O (zz O (zh O (vl H O .h O (zh O (W_gtr O O fun t30 h30=>vp O O O O (zN ?_))))))))
     rcases t30 with _|_
     ·replace h30:=bF h30
      refine zr O (zv (ze (zR (zFa O (zL1 H O .h O (zn O (zN (zi (ve (zw (zw (ve (zw (z0 O ?_))))))))))))))
      (rw [hm,backD_hit hx h21,if_neg (fun h=>h30 h.2)] at k;exact k _ H.qx)
     ·replace h30:=bT h30
      refine zj O (zR (zFa O (zL1 H O .h O (zn O (zAd O O (zFa O (zL1 H O .h O (zSb O O (zn O (zN (zi (zw (ve (zw (zw (ve (zw (z0 O ?_))))))))))))))))))
      (rw [hm,backD_hit hx h21,if_pos ⟨htpl,h30⟩] at k;exact k _ H.qx)
   ·replace h21:=bT h21
    refine zj O (zR (zFa O (zL1 H O .h O (zn O (zN (vq (zX (vE (ze (zL (zn O (zAd O O (zn O (zN ?_))))))))))))))
    refine ⟨_,_,?lt,?le,(i+1),x.t,O,(H.sub (.cons _ .slnil)),(by omega),(hm.trans (backD_drop hx h21)),O⟩
    case lt=>omega
    case le=>exact Env.qle ⟨O,O,O,O,⟨⟩⟩
end
section
variable {S0:St} {K:Value→St→Prop}
variable {l:Bs}
theorem ct213 {a1 a2:Option Addr} {c1 c2:Nat} {ls ms:List Bs} (hs1:Sl S0 1 a1 (strRows ls)) (hs2:Sl S0 1 a2 (strRows ms)) (hl1:lsum ls≤2199023255552) (hl2:lsum ms≤2199023255552) (k:∀ b cap S',Ext [] S0 S'→(S0 b=none)→(OwnB S' b 195 5 cap (spanRows (pairs ls ms)))→K (sl b 0 (pairs ls ms).length cap) S') :
  zC 213 #[.slice a1 ls.length c1,.slice a2 ms.length c2] S0 K:=by
 refine zGh (sf:=s213) Tryz.func213 fun H=>?_
 have hb1:=len_lsum ls
 have hb2:=len_lsum ms
 refine zR (zn O (zNR (za (zM (cs:=[]) H O O fun b10 S hb10 hE H=>zn O (zNR (zn O (zNR (zn O (zN (zSS (zn O (zN (zJ ?_)))))))))))))
 refine vr (fun E S m_=>∃ (i:Nat) (b5:Nat) (cap5:Nat) (cs5:List Value),E=Env.lst [(0,.slice a1 ls.length c1),(1,.slice a2 ms.length c2),(5,sl b5 0 i cap5),(6,int (lsum (ls.take i))),(7,int (lsum (ms.take i))),(8,int i)]∧Loc [] S0 S [(b5,Cs cs5 195)]∧(i≤ls.length)∧(i≤ms.length)∧(i≤cap5)∧(cs5.length=cap5*5)∧(cs5.take (i*5)=(spanRows (pairs (ls.take i) (ms.take i))).flatten)∧m_=ls.length-i) ?_ ?_
 ·skip
  refine ⟨_,_,?le,0,b10,0,[],O,H,(by omega),(by omega),(by simp),(by simp),(by simp [pairs,pairsF]),O⟩
  case le=>exact Env.qle ⟨O,O,O,O,O,O,⟨⟩⟩
 ·skip
  rintro _ S _ ⟨i,b5,cap5,cs5,rfl,H,hi1,hi2,hn,hcl,hct,rfl⟩
  refine zSS (zn O (zn O (zLl O (za (vU O O fun t14 h14=>zn O ?_)))))
  rcases t14 with _|_
  ·replace h14:=bF h14
   refine zH O (zH O (zH O (zH O (vp O O O O (zN (zr O (vq (zX (zX (vE (ze (zR (zn O (zn O (zN (zi (z0 O ?_)))))))))))))))))
   have hmin:i=min ls.length ms.length:=by omega
   rw [pairs_min hmin] at hct
   have hpl:(pairs ls ms).length=i:=by rw [hmin];exact pairsF_len 0 0 ls ms
   rw [← hpl] at hct hn ⊢
   exact k _ _ _ H.qx (H.new1 .h) ⟨_,H.get .h,by simpa using hn,hcl,by simpa using hct,spanRows_five⟩
  ·replace h14:=bT h14
   refine zh O (vP O (zh O (vP O (zh O (W_lenL O (zh O (vU O O fun t19 h19=>vp O O O O (zN ?_))))))))
   rcases t19 with _|_
   ·replace h19:=bF h19
    refine zr O (vq (zX (zX (vE (ze (zR (zn O (zn O (zN (zi (z0 O ?_)))))))))))
    have hmin:i=min ls.length ms.length:=by omega
    rw [pairs_min hmin] at hct
    have hpl:(pairs ls ms).length=i:=by rw [hmin];exact pairsF_len 0 0 ls ms
    rw [← hpl] at hct hn ⊢
    exact k _ _ _ H.qx (H.new1 .h) ⟨_,H.get .h,by simpa using hn,hcl,by simpa using hct,spanRows_five⟩
   ·replace h19:=bT h19
    obtain ⟨x,hx⟩:∃ x,ls[i]? = some x:=⟨ls[i]'(by omega),by simp⟩
    obtain ⟨y,hy⟩:∃ y,ms[i]? = some y:=⟨ms[i]'(by omega),by simp⟩
    obtain ⟨q1,o1,rfl,hc1⟩:=hs1.row i _ (strRows_at hx)
    obtain ⟨q2,o2,rfl,hc2⟩:=hs2.row i _ (strRows_at hy)
    have hx1:=lsum_take hx
    have hy1:=lsum_take hy
    have hx2:=lsum_take_le ls (i+1)
    have hy2:=lsum_take_le ms (i+1)
    have hpt:=pairs_take hx hy
    refine zj O (zv (ze (zK (zJ (zR (zn O (zn O (zIa O O (za (zE O (cell_at (i:=0) (H.qx.cells hc2) O) (zn O (zN (zK (z9 [] (vH 0 O O O (vH 1 O O O (vH 2 O O O (vH 3 O O O (vH 4 O O O (vJ 5 O O (fun _ _ hK=>vj O O (by omega) (by omega) hK) (vg 6 O O (fun S' hS'=>zD fun K hK=>zE O (zB (hS' O) (by simp) (cell_at (i:=0) (H.qx.cells hc1) O)) hK) (vJ 7 O O (fun _ _ hK=>vF O hK) (vJ 8 O O (fun _ _ hK=>W_add O O (by omega) (by omega) hK) (vJ 9 O O (fun _ _ hK=>W_add O O (by omega) (by omega) hK) (vH 10 O O O (vH 11 O O O (vH 12 O O O (vJ 13 O O (fun _ _ hK=>vF O hK) (vJ 14 O O (fun _ _ hK=>W_add O O (by omega) (by omega) hK) ?_)))))))))))))))))))))))))))))
    refine vJ 15 O O (fun _ _ hK=>W_add O O (by omega) (by omega) hK) (vH 16 O O O (vH 17 O O O (vH 18 O O O (vJ 19 O O (fun _ _ hK=>vj O O (by omega) (by omega) hK) (vg 20 O O (fun S' hS'=>zD fun K hK=>zE O (zB (hS' O) (by simp) (cell_at (i:=0) (H.qx.cells hc1) O)) hK) (zCm 21 O O (fun S' _=>zD fun K hK=>W_eqSd O O hK) fun t48 h48=>?_))))))
    obtain rfl:t48=decide (y=x):=by rw [Bool.eq_iff_iff,h48,decide_eq_true_iff]
    refine vJ 22 O O (fun _ _ hK=>vu (cs:=[_,_,_,_,_]) O O hK) (zA 23 (by kernel_rfl) O O (zt (zM (cs:=[_,_,_,_,_]) H O O fun b50 S hb50 hE H=>zLd (zA 24 (by kernel_rfl) O O (zt (W_append H O O .h1 hcl hn (Src.own H .h O) (by simp [vV]) O (by decide) (by omega) O fun b51 cap51 cs51 S hb51 H hE hn51 hcl51 hct51=>zLd (vH 25 O O O (zV (ze (zR (zn O (zn O (zn O (zIa O O (za (zE O (cell_at (i:=0) (H.qx.cells hc1) O) (za (vF O (zAd O O (zAd O O (zn O (zN (zL (zn O (zn O (za (vF O (zAd O O (zAd O O (zn O (vi ?_)))))))))))))))))))))))))))))))
    refine z5 (ze (zL (zn O (zAd O O (zn O (zN ?_))))))
    refine ⟨_,_,?lt,?le,(i+1),b51,cap51,cs51,O,(H.sub (.cons_cons _ (.cons _ .slnil))),(by omega),(by omega),hn51,hcl51,(hct51.trans (by rw [hct,hpt];simp only [spanRows,List.map_append,List.flatten_append,List.map_cons,List.map_nil,List.flatten_cons,List.flatten_nil,List.append_nil])),O⟩
    case lt=>omega
    case le=>exact Env.qle ⟨rfl,rfl,rfl,(by show some (int ((lsum (ls.take i):Nat)+(x.length:Nat)+1))=_;rw [hx1];congr 2),(by show some (int ((lsum (ms.take i):Nat)+(y.length:Nat)+1))=_;rw [hy1];congr 2),rfl,trivial⟩
theorem ct167 {m:Bs} (hl:l.length≤1099527356416) (hm:m.length≤1099527356416) (k:∀ b cap S',Ext [] S0 S'→(S0 b=none)→(OwnB S' b 195 5 cap (spanRows (spansO l m)))→K (sl b 0 (spansO l m).length cap) S') :
  zC 167 #[str l,str m] S0 K:=by
 refine zGh (sf:=s167) Tryz.func167 fun H=>zR (zn O (zNR (zn O (vM O (ct72 (by omega) fun b11 cap11 S hE hb11 hO11=>?_)))))
 replace H:=H.call hE
 refine zn O (zEx O O (zEx O O (zn O (zn O (zNR (zn O (vM O (ct72 (by omega) fun b16 cap16 S hE hb16 hO16=>?_))))))))
 replace hO11:=hO11.mono hE
 replace H:=H.call hE
 refine zn O (zEx O O (zEx O O (zn O (zn O (zNR (zn O (zn O (vM O (ct213 hO11.sl hO16.sl (by have:lsum (zu l).1+(zu l).2.length=l.length:=lsum_lines 59 l;omega) (by have:lsum (zu m).1+(zu m).2.length=m.length:=lsum_lines 59 m;omega) fun b21 cap21 S hE hb21 hO21=>?_)))))))))
 replace hb21:=H.qx.isNone hb21
 replace H:=H.call hE
 refine zn O (zN (zi (z0 O ?_)))
 exact k _ _ _ H.qx hb21 hO21
theorem ct169 {s:Seg} {q:Nat} (hl:l.length≤1099527356416) (hq:q≤1099527356416) (k:∀ b cap S',Ext [] S0 S'→(S0 b=none)→(OwnB S' b 33 7 cap (segRows (cutO s l q)))→K (sl b 0 (cutO s l q).length cap) S') :
  zC 169 #[s.v,str l,int q] S0 K:=by
 refine zGh (sf:=s169) Tryz.func169 fun H=>zR (zBx H O O fun b3 S hb3 hE H=>zn O (zNR (za (zM (cs:=[]) H O O fun b10 S hb10 hE H=>zn O (zN (zK (zJ ?_)))))))
 refine vr (fun E S m_=>∃ (a:Nat) (out:List Seg) (b7:Nat) (cap7:Nat) (cs7:List Value),E=Env.lst [(1,str l),(2,int a),(3,vQ b3 0),(7,sl b7 0 out.length cap7)]∧Loc [] S0 S [(b7,Cs cs7 33),(b3,Cs s.row 33)]∧(out.length≤cap7)∧(cs7.length=cap7*7)∧(cs7.take (out.length*7)=(segRows out).flatten)∧(out++cutS s l a=cutS s l q)∧(out.length≤a)∧(a≤1099527356416)∧m_=l.length-a) ?_ ?_
 ·skip
  refine ⟨_,_,?le,q,[],b10,0,[],O,H,(by simp),(by simp),(by simp),(by simp),(by simp),(by omega),O⟩
  case le=>exact Env.qle ⟨O,O,O,O,⟨⟩⟩
 ·skip
  rintro _ S _ ⟨a,out,b7,cap7,cs7,rfl,H,hn,hcl,hct,hc,hol,ha,rfl⟩
  refine zSS (zn O (zn O (za (vF O (za (vU O O fun t14 h14=>zN ?_))))))
  rcases t14 with _|_
  ·replace h14:=bF h14
   refine zr O (vq (zX (zX (vE (ze (zSS (zn O (zLl O (za (vT O O fun t35 h35=>zN ?_))))))))))
   rcases t35 with _|_
   ·replace h35:=bF h35
    refine zr O (zv (ze (zR (zn O (zn O (zN (zi (z0 O ?_))))))))
    have he:cutS s l a=[]:=cutS_end (by omega)
    rw [he,List.append_nil] at hc
    have hq2:q<l.length:=Classical.byContradiction fun h=>by rw [cutS_end h] at hc;rw [hc] at h35;exact h35 rfl
    have hco:cutO s l q=out:=by unfold cutO;rw [if_pos hq2,hc]
    rw [hco] at k
    exact k _ _ _ H.qx (H.new1 .h) ⟨_,H.get .h,by simpa using hn,hcl,by simpa using hct,segRows_seven⟩
   ·replace h35:=bT h35
    refine zj O (zR (zn O (za (vF O (zFa O (zSs H O O O .h1 O fun S hE H=>zNR (zFa O (zSs H O O O .h1 O fun S hE H=>zN (zL (zn O (zLn (vs:=[_,_,_,_,_,_,_]) H O .h1 O (za (zM (cs:=[_,_,_,_,_,_,_]) H O O fun b42 S hb42 hE H=>za (W_append H O O .h1 hcl hn (Src.own H .h O) (by simp [vV,setl]) O (by decide) (by omega) O fun b43 cap43 cs43 S hb43 H hE hn43 hcl43 hct43=>zn O (zNR (zn O (zn O (zN (zi (z0 O ?_))))))))))))))))))))
    have he:cutS s l a=[]:=cutS_end (by omega)
    rw [he,List.append_nil] at hc
    have ho:out=[]:=List.eq_nil_of_length_eq_zero (by omega)
    have hq2:¬ q<l.length:=fun h=>by rw [ho,cutS_step h] at hc;cases hc
    have hco:cutO s l q=[{s with sq:=l.length,dt:=[]}]:=by unfold cutO;rw [if_neg hq2]
    rw [hco] at k
    subst ho
    exact k _ _ _ H.qx (H.new1 .h) ⟨_,H.get .h,by simpa using hn43,hcl43,by simpa using hct43,segRows_seven⟩
  ·replace h14:=bT h14
   refine zj O (zv (ze (zJ (zR (zn O (za (vF O (zn O (zAd O O (za (W_min2 O O (zn O (zNR (zLn (vs:=[_,_,_,_,_,_,_]) H O .h1 O (zAl H O fun b9 S hb9 hE H=>zSs H O O O .h O fun S hE H=>zNR (zn O (zFa O (zSs H O O O .h O fun S hE H=>zNR (zn O (zn O (zn O (za (W_slS O O O (by omega) (by omega) (by omega) (zFa O (zSs H O O O .h O fun S hE H=>zNR (zn O (zLn (vs:=[_,_,_,_,_,_,_]) H O .h O ?_)))))))))))))))))))))))))))
   refine za (zM (cs:=[_,_,_,_,_,_,_]) H O O fun b30 S hb30 hE H=>za (W_append H O O .h2 hcl hn (Src.own H .h O) (by simp [vV,setl]) O (by decide) (by omega) O fun b31 cap31 cs31 S hb31 H hE hn31 hcl31 hct31=>zn O (zN (zL (zn O (zn O (vi (z5 (ze ?_)))))))))
   have hd12:(l.drop (a:Int).toNat).take ((min (l.length:Int) ((a:Int)+12)).toNat-(a:Int).toNat)=(l.drop a).take 12:=by
    rw [show (a:Int).toNat=a by omega]
    by_cases h:a+12≤l.length
    ·rw [show (min (l.length:Int) ((a:Int)+12)).toNat-a=12 by omega]
    ·rw [List.take_of_length_le (by simp;omega),List.take_of_length_le (by simp;omega)]
   have hcs:=cutS_step (s:=s) (show a<l.length by omega)
   have hcn:cutS s l (a+12)=cutS s l (min l.length (a+12)):=by
    by_cases h:a+12≤l.length
    ·rw [show min l.length (a+12)=a+12 by omega]
    ·rw [cutS_end (by omega),cutS_end (by omega)]
   refine ⟨_,_,?lt,?le,(min l.length (a+12)),(out++[{s with sq:=a,dt:=(l.drop a).take 12}]),b31,cap31,cs31,O,(H.sub (.cons_cons _ (.cons _ (.cons _ (.cons_cons _ .slnil))))),(by simpa using hn31),hcl31,?_,(by rw [← hcn,List.append_assoc,← hc,hcs];rfl),(by simp;omega),(by omega),O⟩
   case lt=>omega
   case le=>exact Env.qle ⟨rfl,(by show some (int (min (l.length:Int) ((a:Int)+12)))=_;congr 2;omega),rfl,(by rw [List.length_append];rfl),trivial⟩
   rw [List.length_append]
   refine hct31.trans ?_
   rw [hct]
   simp only [segRows,List.map_append,List.flatten_append,List.map_cons,List.map_nil,List.flatten_cons,List.flatten_nil,List.append_nil]
   rw [hd12]
end
section
variable {S0:St} {K:Value→St→Prop}
variable {b:Box} {l:Bs} {e f:End} {cs:List Conn} {es:List End} {c1 c2 c3 cap:Nat} {a a1 a2 a3:Option Addr}
theorem ct82 (hs:Sl S0 7 a (z_ cs)) (hl:cs.length≤1099511627776) (k:∀  S',Ext [] S0 S'→K (int (vA cs e f)) S') :
  zC 82 #[.slice a cs.length cap,e.v,f.v] S0 K:=by
 refine zGh (sf:=s82) Tryz.func82 fun H=>zR (zBx H O O fun b4 S hb4 hE H=>zBx H O O fun b5 S hb5 hE H=>zn O (zN (zSS (zn O (zN (zJ ?_))))))
 refine vr (fun E S m_=>∃ (i:Nat),E=Env.lst [(0,.slice a cs.length cap),(4,vQ b4 0),(5,vQ b5 0),(7,int i)]∧Loc [] S0 S [(b5,Cs f.row 31),(b4,Cs e.row 31)]∧(i≤cs.length)∧(FoundAt cs i e f)∧m_=cs.length-i) ?_ ?_
 ·skip
  refine ⟨_,_,?le,0,O,H,(by omega),(.zero _ _ _),O⟩
  case le=>exact Env.qle ⟨O,O,O,O,⟨⟩⟩
 ·skip
  rintro _ S _ ⟨i,rfl,H,hi,hm,rfl⟩
  refine zSS (zn O (zn O (zLl O (za (vU O O fun t11 h11=>zN ?_)))))
  rcases t11 with _|_
  ·replace h11:=bF h11
   refine zr O (vq (zX (zX (vE (ze (zR (zn O (zN (zi (z0 O ?_))))))))))
   (rw [hm.no (by omega)] at k;exact k _ H.qx)
  ·replace h11:=bT h11
   obtain ⟨x,hx⟩:∃ x,cs[i]? = some x:=⟨cs[i]'(by omega),by simp⟩
   obtain ⟨b,off,rfl,hc⟩:=hs.row i _ (vz hx)
   refine zj O (zv (ze (zK (zJ (zK (z9 [] (vH 0 O O O (vH 1 O O O (vJ 2 O O (fun _ _ hK=>vj O O (by omega) (by omega) hK) (zLf 3 O O O (vg 4 O O (fun S' hS'=>zD fun K hK=>zU (vs:=[_,_]) O (zG (hS' O) (by simp) (cells_at (i:=0) (m:=2) (H.qx.cells hc) O)) hK) (vg 5 O O (fun S' hS'=>zD fun K hK=>zU O (zG (hS' O) (by simp) (H.cells (vs:=[_,_]) .h1 O)) hK) (zCm 6 O O (fun S' _=>zD fun K hK=>W_eqE O O hK) fun t20 h20=>vH 7 O O O ?_)))))))))))))
   rcases t20 with _|_
   ·replace h20:=bF h20
    refine vg 8 O O (fun S' _=>vf O (by decide)) (vg 9 O O (fun S' _=>vf O (by decide)) (vg 10 O O (fun S' _=>vf O (by decide)) (vg 11 O O (fun S' _=>vf O (by decide)) (vg 12 O O (fun S' _=>vf O (by decide)) (vg 13 O O (fun S' _=>vf O (by decide)) (vg 14 O O (fun S' _=>vf O (by decide)) (vJ 15 O O (fun _ _ hK=>vN O O O O hK) (zV (ze (zr O (zv (z5 (ze (zL (zn O (zAd O O (zn O (zN ?_))))))))))))))))))
    refine ⟨_,_,?lt,?le,(i+1),O,H,(by omega),(by first | exact hm.succ hx (fun h=>h20 (by rw [h.1];exact ⟨rfl,rfl⟩)) | exact hm.succ hx (fun h=>h28 (by rw [h.2];exact ⟨rfl,rfl⟩))),O⟩
    case lt=>omega
    case le=>exact Env.qle ⟨O,O,O,O,⟨⟩⟩
   ·replace h20:=bT h20
    refine vg 8 O O (fun S' _=>vd O fun K hK=>vP O hK) (vg 9 O O (fun S' _=>vd O fun K hK=>vP O hK) (vg 10 O O (fun S' _=>vd O fun K hK=>vj O O (by omega) (by omega) hK) (vg 11 O O (fun S' _=>vd O fun K hK=>zz O hK) (vg 12 O O (fun S' hS'=>vd O fun K hK=>zU (vs:=[_,_]) O (zG (hS' O) (by simp) (cells_at (i:=2) (m:=2) (H.qx.cells hc) O)) hK) (vg 13 O O (fun S' hS'=>vd O fun K hK=>zU O (zG (hS' O) (by simp) (H.cells (vs:=[_,_]) .h O)) hK) (zCm 14 O O (fun S' _=>vd O fun K hK=>W_eqE O O hK) fun t28 h28=>vJ 15 O O (fun _ _ hK=>vN O O O O hK) (zV (ze ?_))))))))
    rcases t28 with _|_
    ·replace h28:=bF h28
     refine zr O (zv (z5 (ze (zL (zn O (zAd O O (zn O (zN ?_))))))))
     refine ⟨_,_,?lt,?le,(i+1),O,H,(by omega),(by first | exact hm.succ hx (fun h=>h20 (by rw [h.1];exact ⟨rfl,rfl⟩)) | exact hm.succ hx (fun h=>h28 (by rw [h.2];exact ⟨rfl,rfl⟩))),O⟩
     case lt=>omega
     case le=>exact Env.qle ⟨O,O,O,O,⟨⟩⟩
    ·replace h28:=bT h28
     refine zj O (zR (zn O (zn O (zN (zi (ve (zw (zw (ve (zw (z0 O ?_)))))))))))
     (rw [hm.hit hx ⟨End.ext' h20,End.ext' h28⟩] at k;exact k _ H.qx)
theorem ct139 (hs:Sl S0 2 a (zY es)) (hcp:es.length≤cap) (hl:es.length≤6) (hll:l.length≤1048576) (k:∀ (t:Bool) S',Ext [] S0 S'→(t=true↔knowsP es l)→K (.bool t) S') :
  zC 139 #[.agg #[.slice a es.length cap],str l] S0 K:=by
 refine zGh (sf:=s139) Tryz.func139 fun H=>zR (zBx H O O fun b2 S hb2 hE H=>zn O (zNR (zLn (vs:=[_]) H O .h O (zn O (vM O (ct175 (hs.mono H.qx) hcp (by omega) (by omega) fun a10 cap10 S hE hs10 hc10 ho10 htl10=>?_))))))
 replace H:=H.call hE
 refine zn O (zEx O O (zEx O O (zAl H O fun b5 S hb5 hE H=>zSs H O O O .h O fun S hE H=>zn O (zNR (zFa O (zL1 H O .h O (zLl O (zFa O (zL1 H O .h1 O (zLl O (za (vT O O fun t19 h19=>zn O (zN (zi (z0 O ?_)))))))))))))))
 exact k _ _ H.qx (h19.trans (by unfold knowsP;omega))
theorem ct140 {m:Bs} (hs:Sl S0 2 a (zY es)) (hcp:es.length≤cap) (hl:es.length≤1099511627776) (hll:l.length≤1099511627776) (hmm:m.length≤1099511627776) (k:∀ (t:Bool) S',Ext [] S0 S'→(t=true↔nearP es l m)→K (.bool t) S') :
  zC 140 #[.agg #[.slice a es.length cap],str l,str m] S0 K:=by
 refine zGh (sf:=s140) Tryz.func140 fun H=>zR (zBx H O O fun b3 S hb3 hE H=>zn O (zNR (zn O (vM O (ct72 (by omega) fun b14 cap14 S hE hb14 hO14=>?_)))))
 obtain ⟨cs14,ho14,hn14,hcl14,hct14,_⟩:=hO14
 replace H:=H.adopt hE hb14 ho14
 have hal:=lines_le l
 have hnl:(zu l).1.length≤l.length:=strLines_len l
 refine zn O (zEx O O (zEx O O (zn O (zn O (zNR (zn O (vM O (ct72 (by omega) fun b19 cap19 S hE hb19 hO19=>?_))))))))
 obtain ⟨cs19,ho19,hn19,hcl19,hct19,_⟩:=hO19
 replace H:=H.adopt hE hb19 ho19
 have hbl:=lines_le m
 refine zn O (zEx O O (zEx O O (zn O (zn O (zN (zSS (zn O (zLl O (zn O (zLl O (za (W_neI O O fun t26 h26=>zn O ?_))))))))))))
 rcases t26 with _|_
 ·replace h26:=bF h26
  refine zh O (vP O (zh O (W_neS O O fun t29 h29=>vp O O O O (zn O ?_))))
  rcases t29 with _|_
  ·replace h29:=bF h29
   refine zh O (vP O (zh O (vF O (zh O (W_gtr O O fun t34 h34=>vp O O O O (zN ?_))))))
   rcases t34 with _|_
   ·replace h34:=bF h34
    refine zr O (zv (ze (zSS (zn O (zN (zJ ?_))))))
    refine vr (fun E S m_=>∃ (i:Nat),E=Env.lst [(3,vQ b3 0),(7,sl b14 0 (zu l).1.length cap14),(9,sl b19 0 (zu m).1.length cap19),(11,int i)]∧Loc [] S0 S [(b19,Cs cs19 9),(b14,Cs cs14 9),(b3,Cs [.slice a es.length cap] 26)]∧(i≤(zu l).1.length)∧(∀ (j:Nat) (u v:Bs),j<i→(zu l).1[j]? = some u→(zu m).1[j]? = some v→v=u∨v=lineIn es u)∧m_=(zu l).1.length-i) ?_ ?_
    ·skip
     refine ⟨_,_,?le,0,O,H,(by omega),(fun _ _ _ h=>absurd h (by omega)),O⟩
     case le=>exact Env.qle ⟨O,O,O,O,⟨⟩⟩
    ·skip
     rintro _ S _ ⟨i,rfl,H,hi,hp,rfl⟩
     refine zSS (zn O (zn O (zLl O (za (vU O O fun t39 h39=>zN ?_)))))
     rcases t39 with _|_
     ·replace h39:=bF h39
      refine zr O (vq (zX (zX (vE (ze (zR (zn O (zN (zi (z0 O ?_))))))))))
      exact k _ _ H.qx ⟨fun _=>⟨by omega,Classical.not_not.1 h29,by omega,fun j u v hu hv=>hp j u v (by have:=(List.getElem?_eq_some_iff.1 hu).1;omega) hu hv⟩,fun _=>rfl⟩
     ·replace h39:=bT h39
      have hlen:(zu l).1.length=(zu m).1.length:=by omega
      obtain ⟨x,hx⟩:∃ x,(zu l).1[i]? = some x:=⟨(zu l).1[i]'(by omega),by simp⟩
      obtain ⟨y,hy⟩:∃ y,(zu m).1[i]? = some y:=⟨(zu m).1[i]'(by omega),by simp⟩
      have hx14:=str_at hct14 hx
      have hy19:=str_at hct19 hy
      refine zj O (zv (ze (zK (zJ (zK (z9 [] (vH 0 O O O (vH 1 O O O (vJ 2 O O (fun _ _ hK=>vj O O (by omega) (by omega) hK) (vg 3 O O (fun S' hS'=>zD fun K hK=>zE O (zB (hS' O) (by simp) (H.cell .h hy19)) hK) (vH 4 O O O (vH 5 O O O (vJ 6 O O (fun _ _ hK=>vj O O (by omega) (by omega) hK) (vg 7 O O (fun S' hS'=>zD fun K hK=>zE O (zB (hS' O) (by simp) (H.cell .h1 hx14)) hK) (zCm 8 O O (fun S' _=>zD fun K hK=>W_neSd O O hK) fun t50 h50=>vH 9 O O O ?_)))))))))))))))
      rcases t50 with _|_
      ·replace h50:=bF h50
       refine vg 10 O O (fun S' _=>vf O (by decide)) (vg 11 O O (fun S' _=>vf O (by decide)) (vg 12 O O (fun S' _=>vf O (by decide)) (vg 13 O O (fun S' _=>vf O (by decide)) (vg 14 O O (fun S' _=>vf O (by decide)) (vg 15 O O (fun S' _=>vf O (by decide)) (vg 16 O O (fun S' _=>vf O (by decide)) (vg 17 O O (fun S' _=>vf O (by decide)) (vg 18 O O (fun S' _=>vf O (by decide)) (zA 19 (by kernel_rfl) O O (step_no O (by decide) (⟨fun _=>fun _ _ _ h=>h,vg 20 O O (fun S' _=>vf O (by decide)) (vJ 21 O O (fun _ _ hK=>vN O O O O hK) (zV (ze (zr O (zv (z5 (ze (zL (zn O (zAd O O (zn O (zN ?_))))))))))))⟩)))))))))))
       refine ⟨_,_,?lt,?le,(i+1),O,H,(by omega),(fun j u v hj hu hv=>by
        by_cases hji:j<i
        ·exact hp j u v hji hu hv
        ·obtain rfl:j=i:=by omega
         rw [hx] at hu;rw [hy] at hv;cases hu;cases hv
         first | exact .inl (Classical.not_not.1 h50) | exact .inr (Classical.not_not.1 h62)),rfl⟩
       case lt=>omega
       case le=>exact Env.qle ⟨O,O,O,O,⟨⟩⟩
      ·replace h50:=bT h50
       refine vg 10 O O (fun S' _=>vd O fun K hK=>vP O hK) (vg 11 O O (fun S' _=>vd O fun K hK=>vP O hK) (vg 12 O O (fun S' _=>vd O fun K hK=>vj O O (by omega) (by omega) hK) (vg 13 O O (fun S' hS'=>vd O fun K hK=>zE O (zB (hS' O) (by simp) (H.cell .h hy19)) hK) (vg 14 O O (fun S' hS'=>vd O fun K hK=>zU O (zG (hS' O) (by simp) (H.cells (vs:=[_]) .h2 O)) hK) (vg 15 O O (fun S' _=>vd O fun K hK=>vP O hK) (vg 16 O O (fun S' _=>vd O fun K hK=>vP O hK) (vg 17 O O (fun S' _=>vd O fun K hK=>vj O O (by omega) (by omega) hK) (vg 18 O O (fun S' hS'=>vd O fun K hK=>zE O (zB (hS' O) (by simp) (H.cell .h1 hx14)) hK) (zA 19 (by kernel_rfl) O O (step_yes O (zS O (ct208 (hs.mono H.qx) hcp (by omega) (by have:=hal x (List.mem_of_getElem? hx);omega) fun S hE =>?_))))))))))))
       replace H:=H.call hE
       refine ⟨fun _=>hE.up.ext,zCm 20 O O (fun S' _=>vd O fun K hK=>W_neSd O O hK) fun t62 h62=>vJ 21 O O (fun _ _ hK=>vN O O O O hK) (zV (ze ?_))⟩
       rcases t62 with _|_
       ·replace h62:=bF h62
        refine zr O (zv (z5 (ze (zL (zn O (zAd O O (zn O (zN ?_))))))))
        refine ⟨_,_,?lt,?le,(i+1),O,H,(by omega),(fun j u v hj hu hv=>by
         by_cases hji:j<i
         ·exact hp j u v hji hu hv
         ·obtain rfl:j=i:=by omega
          rw [hx] at hu;rw [hy] at hv;cases hu;cases hv
          first | exact .inl (Classical.not_not.1 h50) | exact .inr (Classical.not_not.1 h62)),rfl⟩
        case lt=>omega
        case le=>exact Env.qle ⟨O,O,O,O,⟨⟩⟩
       ·replace h62:=bT h62
        refine zj O (zR (zn O (zN (zi (ve (zw (zw (ve (zw (z0 O ?_))))))))))
        exact k _ _ H.qx ⟨nofun,fun h=>by rcases h.2.2.2 i x y hx hy with h | h;exact absurd h h50;exact absurd h h62⟩
   ·replace h34:=bT h34
    refine zj O (zR (zn O (zN (zi (zw (z0 O ?_))))))
    exact k _ _ H.qx ⟨nofun,fun h=>by have:=h.2.2.1;omega⟩
  ·replace h29:=bT h29
   refine zH O (zH O (zH O (vp O O O O (zN (zj O (zR (zn O (zN (zi (zw (z0 O ?_)))))))))))
   exact k _ _ H.qx ⟨nofun,fun h=>absurd h.2.1 h29⟩
 ·replace h26:=bT h26
  refine zH O (zH O (vp O O O O (zn O (zH O (zH O (zH O (vp O O O O (zN (zj O (zR (zn O (zN (zi (zw (z0 O ?_)))))))))))))))
  exact k _ _ H.qx ⟨nofun,fun h=>by have:=h.1;omega⟩
theorem ct59 {j:Nat} {x:Conn} (h1:Sl S0 7 a1 (vo b.rs)) (h2:Sl S0 2 a2 (zY b.es)) (h3:Sl S0 7 a3 (z_ b.cs)) (hc2:b.es.length≤c2) (hc3:b.cs.length≤c3) (hz:BoxZ b) (h6:b.es.length≤6) (hx:b.cs[j]? = some x) (k:∀ (t:Bool) S',Ext [] S0 S'→(t=true↔ConnP b.es x∧vA (b.cs.take j) x.i x.o<0)→K (.bool t) S') :
  zC 59 #[.agg #[.slice a1 b.rs.length c1,.slice a2 b.es.length c2,.slice a3 b.cs.length c3],int j] S0 K:=by
 refine zGh (sf:=s59) Tryz.func59 fun H=>?_
 obtain ⟨z1,z2,z3,hzz⟩:=hz
 have hzx:=hzz x (List.mem_of_getElem? hx)
 have hj:=(List.getElem?_eq_some_iff.1 hx).1
 obtain ⟨p,off,rfl,hc⟩:=h3.row j _ (vz hx)
 refine zR (zBx H O O fun b2 S hb2 hE H=>zn O (zNR (zFa O (zL1 H O .h O (zn O (zIa O O (za (zU (vs:=[_,_,_,_,_,_,_]) O (H.qx.cells hc) (zAl H O fun b5 S hb5 hE H=>zSs H O O O .h O fun S hE H=>zN (zSS (zFa O (zLn (vs:=[_,_]) H O .h O (vM O (ct90  fun t13 S hE h13=>?_))))))))))))))
 replace H:=H.call hE
 refine zNt O (zn O ?_)
 rcases t13 with _|_
 ·replace h13:=bF h13
  refine zH O (zH O (zH O (zH O (vp O O O O (zn O (zH O (zH O (zH O (zH O (vp O O O O (zn O (zH O (zH O (zH O (zH O (zH O (zH O (vp O O O O (zn O (zH O (zH O (zH O (zH O (vp O O O O (zn O (zH O (zH O (zH O ?_))))))))))))))))))))))))))))
  refine zH O (vp O O O O (zN (zj O (zR (zn O (zN (zi (zw (z0 O ?_)))))))))
  exact k _ _ H.qx ⟨nofun,fun h=>by obtain ⟨⟨p1,p2,p3,p4,p5,p6,p7,p8⟩,_⟩:=h;first | exact absurd p1 h13 | exact absurd p2 h18 | exact absurd p3 h25 | exact absurd p4 (portE_zero.1 h33) | exact absurd p5 h38 | exact absurd p6 h44 | exact absurd p7 h51 | exact absurd p8 h59⟩
 ·replace h13:=bT h13
  refine zh O (zz O (zh O (vK (vs:=[_,_]) H O .h O (zh O (zS O (ct77  fun t18 S hE h18=>?_))))))
  replace H:=H.call hE
  refine zh O (W_not O (vp O O O O (zn O ?_)))
  rcases t18 with _|_
  ·replace h18:=bF h18
   refine zH O (zH O (zH O (zH O (vp O O O O (zn O (zH O (zH O (zH O (zH O (zH O (zH O (vp O O O O (zn O (zH O (zH O (zH O (zH O (vp O O O O (zn O (zH O (zH O (zH O (zH O (vp O O O O (zN (zj O (zR (zn O ?_))))))))))))))))))))))))))))
   refine zN (zi (zw (z0 O ?_)))
   exact k _ _ H.qx ⟨nofun,fun h=>by obtain ⟨⟨p1,p2,p3,p4,p5,p6,p7,p8⟩,_⟩:=h;first | exact absurd p1 h13 | exact absurd p2 h18 | exact absurd p3 h25 | exact absurd p4 (portE_zero.1 h33) | exact absurd p5 h38 | exact absurd p6 h44 | exact absurd p7 h51 | exact absurd p8 h59⟩
  ·replace h18:=bT h18
   refine zh O (zz O (zh O (zz O (zh O (vl H O .h O (zh O (W_neI O O fun t25 h25=>vp O O O O (zn O ?_))))))))
   rcases t25 with _|_
   ·replace h25:=bF h25
    refine zh O (zz O (zh O (vK (vs:=[_]) H O .h1 O (zh O (zz O (zh O (vK (vs:=[_,_]) H O .h O (zh O (zS O (ct138 (h2.mono H.qx) hc2 (by omega) fun S hE =>?_))))))))))
    replace H:=H.call hE
    refine zh O (vT O O fun t33 h33=>vp O O O O (zn O ?_))
    rcases t33 with _|_
    ·replace h33:=bF h33
     refine zh O (zz O (zh O (vl H O .h O (zh O (zS O (ct22 (by omega) fun t38 S hE h38=>?_))))))
     replace H:=H.call hE
     refine zh O (W_not O (vp O O O O (zn O ?_)))
     rcases t38 with _|_
     ·replace h38:=bF h38
      refine zH O (zH O (zH O (zH O (vp O O O O (zN (zj O (zR (zn O (zN (zi (zw (z0 O ?_))))))))))))
      exact k _ _ H.qx ⟨nofun,fun h=>by obtain ⟨⟨p1,p2,p3,p4,p5,p6,p7,p8⟩,_⟩:=h;first | exact absurd p1 h13 | exact absurd p2 h18 | exact absurd p3 h25 | exact absurd p4 (portE_zero.1 h33) | exact absurd p5 h38 | exact absurd p6 h44 | exact absurd p7 h51 | exact absurd p8 h59⟩
     ·replace h38:=bT h38
      refine zh O (zz O (zh O (vl H O .h O (zh O (zS O (ct22 (by omega) fun t44 S hE h44=>?_))))))
      replace H:=H.call hE
      refine zh O (W_not O (vp O O O O (zN ?_)))
      rcases t44 with _|_
      ·replace h44:=bF h44
       refine zj O (zR (zn O (zN (zi (zw (z0 O ?_))))))
       exact k _ _ H.qx ⟨nofun,fun h=>by obtain ⟨⟨p1,p2,p3,p4,p5,p6,p7,p8⟩,_⟩:=h;first | exact absurd p1 h13 | exact absurd p2 h18 | exact absurd p3 h25 | exact absurd p4 (portE_zero.1 h33) | exact absurd p5 h38 | exact absurd p6 h44 | exact absurd p7 h51 | exact absurd p8 h59⟩
      ·replace h44:=bT h44
       refine zr O (zv (ze (zK (z9 [] (zLf 0 O O O (vg 1 O O (fun S' hS'=>zD fun K hK=>zU O (zG (hS' O) (by simp) (H.cells (vs:=[_]) .h1 O)) hK) (zLf 2 O O O (vg 3 O O (fun S' hS'=>zD fun K hK=>zE O (zB (hS' O) (by simp) (H.cell .h O)) hK) (zA 4 (by kernel_rfl) O O (zt (zS O (ct139 (h2.mono H.qx) hc2 (by omega) (by omega) fun t51 S hE h51=>?_))))))))))))
       replace H:=H.call hE
       refine ⟨fun _=>hE.up.ext,vH 5 O O O ?_⟩
       rcases t51 with _|_
       ·replace h51:=bF h51
        refine vg 6 O O (fun S' _=>vf O (by decide)) (vg 7 O O (fun S' _=>vf O (by decide)) (vg 8 O O (fun S' _=>vf O (by decide)) (vg 9 O O (fun S' _=>vf O (by decide)) (vg 10 O O (fun S' _=>vf O (by decide)) (vg 11 O O (fun S' _=>vf O (by decide)) (zA 12 (by kernel_rfl) O O (step_no O (by decide) (⟨fun _=>fun _ _ _ h=>h,vJ 13 O O (fun _ _ hK=>vN O O O O hK) (vH 14 O O O (vg 15 O O (fun S' _=>vf O (by decide)) (vg 16 O O (fun S' _=>vf O (by decide)) (vg 17 O O (fun S' _=>vf O (by decide)) (vg 18 O O (fun S' _=>vf O (by decide)) (vg 19 O O (fun S' _=>vf O (by decide)) (vg 20 O O (fun S' _=>vf O (by decide)) (vg 21 O O (fun S' _=>vf O (by decide)) (vg 22 O O (fun S' _=>vf O (by decide)) (zA 23 (by kernel_rfl) O O (step_no O (by decide) (⟨fun _=>fun _ _ _ h=>h,vg 24 O O (fun S' _=>vf O (by decide)) (vJ 25 O O (fun _ _ hK=>vN O O O O hK) (vH 26 O O O (zV (ze (zi (z0 O ?_))))))⟩))))))))))))⟩))))))))
        exact k _ _ H.qx ⟨nofun,fun h=>by obtain ⟨⟨p1,p2,p3,p4,p5,p6,p7,p8⟩,_⟩:=h;first | exact absurd p1 h13 | exact absurd p2 h18 | exact absurd p3 h25 | exact absurd p4 (portE_zero.1 h33) | exact absurd p5 h38 | exact absurd p6 h44 | exact absurd p7 h51 | exact absurd p8 h59⟩
       ·replace h51:=bT h51
        refine vg 6 O O (fun S' _=>vd O fun K hK=>zz O hK) (vg 7 O O (fun S' hS'=>vd O fun K hK=>zU O (zG (hS' O) (by simp) (H.cells (vs:=[_]) .h1 O)) hK) (vg 8 O O (fun S' _=>vd O fun K hK=>zz O hK) (vg 9 O O (fun S' hS'=>vd O fun K hK=>zE O (zB (hS' O) (by simp) (H.cell .h O)) hK) (vg 10 O O (fun S' _=>vd O fun K hK=>zz O hK) (vg 11 O O (fun S' hS'=>vd O fun K hK=>zE O (zB (hS' O) (by simp) (H.cell .h O)) hK) (zA 12 (by kernel_rfl) O O (step_yes O (zS O (ct140 (h2.mono H.qx) hc2 (by omega) (by omega) (by omega) fun t59 S hE h59=>?_)))))))))
        replace H:=H.call hE
        refine ⟨fun _=>hE.up.ext,vJ 13 O O (fun _ _ hK=>vN O O O O hK) (vH 14 O O O ?_)⟩
        rcases t59 with _|_
        ·replace h59:=bF h59
         refine vg 15 O O (fun S' _=>vf O (by decide)) (vg 16 O O (fun S' _=>vf O (by decide)) (vg 17 O O (fun S' _=>vf O (by decide)) (vg 18 O O (fun S' _=>vf O (by decide)) (vg 19 O O (fun S' _=>vf O (by decide)) (vg 20 O O (fun S' _=>vf O (by decide)) (vg 21 O O (fun S' _=>vf O (by decide)) (vg 22 O O (fun S' _=>vf O (by decide)) (zA 23 (by kernel_rfl) O O (step_no O (by decide) (⟨fun _=>fun _ _ _ h=>h,vg 24 O O (fun S' _=>vf O (by decide)) (vJ 25 O O (fun _ _ hK=>vN O O O O hK) (vH 26 O O O (zV (ze (zi (z0 O ?_))))))⟩))))))))))
         exact k _ _ H.qx ⟨nofun,fun h=>by obtain ⟨⟨p1,p2,p3,p4,p5,p6,p7,p8⟩,_⟩:=h;first | exact absurd p1 h13 | exact absurd p2 h18 | exact absurd p3 h25 | exact absurd p4 (portE_zero.1 h33) | exact absurd p5 h38 | exact absurd p6 h44 | exact absurd p7 h51 | exact absurd p8 h59⟩
        ·replace h59:=bT h59
         refine vg 15 O O (fun S' _=>vd O fun K hK=>zz O hK) (vg 16 O O (fun S' hS'=>vd O fun K hK=>zE O (zB (hS' O) (by simp) (H.cell .h1 O)) hK) (vg 17 O O (fun S' _=>vd O fun K hK=>vP O hK) (vg 18 O O (fun S' _=>vd O fun K hK=>W_slTake (l:=b.cs) O O (by omega) (by omega) hc3 hK) (vg 19 O O (fun S' _=>vd O fun K hK=>zz O hK) (vg 20 O O (fun S' hS'=>vd O fun K hK=>zU O (zG (hS' O) (by simp) (H.cells (vs:=[_,_]) .h O)) hK) (vg 21 O O (fun S' _=>vd O fun K hK=>zz O hK) (vg 22 O O (fun S' hS'=>vd O fun K hK=>zU O (zG (hS' O) (by simp) (H.cells (vs:=[_,_]) .h O)) hK) (zA 23 (by kernel_rfl) O O (step_yes O (zS O (ct82 (cs:=b.cs.take j) ((h3.mono H.qx).takeC j) (by simp;omega) fun S hE =>?_)))))))))))
         replace H:=H.call hE
         refine zLd (zCm 24 O O (fun S' _=>vd O fun K hK=>W_bin O O O hK) fun t71 h71=>vJ 25 O O (fun _ _ hK=>vN O O O O hK) (vH 26 O O O (zV (ze (zi (z0 O ?_))))))
         exact k _ _ H.qx (h71.trans ⟨fun h=>⟨⟨h13,h18,Classical.not_not.1 h25,Classical.not_not.1 (fun hm=>h33 (portE_zero.2 hm)),h38,h44,h51,h59⟩,h⟩,fun h=>h.2⟩)
    ·replace h33:=bT h33
     refine zH O (zH O (zH O (zH O (vp O O O O (zn O (zH O (zH O (zH O (zH O (vp O O O O (zN (zj O (zR (zn O (zN (zi (zw (z0 O ?_))))))))))))))))))
     exact k _ _ H.qx ⟨nofun,fun h=>by obtain ⟨⟨p1,p2,p3,p4,p5,p6,p7,p8⟩,_⟩:=h;first | exact absurd p1 h13 | exact absurd p2 h18 | exact absurd p3 h25 | exact absurd p4 (portE_zero.1 h33) | exact absurd p5 h38 | exact absurd p6 h44 | exact absurd p7 h51 | exact absurd p8 h59⟩
   ·replace h25:=bT h25
    refine zH O (zH O (zH O (zH O (zH O (zH O (vp O O O O (zn O (zH O (zH O (zH O (zH O (vp O O O O (zn O (zH O (zH O (zH O (zH O (vp O O O O (zN (zj O (zR (zn O (zN (zi (zw (z0 O ?_))))))))))))))))))))))))))
    exact k _ _ H.qx ⟨nofun,fun h=>by obtain ⟨⟨p1,p2,p3,p4,p5,p6,p7,p8⟩,_⟩:=h;first | exact absurd p1 h13 | exact absurd p2 h18 | exact absurd p3 h25 | exact absurd p4 (portE_zero.1 h33) | exact absurd p5 h38 | exact absurd p6 h44 | exact absurd p7 h51 | exact absurd p8 h59⟩
theorem ct14 (h1:Sl S0 7 a1 (vo b.rs)) (h2:Sl S0 2 a2 (zY b.es)) (h3:Sl S0 7 a3 (z_ b.cs)) (hc2:b.es.length≤c2) (hc3:b.cs.length≤c3) (hz:BoxZ b) (k:∀ (t:Bool) S',Ext [] S0 S'→(t=true↔BoxP b)→K (.bool t) S') :
  zC 14 #[.agg #[.slice a1 b.rs.length c1,.slice a2 b.es.length c2,.slice a3 b.cs.length c3]] S0 K:=by
 refine zGh (sf:=s14) Tryz.func14 fun H=>?_
 obtain ⟨z1,z2,z3,hzz⟩:=id hz
 refine zR (zBx H O O fun b1 S hb1 hE H=>zn O (zN (zSS (zFa O (zLn (vs:=[_]) H O .h O (vM O (ct57 (h2.mono H.qx) hc2 (by omega) fun t6 S hE h6=>?_)))))))
 replace H:=H.call hE
 refine zNt O (zn O ?_)
 rcases t6 with _|_
 ·replace h6:=bF h6
  refine zH O (zH O (zH O (zH O (vp O O O O (zn O (zH O (zH O (zH O (zH O (vp O O O O (zN (zj O (zR (zn O (zN (zi (zw (z0 O ?_))))))))))))))))))
  exact k _ _ H.qx ⟨nofun,fun h=>absurd h.1 h6⟩
 ·replace h6:=bT h6
  refine zh O (zz O (zh O (vl H O .h O (zh O (zS O (ct58 (h1.mono H.qx) (by omega) fun t11 S hE h11=>?_))))))
  replace H:=H.call hE
  refine zh O (W_not O (vp O O O O (zn O ?_)))
  rcases t11 with _|_
  ·replace h11:=bF h11
   refine zH O (zH O (zH O (zH O (vp O O O O (zN (zj O (zR (zn O (zN (zi (zw (z0 O ?_))))))))))))
   exact k _ _ H.qx ⟨nofun,fun h=>absurd h.2.1 h11⟩
  ·replace h11:=bT h11
   refine zh O (zz O (zh O (vl H O .h O (zh O (W_lenL O (zh O (W_gtr O O fun t18 h18=>vp O O O O (zN ?_))))))))
   rcases t18 with _|_
   ·replace h18:=bF h18
    refine zr O (zv (ze (zSS (zn O (zN (zJ ?_))))))
    refine vr (fun E S m_=>∃ (i:Nat),E=Env.lst [(1,vQ b1 0),(3,int i)]∧Loc [] S0 S [(b1,Cs [.slice a1 b.rs.length c1,.slice a2 b.es.length c2,.slice a3 b.cs.length c3] 29)]∧(i≤b.cs.length)∧(∀ (q:Nat) (c:Conn),q<i→b.cs[q]? = some c→ConnP b.es c∧vA (b.cs.take q) c.i c.o<0)∧m_=b.cs.length-i) ?_ ?_
    ·skip
     refine ⟨_,_,?le,0,O,H,(by omega),(fun _ _ h=>absurd h (by omega)),O⟩
     case le=>exact Env.qle ⟨O,O,⟨⟩⟩
    ·skip
     rintro _ S _ ⟨i,rfl,H,hi,hp,rfl⟩
     refine zSS (zn O (zFa O (zL1 H O .h O (zLl O (za (vU O O fun t24 h24=>zN ?_))))))
     rcases t24 with _|_
     ·replace h24:=bF h24
      refine zr O (vq (zX (zX (vE (ze (zR (zn O (zN (zi (z0 O ?_))))))))))
      exact k _ _ H.qx ⟨fun _=>⟨h6,h11,by omega,fun q c hc=>hp q c (by have:=(List.getElem?_eq_some_iff.1 hc).1;omega) hc⟩,fun _=>rfl⟩
     ·replace h24:=bT h24
      obtain ⟨x,hx⟩:∃ x,b.cs[i]? = some x:=⟨b.cs[i]'(by omega),by simp⟩
      refine zj O (zv (ze (zK (zJ (zR (zLn (vs:=[_,_,_]) H O .h O (zn O (vM O (ct59 (h1.mono H.qx) (h2.mono H.qx) (h3.mono H.qx) hc2 hc3 hz h6.1 hx fun t29 S hE h29=>?_)))))))))
      replace H:=H.call hE
      refine zNt O (zN ?_)
      rcases t29 with _|_
      ·replace h29:=bF h29
       refine zj O (zR (zn O (zN (zi (ve (zw (zw (ve (zw (z0 O ?_))))))))))
       exact k _ _ H.qx ⟨nofun,fun h=>absurd (h.2.2.2 i x hx) h29⟩
      ·replace h29:=bT h29
       refine zr O (zv (z5 (ze (zL (zn O (zAd O O (zn O (zN ?_))))))))
       refine ⟨_,_,?lt,?le,(i+1),O,H,(by omega),(fun q c hq hc=>by
        by_cases hqi:q<i
        ·exact hp q c hqi hc
        ·obtain rfl:q=i:=by omega
         rw [hx] at hc;cases hc;exact h29),rfl⟩
       case lt=>omega
       case le=>exact Env.qle ⟨O,O,⟨⟩⟩
   ·replace h18:=bT h18
    refine zj O (zR (zn O (zN (zi (zw (z0 O ?_))))))
    exact k _ _ H.qx ⟨nofun,fun h=>by have:=h.2.2.1;omega⟩
theorem ct79 (h1:Sl S0 7 a1 (vo b.rs)) (h2:Sl S0 2 a2 (zY b.es)) (h3:Sl S0 7 a3 (z_ b.cs)) (hc2:b.es.length≤c2) (hc3:b.cs.length≤c3) (hz:BoxZ b) (k:∀ (n1 n2 n3 d1 d2 d3:Nat) S',Ext [] S0 S'→(OwnB S' n1 162 7 d1 (vo b.rs))→(OwnB S' n2 31 2 d2 (zY b.es))→(OwnB S' n3 49 7 d3 (z_ b.cs))→(S0 n1=none)→(S0 n2=none)→(S0 n3=none)→(n1≠n2)→(n1≠n3)→(n2≠n3)→K (.agg #[sl n1 0 b.rs.length d1,sl n2 0 b.es.length d2,sl n3 0 b.cs.length d3]) S') :
  zC 79 #[.agg #[.slice a1 b.rs.length c1,.slice a2 b.es.length c2,.slice a3 b.cs.length c3]] S0 K:=by
 refine zGh (sf:=s79) Tryz.func79 fun H=>?_
 obtain ⟨z1,z2,z3,hzz⟩:=id hz
 refine zR (zBx H O O fun b1 S hb1 hE H=>zAl H O fun b2 S hb2 hE H=>zN (zK (z9 [] (zLf 1 O O O (vg 2 O O (fun S' hS'=>zD fun K hK=>zE O (zB (hS' O) (by simp) (H.cell .h1 O)) hK) (zLf 4 O O O (vg 5 O O (fun S' hS'=>zD fun K hK=>zU O (zG (hS' O) (by simp) (H.cells (vs:=[_]) .h1 O)) hK) (zLf 8 O O O (vg 9 O O (fun S' hS'=>zD fun K hK=>zE O (zB (hS' O) (by simp) (H.cell .h1 O)) hK) (wpD_two 0 7 (by kernel_rfl) O O O O ?_ ?_))))))))))
 ·skip
  refine zt (zM (cs:=[]) H O O fun b3 S hb3 hE H=>⟨fun _=>hE.up.ext,wpD_two 3 7 (by kernel_rfl) O O O O ?_ ?_⟩)
  ·skip
   refine zt (W_appendZ (new:=(vo b.rs).flatten) H O O .h (Src.sl (h1.mono H.qx) vt (by simp)) ruleRows_one (ruleRows_flat _) (by decide) (by decide) (by omega) O fun b6 cap6 cs6 S hb6 H hE hn6 hcl6 hct6=>⟨fun _=>hE.up.ext,wpD_two 6 7 (by kernel_rfl) O O O O ?_ ?_⟩)
   ·skip
    refine zt (zS O (ct161 (h2.mono H.qx) hc2 (by omega) fun b9 cap9 S hE hb9 hO9=>?_))
    obtain ⟨cs9,ho9,hn9,hcl9,hct9,_⟩:=hO9
    replace H:=H.adopt hE hb9 ho9
    refine ⟨fun _=>hE.up.ext,zA 7 (by kernel_rfl) O O (zt (zM (cs:=[]) H O O fun b10 S hb10 hE H=>⟨fun _=>hE.up.ext,zA 10 (by kernel_rfl) O O (zt (W_appendZ (new:=(z_ b.cs).flatten) H O O .h (Src.sl (h3.mono H.qx) zP (by simp)) connRows_one (connRows_flat _) (by decide) (by decide) (by omega) O fun b13 cap13 cs13 S hb13 H hE hn13 hcl13 hct13=>zLd (vJ 11 O O (fun _ _ hK=>vu (cs:=[_,_,_]) O O hK) (zA 12 (by kernel_rfl) O O (zt (zSt H O O O .h3 O fun S hE H=>zLd (zV (ze (zi (⟨trivial,_,(zW (ws:=[_,_,_]) H O .h3 O zO),?_⟩))))))))))⟩))⟩
    simp only [Nat.zero_add] at hn6 hct6 hn13 hct13 ⊢
    have hnd:=H.nodup
    simp at hnd
    exact k _ _ _ _ _ _ _ H.qx ⟨_,H.get .h2,by simpa using hn6,hcl6,by simpa using hct6,vt⟩ ⟨_,H.get .h1,by simpa using hn9,hcl9,by simpa using hct9,vG⟩ ⟨_,H.get .h,by simpa using hn13,hcl13,by simpa using hct13,zP⟩ (H.new1 .h2) (H.new1 .h1) (H.new1 .h) (by omega) (by omega) (by omega)
   ·skip
    refine zt (zM (cs:=[]) H O O fun b10 S hb10 hE H=>⟨fun _=>hE.up.ext,zA 6 (by kernel_rfl) O O (zt (zS O (ct161 (h2.mono H.qx) hc2 (by omega) fun b9 cap9 S hE hb9 hO9=>?_)))⟩)
    obtain ⟨cs9,ho9,hn9,hcl9,hct9,_⟩:=hO9
    replace H:=H.adopt hE hb9 ho9
    refine ⟨fun _=>hE.up.ext,zA 10 (by kernel_rfl) O O (zt (W_appendZ (new:=(z_ b.cs).flatten) H O O .h1 (Src.sl (h3.mono H.qx) zP (by simp)) connRows_one (connRows_flat _) (by decide) (by decide) (by omega) O fun b13 cap13 cs13 S hb13 H hE hn13 hcl13 hct13=>zLd (vJ 11 O O (fun _ _ hK=>vu (cs:=[_,_,_]) O O hK) (zA 12 (by kernel_rfl) O O (zt (zSt H O O O .h3 O fun S hE H=>zLd (zV (ze (zi (⟨trivial,_,(zW (ws:=[_,_,_]) H O .h3 O zO),?_⟩))))))))))⟩
    simp only [Nat.zero_add] at hn6 hct6 hn13 hct13 ⊢
    have hnd:=H.nodup
    simp at hnd
    exact k _ _ _ _ _ _ _ H.qx ⟨_,H.get .h2,by simpa using hn6,hcl6,by simpa using hct6,vt⟩ ⟨_,H.get .h1,by simpa using hn9,hcl9,by simpa using hct9,vG⟩ ⟨_,H.get .h,by simpa using hn13,hcl13,by simpa using hct13,zP⟩ (H.new1 .h2) (H.new1 .h1) (H.new1 .h) (by omega) (by omega) (by omega)
  ·skip
   refine zt (zM (cs:=[]) H O O fun b10 S hb10 hE H=>⟨fun _=>hE.up.ext,zA 3 (by kernel_rfl) O O (zt (W_appendZ (new:=(vo b.rs).flatten) H O O .h1 (Src.sl (h1.mono H.qx) vt (by simp)) ruleRows_one (ruleRows_flat _) (by decide) (by decide) (by omega) O fun b6 cap6 cs6 S hb6 H hE hn6 hcl6 hct6=>⟨fun _=>hE.up.ext,zA 6 (by kernel_rfl) O O (zt (zS O (ct161 (h2.mono H.qx) hc2 (by omega) fun b9 cap9 S hE hb9 hO9=>?_)))⟩))⟩)
   obtain ⟨cs9,ho9,hn9,hcl9,hct9,_⟩:=hO9
   replace H:=H.adopt hE hb9 ho9
   refine ⟨fun _=>hE.up.ext,zA 10 (by kernel_rfl) O O (zt (W_appendZ (new:=(z_ b.cs).flatten) H O O .h2 (Src.sl (h3.mono H.qx) zP (by simp)) connRows_one (connRows_flat _) (by decide) (by decide) (by omega) O fun b13 cap13 cs13 S hb13 H hE hn13 hcl13 hct13=>zLd (vJ 11 O O (fun _ _ hK=>vu (cs:=[_,_,_]) O O hK) (zA 12 (by kernel_rfl) O O (zt (zSt H O O O .h3 O fun S hE H=>zLd (zV (ze (zi (⟨trivial,_,(zW (ws:=[_,_,_]) H O .h3 O zO),?_⟩))))))))))⟩
   simp only [Nat.zero_add] at hn6 hct6 hn13 hct13 ⊢
   have hnd:=H.nodup
   simp at hnd
   exact k _ _ _ _ _ _ _ H.qx ⟨_,H.get .h2,by simpa using hn6,hcl6,by simpa using hct6,vt⟩ ⟨_,H.get .h1,by simpa using hn9,hcl9,by simpa using hct9,vG⟩ ⟨_,H.get .h,by simpa using hn13,hcl13,by simpa using hct13,zP⟩ (H.new1 .h2) (H.new1 .h1) (H.new1 .h) (by omega) (by omega) (by omega)
 ·skip
  refine zt (zM (cs:=[]) H O O fun b10 S hb10 hE H=>⟨fun _=>hE.up.ext,zA 0 (by kernel_rfl) O O (zt (zM (cs:=[]) H O O fun b3 S hb3 hE H=>⟨fun _=>hE.up.ext,zA 3 (by kernel_rfl) O O (zt (W_appendZ (new:=(vo b.rs).flatten) H O O .h (Src.sl (h1.mono H.qx) vt (by simp)) ruleRows_one (ruleRows_flat _) (by decide) (by decide) (by omega) O fun b6 cap6 cs6 S hb6 H hE hn6 hcl6 hct6=>⟨fun _=>hE.up.ext,zA 6 (by kernel_rfl) O O (zt (zS O (ct161 (h2.mono H.qx) hc2 (by omega) fun b9 cap9 S hE hb9 hO9=>?_)))⟩))⟩))⟩)
  obtain ⟨cs9,ho9,hn9,hcl9,hct9,_⟩:=hO9
  replace H:=H.adopt hE hb9 ho9
  refine ⟨fun _=>hE.up.ext,zA 10 (by kernel_rfl) O O (zt (W_appendZ (new:=(z_ b.cs).flatten) H O O .h2 (Src.sl (h3.mono H.qx) zP (by simp)) connRows_one (connRows_flat _) (by decide) (by decide) (by omega) O fun b13 cap13 cs13 S hb13 H hE hn13 hcl13 hct13=>zLd (vJ 11 O O (fun _ _ hK=>vu (cs:=[_,_,_]) O O hK) (zA 12 (by kernel_rfl) O O (zt (zSt H O O O .h3 O fun S hE H=>zLd (zV (ze (zi (⟨trivial,_,(zW (ws:=[_,_,_]) H O .h3 O zO),?_⟩))))))))))⟩
  simp only [Nat.zero_add] at hn6 hct6 hn13 hct13 ⊢
  have hnd:=H.nodup
  simp at hnd
  exact k _ _ _ _ _ _ _ H.qx ⟨_,H.get .h2,by simpa using hn6,hcl6,by simpa using hct6,vt⟩ ⟨_,H.get .h1,by simpa using hn9,hcl9,by simpa using hct9,vG⟩ ⟨_,H.get .h,by simpa using hn13,hcl13,by simpa using hct13,zP⟩ (H.new1 .h2) (H.new1 .h1) (H.new1 .h) (by omega) (by omega) (by omega)
theorem ct78 (h1:Sl S0 7 a1 (vo b.rs)) (h2:Sl S0 2 a2 (zY b.es)) (h3:Sl S0 7 a3 (z_ b.cs)) (hc2:b.es.length≤c2) (hc3:b.cs.length≤c3) (hz:BoxZ b) (k:∀ (x1 x2 x3:Option Addr) (d1 d2 d3:Nat) (q:Box) S',Ext [] S0 S'→(BoxP b→q=b)→(¬ BoxP b→q=Box.nil)→(BoxM S0 S' x1 x2 x3 d2 d3 q)→K (.agg #[.slice x1 q.rs.length d1,.slice x2 q.es.length d2,.slice x3 q.cs.length d3]) S') :
  zC 78 #[.agg #[.slice a1 b.rs.length c1,.slice a2 b.es.length c2,.slice a3 b.cs.length c3]] S0 K:=by
 refine zGh (sf:=s78) Tryz.func78 fun H=>zR (zBx H O O fun b1 S hb1 hE H=>zAl H O fun b2 S hb2 hE H=>zN (zSS (zLn (vs:=[_,_,_]) H O .h1 O (vM O (ct14 (h1.mono H.qx) (h2.mono H.qx) (h3.mono H.qx) hc2 hc3 hz fun t4 S hE h4=>?_)))))
 replace H:=H.call hE
 refine zNt O (zN ?_)
 rcases t4 with _|_
 ·replace h4:=bF h4
  refine zj O (zR (za (vu (cs:=[_,_,_]) O O (zSs H O O O .h O fun S hE H=>zN (zi (zw (⟨trivial,_,(zW (ws:=[_,_,_]) H O .h O zO),?_⟩)))))))
  exact k none none none 0 0 0 Box.nil _ H.qx (fun h=>absurd h h4) (fun _=>rfl) (.nil _ _)
 ·replace h4:=bT h4
  refine zr O (zv (ze (zR (zLn (vs:=[_,_,_]) H O .h1 O (vM O (ct79 (h1.mono H.qx) (h2.mono H.qx) (h3.mono H.qx) hc2 hc3 hz fun n18 n28 n38 d18 d28 d38 S hE hP8 hQ8 hR8 hp8 hq8 hr8 hpq8 hpr8 hqr8=>?_))))))
  obtain ⟨csP8,hoP8,hnP8,hclP8,hctP8,_⟩:=hP8
  obtain ⟨csQ8,hoQ8,hnQ8,hclQ8,hctQ8,_⟩:=hQ8
  obtain ⟨csR8,hoR8,hnR8,hclR8,hctR8,_⟩:=hR8
  replace H:=H.add3 hE hp8 hq8 hr8 hoP8 hoQ8 hoR8 hpq8 hpr8 hqr8 (H.qx.isNone hp8) (H.qx.isNone hq8) (H.qx.isNone hr8)
  refine zSs H O O O .h3 O fun S hE H=>zN (zi (⟨trivial,_,(zW (ws:=[_,_,_]) H O .h3 O zO),?_⟩))
  have hnd:=H.nodup
  simp at hnd
  exact k _ _ _ _ _ _ b _ H.qx (fun _=>rfl) (fun h=>absurd h4 h) ⟨vc (H.get .h) rfl hctP8 vt,vc (H.get .h1) rfl hctQ8 vG,.inr ⟨_,rfl,H.new1 .h2,⟨_,H.get .h2,hnR8,hclR8,hctR8,zP⟩,own_ne hpr8,own_ne hqr8⟩,by simpa using hnQ8,by simpa using hnR8,.own (H.new1 .h),.own (H.new1 .h1)⟩
theorem ct165 (hs:Sl S0 2 a (zY es)) (hcp:es.length≤cap) (hl:es.length≤6) (hll:l.length≤1048576) (k:∀  S',Ext [] S0 S'→((vI es l).2.length≤1099527356416)→K (str (vI es l).2) S') :
  zC 165 #[.agg #[.slice a es.length cap],str l] S0 K:=by
 refine zGh (sf:=s165) Tryz.func165 fun H=>zR (zBx H O O fun b2 S hb2 hE H=>zn O (zNR (zLn (vs:=[_]) H O .h O (zn O (vM O (ct175 (hs.mono H.qx) hcp (by omega) (by omega) fun a10 cap10 S hE hs10 hc10 ho10 htl10=>?_))))))
 replace H:=H.call hE
 refine zn O (zEx O O (zEx O O (zAl H O fun b5 S hb5 hE H=>zSs H O O O .h O fun S hE H=>zn O (zNR (zn O (zn O (zN (zi (z0 O ?_)))))))))
 exact k _ H.qx htl10
theorem ct164 {a4:Option Addr} {cap4:Nat} {ls:List Bs} (hs:Sl S0 2 a (zY es)) (hcp:es.length≤cap) (hl:es.length≤1099511627776) (hs4:Sl S0 1 a4 (strRows ls)) (hls:lsum ls≤1048576) (k:∀  S',Ext [] S0 S'→K (str (linesIn es ls)) S') :
  zC 164 #[.agg #[.slice a es.length cap],.slice a4 ls.length cap4] S0 K:=by
 refine zGh (sf:=s164) Tryz.func164 fun H=>?_
 have hbl:=len_lsum ls
 refine zR (zBx H O O fun b2 S hb2 hE H=>zn O (zNR (zn O (zN (zSS (zn O (zN (zJ ?_))))))))
 refine vr (fun E S m_=>∃ (i:Nat) (tx:Bs),E=Env.lst [(1,.slice a4 ls.length cap4),(2,vQ b2 0),(5,str tx),(6,int i)]∧Loc [] S0 S [(b2,Cs [.slice a es.length cap] 26)]∧(i≤ls.length)∧(tx=linesIn es (ls.take i))∧(tx.length≤lsum (ls.take i)+14*i)∧m_=ls.length-i) ?_ ?_
 ·skip
  refine ⟨_,_,?le,0,[],O,H,(by omega),(by simp [linesIn]),(by simp),O⟩
  case le=>exact Env.qle ⟨O,O,O,O,⟨⟩⟩
 ·skip
  rintro _ S _ ⟨i,tx,rfl,H,hi,ht,htl,rfl⟩
  refine zSS (zn O (zn O (zLl O (za (vU O O fun t10 h10=>zN ?_)))))
  rcases t10 with _|_
  ·replace h10:=bF h10
   refine zr O (vq (zX (zX (vE (ze (zR (zn O (zn O (zN (zi (z0 O ?_)))))))))))
   rw [show i=ls.length by omega,List.take_length] at ht
   rw [← ht] at k
   exact k _ H.qx
  ·replace h10:=bT h10
   obtain ⟨x,hx⟩:∃ x,ls[i]? = some x:=⟨ls[i]'(by omega),by simp⟩
   obtain ⟨p,off,rfl,hc⟩:=hs4.row i _ (strRows_at hx)
   have hx1:=lsum_take hx
   have hx2:=lsum_take_le ls (i+1)
   have hil:=lineIn_len es x
   refine zj O (zv (ze (zK (zJ (z9 [] (vH 0 O O O (vg 1 O O (fun S' hS'=>zD fun K hK=>zU O (zG (hS' O) (by simp) (H.cells (vs:=[_]) .h O)) hK) (vH 2 O O O (vH 3 O O O (vJ 4 O O (fun _ _ hK=>vj O O (by omega) (by omega) hK) (vg 5 O O (fun S' hS'=>zD fun K hK=>zE O (zB (hS' O) (by simp) (cell_at (i:=0) (H.qx.cells hc) O)) hK) (zA 6 (by kernel_rfl) O O (zt (zS O (ct208 (hs.mono H.qx) hcp (by omega) (by omega) fun S hE =>?_)))))))))))))))
   replace H:=H.call hE
   refine zLd (vJ 7 O O (fun _ _ hK=>W_catS O O (by omega) hK) (vJ 8 O O (fun _ _ hK=>W_catS O O (by simp only [List.length_append,List.length_cons,List.length_nil];omega) hK) (vH 9 O O O (zV (z5 (ze (zL (zn O (zAd O O (zn O (zN ?_)))))))))))
   refine ⟨_,_,?lt,?le,(i+1),(tx++lineIn es x++[59]),O,H,(by omega),(by rw [vS hx,linesIn_snoc,ht]),(by rw [hx1];simp only [List.length_append,List.length_cons,List.length_nil];omega),O⟩
   case lt=>omega
   case le=>exact Env.qle ⟨O,O,O,O,⟨⟩⟩
theorem ct174 {d3 n3:Nat} {rs:List Rule} {csR:List Value} (ho:S0 n3=some ⟨Cs csR 49,true⟩) (hn:cs.length≤d3) (hcl:csR.length=d3*7) (hct:csR.take (cs.length*7)=(z_ cs).flatten) (hl:cs.length≤3) (k:∀ (m3 d:Nat) (csq:List Value) S',Ext [n3] S0 S'→(m3=n3∨S0 m3=none)→S' m3=some ⟨Cs csq 49,true⟩→(placeC cs e f).1.length≤d→csq.length=d*7→csq.take ((placeC cs e f).1.length*7)=(z_ (placeC cs e f).1).flatten→K (.tuple #[.agg #[.slice a1 rs.length c1,.slice a2 es.length c2,sl m3 0 (placeC cs e f).1.length d],int (placeC cs e f).2]) S') :
  zC 174 #[.agg #[.slice a1 rs.length c1,.slice a2 es.length c2,sl n3 0 cs.length d3],e.v,f.v] S0 K:=by
 refine zGo (sf:=s174) Tryz.func174 ?_
 have H:=Loc.start1 ho
 refine zR (zBx H O O fun b3 S hb3 hE H=>zBx H O O fun b4 S hb4 hE H=>zBx H O O fun b5 S hb5 hE H=>zAl H O fun b6 S hb6 hE H=>zn O (zNR (zFa O (zL1 H O .h3 O (zLn (vs:=[_,_]) H O .h2 O (zLn (vs:=[_,_]) H O .h1 O (vM O (ct82 (vc (H.get .h4) (n:=cs.length*7) (by simp) hct zP) (by omega) fun S hE =>?_))))))))
 replace H:=H.call hE
 refine zn O (zN (zSS (zn O (za (W_geq O O fun t15 h15=>zN ?_)))))
 rcases t15 with _|_
 ·replace h15:=bF h15
  refine zr O (zv (ze (zSS (zFa O (zL1 H O .h3 O (zLl O (za (vT O O fun t21 h21=>zN ?_))))))))
  rcases t21 with _|_
  ·replace h21:=bF h21
   refine zr O (zv (ze (zR (zFa O (zL1 H O .h3 O (zLn (vs:=[_,_]) H O .h2 O (zLn (vs:=[_,_]) H O .h1 O (za (vu (cs:=[_,_,_,_,_,_,_]) O O (za (zM (cs:=[_,_,_,_,_,_,_]) H O O fun b28 S hb28 hE H=>za (W_append H O O .h5 hcl hn (Src.own H .h O) (by simp [vV]) O (by decide) (by omega) O fun b29 cap29 cs29 S hb29 H hE hn29 hcl29 hct29=>zFa O (zSs H O O O .h5 O fun S hE H=>zN (zK (z9 [b6] (vg 0 O O (fun S' hS'=>zD fun K hK=>zU O (zG (hS' O) (nin1 (by rintro rfl;exact absurd H.nodup (by simp))) (H.cells (vs:=[_,_,_]) .h5 O)) hK) (zLf 1 O O O (vg 2 O O (fun S' hS'=>zD fun K hK=>zE O (zB (hS' O) (nin1 (by rintro rfl;exact absurd H.nodup (by simp))) (H.cell .h5 O)) hK) (vJ 3 O O (fun _ _ hK=>W_lenL O hK) (vJ 4 O O (fun _ _ hK=>W_sub O O (by omega) (by omega) hK) (zA 5 (by kernel_rfl) O O (zt (zSt H O O O .h2 O fun S hE H=>⟨fun _=>hE.ext,vH 6 O O O (zV (ze (zi (⟨trivial,_,(zW (ws:=[_,_,_]) H O .h2 O (zZ O zO)),?_⟩))))⟩)))))))))))))))))))))))
   rw [placeC_new h15 (by omega)] at k
   rw [show (cs.length+1)=(cs++[⟨e,f,[],[],[]⟩]:List Conn).length by simp,show (((cs++[⟨e,f,[],[],[]⟩]:List Conn).length:Nat):Int)-1=cs.length by simp]
   exact k _ _ _ _ H.qx ((H.fresh _ _ (Has.mem .h)).symm.imp_left (by simp)) (H.get .h) (by simpa using hn29) hcl29 (by rw [List.length_append];refine hct29.trans ?_;rw [hct];simp)
  ·replace h21:=bT h21
   refine zj O (zR (zLn (vs:=[_,_,_]) H O .h3 O (zSs H O O O .h O fun S hE H=>zn O (zN (zi (zw (⟨trivial,_,(zW (ws:=[_,_,_]) H O .h O (zZ O zO)),?_⟩)))))))
   (rw [placeC_full h15 (by omega)] at k;exact k _ _ _ _ H.qx (.inl rfl) (H.get .h4) hn hcl hct)
 ·replace h15:=bT h15
  refine zj O (zR (zLn (vs:=[_,_,_]) H O .h3 O (zn O (zSs H O O O .h O fun S hE H=>zn O (zN (zi (zw (⟨trivial,_,(zW (ws:=[_,_,_]) H O .h O (zZ O zO)),?_⟩))))))))
  (rw [placeC_old h15] at k;exact k _ _ _ _ H.qx (.inl rfl) (H.get .h4) hn hcl hct)
end
section
variable {S0:St} {K:Value→St→Prop}
variable {b:Box} {cs:List Conn} {es:List End} {rs:List Rule} {csR:List Value} {c1 c2 c3 cap d3 n3:Nat} {a a1 a2 a3:Option Addr} {s:Seg}
theorem ct169i {l:Bs} {q:Int} (hl:l.length≤1099527356416) (h0:0≤q) (hq:q≤1099527356416) (k:∀ b cap S',Ext [] S0 S'→(S0 b=none)→(OwnB S' b 33 7 cap (segRows (cutO s l q.toNat)))→K (sl b 0 (cutO s l q.toNat).length cap) S'):Calls1 Tryz.prog 169 #[s.v,str l,int q] S0 K:=by
 obtain ⟨n,rfl⟩:∃ n:Nat,q=n:=⟨q.toNat,by omega⟩
 exact ct169 hl (by omega) k
theorem ct92 {port:Int} (ho:S0 n3=some ⟨Cs csR 49,true⟩) (hn:cs.length≤d3) (hcl:csR.length=d3*7) (hct:csR.take (cs.length*7)=(z_ cs).flatten) (hl:cs.length≤3) (h2:Sl S0 2 a2 (zY es)) (h2_n3:∀ b off,a2=some ⟨b,off,none⟩→b≠n3) (hc2:es.length≤c2) (hes:es.length≤6) (hz:∀ c∈cs,c.kn.length≤240∧c.he.length≤240∧c.ne.length≤240) (hsd:s.dt.length≤12) (hsq:0≤s.sq∧s.sq≤240) (hak:0≤s.ak∧s.ak≤240) (k:∀ (x2:Option Addr) (m3 d2 d b cap:Nat) (r:Box × List Seg) S',r=ctlO ⟨rs,es,cs⟩ s port→r.1.rs=rs→Ext [n3] S0 S'→OrgX n3 S0 a2 x2→Sl S' 2 x2 (zY r.1.es)→r.1.es.length≤d2→(∀ b off,x2=some ⟨b,off,none⟩→b≠m3)→(m3=n3∨S0 m3=none)→OwnB S' m3 49 7 d (z_ r.1.cs)→(b=n3∨S0 b=none)→OwnB S' b 33 7 cap (segRows r.2)→K (.tuple #[.agg #[.slice a1 rs.length c1,.slice x2 r.1.es.length d2,sl m3 0 r.1.cs.length d],sl b 0 r.2.length cap]) S') :
  zC 92 #[.agg #[.slice a1 rs.length c1,.slice a2 es.length c2,sl n3 0 cs.length d3],s.v,int port] S0 K:=by
 refine zGo (sf:=s92) Tryz.func92 ?_
 have H:=Loc.start1 ho
 refine zR (zBx H O O fun b3 S hb3 hE H=>?_)
 have h2_b3:=h2.ne hb3
 replace h2:=h2.mono hE
 refine zBx H O O fun b4 S hb4 hE H=>?_
 have h2_b4:=h2.ne hb4
 replace h2:=h2.mono hE
 refine zAl H O fun b6 S hb6 hE H=>?_
 have h2_b6:=h2.ne hb6
 replace h2:=h2.mono hE
 refine zn O (zNR (zLn (vs:=[_,_,_]) H O .h2 O (zFa O (zLn (vs:=[_,_]) H O .h1 O (zFa O (zLn (vs:=[_,_]) H O .h1 O (vM O (ct174 (H.get .h3) hn hcl hct hl fun b20 d20 csq20 S hE hb20 ho20 hn20 hcl20 hct20=>?_))))))))
 replace H:=H.callR .h3 hE hb20 ho20
 have h2_b20:=h2.ne2 h2_n3 hb20
 replace h2:=h2.qy hE h2_n3
 refine zn O (zEx O O (zEx O O (zSs H O O O .h3 O fun S hE H=>?_)))
 replace h2:=h2.qy hE h2_b3
 refine zn O (zN (zSS (zn O (za (vU O O fun t24 h24=>zN ?_)))))
 rcases t24 with _|_
 ·replace h24:=bF h24
  have hpl:=placeC_bd h24
  obtain ⟨c0,hx⟩:∃ c0,(placeC cs s.s s.d).1[(placeC cs s.s s.d).2.toNat]? = some c0:=⟨(placeC cs s.s s.d).1[(placeC cs s.s s.d).2.toNat]'hpl,by simp⟩
  have hzp:=placeC_mem (e:=s.s) (f:=s.d) hz ⟨by simp,by simp,by simp⟩ c0 (List.mem_of_getElem? hx)
  have hgl:=grown_len c0.kn s
  refine zr O (zv (ze (zR (zFa O (zL1 H O .h3 O (zn O (zIa O O (za (zU (vs:=[_,_,_,_,_,_,_]) O (cells_own (H.get .h) (row_sub (by simpa using hct20) zP (vz hx))) (zAl H O fun b9 S hb9 hE H=>?_))))))))))
  have h2_b9:=h2.ne hb9
  replace h2:=h2.mono hE
  refine zSs H O O O .h O fun S hE H=>?_
  replace h2:=h2.qy hE h2_b9
  refine zNR (zFa O (zL1 H O .h O (zLn (vs:=[_,_,_,_,_,_,_]) H O .h3 O (vM O (ct163 (by omega) (by omega) fun S hE =>?_)))))
  replace H:=H.call hE
  replace h2:=h2.mono hE
  refine zn O (zN ?_)
  refine wpS_cut (fun E S=>∃ (c:Conn),E=Env.lst [(2,int port),(3,vQ b3 0),(4,vQ b4 0),(6,vQ b6 0),(8,int (placeC cs s.s s.d).2),(9,vQ b9 0)]∧Loc [n3] S0 S [(b9,Cs c.row 49),(b20,Cs csq20 49),(b6,Cs [.slice none 0 0,.slice none 0 0,.slice none 0 0] 29),(b4,Cs s.row 33),(b3,Cs [.slice a1 rs.length c1,.slice a2 es.length c2,sl b20 0 (placeC cs s.s s.d).1.length d20] 29)]∧(Sl S 2 a2 (zY es))∧(c=vR c0 s)) ?_ ?_
  ·skip
   refine zR (zn O (vM O (ct22 (by omega) fun t37 S hE h37=>?_)))
   replace H:=H.call hE
   replace h2:=h2.mono hE
   refine zN ?_
   rcases t37 with _|_
   ·replace h37:=bF h37
    refine zr O (zv (ze ?_))
    refine ⟨_,?le,c0,O,H,h2,(knownC_no h37)⟩
    case le=>exact Env.qle ⟨O,O,O,O,O,O,⟨⟩⟩
   ·replace h37:=bT h37
    refine zj O (zL (zn O (zFa O (zSs H O O O .h O fun S hE H=>?_))))
    replace h2:=h2.qy hE h2_b9
    refine zN ?_
    refine ⟨_,?le,{c0 with kn:=grown c0.kn s},O,H,h2,(knownC_yes h37)⟩
    case le=>exact Env.qle ⟨O,O,O,O,O,O,⟨⟩⟩
  ·skip
   rintro _ S ⟨c,rfl,H,h2,hkc⟩
   have hkl:c.kn.length≤c0.kn.length+s.dt.length:=by rw [hkc];exact knownC_len
   obtain ⟨kr1,kr2,kr3,kr4⟩:c.i=c0.i∧c.o=c0.o∧c.he=c0.he∧c.ne=c0.ne:=by rw [hkc];exact knownC_rest c0 s
   have kl3:=congrArg List.length kr3
   have kl4:=congrArg List.length kr4
   refine zR (zFa O (zLn (vs:=[_]) H O .h4 O (zFa O (zL1 H O .h O (vM O (ct175 h2 hc2 (by omega) (by omega) fun a45 cap45 S hE hs45 hc45 ho45 htl45=>?_))))))
   have hs45_b6:=ho45.ne h2_b6 (H.get .h2)
   have hs45_b4:=ho45.ne h2_b4 (H.get .h3)
   have hs45_b3:=ho45.ne h2_b3 (H.get .h4)
   have hs45_b20:=ho45.ne h2_b20 (H.get .h1)
   replace ho45:=OrgX.of ho45 H.qx
   replace H:=H.call hE
   refine zn O (zEx O O (zEx O O (zAl H O fun b11 S hb11 hE H=>?_)))
   have hs45_b11:=hs45.ne hb11
   replace hs45:=hs45.mono hE
   refine zSs H O O O .h O fun S hE H=>?_
   replace hs45:=hs45.qy hE hs45_b11
   refine zn O (zNR (zLn (vs:=[_]) H O .h O (zFa O (zSs H O O O .h5 O fun S hE H=>?_))))
   replace hs45:=hs45.qy hE hs45_b3
   refine zNR (zFa O (zL1 H O .h5 O (zn O (zLn (vs:=[_,_,_,_,_,_,_]) H O .h1 O (zIa O O ?_)))))
   have hbd20:(0+(placeC cs s.s s.d).2.toNat*7)+7≤csq20.length:=by omega
   refine za (W_store H O O O O O (by decide) .h2 hbd20 O fun S hE H=>?_)
   replace hs45:=hs45.qy hE hs45_b20
   refine zN (zK (z9 [] (zLf 0 O O O (vg 1 O O (fun S' hS'=>zD fun K hK=>zE O (zB (hS' O) (by simp) (H.cell .h1 O)) hK) (vH 2 O O O (zLf 4 O O O (vg 5 O O (fun S' hS'=>zD fun K hK=>zE O (zB (hS' O) (by simp) (H.cell .h4 O)) hK) (zA 3 (by kernel_rfl) O O (zt (zS O (ct167 (by omega) (by omega) fun b58 cap58 S hE hb58 hO58=>?_)))))))))))
   replace H:=H.call hE
   replace hs45:=hs45.mono hE
   refine ⟨fun _=>hE.up.ext,zA 6 (by kernel_rfl) O O (zt (zS O (ct166 hO58.sl (by have:=spansO_len c.kn (vI es c.kn).2;omega) fun S hE =>?_)))⟩
   replace H:=H.call hE
   replace hs45:=hs45.mono hE
   have hq61:=outO_bd c.kn (vI es c.kn).2 s.sq
   refine zLd (vH 7 O O O (zV (ze (zR (zn O (za (vu (cs:=[_,_]) O O (zFa O (zSs H O O O .h4 O fun S hE H=>?_)))))))))
   replace hs45:=hs45.qy hE hs45_b4
   refine zN (zK (z9 [] (zLf 0 O O O (vg 1 O O (fun S' hS'=>zD fun K hK=>zE O (zB (hS' O) (by simp) (H.cell .h1 O)) hK) (zLf 2 O O O (vg 3 O O (fun S' hS'=>zD fun K hK=>zE O (zB (hS' O) (by simp) (H.cell .h1 O)) hK) (zLf 5 O O O (vg 6 O O (fun S' hS'=>zD fun K hK=>zE O (zB (hS' O) (by simp) (H.cell .h4 O)) hK) (zA 4 (by kernel_rfl) O O (zt (zS O (ct167 (by omega) (by omega) fun b69 cap69 S hE hb69 hO69=>?_))))))))))))
   replace H:=H.call hE
   replace hs45:=hs45.mono hE
   refine ⟨fun _=>hE.up.ext,zA 7 (by kernel_rfl) O O (zt (zS O (ct168 hO69.sl (by have:=spansO_len c.he c.ne;omega) (by omega) (by omega) (spansO_ok (by omega) (by omega)) fun S hE =>?_)))⟩
   replace H:=H.call hE
   replace hs45:=hs45.mono hE
   refine zLd (zLf 8 O O O (zA 9 (by kernel_rfl) O O (zt (zSt H O O O .h4 O fun S hE H=>?_))))
   replace hs45:=hs45.qy hE hs45_b4
   refine zLd (zV (ze (zK (z9 [] (vg 0 O O (fun S' hS'=>zD fun K hK=>zU O (zG (hS' O) (by simp) (H.cells (vs:=[_,_,_]) .h5 O)) hK) (vg 1 O O (fun S' hS'=>zD fun K hK=>zU O (zG (hS' O) (by simp) (H.cells (vs:=[_,_,_,_,_,_,_]) .h4 O)) hK) (vH 2 O O O (vH 3 O O O (zA 4 (by kernel_rfl) O O (zt (zS O (ct169i (s:={s with s:=⟨50,port⟩,ak:=backD 0 (spansO c.he c.ne) s.ak}) (by omega) (by omega) (by omega) fun b78 cap78 S hE hb78 hO78=>?_))))))))))))
   obtain ⟨cs78,ho78,hp78⟩:=hO78
   replace H:=H.adopt hE hb78 ho78
   replace hs45:=hs45.mono hE
   refine ⟨fun _=>hE.up.ext,zA 5 (by kernel_rfl) O O (zt (zSt H O O O .h4 O fun S hE H=>?_))⟩
   replace hs45:=hs45.qy hE hs45_b6
   refine zLd (vH 6 O O O (zV (ze (zi (⟨trivial,_,(zW (ws:=[_,_,_]) H O .h4 O (zZ O zO)),?_⟩)))))
   have hr:=ctlO_yes (b:=⟨rs,es,cs⟩) (port:=port) h24 hx hkc
   have hsl:(placeC cs s.s s.d).1.length=((placeC cs s.s s.d).1.set (placeC cs s.s s.d).2.toNat c).length:=by simp
   rw [hsl]
   refine k a45 b20 cap45 d20 b78 cap78 _ _ hr.symm O H.qx ho45 ?_ ?_ hs45_b20 ?_ ?_ ((H.fresh _ _ (Has.mem .h)).symm.imp_left (by simp)) ⟨cs78,H.get .h,hp78⟩
   ·exact hs45
   ·exact hc45
   ·exact (H.fresh _ _ (Has.mem .h3)).symm.imp_left (by simp)
   ·refine ⟨_,H.get .h3,?_,?_,?_,zP⟩
    ·simpa using hn20
    ·rw [setl_len (by simpa using hbd20)];exact hcl20
    ·have:=row_setl (k:=7) (rows:=z_ (placeC cs s.s s.d).1) (r:=c.row) (by simpa using hct20) zP rfl (by simpa using hpl)
     simpa [z_,List.map_set] using this
 ·replace h24:=bT h24
  refine zj O (zR (zLn (vs:=[_,_,_]) H O .h3 O (za (zM (cs:=[]) H O O fun b26 S hb26 hE H=>?_))))
  replace h2:=h2.mono hE
  refine zSs H O O O .h2 O fun S hE H=>?_
  replace h2:=h2.qy hE h2_b6
  refine zn O (zN (zi (zw (⟨trivial,_,(zW (ws:=[_,_,_]) H O .h2 O (zZ O zO)),?_⟩))))
  have hr:=ctlO_no (b:=⟨rs,es,cs⟩) (port:=port) h24
  refine k a2 b20 c2 d20 b26 0 _ _ hr.symm O H.qx (.same _ _ _) h2 hc2 h2_b20 ((H.fresh _ _ (Has.mem .h1)).symm.imp_left (by simp)) ⟨_,H.get .h1,by simpa using hn20,hcl20,by simpa using hct20,zP⟩ ?_ ⟨_,H.get .h,by simp,by simp,by simp,segRows_seven⟩
  exact (H.fresh _ _ (Has.mem .h)).symm.imp_left (by simp)
theorem ct32 (h1:Sl S0 7 a1 (vo b.rs)) (h2:Sl S0 2 a2 (zY b.es)) (h3:Sl S0 7 a3 (z_ b.cs)) (hc2:b.es.length≤c2) (hc3:b.cs.length≤c3) (hz:BoxZ b) (k:∀ (x1 x2 x3 x4:Option Addr) (d1 d2 d3 d4:Nat) (r:Box × List Seg) S',Ext [] S0 S'→(r=boxOutP b s)→(BoxM S0 S' x1 x2 x3 d2 d3 r.1)→(Sl S' 7 x4 (segRows r.2))→(r.2.length≤d4)→K (.tuple #[.agg #[.slice x1 r.1.rs.length d1,.slice x2 r.1.es.length d2,.slice x3 r.1.cs.length d3],.slice x4 r.2.length d4]) S') :
  zC 32 #[.agg #[.slice a1 b.rs.length c1,.slice a2 b.es.length c2,.slice a3 b.cs.length c3],s.v] S0 K:=by
 refine zGh (sf:=s32) Tryz.func32 fun H=>?_
 obtain ⟨z1,z2,z3,hzz⟩:=id hz
 refine zR (zBx H O O fun b2 S hb2 hE H=>zBx H O O fun b3 S hb3 hE H=>zAl H O fun b4 S hb4 hE H=>zn O (zN (zK ?_)))
 refine wpS_cut (fun E S=>∃ (t38:Bool),E=Env.lst [(2,vQ b2 0),(3,vQ b3 0),(4,vQ b4 0),(5,.slice none 0 0),(38,.bool t38)]∧Loc [] S0 S [(b4,Cs [.slice none 0 0,.slice none 0 0,.slice none 0 0] 29),(b3,Cs s.row 33),(b2,Cs [.slice a1 b.rs.length c1,.slice a2 b.es.length c2,.slice a3 b.cs.length c3] 29)]∧(t38=true↔¬ (BoxP b∧SegP s∧s.s.inn∧s.d.out∧mayR b.rs s.s s.d=true))) ?_ ?_
 ·skip
  refine zL (zLn (vs:=[_,_,_]) H O .h2 O (vM O (ct14 (h1.mono H.qx) (h2.mono H.qx) (h3.mono H.qx) hc2 hc3 hz fun t10 S hE h10=>?_)))
  replace H:=H.call hE
  refine zNt O (zn O ?_)
  rcases t10 with _|_
  ·replace h10:=bF h10
   refine zH O (zH O (zH O (vp O O O O (zn O (zH O (zH O (zH O (zH O (vp O O O O (zn O (zH O (zH O (zH O (zH O (vp O O O O (zn O (zH O (zH O (zH O (zH O (zH O (zH O (zH O (zH O (vp O O O O (zN ?_))))))))))))))))))))))))))
   refine ⟨_,?le,true,O,H,⟨fun _ h=>by obtain ⟨p1,p2,p3,p4,p5⟩:=h;first | exact absurd p1 (by assumption) | exact absurd p2 (by assumption) | exact absurd p3 (by assumption) | exact absurd p4 (by assumption) | exact absurd p5 (by assumption),fun _=>rfl⟩⟩
   case le=>exact Env.qle ⟨O,O,O,O,O,⟨⟩⟩
  ·replace h10:=bT h10
   refine zh O (vK (vs:=[_,_,_,_,_,_,_]) H O .h1 O (zh O (zS O (ct29  fun t14 S hE h14=>?_))))
   replace H:=H.call hE
   refine zh O (W_not O (vp O O O O (zn O ?_)))
   rcases t14 with _|_
   ·replace h14:=bF h14
    refine zH O (zH O (zH O (zH O (vp O O O O (zn O (zH O (zH O (zH O (zH O (vp O O O O (zn O (zH O (zH O (zH O (zH O (zH O (zH O (zH O (zH O (vp O O O O (zN ?_)))))))))))))))))))))
    refine ⟨_,?le,true,O,H,⟨fun _ h=>by obtain ⟨p1,p2,p3,p4,p5⟩:=h;first | exact absurd p1 (by assumption) | exact absurd p2 (by assumption) | exact absurd p3 (by assumption) | exact absurd p4 (by assumption) | exact absurd p5 (by assumption),fun _=>rfl⟩⟩
    case le=>exact Env.qle ⟨O,O,O,O,O,⟨⟩⟩
   ·replace h14:=bT h14
    refine zh O (zz O (zh O (vK (vs:=[_,_]) H O .h1 O (zh O (zS O (ct90  fun t20 S hE h20=>?_))))))
    replace H:=H.call hE
    refine zh O (W_not O (vp O O O O (zn O ?_)))
    rcases t20 with _|_
    ·replace h20:=bF h20
     refine zH O (zH O (zH O (zH O (vp O O O O (zn O (zH O (zH O (zH O (zH O (zH O (zH O (zH O (zH O (vp O O O O (zN ?_)))))))))))))))
     refine ⟨_,?le,true,O,H,⟨fun _ h=>by obtain ⟨p1,p2,p3,p4,p5⟩:=h;first | exact absurd p1 (by assumption) | exact absurd p2 (by assumption) | exact absurd p3 (by assumption) | exact absurd p4 (by assumption) | exact absurd p5 (by assumption),fun _=>rfl⟩⟩
     case le=>exact Env.qle ⟨O,O,O,O,O,⟨⟩⟩
    ·replace h20:=bT h20
     refine zh O (zz O (zh O (vK (vs:=[_,_]) H O .h1 O (zh O (zS O (ct77  fun t26 S hE h26=>?_))))))
     replace H:=H.call hE
     refine zh O (W_not O (vp O O O O (zn O ?_)))
     rcases t26 with _|_
     ·replace h26:=bF h26
      refine zH O (zH O (zH O (zH O (zH O (zH O (zH O (zH O (vp O O O O (zN ?_)))))))))
      refine ⟨_,?le,true,O,H,⟨fun _ h=>by obtain ⟨p1,p2,p3,p4,p5⟩:=h;first | exact absurd p1 (by assumption) | exact absurd p2 (by assumption) | exact absurd p3 (by assumption) | exact absurd p4 (by assumption) | exact absurd p5 (by assumption),fun _=>rfl⟩⟩
      case le=>exact Env.qle ⟨O,O,O,O,O,⟨⟩⟩
     ·replace h26:=bT h26
      refine zh O (zz O (zh O (vl H O .h2 O (zh O (zz O (zh O (vK (vs:=[_,_]) H O .h1 O (zh O (zz O (zh O (vK (vs:=[_,_]) H O .h1 O (zh O (zS O (ct81 (h1.mono H.qx) (by omega) fun t36 S hE h36=>?_))))))))))))))
      replace H:=H.call hE
      refine zh O (W_not O (vp O O O O (zN ?_)))
      refine ⟨_,?le,(!t36),O,H,⟨fun e h=>(by have h9:=h36.2 h.2.2.2.2;rw [h9] at e;cases e),fun h=>(by cases t36;exact rfl;exact absurd ⟨h10,h14,h20,h26,h36.1 rfl⟩ h)⟩⟩
      case le=>exact Env.qle ⟨O,O,O,O,O,⟨⟩⟩
 ·skip
  rintro _ S ⟨t38,rfl,H,h38⟩
  rcases t38 with _|_
  ·replace h38:=bF h38
   obtain ⟨h10,h14,h20,h26,h36⟩:=Classical.not_not.1 h38
   obtain ⟨sm1,sm2,sm3,sm4⟩:=h10.small
   obtain ⟨g1,g2,g3,g4,g5,g6⟩:=id h14
   refine zr O (zv (ze (zR (zLn (vs:=[_,_,_]) H O .h2 O (vM O (ct79 (h1.mono H.qx) (h2.mono H.qx) (h3.mono H.qx) hc2 hc3 hz fun n143 n243 n343 d143 d243 d343 S hE hP43 hQ43 hR43 hp43 hq43 hr43 hpq43 hpr43 hqr43=>?_))))))
   obtain ⟨csP43,hoP43,hnP43,hclP43,hctP43,_⟩:=hP43
   obtain ⟨csQ43,hoQ43,hnQ43,hclQ43,hctQ43,_⟩:=hQ43
   obtain ⟨csR43,hoR43,hnR43,hclR43,hctR43,_⟩:=hR43
   replace H:=H.add3 hE hp43 hq43 hr43 hoP43 hoQ43 hoR43 hpq43 hpr43 hqr43 (H.qx.isNone hp43) (H.qx.isNone hq43) (H.qx.isNone hr43)
   have hq:=(vc (H.get .h1) rfl hctQ43 vG)
   have hq_n343:=own_ne (a:=n243) (b:=n343) (by rintro rfl;exact absurd H.nodup (by simp))
   have hq_b4:=own_ne (a:=n243) (b:=b4) (by rintro rfl;exact absurd H.nodup (by simp))
   have hq_b3:=own_ne (a:=n243) (b:=b3) (by rintro rfl;exact absurd H.nodup (by simp))
   have hqc:b.es.length≤d243:=by simpa using hnQ43
   refine zAl H O fun b6 S hb6 hE H=>?_
   have hq_b6:=hq.ne hb6
   replace hq:=hq.mono hE
   refine zSs H O O O .h O fun S hE H=>?_
   replace hq:=hq.qy hE hq_b6
   refine zNR (zFa O (zLn (vs:=[_]) H O .h O (zFa O (zLn (vs:=[_,_]) H O .h5 O (vM O (ct91 (es:=b.es) (e:=s.s) hq hqc (by omega) fun a49 cap49 S hE hs49 hc49 ho49 hw49=>?_))))))
   have hs49_b6:=ho49.ne hq_b6 (H.get .h)
   have hs49_b4:=ho49.ne hq_b4 (H.get .h4)
   have hs49_b3:=ho49.ne hq_b3 (H.get .h5)
   have hs49_n343:=ho49.ne hq_n343 (H.get .h3)
   replace ho49:Org S0 none a49:=(Org.own (H.new1 .h2)).trans (ho49.back H.qx)
   replace H:=H.call hE
   refine zn O (zEx O O (zEx O O (zAl H O fun b7 S hb7 hE H=>?_)))
   have hs49_b7:=hs49.ne hb7
   replace hs49:=hs49.mono hE
   refine zSs H O O O .h O fun S hE H=>?_
   replace hs49:=hs49.qy hE hs49_b7
   refine zn O (zN (zSS (zn O (za (vT O O fun t53 h53=>zN ?_)))))
   rcases t53 with _|_
   ·replace h53:=bF h53
    refine zr O (zv (ze (zR (zLn (vs:=[_]) H O .h O (zFa O (zSs H O O O .h1 O fun S hE H=>?_))))))
    replace hs49:=hs49.qy hE hs49_b6
    refine zN (zSS (zFa O (zFa O (zL1 H O .h6 O (za (vT O O fun t61 h61=>zN ?_))))))
    rcases t61 with _|_
    ·replace h61:=bF h61
     refine zr O (zv (ze (zR (zn O (za (vu (cs:=[_,_]) O O (zFa O (zSs H O O O .h6 O fun S hE H=>?_))))))))
     replace hs49:=hs49.qy hE hs49_b3
     refine zN (zK (z9 [b4] (vg 0 O O (fun S' hS'=>zD fun K hK=>zU O (zG (hS' O) (nin1 (by rintro rfl;exact absurd H.nodup (by simp))) (H.cells (vs:=[_,_,_]) .h1 O)) hK) (vg 1 O O (fun S' hS'=>zD fun K hK=>zU O (zG (hS' O) (nin1 (by rintro rfl;exact absurd H.nodup (by simp))) (H.cells (vs:=[_,_,_,_,_,_,_]) .h6 O)) hK) (wpD_two 2 3 (by kernel_rfl) O O O O ?_ ?_)))))
     ·skip
      refine zt (zM (cs:=[_,_,_,_,_,_,_]) H O O fun b73 S hb73 hE H=>?_)
      replace hs49:=hs49.mono hE
      refine ⟨fun _=>hE.up.ext,zA 3 (by kernel_rfl) O O (zt (zSt H O O O .h6 O fun S hE H=>?_))⟩
      replace hs49:=hs49.qy hE hs49_b4
      refine ⟨fun _=>hE.ext,vH 4 O O O (zV (ze (zi (⟨trivial,_,(zW (ws:=[_,_,_]) H O .h6 O (zZ O zO)),?_⟩))))⟩
      have hok:BoxP b∧SegP s∧s.s.inn∧s.d.out∧mayR b.rs s.s s.d=true:=⟨h10,h14,h20,h26,h36⟩
      refine k _ _ _ (some ⟨b73,0,none⟩) _ _ _ 1 ({b with es:=putE b.es s.s},[{s with s:=⟨50,putP b.es s.s⟩}]) _ H.qx (boxOutP_one hok h53 h61).symm ⟨vc (H.get .h3) O hctP43 vt,hs49,.inr ⟨n343,O,H.new1 .h5,⟨_,H.get .h5,hnR43,hclR43,hctR43,zP⟩,own_ne hpr43,hs49_n343⟩,hc49,by simpa using hnR43,.own (H.new1 .h3),ho49⟩ (vc (n:=7) (H.get .h) O O segRows_seven) (Nat.le_refl _)
     ·skip
      refine zt (zSt H O O O .h5 O fun S hE H=>?_)
      replace hs49:=hs49.qy hE hs49_b4
      refine ⟨fun _=>hE.ext,zA 2 (by kernel_rfl) O O (zt (zM (cs:=[_,_,_,_,_,_,_]) H O O fun b73 S hb73 hE H=>?_))⟩
      replace hs49:=hs49.mono hE
      refine ⟨fun _=>hE.up.ext,vH 4 O O O (zV (ze (zi (⟨trivial,_,(zW (ws:=[_,_,_]) H O .h6 O (zZ O zO)),?_⟩))))⟩
      have hok:BoxP b∧SegP s∧s.s.inn∧s.d.out∧mayR b.rs s.s s.d=true:=⟨h10,h14,h20,h26,h36⟩
      refine k _ _ _ (some ⟨b73,0,none⟩) _ _ _ 1 ({b with es:=putE b.es s.s},[{s with s:=⟨50,putP b.es s.s⟩}]) _ H.qx (boxOutP_one hok h53 h61).symm ⟨vc (H.get .h3) O hctP43 vt,hs49,.inr ⟨n343,O,H.new1 .h5,⟨_,H.get .h5,hnR43,hclR43,hctR43,zP⟩,own_ne hpr43,hs49_n343⟩,hc49,by simpa using hnR43,.own (H.new1 .h3),ho49⟩ (vc (n:=7) (H.get .h) O O segRows_seven) (Nat.le_refl _)
    ·replace h61:=bT h61
     refine zj O (zR (zLn (vs:=[_,_,_]) H O .h1 O (zLn (vs:=[_,_,_,_,_,_,_]) H O .h6 O (zn O (vM O (ct92 (csR:=csR43) (H.get .h4) (by simpa using hnR43) hclR43 (by simpa using hctR43) (by omega) hs49 hs49_n343 hc49 (putE_len6 _ sm2) (fun c hc=>by have:=sm4 c hc;omega) g5 g3 g4 fun x65 b65 e65 d65 m65 cap65 r65 S hr65 hrs65 hE hox65 hs65 hc65 hx65 hb65 hO65 hm65 hM65=>?_))))))
     obtain ⟨cs65,ho65,hn65,hcl65,hct65,_⟩:=hO65
     have ho65x:Org S0 none x65:=Org.ofX hox65 H.qx (H.new1 .h4) ho49
     have hs65_b4:=hox65.ne (y:=b4) (by rintro rfl;exact absurd H.nodup (by simp)) (H.get .h5) hs49_b4
     have hg65:=hM65.sl
     have hg65_b4:=new_ne hm65 (by rintro rfl;exact absurd H.nodup (by simp)) (H.get .h5)
     have hnn65:(segRows r65.2).length≤cap65:=by obtain ⟨_,_,h,_⟩:=hM65;exact h
     replace H:=H.callR .h4 hE hb65 ho65
     refine zEx O O (zEx O O (zSs H O O O .h5 O fun S hE H=>?_))
     replace hs65:=hs65.qy hE hs65_b4
     replace hg65:=hg65.qy hE hg65_b4
     refine zn O (zN (zi (zw (⟨trivial,_,(zW (ws:=[_,_,_]) H O .h5 O (zZ O zO)),?_⟩))))
     have hok:BoxP b∧SegP s∧s.s.inn∧s.d.out∧mayR b.rs s.s s.d=true:=⟨h10,h14,h20,h26,h36⟩
     have hrr:r65=boxOutP b s:=by rw [hr65,boxOutP_ctl hok h53 h61]
     rw [← hrs65]
     refine k _ _ _ _ _ _ _ _ r65 _ H.qx hrr ⟨?_,hs65,.inr ⟨b65,O,H.new1 .h,⟨_,H.get .h,hn65,hcl65,hct65,zP⟩,own_ne (by rintro rfl;exact absurd H.nodup (by simp)),hx65⟩,hc65,by simpa using hn65,.own (H.new1 .h3),ho65x⟩ hg65 (by simpa using hnn65)
     rw [hrs65]
     exact vc (H.get .h3) rfl hctP43 vt
   ·replace h53:=bT h53
    refine zj O (zR (zLn (vs:=[_,_,_]) H O .h1 O (za (zM (cs:=[]) H O O fun b55 S hb55 hE H=>zSs H O O O .h6 O fun S hE H=>zn O (zN (zi (zw (⟨trivial,_,(zW (ws:=[_,_,_]) H O .h6 O (zZ O zO)),?_⟩))))))))
    have hok:BoxP b∧SegP s∧s.s.inn∧s.d.out∧mayR b.rs s.s s.d=true:=⟨h10,h14,h20,h26,h36⟩
    refine k _ _ _ (some ⟨b55,0,none⟩) _ _ _ 0 (b,[]) _ H.qx (boxOutP_full hok h53).symm ⟨vc (H.get .h3) O hctP43 vt,vc (H.get .h4) O hctQ43 vG,.inr ⟨n343,O,H.new1 .h5,⟨_,H.get .h5,hnR43,hclR43,hctR43,zP⟩,own_ne hpr43,own_ne hqr43⟩,by simpa using hnQ43,by simpa using hnR43,.own (H.new1 .h3),.own (H.new1 .h4)⟩ (vc (n:=0) (H.get .h) O O (by simp)) (Nat.le_refl _)
  ·replace h38:=bT h38
   refine zj O (zR (zLn (vs:=[_,_,_]) H O .h2 O (vM O (ct78 (h1.mono H.qx) (h2.mono H.qx) (h3.mono H.qx) hc2 hc3 hz fun x140 x240 x340 d140 d240 d340 q40 S hE hy40 hn40 hM40=>?_))))
   have hM40_b4:=hM40.old (H.get .h)
   replace hM40:=hM40.back H.qx
   replace H:=H.call hE
   refine za (zM (cs:=[]) H O O fun b41 S hb41 hE H=>?_)
   replace hM40:=hM40.mono hE
   refine zSs H O O O .h1 O fun S hE H=>?_
   replace hM40:=hM40.qy hE hM40_b4
   refine zn O (zN (zi (zw (⟨trivial,_,(zW (ws:=[_,_,_]) H O .h1 O (zZ O zO)),?_⟩))))
   obtain ⟨f1,f2⟩:=boxOutP_not (b:=b) (s:=s) h38
   refine k x140 x240 x340 (some ⟨b41,0,none⟩) d140 d240 d340 0 (q40,[]) _ H.qx ?_ hM40 ?_ (Nat.le_refl _)
   ·by_cases hbp:BoxP b
    ·rw [f1 hbp,hy40 hbp]
    ·rw [f2 hbp,hn40 hbp]
   ·exact vc (n:=0) (H.get .h) rfl rfl (by simp)
theorem ct83 {j:Int} {c0:Conn} (ho:S0 n3=some ⟨Cs csR 49,true⟩) (hn:cs.length≤d3) (hcl:csR.length=d3*7) (hct:csR.take (cs.length*7)=(z_ cs).flatten) (hl:cs.length≤3) (h2:Sl S0 2 a2 (zY es)) (h2_n3:∀ b off,a2=some ⟨b,off,none⟩→b≠n3) (hc2:es.length≤c2) (hes:es.length≤6) (hz:c0.kn.length≤240∧c0.he.length≤240∧c0.ne.length≤240) (hsd:s.dt.length≤12) (hsq:0≤s.sq∧s.sq≤240) (hak:0≤s.ak∧s.ak≤240) (hj0:0≤j) (hx:cs[j.toNat]? = some c0) (k:∀ (d b cap:Nat) (r:Box × List Seg) S',r=inO ⟨rs,es,cs⟩ s j.toNat→r.1.rs=rs→r.1.es=es→Ext [n3] S0 S'→OwnB S' n3 49 7 d (z_ r.1.cs)→(b=n3∨S0 b=none)→OwnB S' b 33 7 cap (segRows r.2)→K (.tuple #[.agg #[.slice a1 rs.length c1,.slice a2 es.length c2,sl n3 0 r.1.cs.length d],sl b 0 r.2.length cap]) S') :
  zC 83 #[.agg #[.slice a1 rs.length c1,.slice a2 es.length c2,sl n3 0 cs.length d3],s.v,int j] S0 K:=by
 refine zGo (sf:=s83) Tryz.func83 ?_
 have H:=Loc.start1 ho
 have hjl:=(List.getElem?_eq_some_iff.1 hx).1
 obtain ⟨z1,z2,z3⟩:=hz
 have hgl:=grown_len c0.he s
 have hgm:=grown_mono c0.he s
 refine zR (zBx H O O fun b3 S hb3 hE H=>?_)
 replace h2:=h2.mono hE
 refine zBx H O O fun b4 S hb4 hE H=>?_
 replace h2:=h2.mono hE
 refine zAl H O fun b6 S hb6 hE H=>?_
 replace h2:=h2.mono hE
 refine zn O (zNR (zFa O (zL1 H O .h2 O (zn O (zIa O O (za (zU (vs:=[_,_,_,_,_,_,_]) O (cells_own (H.get .h3) (row_sub (by simpa using hct) zP (vz hx))) (zAl H O fun b8 S hb8 hE H=>?_))))))))
 have h2_b8:=h2.ne hb8
 replace h2:=h2.mono hE
 refine zSs H O O O .h O fun S hE H=>?_
 replace h2:=h2.qy hE h2_b8
 refine zNR (zFa O (zL1 H O .h O (zLn (vs:=[_,_,_,_,_,_,_]) H O .h2 O (vM O (ct163 (by omega) (by omega) fun S hE =>?_)))))
 replace H:=H.call hE
 replace h2:=h2.mono hE
 refine zn O (zN ?_)
 refine wpS_cut (fun E S=>∃ (c:Conn),E=Env.lst [(2,int j),(3,vQ b3 0),(4,vQ b4 0),(6,vQ b6 0),(8,vQ b8 0)]∧Loc [n3] S0 S [(b8,Cs c.row 49),(b6,Cs [.slice none 0 0,.slice none 0 0,.slice none 0 0] 29),(b4,Cs s.row 33),(b3,Cs [.slice a1 rs.length c1,.slice a2 es.length c2,sl n3 0 cs.length d3] 29),(n3,Cs csR 49)]∧(Sl S 2 a2 (zY es))∧(c=heardC es c0 s)) ?_ ?_
 ·skip
  refine zR (zn O (vM O (ct22 (by omega) fun t26 S hE h26=>?_)))
  replace H:=H.call hE
  replace h2:=h2.mono hE
  refine zN ?_
  rcases t26 with _|_
  ·replace h26:=bF h26
   refine zr O (zv (ze ?_))
   refine ⟨_,?le,c0,O,H,h2,(heardC_no h26)⟩
   case le=>exact Env.qle ⟨O,O,O,O,O,⟨⟩⟩
  ·replace h26:=bT h26
   refine zj O (zR (zFa O (zL1 H O .h O (vM O (ct72 (by omega) fun b30 cap30 S hE hb30 hO30=>?_)))))
   obtain ⟨cs30,ho30,hn30,hcl30,hct30,_⟩:=hO30
   replace H:=H.adopt hE hb30 ho30
   replace h2:=h2.mono hE
   refine zn O (zEx O O (zEx O O (zn O (zn O (zNR (zn O (vM O (ct72 (by omega) fun b35 cap35 S hE hb35 hO35=>?_))))))))
   obtain ⟨cs35,ho35,hn35,hcl35,hct35,_⟩:=hO35
   replace H:=H.adopt hE hb35 ho35
   have hsl35:=lsum_drop_le (zu (grown c0.he s)).1 (zu c0.he).1.length
   have hsm35:lsum (zu (grown c0.he s)).1+(zu (grown c0.he s)).2.length=(grown c0.he s).length:=lsum_lines 59 _
   have hll35:=linesIn_len es ((zu (grown c0.he s)).1.drop (zu c0.he).1.length)
   have hlm35:=len_lsum ((zu (grown c0.he s)).1.drop (zu c0.he).1.length)
   replace h2:=h2.mono hE
   refine zn O (zEx O O (zEx O O (zn O (zn O (zNR (zn O (zFa O (zSs H O O O .h2 O fun S hE H=>?_))))))))
   replace h2:=h2.qy hE h2_b8
   refine zN (z9 [] (zLf 0 O O O (vg 1 O O (fun S' hS'=>zD fun K hK=>zE O (zB (hS' O) (by simp) (H.cell .h2 O)) hK) (zLf 2 O O O (vg 3 O O (fun S' hS'=>zD fun K hK=>zU O (zG (hS' O) (by simp) (H.cells (vs:=[_]) .h5 O)) hK) (vH 4 O O O (vH 5 O O O (vJ 6 O O (fun _ _ hK=>W_lenL O hK) (zA 7 (by kernel_rfl) O O (zt (W_slDrop (l:=(zu (grown c0.he s)).1) (f:=strRows) O O (by omega) (by simpa using hn35) (vc (H.get .h) (n:=(zu (grown c0.he s)).1.length*1) (by simp) (by simpa using hct35) strRows_one) (by simp [strRows]) (by simp) fun a47 cap47 hs47 hc47 _=>⟨fun _=>fun _ _ _ h=>h,zA 8 (by kernel_rfl) O O (zt (zS O (ct164 h2 hc2 (by omega) hs47 (by omega) fun S hE =>?_)))⟩)))))))))))
   replace H:=H.call hE
   replace h2:=h2.mono hE
   refine ⟨fun _=>hE.up.ext,vJ 9 O O (fun _ _ hK=>W_catS O O (by omega) hK) (zLf 10 O O O (zA 11 (by kernel_rfl) O O (zt (zSt H O O O .h2 O fun S hE H=>?_))))⟩
   replace h2:=h2.qy hE h2_b8
   refine zLd (zV (ze ?_))
   refine ⟨_,?le,{c0 with he:=grown c0.he s,ne:=c0.ne++linesIn es ((zu (grown c0.he s)).1.drop (zu c0.he).1.length)},O,(H.sub (.cons _ (.cons _ (.cons_cons _ (.cons_cons _ (.cons_cons _ (.cons_cons _ (.cons_cons _ .slnil)))))))),h2,(heardC_yes h26)⟩
   case le=>exact Env.qle ⟨O,O,O,O,O,⟨⟩⟩
 ·skip
  rintro _ S ⟨c,rfl,H,h2,hkc⟩
  obtain ⟨kl1,kl2,kl3,kl4,kl5⟩:=heardC_len es c0 s
  rw [← hkc] at kl1 kl2 kl3 kl4 kl5
  have kl6:=congrArg List.length kl3
  refine zR (zFa O (zL1 H O .h3 O (zn O (zLn (vs:=[_,_,_,_,_,_,_]) H O .h O (zIa O O ?_)))))
  have hbd8:(0+j.toNat*7)+7≤csR.length:=by omega
  refine za (W_store H O O O O O (by decide) .h4 hbd8 O fun S hE H=>?_)
  replace h2:=h2.qy hE h2_n3
  refine zNR (zFa O (zLn (vs:=[_]) H O .h3 O (zFa O (zL1 H O .h O (vM O (ct165 h2 hc2 (by omega) (by omega) fun S hE htl60=>?_))))))
  replace H:=H.call hE
  refine zn O (zN (zK (z9 [] (zLf 0 O O O (vg 1 O O (fun S' hS'=>zD fun K hK=>zE O (zB (hS' O) (by simp) (H.cell .h O)) hK) (zLf 2 O O O (vg 3 O O (fun S' hS'=>zD fun K hK=>zE O (zB (hS' O) (by simp) (H.cell .h O)) hK) (zLf 5 O O O (vg 6 O O (fun S' hS'=>zD fun K hK=>zE O (zB (hS' O) (by simp) (H.cell .h2 O)) hK) (zA 4 (by kernel_rfl) O O (zt (zS O (ct167 (by omega) (by omega) fun b65 cap65 S hE hb65 hO65=>?_)))))))))))))
  replace H:=H.call hE
  refine ⟨fun _=>hE.up.ext,zA 7 (by kernel_rfl) O O (zt (zS O (ct166 hO65.sl (by have:=spansO_len c.he c.ne;omega) fun S hE =>?_)))⟩
  replace H:=H.call hE
  have hq68:=outO_bd c.he c.ne s.sq
  refine zLd (vH 8 O O O (zV (ze (zK (z9 [] (zLf 0 O O O (vg 1 O O (fun S' hS'=>zD fun K hK=>zE O (zB (hS' O) (by simp) (H.cell .h O)) hK) (vH 2 O O O (zLf 4 O O O (vg 5 O O (fun S' hS'=>zD fun K hK=>zE O (zB (hS' O) (by simp) (H.cell .h2 O)) hK) (zA 3 (by kernel_rfl) O O (zt (zS O (ct167 (by omega) (by omega) fun b72 cap72 S hE hb72 hO72=>?_))))))))))))))
  replace H:=H.call hE
  refine ⟨fun _=>hE.up.ext,zA 6 (by kernel_rfl) O O (zt (zS O (ct168 hO72.sl (by have:=spansO_len c.kn (vI es c.kn).2;omega) (by omega) (by omega) (spansO_ok (by omega) (by omega)) fun S hE =>?_)))⟩
  replace H:=H.call hE
  refine zLd (zLf 7 O O O (zA 8 (by kernel_rfl) O O (zt (zSt H O O O .h2 O fun S hE H=>zLd (zV (ze (zR (zFa O (zLn (vs:=[_,_]) H O .h O (zFa O (zSs H O O O .h2 O fun S hE H=>zN (zK (z9 [] (vg 0 O O (fun S' hS'=>zD fun K hK=>zU O (zG (hS' O) (by simp) (H.cells (vs:=[_,_,_]) .h3 O)) hK) (vg 1 O O (fun S' hS'=>zD fun K hK=>zU O (zG (hS' O) (by simp) (H.cells (vs:=[_,_,_,_,_,_,_]) .h2 O)) hK) (zLf 2 O O O (vg 3 O O (fun S' hS'=>zD fun K hK=>zE O (zB (hS' O) (by simp) (H.cell .h O)) hK) (vH 4 O O O (zA 5 (by kernel_rfl) O O (zt (zS O (ct169i (s:={s with d:=c.i,ak:=backD 0 (spansO c.kn (vI es c.kn).2) s.ak}) (by omega) (by omega) (by omega) fun b85 cap85 S hE hb85 hO85=>?_))))))))))))))))))))))
  obtain ⟨cs85,ho85,hp85⟩:=hO85
  replace H:=H.adopt hE hb85 ho85
  refine ⟨fun _=>hE.up.ext,zA 6 (by kernel_rfl) O O (zt (zSt H O O O .h2 O fun S hE H=>zLd (vH 7 O O O (zV (ze (zi (⟨trivial,_,(zW (ws:=[_,_,_]) H O .h2 O (zZ O zO)),?_⟩)))))))⟩
  have hr:=inO_at (b:=⟨rs,es,cs⟩) (s:=s) hx hkc
  have hsl:cs.length=(cs.set j.toNat c).length:=by simp
  rw [hsl]
  refine k d3 b85 cap85 _ _ hr.symm O O H.qx ?_ ((H.fresh _ _ (Has.mem .h)).symm.imp_left (by simp)) ⟨cs85,H.get .h,hp85⟩
  refine ⟨_,H.get .h5,?_,?_,?_,zP⟩
  ·simpa using hn
  ·rw [setl_len (by simpa using hbd8)];exact hcl
  ·have:=row_setl (k:=7) (rows:=z_ cs) (r:=c.row) (by simpa using hct) zP rfl (by simpa using hjl)
   simpa [z_,List.map_set] using this
theorem ct26 (h1:Sl S0 7 a1 (vo b.rs)) (h2:Sl S0 2 a2 (zY b.es)) (h3:Sl S0 7 a3 (z_ b.cs)) (hc2:b.es.length≤c2) (hc3:b.cs.length≤c3) (hz:BoxZ b) (k:∀ (x1 x2 x3 x4:Option Addr) (d1 d2 d3 d4:Nat) (r:Box × List Seg) S',Ext [] S0 S'→(r=vC b s)→(BoxM S0 S' x1 x2 x3 d2 d3 r.1)→(Sl S' 7 x4 (segRows r.2))→(r.2.length≤d4)→K (.tuple #[.agg #[.slice x1 r.1.rs.length d1,.slice x2 r.1.es.length d2,.slice x3 r.1.cs.length d3],.slice x4 r.2.length d4]) S') :
  zC 26 #[.agg #[.slice a1 b.rs.length c1,.slice a2 b.es.length c2,.slice a3 b.cs.length c3],s.v] S0 K:=by
 refine zGh (sf:=s26) Tryz.func26 fun H=>?_
 obtain ⟨z1,z2,z3,hzz⟩:=id hz
 refine zR (zBx H O O fun b2 S hb2 hE H=>zBx H O O fun b3 S hb3 hE H=>zAl H O fun b4 S hb4 hE H=>zn O (zN (zK ?_)))
 refine wpS_cut (fun E S=>∃ (t29:Bool),E=Env.lst [(2,vQ b2 0),(3,vQ b3 0),(4,vQ b4 0),(5,.slice none 0 0),(29,.bool t29)]∧Loc [] S0 S [(b4,Cs [.slice none 0 0,.slice none 0 0,.slice none 0 0] 29),(b3,Cs s.row 33),(b2,Cs [.slice a1 b.rs.length c1,.slice a2 b.es.length c2,.slice a3 b.cs.length c3] 29)]∧(t29=true↔¬ (BoxP b∧SegP s∧s.s.out∧s.d.a=50))) ?_ ?_
 ·skip
  refine zL (zLn (vs:=[_,_,_]) H O .h2 O (vM O (ct14 (h1.mono H.qx) (h2.mono H.qx) (h3.mono H.qx) hc2 hc3 hz fun t11 S hE h11=>?_)))
  replace H:=H.call hE
  refine zNt O (zn O ?_)
  rcases t11 with _|_
  ·replace h11:=bF h11
   refine zH O (zH O (zH O (vp O O O O (zn O (zH O (zH O (zH O (zH O (vp O O O O (zn O (zH O (zH O (zH O (zH O (vp O O O O (zN ?_))))))))))))))))
   refine ⟨_,?le,true,O,H,⟨fun _ h=>by obtain ⟨p1,p2,p3,p4⟩:=h;first | exact absurd p1 (by assumption) | exact absurd p2 (by assumption) | exact absurd p3 (by assumption) | exact absurd p4 (by assumption),fun _=>rfl⟩⟩
   case le=>exact Env.qle ⟨O,O,O,O,O,⟨⟩⟩
  ·replace h11:=bT h11
   refine zh O (vK (vs:=[_,_,_,_,_,_,_]) H O .h1 O (zh O (zS O (ct29  fun t15 S hE h15=>?_))))
   replace H:=H.call hE
   refine zh O (W_not O (vp O O O O (zn O ?_)))
   rcases t15 with _|_
   ·replace h15:=bF h15
    refine zH O (zH O (zH O (zH O (vp O O O O (zn O (zH O (zH O (zH O (zH O (vp O O O O (zN ?_)))))))))))
    refine ⟨_,?le,true,O,H,⟨fun _ h=>by obtain ⟨p1,p2,p3,p4⟩:=h;first | exact absurd p1 (by assumption) | exact absurd p2 (by assumption) | exact absurd p3 (by assumption) | exact absurd p4 (by assumption),fun _=>rfl⟩⟩
    case le=>exact Env.qle ⟨O,O,O,O,O,⟨⟩⟩
   ·replace h15:=bT h15
    refine zh O (zz O (zh O (vK (vs:=[_,_]) H O .h1 O (zh O (zS O (ct77  fun t21 S hE h21=>?_))))))
    replace H:=H.call hE
    refine zh O (W_not O (vp O O O O (zn O ?_)))
    rcases t21 with _|_
    ·replace h21:=bF h21
     refine zH O (zH O (zH O (zH O (vp O O O O (zN ?_)))))
     refine ⟨_,?le,true,O,H,⟨fun _ h=>by obtain ⟨p1,p2,p3,p4⟩:=h;first | exact absurd p1 (by assumption) | exact absurd p2 (by assumption) | exact absurd p3 (by assumption) | exact absurd p4 (by assumption),fun _=>rfl⟩⟩
     case le=>exact Env.qle ⟨O,O,O,O,O,⟨⟩⟩
    ·replace h21:=bT h21
     refine zh O (zz O (zh O (zz O (zh O (vl H O .h1 O (zh O (W_neI O O fun t28 h28=>vp O O O O (zN ?_))))))))
     refine ⟨_,?le,t28,O,H,(h28.trans ⟨fun e h=>e h.2.2.2,fun h e=>h ⟨h11,h15,h21,e⟩⟩)⟩
     case le=>exact Env.qle ⟨O,O,O,O,O,⟨⟩⟩
 ·skip
  rintro _ S ⟨t29,rfl,H,h29⟩
  rcases t29 with _|_
  ·replace h29:=bF h29
   obtain ⟨h11,h15,h21,h28⟩:=Classical.not_not.1 h29
   obtain ⟨sm1,sm2,sm3,sm4⟩:=h11.small
   obtain ⟨g1,g2,g3,g4,g5,g6⟩:=id h15
   refine zr O (zv (ze (zR (zLn (vs:=[_,_,_]) H O .h2 O (vM O (ct79 (h1.mono H.qx) (h2.mono H.qx) (h3.mono H.qx) hc2 hc3 hz fun n134 n234 n334 d134 d234 d334 S hE hP34 hQ34 hR34 hp34 hq34 hr34 hpq34 hpr34 hqr34=>?_))))))
   obtain ⟨csP34,hoP34,hnP34,hclP34,hctP34,_⟩:=hP34
   obtain ⟨csQ34,hoQ34,hnQ34,hclQ34,hctQ34,_⟩:=hQ34
   obtain ⟨csR34,hoR34,hnR34,hclR34,hctR34,_⟩:=hR34
   replace H:=H.add3 hE hp34 hq34 hr34 hoP34 hoQ34 hoR34 hpq34 hpr34 hqr34 (H.qx.isNone hp34) (H.qx.isNone hq34) (H.qx.isNone hr34)
   refine zAl H O fun b6 S hb6 hE H=>zSs H O O O .h O fun S hE H=>zNR (zFa O (zLn (vs:=[_]) H O .h6 O (zFa O (zFa O (zL1 H O .h5 O (vM O (ct80 (h2.mono H.qx) hc2 (by omega) fun e41 t41 S hE hy41 hn41=>?_)))))))
   replace H:=H.call hE
   have h41:t41=true↔t41=true:=Iff.rfl
   refine zn O (zEx O O (zEx O O (zAl H O fun b7 S hb7 hE H=>zSs H O O O .h O fun S hE H=>zn O (zN (zSS (zn O (zNt O (zn O ?_))))))))
   rcases t41 with _|_
   ·replace h41:=bF h41
    refine zH O (zH O (zH O (zH O (zH O (zH O (zH O (vp O O O O (zN (zj O (zR (zLn (vs:=[_,_,_]) H O .h1 O (za (zM (cs:=[]) H O O fun b56 S hb56 hE H=>zSs H O O O .h6 O fun S hE H=>zn O (zN (zi (zw (⟨trivial,_,(zW (ws:=[_,_,_]) H O .h6 O (zZ O zO)),?_⟩)))))))))))))))))
    have hok:BoxP b∧SegP s∧s.s.out∧s.d.a=50:=⟨h11,h15,h21,h28⟩
    have hrr:vC b s=(b,[]):=by first | exact boxInP_none hok (hn41 rfl).1 | exact boxInP_deny hok (hy41 rfl) (by assumption)
    refine k _ _ _ (some ⟨b56,0,none⟩) _ _ _ 0 (b,[]) _ H.qx (hrr).symm ⟨vc (H.get .h3) O hctP34 vt,vc (H.get .h4) O hctQ34 vG,.inr ⟨n334,O,H.new1 .h5,⟨_,H.get .h5,hnR34,hclR34,hctR34,zP⟩,own_ne hpr34,own_ne hqr34⟩,by simpa using hnQ34,by simpa using hnR34,.own (H.new1 .h3),.own (H.new1 .h4)⟩ (vc (n:=0) (H.get .h) O O (by simp)) (Nat.le_refl _)
   ·replace h41:=bT h41
    refine zh O (zz O (zh O (vl H O .h7 O (zh O (vK (vs:=[_,_]) H O .h O (zh O (zz O (zh O (vK (vs:=[_,_]) H O .h6 O (zh O (zS O (ct81 (h1.mono H.qx) (by omega) fun t52 S hE h52=>?_))))))))))))
    replace H:=H.call hE
    refine zh O (W_not O (vp O O O O (zN ?_)))
    rcases t52 with _|_
    ·replace h52:=bF h52
     refine zj O (zR (zLn (vs:=[_,_,_]) H O .h1 O (za (zM (cs:=[]) H O O fun b56 S hb56 hE H=>zSs H O O O .h6 O fun S hE H=>zn O (zN (zi (zw (⟨trivial,_,(zW (ws:=[_,_,_]) H O .h6 O (zZ O zO)),?_⟩))))))))
     have hok:BoxP b∧SegP s∧s.s.out∧s.d.a=50:=⟨h11,h15,h21,h28⟩
     have hrr:vC b s=(b,[]):=by first | exact boxInP_none hok (hn41 rfl).1 | exact boxInP_deny hok (hy41 rfl) (by assumption)
     refine k _ _ _ (some ⟨b56,0,none⟩) _ _ _ 0 (b,[]) _ H.qx (hrr).symm ⟨vc (H.get .h3) O hctP34 vt,vc (H.get .h4) O hctQ34 vG,.inr ⟨n334,O,H.new1 .h5,⟨_,H.get .h5,hnR34,hclR34,hctR34,zP⟩,own_ne hpr34,own_ne hqr34⟩,by simpa using hnQ34,by simpa using hnR34,.own (H.new1 .h3),.own (H.new1 .h4)⟩ (vc (n:=0) (H.get .h) O O (by simp)) (Nat.le_refl _)
    ·replace h52:=bT h52
     refine zr O (zv (ze (zR (zFa O (zL1 H O .h7 O (zLn (vs:=[_,_]) H O .h O (zFa O (zLn (vs:=[_,_]) H O .h6 O (vM O (ct82 (h3.mono H.qx) (by omega) fun S hE =>?_))))))))))
     replace H:=H.call hE
     refine zn O (zN (zSS (zn O (za (W_geq O O fun t64 h64=>zN ?_)))))
     rcases t64 with _|_
     ·replace h64:=bF h64
      refine zr O (zv (ze (zSS (zFa O (zFa O (zL1 H O .h6 O (za (vT O O fun t74 h74=>zN ?_))))))))
      rcases t74 with _|_
      ·replace h74:=bF h74
       refine zr O (zv (ze (zR (zLn (vs:=[_,_]) H O .h O (zFa O (zSs H O O O .h6 O fun S hE H=>zN (zK (z9 [b4] (vg 0 O O (fun S' hS'=>zD fun K hK=>zU O (zG (hS' O) (nin1 (by rintro rfl;exact absurd H.nodup (by simp))) (H.cells (vs:=[_,_,_]) .h1 O)) hK) (vg 1 O O (fun S' hS'=>zD fun K hK=>zU O (zG (hS' O) (nin1 (by rintro rfl;exact absurd H.nodup (by simp))) (H.cells (vs:=[_,_,_,_,_,_,_]) .h6 O)) hK) (wpD_two 2 3 (by kernel_rfl) O O O O ?_ ?_)))))))))))
       ·skip
        refine zt (zM (cs:=[_,_,_,_,_,_,_]) H O O fun b81 S hb81 hE H=>⟨fun _=>hE.up.ext,zA 3 (by kernel_rfl) O O (zt (zSt H O O O .h6 O fun S hE H=>⟨fun _=>hE.ext,vH 4 O O O (zV (ze (zi (⟨trivial,_,(zW (ws:=[_,_,_]) H O .h6 O (zZ O zO)),?_⟩))))⟩))⟩)
        have hok:BoxP b∧SegP s∧s.s.out∧s.d.a=50:=⟨h11,h15,h21,h28⟩
        refine k _ _ _ (some ⟨b81,0,none⟩) _ _ _ 1 (b,[{s with d:=e41}]) _ H.qx (boxInP_one hok (hy41 O) h52 h64 h74).symm ⟨vc (H.get .h3) O hctP34 vt,vc (H.get .h4) O hctQ34 vG,.inr ⟨n334,O,H.new1 .h5,⟨_,H.get .h5,hnR34,hclR34,hctR34,zP⟩,own_ne hpr34,own_ne hqr34⟩,by simpa using hnQ34,by simpa using hnR34,.own (H.new1 .h3),.own (H.new1 .h4)⟩ (vc (n:=7) (H.get .h) O O segRows_seven) (Nat.le_refl _)
       ·skip
        refine zt (zSt H O O O .h5 O fun S hE H=>⟨fun _=>hE.ext,zA 2 (by kernel_rfl) O O (zt (zM (cs:=[_,_,_,_,_,_,_]) H O O fun b81 S hb81 hE H=>⟨fun _=>hE.up.ext,vH 4 O O O (zV (ze (zi (⟨trivial,_,(zW (ws:=[_,_,_]) H O .h6 O (zZ O zO)),?_⟩))))⟩))⟩)
        have hok:BoxP b∧SegP s∧s.s.out∧s.d.a=50:=⟨h11,h15,h21,h28⟩
        refine k _ _ _ (some ⟨b81,0,none⟩) _ _ _ 1 (b,[{s with d:=e41}]) _ H.qx (boxInP_one hok (hy41 O) h52 h64 h74).symm ⟨vc (H.get .h3) O hctP34 vt,vc (H.get .h4) O hctQ34 vG,.inr ⟨n334,O,H.new1 .h5,⟨_,H.get .h5,hnR34,hclR34,hctR34,zP⟩,own_ne hpr34,own_ne hqr34⟩,by simpa using hnQ34,by simpa using hnR34,.own (H.new1 .h3),.own (H.new1 .h4)⟩ (vc (n:=7) (H.get .h) O O segRows_seven) (Nat.le_refl _)
      ·replace h74:=bT h74
       refine zj O (zR (zLn (vs:=[_,_,_]) H O .h1 O (za (zM (cs:=[]) H O O fun b76 S hb76 hE H=>zSs H O O O .h6 O fun S hE H=>zn O (zN (zi (zw (⟨trivial,_,(zW (ws:=[_,_,_]) H O .h6 O (zZ O zO)),?_⟩))))))))
       have hok:BoxP b∧SegP s∧s.s.out∧s.d.a=50:=⟨h11,h15,h21,h28⟩
       refine k _ _ _ (some ⟨b76,0,none⟩) _ _ _ 0 (b,[]) _ H.qx (boxInP_ctl hok (hy41 O) h52 h64 h74).symm ⟨vc (H.get .h3) O hctP34 vt,vc (H.get .h4) O hctQ34 vG,.inr ⟨n334,O,H.new1 .h5,⟨_,H.get .h5,hnR34,hclR34,hctR34,zP⟩,own_ne hpr34,own_ne hqr34⟩,by simpa using hnQ34,by simpa using hnR34,.own (H.new1 .h3),.own (H.new1 .h4)⟩ (vc (n:=0) (H.get .h) O O (by simp)) (Nat.le_refl _)
     ·replace h64:=bT h64
      have hfb:=findC_bd b.cs e41 s.s
      obtain ⟨c0,hx0⟩:∃ c0,b.cs[(vA b.cs e41 s.s).toNat]? = some c0:=⟨b.cs[(vA b.cs e41 s.s).toNat]'(by omega),by simp⟩
      have sm5:=sm4 c0 (List.mem_of_getElem? hx0)
      have hq:=(vc (H.get .h3) rfl hctQ34 vG)
      have hq_n3:∀ b' off,(some ⟨n234,0,none⟩:Option Addr)=some ⟨b',off,none⟩→b'≠n334:=own_ne hqr34
      refine zj O (zR (zLn (vs:=[_,_,_]) H O .h1 O (zLn (vs:=[_,_,_,_,_,_,_]) H O .h6 O (zn O (vM O (ct83 (csR:=csR34) (c0:=c0) (H.get .h4) (by simpa using hnR34) hclR34 (by simpa using hctR34) (by omega) hq hq_n3 (by simpa using hnQ34) sm2 (by omega) g5 g3 g4 h64 hx0 fun d68 m68 cap68 r68 S hr68 hrs68 hre68 hE hO68 hm68 hM68=>?_))))))
      have hcs68:=hO68
      obtain ⟨cs68,ho68,_⟩:=hcs68
      have hO68_b4:n334≠b4:=(by rintro rfl;exact absurd H.nodup (by simp))
      have hg68:=hM68.sl
      have hg68_b4:=new_ne hm68 (y:=b4) (by rintro rfl;exact absurd H.nodup (by simp)) (H.get .h5)
      replace H:=H.callR .h4 hE (.inl rfl) ho68
      refine zEx O O (zEx O O (zSs H O O O .h5 O fun S hE H=>?_))
      replace hO68:=hO68.qy hE hO68_b4
      replace hg68:=hg68.qy hE hg68_b4
      refine zn O (zN (zi (zw (⟨trivial,_,(zW (ws:=[_,_,_]) H O .h5 O (zZ O zO)),?_⟩))))
      have hok:BoxP b∧SegP s∧s.s.out∧s.d.a=50:=⟨h11,h15,h21,h28⟩
      have hrr:r68=vC b s:=by rw [hr68,boxInP_in hok (hy41 rfl) h52 h64]
      rw [← hrs68,← hre68]
      refine k _ _ _ _ _ _ _ _ r68 _ H.qx hrr ⟨?_,?_,.inr ⟨n334,O,H.new1 .h,hO68,own_ne (by rintro rfl;exact absurd H.nodup (by simp)),own_ne (by rintro rfl;exact absurd H.nodup (by simp))⟩,?_,?_,.own (H.new1 .h3),.own (H.new1 .h4)⟩ hg68 ?_
      ·rw [hrs68];exact vc (H.get .h3) rfl hctP34 vt
      ·rw [hre68];exact vc (H.get .h4) rfl hctQ34 vG
      ·rw [hre68];simpa using hnQ34
      ·obtain ⟨_,_,h,_⟩:=hO68;simpa using h
      ·obtain ⟨_,_,h,_⟩:=hM68;simpa using h
  ·replace h29:=bT h29
   refine zj O (zR (zLn (vs:=[_,_,_]) H O .h2 O (vM O (ct78 (h1.mono H.qx) (h2.mono H.qx) (h3.mono H.qx) hc2 hc3 hz fun x131 x231 x331 d131 d231 d331 q31 S hE hy31 hn31 hM31=>?_))))
   have hM31_b4:=hM31.old (H.get .h)
   replace hM31:=hM31.back H.qx
   replace H:=H.call hE
   refine za (zM (cs:=[]) H O O fun b32 S hb32 hE H=>?_)
   replace hM31:=hM31.mono hE
   refine zSs H O O O .h1 O fun S hE H=>?_
   replace hM31:=hM31.qy hE hM31_b4
   refine zn O (zN (zi (zw (⟨trivial,_,(zW (ws:=[_,_,_]) H O .h1 O (zZ O zO)),?_⟩))))
   obtain ⟨f1,f2⟩:=boxInP_not (b:=b) (s:=s) h29
   refine k x131 x231 x331 (some ⟨b32,0,none⟩) d131 d231 d331 0 (q31,[]) _ H.qx ?_ hM31 ?_ (Nat.le_refl _)
   ·by_cases hbp:BoxP b
    ·rw [f1 hbp,hy31 hbp]
    ·rw [f2 hbp,hn31 hbp]
   ·exact vc (n:=0) (H.get .h) rfl rfl (by simp)
theorem ct198 (hs:Sl S0 7 a (vo rs)) (hl:rs.length≤1048576) (k:∀ (x1:Option Addr) (d1:Nat) (q:Box) S',Ext [] S0 S'→(q=Box.nil∨q=⟨rs,[],[]⟩)→(BoxM S0 S' x1 none none 0 0 q)→K (.agg #[.slice x1 q.rs.length d1,.slice none 0 0,.slice none 0 0]) S') :
  zC 198 #[.slice a rs.length cap] S0 K:=by
 refine zGh (sf:=s198) Tryz.func198 fun H=>zR (zAl H O fun b2 S hb2 hE H=>zN (zSS (zn O (vM O (ct58 (hs.mono H.qx) (by omega) fun t4 S hE h4=>?_)))))
 replace H:=H.call hE
 refine zNt O (zN ?_)
 rcases t4 with _|_
 ·replace h4:=bF h4
  refine zj O (zR (za (vu (cs:=[_,_,_]) O O (zSs H O O O .h O fun S hE H=>zN (zi (zw (⟨trivial,_,(zW (ws:=[_,_,_]) H O .h O zO),?_⟩)))))))
  exact k none 0 Box.nil _ H.qx (.inl rfl) (.nil _ _)
 ·replace h4:=bT h4
  refine zr O (zv (ze (zR (za (zM (cs:=[]) H O O fun b7 S hb7 hE H=>zn O (za (W_appendZ (new:=(vo rs).flatten) H O O .h (Src.sl (hs.mono H.qx) vt (by simp)) ruleRows_one (ruleRows_flat _) (by decide) (by decide) (by omega) O fun b9 cap9 cs9 S hb9 H hE hn9 hcl9 hct9=>za (vu (cs:=[_,_,_]) O O (zSs H O O O .h1 O fun S hE H=>zN (zi (⟨trivial,_,(zW (ws:=[_,_,_]) H O .h1 O zO),?_⟩)))))))))))
  simp only [Nat.zero_add] at hn9 hct9 ⊢
  exact k _ _ ⟨rs,[],[]⟩ _ H.qx (.inr rfl) ⟨vc (H.get .h) (n:=rs.length*7) (by simp) hct9 vt,.nil _,.inl ⟨rfl,rfl,rfl⟩,Nat.le_refl _,Nat.le_refl _,.own (H.new1 .h),.same _ _⟩
theorem ct199 {e:End} (hs:Sl S0 2 a (zY es)) (hcp:es.length≤cap) (hl:es.length≤1099511627776) (k:∀ (x:Option Addr) (d:Nat) (r:List End × Int) S',Ext [] S0 S'→(r.1.length≤6)→(OwnO S0 S' x 31 2 d (zY r.1))→K (.tuple #[.agg #[.slice x r.1.length d],int r.2]) S') :
  zC 199 #[.agg #[.slice a es.length cap],e.v] S0 K:=by
 refine zGh (sf:=s199) Tryz.func199 fun H=>zR (zBx H O O fun b2 S hb2 hE H=>zBx H O O fun b3 S hb3 hE H=>zAl H O fun b4 S hb4 hE H=>zn O (zN (zSS (zLn (vs:=[_]) H O .h2 O (vM O (ct57 (hs.mono H.qx) hcp (by omega) fun t7 S hE h7=>?_))))))
 replace H:=H.call hE
 refine zNt O (zn O ?_)
 rcases t7 with _|_
 ·replace h7:=bF h7
  refine zH O (zH O (zH O (vp O O O O (zN (zj O (zR (za (vu (cs:=[_]) O O (zSs H O O O .h O fun S hE H=>zn O (zN (zi (zw (⟨trivial,_,(zW (ws:=[_]) H O .h O (zZ O zO)),?_⟩)))))))))))))
  exact k none 0 ([],0) _ H.qx (by simp) .nil
 ·replace h7:=bT h7
  refine zh O (vK (vs:=[_,_]) H O .h1 O (zh O (zS O (ct90  fun t11 S hE h11=>?_))))
  replace H:=H.call hE
  refine zh O (W_not O (vp O O O O (zN ?_)))
  rcases t11 with _|_
  ·replace h11:=bF h11
   refine zj O (zR (za (vu (cs:=[_]) O O (zSs H O O O .h O fun S hE H=>zn O (zN (zi (zw (⟨trivial,_,(zW (ws:=[_]) H O .h O (zZ O zO)),?_⟩))))))))
   exact k none 0 ([],0) _ H.qx (by simp) .nil
  ·replace h11:=bT h11
   refine zr O (zv (ze (zK (z9 [] (vg 0 O O (fun S' hS'=>zD fun K hK=>zU O (zG (hS' O) (by simp) (H.cells (vs:=[_]) .h2 O)) hK) (vg 2 O O (fun S' hS'=>zD fun K hK=>zU O (zG (hS' O) (by simp) (H.cells (vs:=[_,_]) .h1 O)) hK) (zA 1 (by kernel_rfl) O O (zt (zS O (ct161 (hs.mono H.qx) hcp (by omega) fun b16 cap16 S hE hb16 hO16=>?_))))))))))
   obtain ⟨cs16,ho16,hp16⟩:=hO16
   replace H:=H.adopt hE hb16 ho16
   have hO16:OwnB _ b16 31 2 cap16 (zY es):=⟨cs16,ho16,hp16⟩
   have hq16c:es.length≤cap16:=by simpa using hp16.1
   have hq16:=hO16.sl
   have hq16_b4:=own_ne (a:=b16) (b:=b4) (by rintro rfl;exact absurd H.nodup (by simp))
   refine ⟨fun _=>hE.up.ext,zA 3 (by kernel_rfl) O O (zt (zS O (ct91 hq16 hq16c h7.1 fun a18 cap18 S hE hs18 hc18 ho18 hw18=>?_)))⟩
   have hs18_b4:=ho18.ne hq16_b4 (H.get .h1)
   have H0e:=H.qx
   replace H:=H.call hE
   have hw18b:∃ m,a18=some ⟨m,0,none⟩∧S0 m=none∧OwnB S m 31 2 cap18 (zY (putE es e)):=by
    rcases hw18 with ⟨p1,p2,p3⟩ | ⟨m,p1,p2,p3⟩
    ·subst p1;subst p2;rw [p3];exact ⟨b16,rfl,H.new1 .h,hO16.mono hE⟩
    ·exact ⟨m,p1,H0e.isNone p2,p3⟩
   have hl18:=putE_len6 e h7.1
   obtain ⟨m18,rfl,hm18,hO18⟩:=hw18b
   have hO18_b4:m18≠b4:=hs18_b4 m18 0 rfl
   refine zLd (vJ 4 O O (fun _ _ hK=>vv O O hK) (vJ 5 O O (fun _ _ hK=>vv O O hK) (zA 6 (by kernel_rfl) O O (zt (zSt H O O O .h1 O fun S hE H=>?_)))))
   replace hO18:=hO18.qy hE hO18_b4
   refine zLd (vH 7 O O O (zV (ze (zi (⟨trivial,_,(zW (ws:=[_]) H O .h1 O (zZ O zO)),?_⟩)))))
   exact k _ cap18 (putE es e,putP es e) _ H.qx hl18 (.inr ⟨m18,rfl,hm18,hO18⟩)
end
end Go.Proofs.YtnccejlibbgpkaaGreatDoor
