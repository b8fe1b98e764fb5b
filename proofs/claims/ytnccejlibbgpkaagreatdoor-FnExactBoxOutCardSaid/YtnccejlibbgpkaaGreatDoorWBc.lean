/-
  The law FnExactBoxOut answers true at every input that its row allows, at every start that lays its variables: part 3 of 7.
-/
import GoSem.Step
import Derived.Conc.Token
import Derived.AtR
import Derived.Conc.Own2
import Derived.Conc.CrowdComm
import Derived.Conc.CrowdTrace
import Derived.Conc.Fork
import Derived.Conc.CrowdStepC
import Derived.Below
import Derived.Laws.Append
import Derived.Test.YtnccejlibbgpkaaGreatDoorChecked
import Derived.Test.YtnccejlibbgpkaaGreatDoorProg
import Derived.MapKept
import Derived.Test.YtnccejlibbgpkaaGreatDoorWBb
set_option linter.unusedSimpArgs false
set_option linter.unusedVariables false
set_option linter.unusedSectionVars false
namespace Go.Proofs.YtnccejlibbgpkaaGreatDoor
section
structure Span where
 f:Int
 t:Int
 oa:Int
 ot:Int
 pl:Bool
@[reducible] def Span.row (s:Span):List Value:=[int s.f,int s.t,int s.oa,int s.ot,.bool s.pl]
@[reducible] def spanRows (l:List Span):List (List Value):=l.map Span.row
@[reducible] def segRows (l:List Seg):List (List Value):=l.map Seg.row
@[reducible] def z5 (l:List Rule):List (List Value):=l.map Rule.row
@[reducible] def zX (l:List Conn):List (List Value):=l.map Conn.row
theorem spanRows_five {l:List Span}:∀ r∈spanRows l,r.length=5:=by
 intro r hr;obtain ⟨x,_,rfl⟩:=List.mem_map.1 hr;rfl
theorem segRows_seven {l:List Seg}:∀ r∈segRows l,r.length=7:=by
 intro r hr;obtain ⟨x,_,rfl⟩:=List.mem_map.1 hr;rfl
theorem vN {l:List Rule}:∀ r∈z5 l,r.length=7:=by
 intro r hr;obtain ⟨x,_,rfl⟩:=List.mem_map.1 hr;rfl
theorem zZ {l:List Conn}:∀ r∈zX l,r.length=7:=by
 intro r hr;obtain ⟨x,_,rfl⟩:=List.mem_map.1 hr;rfl
theorem spanRows_at {l:List Span} {i:Nat} {x:Span} (h:l[i]? = some x):(spanRows l)[i]? = some x.row:=by simp [h]
theorem segRows_at {l:List Seg} {i:Nat} {x:Seg} (h:l[i]? = some x):(segRows l)[i]? = some x.row:=by simp [h]
theorem ruleRows_at {l:List Rule} {i:Nat} {x:Rule} (h:l[i]? = some x):(z5 l)[i]? = some x.row:=by simp [h]
theorem vH {l:List Conn} {i:Nat} {x:Conn} (h:l[i]? = some x):(zX l)[i]? = some x.row:=by simp [h]
theorem ruleRows_one {l:List Rule}:∀ u∈(z5 l).flatten,oneCell u=true:=by
 intro u hu
 simp only [List.mem_flatten,List.mem_map] at hu
 obtain ⟨r,⟨e,_,rfl⟩,hu⟩:=hu
 simp at hu;rcases hu with rfl | rfl | rfl | rfl | rfl | rfl | rfl<;>rfl
theorem connRows_one {l:List Conn}:∀ u∈(zX l).flatten,oneCell u=true:=by
 intro u hu
 simp only [List.mem_flatten,List.mem_map] at hu
 obtain ⟨r,⟨e,_,rfl⟩,hu⟩:=hu
 simp at hu;rcases hu with rfl | rfl | rfl | rfl | rfl | rfl | rfl<;>rfl
theorem ruleRows_flat (l:List Rule):(z5 l).flatten.length=l.length*7:=by rw [flat_len vN];simp
theorem connRows_flat (l:List Conn):(zX l).flatten.length=l.length*7:=by rw [flat_len zZ];simp
def lsum (ls:List Bs):Nat:=(ls.map fun x=>x.length+1).sum
theorem lsum_snoc (ls:List Bs) (x:Bs):lsum (ls++[x])=lsum ls+x.length+1:=by simp [lsum];omega
theorem lsum_take {ls:List Bs} {i:Nat} {x:Bs} (h:ls[i]? = some x):lsum (ls.take (i+1))=lsum (ls.take i)+x.length+1:=by rw [vF h,lsum_snoc]
theorem lsum_take_le (ls:List Bs) (i:Nat):lsum (ls.take i)≤lsum ls:=by
 induction ls generalizing i with
 | nil=>simp
 | cons x ls ih=>
  cases i with
  | zero=>simp [lsum]
  | succ i=>
   have:=ih i
   simp only [lsum,List.take_succ_cons,List.map_cons,List.sum_cons] at this ⊢
   omega
theorem lsum_lines (s:UInt8) (l:Bs):lsum (spl s l).1+(spl s l).2.length=l.length:=by
 induction l with
 | nil=>rfl
 | cons c l ih=>
  simp only [spl]
  split
  ·simp only [lsum,List.map_cons,List.sum_cons,List.length_nil,List.length_cons] at ih ⊢;omega
  ·split<;>rename_i h<;>rw [h] at ih<;>simp only [lsum,List.map_cons,List.sum_cons,List.length_cons,List.map_nil,List.sum_nil] at ih ⊢ <;> omega
theorem len_lsum (ls:List Bs):ls.length≤lsum ls:=by
 induction ls with
 | nil=>simp
 | cons x ls ih=>simp only [lsum,List.map_cons,List.sum_cons,List.length_cons] at ih ⊢;omega
def pairsF (a b:Nat):List Bs→List Bs→List Span
 | l::ls,m::ms=>⟨a,a+l.length+1,b,b+m.length+1,decide (m=l)⟩::pairsF (a+l.length+1) (b+m.length+1) ls ms
 | _,_=>[]
def pairs (ls ms:List Bs):List Span:=pairsF 0 0 ls ms
theorem pairsF_snoc (a b:Nat) (ls ms:List Bs) (l m:Bs) (h:ls.length=ms.length):pairsF a b (ls++[l]) (ms++[m])=pairsF a b ls ms++[⟨(a+lsum ls:Nat),(a+lsum ls:Nat)+l.length+1,(b+lsum ms:Nat),(b+lsum ms:Nat)+m.length+1,decide (m=l)⟩]:=by
 induction ls generalizing a b ms with
 | nil=>
  cases ms with
  | nil=>simp [pairsF,lsum]
  | cons=>simp at h
 | cons x ls ih=>
  cases ms with
  | nil=>simp at h
  | cons y ms=>
   simp only [List.cons_append,pairsF]
   rw [ih _ _ _ (by simpa using h)]
   simp only [lsum,List.map_cons,List.sum_cons,List.cons_append]
   congr 3
   simp only [Span.mk.injEq,and_true]
   omega
theorem pairs_take {ls ms:List Bs} {i:Nat} {l m:Bs} (hl:ls[i]? = some l) (hm:ms[i]? = some m):pairs (ls.take (i+1)) (ms.take (i+1))=pairs (ls.take i) (ms.take i)++[⟨(lsum (ls.take i):Nat),(lsum (ls.take i):Nat)+l.length+1,(lsum (ms.take i):Nat),(lsum (ms.take i):Nat)+m.length+1,decide (m=l)⟩]:=by
 have h1:=(List.getElem?_eq_some_iff.1 hl).1
 have h2:=(List.getElem?_eq_some_iff.1 hm).1
 rw [vF hl,vF hm]
 unfold pairs
 rw [pairsF_snoc _ _ _ _ _ _ (by simp;omega)]
 simp
theorem pairsF_take (a b:Nat) (ls ms:List Bs) (n:Nat) (h:n=min ls.length ms.length):pairsF a b (ls.take n) (ms.take n)=pairsF a b ls ms:=by
 subst h
 induction ls generalizing a b ms with
 | nil=>simp [pairsF]
 | cons x ls ih=>
  cases ms with
  | nil=>simp [pairsF]
  | cons y ms=>
   simp only [List.length_cons,Nat.succ_min_succ,List.take_succ_cons,pairsF]
   rw [ih]
theorem pairs_min {ls ms:List Bs} {n:Nat} (h:n=min ls.length ms.length):pairs (ls.take n) (ms.take n)=pairs ls ms:=pairsF_take 0 0 ls ms n h
theorem pairsF_len (a b:Nat) (ls ms:List Bs):(pairsF a b ls ms).length=min ls.length ms.length:=by
 induction ls generalizing a b ms with
 | nil=>simp [pairsF]
 | cons x ls ih=>
  cases ms with
  | nil=>simp [pairsF]
  | cons y ms=>simp only [pairsF,List.length_cons,ih,Nat.succ_min_succ]
noncomputable def spansO (s far:Bs):List Span:=pairs (zD s).1 (zD far).1
def outD (n:Int):List Span→Int→Int
 | [],_=>n
 | s::r,a=>if a<s.t then s.oa else outD s.ot r a
def backD (n:Int):List Span→Int→Int
 | [],_=>n
 | s::r,a=>if s.ot≤a then backD s.t r a else if s.pl=true∧s.oa<a then s.f+a-s.oa else s.f
theorem outD_drop {sp:List Span} {i:Nat} {x:Span} {n a:Int} (h:sp[i]? = some x) (ha:¬ a<x.t):outD n (sp.drop i) a=outD x.ot (sp.drop (i+1)) a:=by
 obtain ⟨hi,he⟩:=List.getElem?_eq_some_iff.1 h
 rw [List.drop_eq_getElem_cons hi,he,outD,if_neg ha]
theorem outD_hit {sp:List Span} {i:Nat} {x:Span} {n a:Int} (h:sp[i]? = some x) (ha:a<x.t):outD n (sp.drop i) a=x.oa:=by
 obtain ⟨hi,he⟩:=List.getElem?_eq_some_iff.1 h
 rw [List.drop_eq_getElem_cons hi,he,outD,if_pos ha]
theorem outD_end {sp:List Span} {i:Nat} {n a:Int} (h:sp.length≤i):outD n (sp.drop i) a=n:=by rw [List.drop_eq_nil_of_le h];rfl
theorem backD_drop {sp:List Span} {i:Nat} {x:Span} {n a:Int} (h:sp[i]? = some x) (ha:x.ot≤a):backD n (sp.drop i) a=backD x.t (sp.drop (i+1)) a:=by
 obtain ⟨hi,he⟩:=List.getElem?_eq_some_iff.1 h
 rw [List.drop_eq_getElem_cons hi,he,backD,if_pos ha]
theorem backD_hit {sp:List Span} {i:Nat} {x:Span} {n a:Int} (h:sp[i]? = some x) (ha:¬ x.ot≤a):backD n (sp.drop i) a=if x.pl=true∧x.oa<a then x.f+a-x.oa else x.f:=by
 obtain ⟨hi,he⟩:=List.getElem?_eq_some_iff.1 h
 rw [List.drop_eq_getElem_cons hi,he,backD,if_neg ha]
theorem backD_end {sp:List Span} {i:Nat} {n a:Int} (h:sp.length≤i):backD n (sp.drop i) a=n:=by rw [List.drop_eq_nil_of_le h];rfl
def SegB (c:UInt8):Prop:=LineB c∨c=59
def SegP (s:Seg):Prop:=s.s.ok∧s.d.ok∧(0≤s.sq∧s.sq≤240)∧(0≤s.ak∧s.ak≤240)∧s.dt.length≤12∧∀ c∈s.dt,SegB c
def grown (k:Bs) (s:Seg):Bs:=if s.sq<0∨(k.length:Int)<s.sq∨s.sq+s.dt.length≤k.length then k else k++s.dt.drop ((k.length:Int)-s.sq).toNat
def cutS (s:Seg) (far:Bs) (a:Nat):List Seg:=if a<far.length then {s with sq:=a,dt:=(far.drop a).take 12}::cutS s far (a+12) else []
termination_by far.length-a
def cutO (s:Seg) (far:Bs) (a:Nat):List Seg:=if a<far.length then cutS s far a else [{s with sq:=far.length,dt:=[]}]
theorem cutS_step {s:Seg} {far:Bs} {a:Nat} (h:a<far.length):cutS s far a={s with sq:=a,dt:=(far.drop a).take 12}::cutS s far (a+12):=by rw [cutS,if_pos h]
theorem cutS_end {s:Seg} {far:Bs} {a:Nat} (h:¬ a<far.length):cutS s far a=[]:=by rw [cutS,if_neg h]
def RuleP (r:Rule):Prop:=1≤r.i∧r.i≤r.j∧r.j≤9∧100≤r.o∧r.o≤r.q∧r.q≤109∧1≤r.p∧r.p≤r.r∧r.r≤999
def RulesP (rs:List Rule):Prop:=rs.length≤5∧∀ r∈rs,RuleP r
def FitsP (r:Rule) (e f:End):Prop:=(r.i≤e.a∧e.a≤r.j)∧(r.o≤f.a∧f.a≤r.q)∧(r.p≤f.p∧f.p≤r.r)
instance (r:Rule) (e f:End):Decidable (FitsP r e f):=by unfold FitsP;exact inferInstance
def mayR:List Rule→End→End→Bool
 | [],_,_=>true
 | r::rs,e,f=>if FitsP r e f then r.al else mayR rs e f
theorem mayR_drop {rs:List Rule} {i:Nat} {x:Rule} {e f:End} (h:rs[i]? = some x) (ha:¬ FitsP x e f):mayR (rs.drop i) e f=mayR (rs.drop (i+1)) e f:=by
 obtain ⟨hi,he⟩:=List.getElem?_eq_some_iff.1 h
 rw [List.drop_eq_getElem_cons hi,he,mayR,if_neg ha]
theorem mayR_hit {rs:List Rule} {i:Nat} {x:Rule} {e f:End} (h:rs[i]? = some x) (ha:FitsP x e f):mayR (rs.drop i) e f=x.al:=by
 obtain ⟨hi,he⟩:=List.getElem?_eq_some_iff.1 h
 rw [List.drop_eq_getElem_cons hi,he,mayR,if_pos ha]
theorem mayR_end {rs:List Rule} {i:Nat} {e f:End} (h:rs.length≤i):mayR (rs.drop i) e f=true:=by rw [List.drop_eq_nil_of_le h];rfl
end
section
structure Box where
 rs:List Rule
 es:List End
 cs:List Conn
def Box.nil:Box:=⟨[],[],[]⟩
def nearP (es:List End) (he ne:Bs):Prop:=(zD he).1.length=(zD ne).1.length∧(zD ne).2=[]∧ne.length≤240 ∧
 ∀ (i:Nat) (l m:Bs),(zD he).1[i]? = some l→(zD ne).1[i]? = some m→m=l∨m=lineIn es l
def knowsP (es:List End) (kn:Bs):Prop:=(vr es kn).1.length=es.length
def vK:List Conn→End→End→Int
 | [],_,_=>-1
 | c::cs,e,f=>if c.i=e∧c.o=f then 0 else if vK cs e f<0 then -1 else vK cs e f+1
theorem findC_bd (cs:List Conn) (e f:End):-1≤vK cs e f∧vK cs e f<cs.length:=by
 induction cs with
 | nil=>simp [vK]
 | cons c cs ih=>
  simp only [vK,List.length_cons]
  split
  ·omega
  ·split<;>omega
theorem findC_drop {cs:List Conn} {i:Nat} {x:Conn} {e f:End} (h:cs[i]? = some x) (ha:¬ (x.i=e∧x.o=f)):vK (cs.drop i) e f=if vK (cs.drop (i+1)) e f<0 then -1 else vK (cs.drop (i+1)) e f+1:=by
 obtain ⟨hi,he⟩:=List.getElem?_eq_some_iff.1 h
 rw [List.drop_eq_getElem_cons hi,he,vK,if_neg ha]
theorem findC_hit {cs:List Conn} {i:Nat} {x:Conn} {e f:End} (h:cs[i]? = some x) (ha:x.i=e∧x.o=f):vK (cs.drop i) e f=0:=by
 obtain ⟨hi,he⟩:=List.getElem?_eq_some_iff.1 h
 rw [List.drop_eq_getElem_cons hi,he,vK,if_pos ha]
theorem findC_end {cs:List Conn} {i:Nat} {e f:End} (h:cs.length≤i):vK (cs.drop i) e f=-1:=by rw [List.drop_eq_nil_of_le h];rfl
def FoundAt (cs:List Conn) (i:Nat) (e f:End):Prop:=vK cs e f=if vK (cs.drop i) e f<0 then -1 else vK (cs.drop i) e f+i
theorem FoundAt.zero (cs:List Conn) (e f:End):FoundAt cs 0 e f:=by
 unfold FoundAt
 have:=findC_bd cs e f
 simp only [List.drop_zero]
 split<;>omega
theorem FoundAt.succ {cs:List Conn} {i:Nat} {x:Conn} {e f:End} (h:FoundAt cs i e f) (hx:cs[i]? = some x) (ha:¬ (x.i=e∧x.o=f)):FoundAt cs (i+1) e f:=by
 unfold FoundAt at h ⊢
 rw [h,findC_drop hx ha]
 have:=findC_bd (cs.drop (i+1)) e f
 split<;>split<;>omega
theorem FoundAt.hit {cs:List Conn} {i:Nat} {x:Conn} {e f:End} (h:FoundAt cs i e f) (hx:cs[i]? = some x) (ha:x.i=e∧x.o=f):vK cs e f=i:=by
 unfold FoundAt at h
 rw [h,findC_hit hx ha]
 simp
theorem FoundAt.no {cs:List Conn} {i:Nat} {e f:End} (h:FoundAt cs i e f) (hi:cs.length≤i):vK cs e f=-1:=by
 unfold FoundAt at h
 rw [h,findC_end hi]
 simp
def ConnP (es:List End) (c:Conn):Prop:=c.i.inn∧c.o.out∧c.o.p=21∧c.i∈es∧StrP c.kn∧StrP c.he∧knowsP es c.kn∧nearP es c.he c.ne
def BoxP (b:Box):Prop:=TabP b.es∧RulesP b.rs∧b.cs.length≤3∧∀ (k:Nat) (c:Conn),b.cs[k]? = some c→ConnP b.es c∧vK (b.cs.take k) c.i c.o<0
def BoxZ (b:Box):Prop:=b.rs.length≤1048576∧b.es.length≤1048576∧b.cs.length≤1048576∧∀ c∈b.cs,c.kn.length≤1048576∧c.he.length≤1048576∧c.ne.length≤1048576
theorem Sl.takeC {S:St} {a:Option Addr} {cs:List Conn} (h:Sl S 7 a (zX cs)) (i:Nat):Sl S 7 a (zX (cs.take i)):=by
 have:=h.take i
 simpa [zX,List.map_take] using this
theorem Loc.nkey {X:List Nat} {S0 S:St} {L:List (Nat × Obj)} (H:Loc X S0 S L) {b:Nat} (hb:S b=none):b∉L.map (·.1):=by
 intro hc
 obtain ⟨⟨x,u⟩,hx,rfl⟩:=List.mem_map.1 hc
 have:=H.own x u hx
 simp only at hb
 rw [hb] at this;cases this
theorem Loc.add {X:List Nat} {S0 S:St} {L:List (Nat × Obj)} (H:Loc X S0 S L) {b:Nat} {o:Obj} (ho:S b=some ⟨o,true⟩) (hf:S0 b=none) (hk:b∉L.map (·.1)):Loc X S0 S ((b,o)::L) where
 g:=H.g
 ext:=H.ext
 own x u hx:=by
  rcases List.mem_cons.1 hx with e | hx
  ·cases e;exact ho
  ·exact H.own x u hx
 fresh x u hx:=by
  rcases List.mem_cons.1 hx with e | hx
  ·obtain ⟨rfl,rfl⟩:=Prod.mk.inj e;exact .inl hf
  ·exact H.fresh x u hx
 nodup:=by simp only [List.map_cons,List.nodup_cons];exact ⟨hk,H.nodup⟩
theorem Loc.add3 {X:List Nat} {S0 S S':St} {L:List (Nat × Obj)} (H:Loc X S0 S L) (he:Ext [] S S') {n1 n2 n3:Nat} {o1 o2 o3:Obj} (h1:S n1=none) (h2:S n2=none) (h3:S n3=none) (q1:S' n1=some ⟨o1,true⟩) (q2:S' n2=some ⟨o2,true⟩) (q3:S' n3=some ⟨o3,true⟩) (d12:n1≠n2) (d13:n1≠n3) (d23:n2≠n3)
    (f1:S0 n1=none) (f2:S0 n2=none) (f3:S0 n3=none):Loc X S0 S' ((n1,o1)::(n2,o2)::(n3,o3)::L):=by
  have k1:=H.nkey h1
  have k2:=H.nkey h2
  have k3:=H.nkey h3
  refine Loc.add (Loc.add (Loc.add (H.call he) q3 f3 k3) q2 f2 ?_) q1 f1 ?_
  · simp only [List.map_cons,List.mem_cons,not_or];exact ⟨d23,k2⟩
  · simp only [List.map_cons,List.mem_cons,not_or];exact ⟨d12,d13,k1⟩
def vM (cs:List Conn) (e f:End):List Conn × Int:=if 0≤vK cs e f then (cs,vK cs e f) else if cs.length=3 then (cs,-1) else (cs++[⟨e,f,[],[],[]⟩],cs.length)
theorem placeC_old {cs:List Conn} {e f:End} (h:0≤vK cs e f):vM cs e f=(cs,vK cs e f):=if_pos h
theorem placeC_full {cs:List Conn} {e f:End} (h:¬ 0≤vK cs e f) (hl:cs.length=3):vM cs e f=(cs,-1):=by unfold vM;rw [if_neg h,if_pos hl]
theorem placeC_new {cs:List Conn} {e f:End} (h:¬ 0≤vK cs e f) (hl:¬ cs.length=3):vM cs e f=(cs++[⟨e,f,[],[],[]⟩],(cs.length:Int)):=by unfold vM;rw [if_neg h,if_neg hl]
open Classical in
noncomputable def vI (c:Conn) (s:Seg):Conn:=if StrP (grown c.kn s) then {c with kn:=grown c.kn s} else c
noncomputable def ctlO (b:Box) (s:Seg) (port:Int):Box × List Seg:=
 let pl:=vM b.cs s.s s.d
 if pl.2<0 then ({b with cs:=pl.1},[]) else match pl.1[pl.2.toNat]? with
  | none=>({b with cs:=pl.1},[])
  | some c0=>
   let c:=vI c0 s
   let st:=vr b.es c.kn
   (⟨b.rs,st.1,pl.1.set pl.2.toNat c⟩,cutO {s with s:=⟨50,port⟩,ak:=backD 0 (spansO c.he c.ne) s.ak} st.2 (outD 0 (spansO c.kn st.2) s.sq).toNat)
theorem Loc.callR {X:List Nat} {S0 S S':St} {L L':List (Nat × Obj)} (H:Loc X S0 S L) {n m:Nat} {o o':Obj} (hr:Rem L n o L') (he:Ext [n] S S') (hm:m=n∨S m=none) (ho:S' m=some ⟨o',true⟩):Loc X S0 S' ((m,o')::L'):=by
 have hn:=hr.nin H.nodup
 have hfr:=H.fresh n o hr.mem
 have hst:∀ x u,(x,u)∈L'→S' x=some ⟨u,true⟩:=by
  intro x u hx
  refine he.ext x _ ?_ (H.own x u (hr.sub.subset hx))
  simp only [List.mem_singleton]
  rintro rfl
  exact hn (List.mem_map_of_mem hx)
 have hmk:m∉L'.map (·.1):=by
  rcases hm with rfl | hm
  ·exact hn
  ·intro hc
   obtain ⟨⟨x,u⟩,hx,rfl⟩:=List.mem_map.1 hc
   have:=H.own x u (hr.sub.subset hx)
   simp only at hm
   rw [hm] at this;cases this
 refine ⟨he.g.trans H.g,fun b e hb hs=>?_,fun x u hx=>?_,fun x u hx=>?_,?_⟩
 ·refine he.ext b e ?_ (H.ext b e hb hs)
  simp only [List.mem_singleton]
  rintro rfl
  rcases hfr with h | h
  ·rw [h] at hs;cases hs
  ·exact hb h
 ·rcases List.mem_cons.1 hx with e | hx
  ·cases e;exact ho
  ·exact hst x u hx
 ·rcases List.mem_cons.1 hx with e | hx
  ·obtain ⟨rfl,rfl⟩:=Prod.mk.inj e
   rcases hm with rfl | hm
   ·exact hfr
   ·by_cases hX:x∈X
    ·exact .inr hX
    ·refine .inl ?_
     cases hs:S0 x with
     | none=>rfl
     | some e=>have:=H.ext x e hX hs;rw [hm] at this;cases this
  ·exact H.fresh x u (hr.sub.subset hx)
 ·simp only [List.map_cons,List.nodup_cons]
  exact ⟨hmk,(hr.sub.map _).nodup H.nodup⟩
theorem portE_zero {es:List End} {e:End}:portE es e=0↔e∉es:=by
 unfold portE;split
 ·rename_i h;simp [h];omega
 ·rename_i h;simp [h]
end
section
theorem row_sub {k j:Nat} {cs:List Value} {rows:List (List Value)} {r:List Value} (ht:cs.take (rows.length*k)=rows.flatten) (hl:∀ r∈rows,r.length=k) (hr:rows[j]? = some r):subl cs (0+j*k) k=some r:=by
 have hj:=(List.getElem?_eq_some_iff.1 hr).1
 have h1:(j+1)*k≤rows.length*k:=Nat.mul_le_mul_right _ hj
 have h2:rows.length*k≤cs.length:=by
  have:=congrArg List.length ht
  rw [flat_len hl,List.length_take] at this
  omega
 rw [Nat.add_mul,Nat.one_mul] at h1
 simp only [subl,Nat.zero_add]
 rw [if_pos (by omega)]
 congr 1
 rw [← flat_at hl hr,← ht,List.drop_take,List.take_take]
 congr 1
 omega
theorem flat_set {k:Nat}:∀ {rows:List (List Value)} {j:Nat} {r:List Value},(∀ r∈rows,r.length=k)→r.length=k→j<rows.length→(rows.set j r).flatten=setl rows.flatten (j*k) r:=by
 intro rows
 induction rows with
 | nil=>intro j r _ _ h;simp at h
 | cons x rows ih=>
  intro j r hl hr hj
  have hx:=hl x (by simp)
  cases j with
  | zero=>
   simp only [List.set_cons_zero,List.flatten_cons,setl,Nat.zero_mul,List.take_zero,List.nil_append,Nat.zero_add]
   rw [hr,← hx,List.drop_append_of_le_length (Nat.le_refl _),List.drop_length,List.nil_append]
  | succ j=>
   simp only [List.set_cons_succ,List.flatten_cons]
   rw [ih (fun r hr=>hl r (by simp [hr])) hr (by simpa using hj)]
   simp only [setl,Nat.add_mul,Nat.one_mul]
   rw [List.take_append,List.take_of_length_le (l:=x) (by omega),hx,Nat.add_sub_cancel,List.drop_append,(List.drop_eq_nil_of_le (by omega):x.drop (j*k+k+r.length)=[]),List.nil_append,List.append_assoc,List.append_assoc,List.append_assoc,hx]
   congr 4
   omega
theorem row_setl {k j:Nat} {cs:List Value} {rows:List (List Value)} {r:List Value} (ht:cs.take (rows.length*k)=rows.flatten) (hl:∀ r∈rows,r.length=k) (hr:r.length=k) (hj:j<rows.length) :
    (setl cs (0+j*k) r).take ((rows.set j r).length*k)=(rows.set j r).flatten:=by
  rw [flat_set hl hr hj,← ht,List.length_set,Nat.zero_add]
  have h1:(j+1)*k≤rows.length*k:=Nat.mul_le_mul_right _ hj
  rw [Nat.add_mul,Nat.one_mul] at h1
  have h2:rows.length*k≤cs.length:=by
    have:=congrArg List.length ht
    rw [flat_len hl,List.length_take] at this
    omega
  simp only [setl,List.append_assoc]
  rw [List.take_append,List.length_take,List.take_take,List.take_append]
  have e1:min (rows.length*k) (j*k)=j*k:=by omega
  have e2:min (j*k) cs.length=j*k:=by omega
  have e3:(List.take (rows.length*k) cs).take (j*k)=cs.take (j*k):=by rw [List.take_take];congr 1;omega
  rw [e1,e2,e3,List.take_of_length_le (l:=r) (by omega),List.drop_take,hr]
  congr 3
  omega
theorem setl_len {cs:List Value} {o:Nat} {r:List Value} (h:o+r.length≤cs.length):(setl cs o r).length=cs.length:=by
 simp only [setl,List.length_append,List.length_take,List.length_drop];omega
theorem pairsF_bd (a b:Nat) (ls ms:List Bs):∀ x∈pairsF a b ls ms,((a:Int)≤x.f∧x.f≤x.t∧x.t≤a+lsum ls)∧((b:Int)≤x.oa∧x.oa≤x.ot∧x.ot≤b+lsum ms):=by
 induction ls generalizing a b ms with
 | nil=>simp [pairsF]
 | cons l ls ih=>
  cases ms with
  | nil=>simp [pairsF]
  | cons m ms=>
   intro x hx
   simp only [pairsF,List.mem_cons] at hx
   simp only [lsum,List.map_cons,List.sum_cons] at ih ⊢
   rcases hx with rfl | hx
   ·simp only;omega
   ·have:=ih _ _ _ x hx
    omega
theorem spansO_bd (l m:Bs):∀ x∈spansO l m,(0≤x.f∧x.f≤x.t∧x.t≤l.length)∧(0≤x.oa∧x.oa≤x.ot∧x.ot≤m.length):=by
 intro x hx
 have h:=pairsF_bd 0 0 _ _ x hx
 have h1:=lsum_lines 59 l
 have h2:=lsum_lines 59 m
 simp only [zD] at h
 omega
theorem outD_bd {B:Int}:∀ {sp:List Span} {n a:Int},(0≤n∧n≤B)→(∀ x∈sp,(0≤x.oa∧x.oa≤B)∧(0≤x.ot∧x.ot≤B))→0≤outD n sp a∧outD n sp a≤B:=by
 intro sp
 induction sp with
 | nil=>intro n a h _;exact h
 | cons x sp ih=>
  intro n a h hx
  simp only [outD]
  split
  ·exact (hx x (by simp)).1
  ·exact ih (hx x (by simp)).2 fun y hy=>hx y (by simp [hy])
theorem outO_bd (l m:Bs) (a:Int):0≤outD 0 (spansO l m) a∧outD 0 (spansO l m) a≤m.length:=
 outD_bd (by omega) fun x hx=>by have:=spansO_bd l m x hx;omega
theorem spansO_ok {l m:Bs} (hl:l.length≤1099527356416) (hm:m.length≤1099527356416):∀ x∈spansO l m,(0≤x.f∧x.f≤4398046511104)∧(0≤x.oa∧x.oa≤4398046511104):=by
 intro x hx
 have:=spansO_bd l m x hx
 omega
theorem spansO_len (l m:Bs):(spansO l m).length≤l.length:=by
 unfold spansO pairs
 rw [pairsF_len]
 have:=strLines_len l
 omega
theorem grown_len (l:Bs) (s:Seg):(grown l s).length≤l.length+s.dt.length:=by
 unfold grown;split
 ·omega
 ·simp
theorem placeC_bd {cs:List Conn} {e f:End} (h:¬ (vM cs e f).2<0):(vM cs e f).2.toNat<(vM cs e f).1.length:=by
 have hb:=findC_bd cs e f
 by_cases h1:0≤vK cs e f
 ·rw [placeC_old h1];simp only;omega
 ·by_cases h2:cs.length=3
  ·rw [placeC_full h1 h2] at h;simp at h
  ·rw [placeC_new h1 h2];simp
theorem placeC_mem {cs:List Conn} {e f:End} {p:Conn→Prop} (h:∀ c∈cs,p c) (hn:p ⟨e,f,[],[],[]⟩):∀ c∈(vM cs e f).1,p c:=by
 by_cases h1:0≤vK cs e f
 ·rw [placeC_old h1];exact h
 ·by_cases h2:cs.length=3
  ·rw [placeC_full h1 h2];exact h
  ·rw [placeC_new h1 h2]
   intro c hc
   rcases List.mem_append.1 hc with hc | hc
   ·exact h c hc
   ·simp at hc;subst hc;exact hn
theorem knownC_yes {c:Conn} {s:Seg} (h:StrP (grown c.kn s)):({c with kn:=grown c.kn s}:Conn)=vI c s:=by unfold vI;rw [if_pos h]
theorem knownC_no {c:Conn} {s:Seg} (h:¬ StrP (grown c.kn s)):c=vI c s:=by unfold vI;rw [if_neg h]
theorem knownC_len {c:Conn} {s:Seg}:(vI c s).kn.length≤c.kn.length+s.dt.length:=by
 unfold vI;split
 ·exact grown_len _ _
 ·omega
theorem knownC_rest (c:Conn) (s:Seg):(vI c s).i=c.i∧(vI c s).o=c.o∧(vI c s).he=c.he∧(vI c s).ne=c.ne:=by
 unfold vI;split<;>exact ⟨rfl,rfl,rfl,rfl⟩
theorem ctlO_no {b:Box} {s:Seg} {port:Int} (h:(vM b.cs s.s s.d).2<0):ctlO b s port=(⟨b.rs,b.es,(vM b.cs s.s s.d).1⟩,[]):=by
 simp only [ctlO,if_pos h]
theorem ctlO_yes {b:Box} {s:Seg} {port:Int} {c0 c:Conn} (h:¬ (vM b.cs s.s s.d).2<0) (hx:(vM b.cs s.s s.d).1[(vM b.cs s.s s.d).2.toNat]? = some c0) (hc:c=vI c0 s) :
    ctlO b s port=(⟨b.rs,(vr b.es c.kn).1,(vM b.cs s.s s.d).1.set (vM b.cs s.s s.d).2.toNat c⟩,cutO {s with s:=⟨50,port⟩,ak:=backD 0 (spansO c.he c.ne) s.ak} (vr b.es c.kn).2 (outD 0 (spansO c.kn (vr b.es c.kn).2) s.sq).toNat):=by
  subst hc
  simp only [ctlO,if_neg h,hx]
open Classical in
noncomputable def boxOutP (b:Box) (s:Seg):Box × List Seg:=
 if BoxP b∧SegP s∧s.s.inn∧s.d.out∧mayR b.rs s.s s.d=true then
  if putP b.es s.s=0 then (b,[])
  else if s.d.p=21 then ctlO {b with es:=putE b.es s.s} s (putP b.es s.s)
  else ({b with es:=putE b.es s.s},[{s with s:=⟨50,putP b.es s.s⟩}])
 else (if BoxP b then b else Box.nil,[])
theorem boxOutP_not {b:Box} {s:Seg} (h:¬ (BoxP b∧SegP s∧s.s.inn∧s.d.out∧mayR b.rs s.s s.d=true)):(BoxP b→boxOutP b s=(b,[]))∧(¬ BoxP b→boxOutP b s=(Box.nil,[])):=by
 unfold boxOutP
 rw [if_neg h]
 exact ⟨fun h=>by rw [if_pos h],fun h=>by rw [if_neg h]⟩
theorem boxOutP_full {b:Box} {s:Seg} (h:BoxP b∧SegP s∧s.s.inn∧s.d.out∧mayR b.rs s.s s.d=true) (hp:putP b.es s.s=0):boxOutP b s=(b,[]):=by
 unfold boxOutP;rw [if_pos h,if_pos hp]
theorem boxOutP_ctl {b:Box} {s:Seg} (h:BoxP b∧SegP s∧s.s.inn∧s.d.out∧mayR b.rs s.s s.d=true) (hp:¬ putP b.es s.s=0) (hc:s.d.p=21):boxOutP b s=ctlO {b with es:=putE b.es s.s} s (putP b.es s.s):=by
 unfold boxOutP;rw [if_pos h,if_neg hp,if_pos hc]
theorem boxOutP_one {b:Box} {s:Seg} (h:BoxP b∧SegP s∧s.s.inn∧s.d.out∧mayR b.rs s.s s.d=true) (hp:¬ putP b.es s.s=0) (hc:¬ s.d.p=21):boxOutP b s=({b with es:=putE b.es s.s},[{s with s:=⟨50,putP b.es s.s⟩}]):=by
 unfold boxOutP;rw [if_pos h,if_neg hp,if_neg hc]
theorem BoxP.small {b:Box} (h:BoxP b):b.rs.length≤5∧b.es.length≤6∧b.cs.length≤3∧∀ c∈b.cs,c.kn.length≤120∧c.he.length≤120∧c.ne.length≤240:=by
 refine ⟨h.2.1.1,h.1.1,h.2.2.1,fun c hc=>?_⟩
 obtain ⟨k,hk⟩:=List.getElem?_of_mem hc
 obtain ⟨_,_,_,_,p1,p2,_,p3⟩:=(h.2.2.2 k c hk).1
 exact ⟨p1.2.2,p2.2.2,p3.2.2.1⟩
theorem addr_map {b off i:Nat}:(some ⟨b,off,none⟩:Option Addr).map (·.add i)=some ⟨b,off+i,none⟩:=by simp [addr_add]
theorem Sl.drop {S:St} {k:Nat} {a:Option Addr} {rows:List (List Value)} (h:Sl S k a rows) (i:Nat) (hi:i≤rows.length):Sl S k (a.map (·.add (i*k))) (rows.drop i):=by
 refine ⟨fun j r hr=>?_,fun ad ha=>?_⟩
 ·rw [List.getElem?_drop] at hr
  obtain ⟨b,off,rfl,hc⟩:=h.row _ _ hr
  refine ⟨b,off+i*k,addr_map,?_⟩
  rw [show off+i*k+j*k=off+(i+j)*k by rw [Nat.add_mul];omega]
  exact hc
 ·cases a with
  | none=>cases ha
  | some ad0=>
   obtain ⟨b,off,c,e,f,wr,rfl,hs,ho,hff⟩:=h.base _ rfl
   rw [addr_map] at ha
   cases ha
   refine ⟨b,off+i*k,c,e,f,wr,rfl,hs,?_,hff⟩
   cases i with
   | zero=>simpa using ho
   | succ i=>
    obtain ⟨r,hr⟩:∃ r,rows[i]? = some r:=⟨rows[i]'(by omega),by simp⟩
    obtain ⟨b',off',e',hc⟩:=h.row i r hr
    cases e'
    simp only [St.cells?,hs] at hc
    split at hc
    ·rename_i hl
     rw [Nat.add_mul,Nat.one_mul];omega
    ·cases hc
def OrgX (n:Nat) (S:St) (a a1:Option Addr):Prop:=a1=a∨∀ b off,a1=some ⟨b,off,none⟩→b=n∨S b=none
theorem OrgX.same (n:Nat) (S:St) (a:Option Addr):OrgX n S a a:=.inl rfl
theorem OrgX.of {n:Nat} {S0 S:St} {a a1:Option Addr} (h:Org S a a1) (he:Ext [n] S0 S):OrgX n S0 a a1:=by
 rcases h with h | h
 ·exact .inl h
 ·refine .inr fun b off e=>?_
  have h1:=h b off e
  by_cases hb:b=n
  ·exact .inl hb
  ·refine .inr ?_
   cases hs:S0 b with
   | none=>rfl
   | some e=>have:=he.ext b e (by simpa using hb) hs;rw [h1] at this;cases this
theorem OrgX.ne {n y:Nat} {S:St} {a a1:Option Addr} {e:Ent} (h:OrgX n S a a1) (hy:y≠n) (hs:S y=some e) (hne:∀ b off,a=some ⟨b,off,none⟩→b≠y):∀ b off,a1=some ⟨b,off,none⟩→b≠y:=by
 rcases h with rfl | h
 ·exact hne
 ·rintro b off e' rfl
  rcases h _ off e' with h | h
  ·exact hy h
  ·rw [h] at hs;cases hs
theorem Org.ofX {n:Nat} {S0 S:St} {a a1:Option Addr} (h:OrgX n S a a1) (he:Ext [] S0 S) (hn:S0 n=none) (ha:Org S0 none a):Org S0 none a1:=by
 rcases h with rfl | h
 ·exact ha
 ·refine .inr fun b off e=>?_
  rcases h b off e with rfl | h
  ·exact hn
  ·exact he.isNone h
theorem Org.own {S0:St} {b:Nat} (h:S0 b=none):Org S0 none (some ⟨b,0,none⟩):=.new h
structure BoxM (S0 S:St) (x1 x2 x3:Option Addr) (d2 d3:Nat) (q:Box):Prop where
 r:Sl S 7 x1 (z5 q.rs)
 e:Sl S 2 x2 (zS q.es)
 c:(x3=none∧q.cs=[]∧d3=0)∨∃ m,x3=some ⟨m,0,none⟩∧S0 m=none∧OwnB S m 49 7 d3 (zX q.cs)∧(∀ b off,x1=some ⟨b,off,none⟩→b≠m)∧(∀ b off,x2=some ⟨b,off,none⟩→b≠m)
 l2:q.es.length≤d2
 l3:q.cs.length≤d3
 o1:Org S0 none x1
 o2:Org S0 none x2
structure NotIn (x1 x2 x3:Option Addr) (b:Nat):Prop where
 p1:∀ b' off,x1=some ⟨b',off,none⟩→b'≠b
 p2:∀ b' off,x2=some ⟨b',off,none⟩→b'≠b
 p3:∀ b' off,x3=some ⟨b',off,none⟩→b'≠b
theorem OwnB.qy {S S':St} {b n k cap:Nat} {e:TypeId} {rows:List (List Value)} (h:OwnB S b e k cap rows) (he:Ext [n] S S') (hn:b≠n):OwnB S' b e k cap rows:=by
 obtain ⟨cs,h1,h2⟩:=h
 exact ⟨cs,he.ext b _ (by simpa using hn) h1,h2⟩
theorem BoxM.mono {S0 S S':St} {x1 x2 x3:Option Addr} {d2 d3:Nat} {q:Box} (h:BoxM S0 S x1 x2 x3 d2 d3 q) (he:Ext [] S S'):BoxM S0 S' x1 x2 x3 d2 d3 q:=
 ⟨h.r.mono he,h.e.mono he,h.c.imp_right fun ⟨m,p1,p2,p3,p4⟩=>⟨m,p1,p2,p3.mono he,p4⟩,h.l2,h.l3,h.o1,h.o2⟩
theorem BoxM.qy {S0 S S':St} {x1 x2 x3:Option Addr} {d2 d3 b:Nat} {q:Box} (h:BoxM S0 S x1 x2 x3 d2 d3 q) (he:Ext [b] S S') (hb:NotIn x1 x2 x3 b):BoxM S0 S' x1 x2 x3 d2 d3 q:=
 ⟨h.r.qy he hb.p1,h.e.qy he hb.p2,h.c.imp_right fun ⟨m,p1,p2,p3,p4⟩=>⟨m,p1,p2,p3.qy he (hb.p3 _ _ p1),p4⟩,h.l2,h.l3,h.o1,h.o2⟩
theorem BoxM.back {S00 S0 S:St} {x1 x2 x3:Option Addr} {d2 d3:Nat} {q:Box} (h:BoxM S0 S x1 x2 x3 d2 d3 q) (he:Ext [] S00 S0):BoxM S00 S x1 x2 x3 d2 d3 q:=
 ⟨h.r,h.e,h.c.imp_right fun ⟨m,p1,p2,p3,p4⟩=>⟨m,p1,he.isNone p2,p3,p4⟩,h.l2,h.l3,h.o1.back he,h.o2.back he⟩
theorem BoxM.slc {S0 S:St} {x1 x2 x3:Option Addr} {d2 d3:Nat} {q:Box} (h:BoxM S0 S x1 x2 x3 d2 d3 q):Sl S 7 x3 (zX q.cs):=by
 rcases h.c with ⟨rfl,h2,_⟩ | ⟨m,rfl,_,h2,_⟩
 ·rw [h2];exact Sl.nil 7
 ·exact h2.sl
theorem BoxM.old {S0 S:St} {x1 x2 x3:Option Addr} {d2 d3 b:Nat} {e:Ent} {q:Box} (h:BoxM S0 S x1 x2 x3 d2 d3 q) (hb:S0 b=some e):NotIn x1 x2 x3 b:=by
 refine ⟨h.o1.ne nofun hb,h.o2.ne nofun hb,?_⟩
 rcases h.c with ⟨rfl,_⟩ | ⟨m,rfl,h2,_⟩
 ·nofun
 ·rintro b' off e' rfl
  cases e'
  rw [h2] at hb;cases hb
theorem BoxM.ne {S0 S:St} {x1 x2 x3:Option Addr} {d2 d3 b:Nat} {q:Box} (h:BoxM S0 S x1 x2 x3 d2 d3 q) (hb:S b=none):NotIn x1 x2 x3 b:=⟨h.r.ne hb,h.e.ne hb,h.slc.ne hb⟩
theorem BoxM.nil (S0 S:St):BoxM S0 S none none none 0 0 Box.nil:=⟨.nil _,.nil _,.inl ⟨rfl,rfl,rfl⟩,Nat.le_refl _,Nat.le_refl _,.same _ _,.same _ _⟩
theorem own_ne {a b:Nat} (h:a≠b):∀ b' off,(some ⟨a,0,none⟩:Option Addr)=some ⟨b',off,none⟩→b'≠b:=by
 rintro b' off e rfl
 cases e;exact h rfl
theorem new_ne {n b y:Nat} {S:St} {e:Ent} (h:b=n∨S b=none) (hy:y≠n) (hs:S y=some e):∀ b' off,(some ⟨b,0,none⟩:Option Addr)=some ⟨b',off,none⟩→b'≠y:=by
 rintro b' off e' rfl
 cases e'
 rcases h with h | h
 ·exact hy h
 ·rw [h] at hs;cases hs
end
section
theorem putE_ge (es:List End) (e:End):es.length≤(putE es e).length:=by
 unfold putE;split
 ·exact Nat.le_refl _
 ·simp
theorem lineOut_ge (es:List End) (l:Bs):es.length≤(vE es l).1.length:=by
 unfold vE;split
 ·exact Nat.le_refl _
 ·exact putE_ge _ _
theorem linesOut_ge (es:List End) (ls:List Bs):es.length≤(linesOut es ls).1.length:=by
 induction ls generalizing es with
 | nil=>exact Nat.le_refl _
 | cons x ls ih=>exact Nat.le_trans (lineOut_ge es x) (ih _)
theorem linesOut_app (es:List End) (a b:List Bs):(linesOut es (a++b)).1=(linesOut (linesOut es a).1 b).1:=by
 induction a generalizing es with
 | nil=>rfl
 | cons x a ih=>simp only [List.cons_append,linesOut];exact ih _
theorem knows_yes {es:List End} {l:Bs} (h:(linesOut es (zD l).1).1=es):knowsP es l:=by unfold knowsP vr;rw [h]
theorem knows_no {es:List End} {l:Bs} {a b:List Bs} {x:Bs} {e:End} (hl:(zD l).1=a++x::b) (ha:(linesOut es a).1=es) (hx:says x=some e) (hp:portE es e=0) (h6:es.length<6):¬ knowsP es l:=by
 unfold knowsP vr
 rw [hl,linesOut_app,ha]
 have hm:e∉es:=fun hm=>by unfold portE at hp;rw [if_pos hm] at hp;omega
 have h1:(vE es x).1=es++[e]:=by unfold vE;rw [hx];exact (putE_new hm (by omega)).1
 simp only [linesOut,h1]
 have:=linesOut_ge (es++[e]) b
 simp only [List.length_append,List.length_cons,List.length_nil] at this
 omega
theorem lineOut_stay {es:List End} {x:Bs} (h:says x=none∨∃ e,says x=some e∧(portE es e≠0∨6≤es.length)):(vE es x).1=es:=by
 unfold vE
 rcases h with h | ⟨e,h,hp⟩
 ·rw [h]
 ·rw [h]
  simp only
  by_cases hm:e∈es
  ·exact (putE_mem hm).1
  ·rcases hp with hp | hp
   ·exfalso;apply hp;unfold portE;exact if_neg hm
   ·exact (putE_full hm hp).1
theorem findC_take {e f:End}:∀ (cs:List Conn) (k:Nat) (c:Conn),cs[k]? = some c→c.i=e→c.o=f→(vK cs e f=k↔vK (cs.take k) e f<0):=by
 intro cs
 induction cs with
 | nil=>intro k c h;simp at h
 | cons x cs ih=>
  intro k c h hi ho
  cases k with
  | zero=>
   simp only [List.getElem?_cons_zero,Option.some.injEq] at h
   subst h
   simp [vK,hi,ho]
  | succ k=>
   simp only [List.getElem?_cons_succ] at h
   have:=ih k c h hi ho
   have hb:=findC_bd cs e f
   have hb2:=findC_bd (cs.take k) e f
   simp only [List.take_succ_cons,vK]
   split
   ·constructor
    ·intro h;omega
    ·intro h;omega
   ·split<;>split<;>omega
theorem BoxP_conn {b:Box} {k:Nat} {c:Conn} (hc:b.cs[k]? = some c):vK b.cs c.i c.o=k↔vK (b.cs.take k) c.i c.o<0:=findC_take b.cs k c hc rfl rfl
theorem OwnO.mono {S0 S S':St} {x:Option Addr} {e:TypeId} {k cap:Nat} {rows:List (List Value)} (h:OwnO S0 S x e k cap rows) (he:Ext [] S S'):OwnO S0 S' x e k cap rows:=
 h.imp_right fun ⟨m,h1,h2,h3⟩=>⟨m,h1,h2,h3.mono he⟩
theorem OwnO.qy {S0 S S':St} {x:Option Addr} {e:TypeId} {k cap n:Nat} {rows:List (List Value)} (h:OwnO S0 S x e k cap rows) (he:Ext [n] S S') (hn:∀ b' off,x=some ⟨b',off,none⟩→b'≠n):OwnO S0 S' x e k cap rows:=
 h.imp_right fun ⟨m,h1,h2,h3⟩=>⟨m,h1,h2,h3.qy he (hn _ _ h1)⟩
def OffB (a x:Option Addr):Prop:=∀ b off m,a=some ⟨b,off,none⟩→x=some ⟨m,0,none⟩→b≠m
theorem offB_of {S S':St} {a x:Option Addr} {e:TypeId} {k k2 cap:Nat} {rows rows2:List (List Value)} (h:OwnO S S' x e k cap rows) (hs:Sl S k2 a rows2):OffB a x:=by
 intro b off m ha hx hbm
 rcases h with ⟨rfl,_⟩ | ⟨m',rfl,hn,_⟩
 ·cases hx
 ·cases hx
  exact hs.ne hn b off ha hbm
def SpM (sp:List Span):Prop:=∀ (i j:Nat) (x y:Span),sp[i]? = some x→sp[j]? = some y→i≤j→x.t≤y.t∧x.ot≤y.ot
theorem pairsF_from (a b:Nat) (ls ms:List Bs):∀ x∈pairsF a b ls ms,(a:Int)<x.t∧(b:Int)<x.ot:=by
 induction ls generalizing a b ms with
 | nil=>simp [pairsF]
 | cons l ls ih=>
  cases ms with
  | nil=>simp [pairsF]
  | cons m ms=>
   intro x hx
   simp only [pairsF,List.mem_cons] at hx
   rcases hx with rfl | hx
   ·simp only;omega
   ·have:=ih _ _ _ x hx;omega
theorem SpM_pairsF (a b:Nat) (ls ms:List Bs):SpM (pairsF a b ls ms):=by
 induction ls generalizing a b ms with
 | nil=>intro i j x y h;simp [pairsF] at h
 | cons l ls ih=>
  cases ms with
  | nil=>intro i j x y h;simp [pairsF] at h
  | cons m ms=>
   intro i j x y hi hj hij
   simp only [pairsF] at hi hj
   cases j with
   | zero=>
    obtain rfl:i=0:=by omega
    rw [hi] at hj;cases hj;omega
   | succ j=>
    simp only [List.getElem?_cons_succ] at hj
    cases i with
    | zero=>
     simp only [List.getElem?_cons_zero,Option.some.injEq] at hi
     subst hi
     have:=pairsF_from _ _ _ _ y (List.mem_of_getElem? hj)
     simp only;omega
    | succ i=>
     simp only [List.getElem?_cons_succ] at hi
     exact ih _ _ _ i j x y hi hj (by omega)
theorem SpM_spansO (l m:Bs):SpM (spansO l m):=SpM_pairsF 0 0 _ _
theorem outD_skip {q n:Int} {sp:List Span}:∀ r,r≤sp.length→(∀ i x,i<r→sp[i]? = some x→¬ q<x.t)→(r=0∧outD n sp q=outD n (sp.drop 0) q)∨∃ x,0<r∧sp[r-1]? = some x∧outD n sp q=outD x.ot (sp.drop r) q:=by
 intro r
 induction r with
 | zero=>exact fun _ _=>.inl ⟨rfl,by simp⟩
 | succ r ih=>
  intro hr h
  obtain ⟨x,hx⟩:∃ x,sp[r]? = some x:=⟨sp[r]'(by omega),by simp⟩
  have hd:=fun n=>outD_drop (n:=n) hx (h r x (by omega) hx)
  refine .inr ⟨x,by omega,by simpa using hx,?_⟩
  rcases ih (by omega) (fun i x hi=>h i x (by omega)) with ⟨rfl,e⟩ | ⟨y,_,_,e⟩
  ·rw [e,hd]
  ·rw [e,hd]
theorem backD_skip {q n:Int} {sp:List Span}:∀ r,r≤sp.length→(∀ i x,i<r→sp[i]? = some x→¬ q<x.ot)→(r=0∧backD n sp q=backD n (sp.drop 0) q)∨∃ x,0<r∧sp[r-1]? = some x∧backD n sp q=backD x.t (sp.drop r) q:=by
 intro r
 induction r with
 | zero=>exact fun _ _=>.inl ⟨rfl,by simp⟩
 | succ r ih=>
  intro hr h
  obtain ⟨x,hx⟩:∃ x,sp[r]? = some x:=⟨sp[r]'(by omega),by simp⟩
  have hd:=fun n=>backD_drop (n:=n) (a:=q) hx (by have:=h r x (by omega) hx;omega)
  refine .inr ⟨x,by omega,by simpa using hx,?_⟩
  rcases ih (by omega) (fun i x hi=>h i x (by omega)) with ⟨rfl,e⟩ | ⟨y,_,_,e⟩
  ·rw [e,hd]
  ·rw [e,hd]
theorem outD_at {q n:Int} {sp:List Span} {r:Nat} {x:Span} (hr:∀ i x,i<r→sp[i]? = some x→¬ q<x.t) (hx:sp[r]? = some x) (hq:q<x.t):outD n sp q=x.oa:=by
 have hl:=(List.getElem?_eq_some_iff.1 hx).1
 rcases outD_skip (n:=n) r (by omega) hr with ⟨rfl,e⟩ | ⟨y,_,_,e⟩<;>rw [e,outD_hit hx hq]
theorem outD_last {q n:Int} {sp:List Span} {r:Nat} {x:Span} (hr:∀ i x,i<r→sp[i]? = some x→¬ q<x.t) (hl:r=sp.length) (h0:0<r) (hx:sp[r-1]? = some x):outD n sp q=x.ot:=by
 rcases outD_skip (n:=n) r (by omega) hr with ⟨e0,_⟩ | ⟨y,_,hy,e⟩
 ·omega
 ·rw [hx] at hy;cases hy;rw [e,outD_end (by omega)]
theorem outD_none {q n:Int} {sp:List Span} (hl:sp.length=0):outD n sp q=n:=by
 cases sp with
 | nil=>rfl
 | cons=>simp at hl
theorem backD_at {q n:Int} {sp:List Span} {r:Nat} {x:Span} (hr:∀ i x,i<r→sp[i]? = some x→¬ q<x.ot) (hx:sp[r]? = some x) (hq:q<x.ot):backD n sp q=if x.pl=true∧x.oa<q then x.f+q-x.oa else x.f:=by
 have hl:=(List.getElem?_eq_some_iff.1 hx).1
 rcases backD_skip (n:=n) r (by omega) hr with ⟨rfl,e⟩ | ⟨y,_,_,e⟩<;>rw [e,backD_hit hx (by omega)]
theorem backD_last {q n:Int} {sp:List Span} {r:Nat} {x:Span} (hr:∀ i x,i<r→sp[i]? = some x→¬ q<x.ot) (hl:r=sp.length) (h0:0<r) (hx:sp[r-1]? = some x):backD n sp q=x.t:=by
 rcases backD_skip (n:=n) r (by omega) hr with ⟨e0,_⟩ | ⟨y,_,hy,e⟩
 ·omega
 ·rw [hx] at hy;cases hy;rw [e,backD_end (by omega)]
theorem backD_none {q n:Int} {sp:List Span} (hl:sp.length=0):backD n sp q=n:=by
 cases sp with
 | nil=>rfl
 | cons=>simp at hl
end
set_option maxHeartbeats 1000000
section
open Go
section
variable {X:List Nat} {S0 S S':St} {L L' L1 L2:List (Nat × Obj)}
theorem Loc.start2 {b c:Nat} {o u:Obj} (hb:S b=some ⟨o,true⟩) (hc:S c=some ⟨u,true⟩) (hne:b≠c):Loc [b,c] S S [(b,o),(c,u)]:=
 ⟨.refl S,fun _ _ _ h=>h,by simp;rintro x w (⟨rfl,rfl⟩ | ⟨rfl,rfl⟩)<;>assumption,by simp;rintro x w (⟨rfl,rfl⟩ | ⟨rfl,rfl⟩)<;>simp,by simpa using hne⟩
theorem Upd.nodup {b:Nat} {o o':Obj} (h:Upd L b o o' L') (hn:(L.map (·.1)).Nodup):(L'.map (·.1)).Nodup:=by rw [h.keys];exact hn
theorem Loc.callX2 (H:Loc X S0 S L) {b c:Nat} {o o' u u':Obj} (h:Ext [b,c] S S') (hu:Upd L b o o' L1) (hv:Upd L1 c u u' L2) (hb:S' b=some ⟨o',true⟩) (hc:S' c=some ⟨u',true⟩) (hne:b≠c):Loc X S0 S' L2:=by
 have hm1:=H.fresh b o hu.mem
 have hc1:(c,u)∈L:=by
  rcases hu.back H.nodup c u hv.mem with ⟨e,_⟩ | ⟨_,h⟩
  ·exact absurd e.symm hne
  ·exact h
 have hm2:=H.fresh c u hc1
 refine ⟨h.g.trans H.g,fun x e hx he=>?_,fun x w hx=>?_,fun x w hx=>?_,?_⟩
 ·have h1:x≠b:=by
   rintro rfl
   rcases hm1 with h | h
   ·rw [h] at he;cases he
   ·exact hx h
  have h2:x≠c:=by
   rintro rfl
   rcases hm2 with h | h
   ·rw [h] at he;cases he
   ·exact hx h
  exact h.ext x e (by simp [h1,h2]) (H.ext x e hx he)
 ·rcases hv.back (hu.nodup H.nodup) x w hx with ⟨rfl,rfl⟩ | ⟨hne2,hx⟩
  ·exact hc
  ·rcases hu.back H.nodup x w hx with ⟨rfl,rfl⟩ | ⟨hne1,hx⟩
   ·exact hb
   ·exact h.ext x _ (by simp [hne1,hne2]) (H.own x w hx)
 ·rcases hv.back (hu.nodup H.nodup) x w hx with ⟨rfl,rfl⟩ | ⟨_,hx⟩
  ·exact hm2
  ·rcases hu.back H.nodup x w hx with ⟨rfl,rfl⟩ | ⟨_,hx⟩
   ·exact hm1
   ·exact H.fresh x w hx
 ·rw [hv.keys,hu.keys];exact H.nodup
theorem Loc.newB (H:Loc X S0 S L) {b:Nat} (hb:S b=none):S0 b=none∨b∈X:=by
 cases hs:S0 b with
 | none=>exact .inl rfl
 | some e=>
  by_cases hX:b∈X
  ·exact .inr hX
  ·have:=H.ext b e hX hs;rw [hb] at this;cases this
theorem Loc.also (H:Loc X S0 S L) {n:Nat} {w:Obj} (hn:S0 n=none∨n∈X) (hk:n∉L.map (·.1)) (ho:S n=some ⟨w,true⟩):Loc X S0 S ((n,w)::L):=
 ⟨H.g,H.ext,fun x u hx=>by
  rcases List.mem_cons.1 hx with e | hx
  ·cases e;exact ho
  ·exact H.own x u hx,fun x u hx=>by
  rcases List.mem_cons.1 hx with e | hx
  ·cases e;exact hn
  ·exact H.fresh x u hx,by simp only [List.map_cons,List.nodup_cons];exact ⟨hk,H.nodup⟩⟩
theorem Loc.nokey (H:Loc X S0 S L) {b:Nat} (hb:S b=none):b∉L.map (·.1):=by
 intro hc
 obtain ⟨⟨x,u⟩,hx,rfl⟩:=List.mem_map.1 hc
 have:=H.own x u hx
 simp only at hb
 rw [hb] at this;cases this
theorem Loc.callXnew (H:Loc X S0 S L) {b n:Nat} {o o' w:Obj} (h:Ext [b] S S') (hu:Upd L b o o' L') (hb:S' b=some ⟨o',true⟩) (hn:S n=none) (ho:S' n=some ⟨w,true⟩):Loc X S0 S' ((n,w)::L'):=
 (H.callX h hu hb).also (H.newB hn) (by rw [hu.keys];exact H.nokey hn) ho
theorem Loc.callB (H:Loc X S0 S L) {b c n:Nat} {o o' u w:Obj} (h:Ext [b,c] S S') (hu:Upd L b o o' L1) (hr:Rem L1 c u L2) (hne:b≠c) (hb:S' b=some ⟨o',true⟩) (hn:n=c∨S n=none) (ho:S' n=some ⟨w,true⟩):Loc X S0 S' ((n,w)::L2):=by
 have hnd:=hu.nodup H.nodup
 have hc1:(c,u)∈L:=by
  rcases hu.back H.nodup c u hr.mem with ⟨e,_⟩ | ⟨_,h⟩
  ·exact absurd e.symm hne
  ·exact h
 have hcn:=hr.nin hnd
 have base:Loc X S0 S' L2:=by
  have hm1:=H.fresh b o hu.mem
  have hm2:=H.fresh c u hc1
  refine ⟨h.g.trans H.g,fun x e hx he=>?_,fun x v hx=>?_,fun x v hx=>?_,?_⟩
  ·refine h.ext x e ?_ (H.ext x e hx he)
   simp only [List.mem_cons,List.not_mem_nil,or_false,not_or]
   refine ⟨?_,?_⟩
   ·rintro rfl
    rcases hm1 with h | h
    ·rw [h] at he;cases he
    ·exact hx h
   ·rintro rfl
    rcases hm2 with h | h
    ·rw [h] at he;cases he
    ·exact hx h
  ·have hxc:x≠c:=by rintro rfl;exact hcn (List.mem_map.2 ⟨_,hx,rfl⟩)
   rcases hu.back H.nodup x v (hr.sub.subset hx) with ⟨rfl,rfl⟩ | ⟨hxb,hx⟩
   ·exact hb
   ·exact h.ext x _ (by simp [hxb,hxc]) (H.own x v hx)
  ·rcases hu.back H.nodup x v (hr.sub.subset hx) with ⟨rfl,rfl⟩ | ⟨_,hx⟩
   ·exact hm1
   ·exact H.fresh x v hx
  ·exact (hr.sub.map _).nodup hnd
 rcases hn with rfl | hn
 ·exact base.also (H.fresh n u hc1) hcn ho
 ·refine base.also (H.newB hn) (fun hm=>?_) ho
  apply H.nokey hn
  rw [← hu.keys]
  exact (hr.sub.map _).subset hm
theorem Loc.callDrop (H:Loc X S0 S L) {c:Nat} {u:Obj} (h:Ext [c] S S') (hr:Rem L c u L2):Loc X S0 S' L2:=by
 have hcn:=hr.nin H.nodup
 have hm2:=H.fresh c u hr.mem
 refine ⟨h.g.trans H.g,fun x e hx he=>?_,fun x v hx=>?_,fun x v hx=>H.fresh x v (hr.sub.subset hx),(hr.sub.map _).nodup H.nodup⟩
 ·refine h.ext x e ?_ (H.ext x e hx he)
  simp only [List.mem_singleton]
  rintro rfl
  rcases hm2 with h | h
  ·rw [h] at he;cases he
  ·exact hx h
 ·have hxc:x≠c:=by rintro rfl;exact hcn (List.mem_map.2 ⟨_,hx,rfl⟩)
  exact h.ext x _ (by simpa using hxc) (H.own x v (hr.sub.subset hx))
theorem Sl.monoX2 {k:Nat} {a:Option Addr} {rows:List (List Value)} (h:Sl S k a rows) {b c:Nat} (he:Ext [b,c] S S') (hb:∀ b' off,a=some ⟨b',off,none⟩→b'≠b) (hc:∀ b' off,a=some ⟨b',off,none⟩→b'≠c):Sl S' k a rows where
 row i r hr:=by
  obtain ⟨b',off,h1,h2⟩:=h.row i r hr
  exact ⟨b',off,h1,zK he.ext (by simp [hb b' off h1,hc b' off h1]) h2⟩
 base ad ha:=by
  obtain ⟨b',off,c',e,f,wr,rfl,h2,h3⟩:=h.base ad ha
  exact ⟨b',off,c',e,f,wr,rfl,he.ext _ _ (by simp [hb b' off ha,hc b' off ha]) h2,h3⟩
theorem nin2 {a b c:Nat} (h:a≠b) (h':a≠c):a∉[b,c]:=by simp [h,h']
theorem W_mkMap {P:Program} {E:Env} {K:Value→St→Prop} (H:Loc X S0 S L) (k:∀ r S',S r=none→Ext [] S S'→Loc X S0 S' ((r,.map #[] 0)::L)→K (.map (some r)) S'):SOp.mkMap.W P E S K:=
 fun b hb=>k b _ hb (.put_new hb _) (H.alloc hb _)
end
theorem W_clip {P:Program} {E:Env} {S:St} {K:Value→St→Prop} {size:Nat} {x y z:Operand} {a:Option Addr} {n c:Nat} (hx:E.ev x=some (.slice a n c)) (hy:E.ev y=some (int n)) (hz:E.ev z=some (int n)) (hn:n≤c) (k:K (.slice a n n) S):(SOp.sliceL size x none (some y) (some z)).W P E S K:=by
 refine W_sliceL (l:=none) (h:=some (int n)) (m:=some (int n)) (r:=(0,n,n)) hx rfl (by simp [Env.evo,hy]) (by simp [Env.evo,hz]) ?_ ?_
 ·simp only [bnds,bnd,Option.isSome_some,if_true]
  rw [if_pos ⟨by omega,by omega⟩]
  simp only [Int.toNat_natCast]
  rw [if_pos ⟨by omega,by omega⟩]
 ·have e2:∀ x:Addr,x.add 0=x:=fun x=>by simp [Addr.add]
  have e3:(if n=0 then a else Option.map (fun x=>x.add (0*size)) a)=a:=by
   simp only [Nat.zero_mul,e2]
   cases a<;>simp
  simp only [Nat.sub_zero]
  rw [e3];exact k
theorem W_ptrEqB {E:Env} {S:St} {K:Value→St→Prop} {neg:Bool} {x y:Operand} {a:Addr} (hx:E.ev x=some (.pointer (some a))) (hy:E.ev y=some (.pointer (some a))) (k:K (.bool (true != neg)) S):(SOp.eqv neg 211 x y).W Tryz.prog E S K:=by
 obtain ⟨i,hi,hs⟩:=Option.map_eq_some_iff.1 tryzPT.s213
 exact W_ptrEq tryzPT.u211 hi (by rw [hs];decide) hx hy k
section
variable {α β:Type} [DecidableEq α]
def addM (kv:List (α × β)) (k:α) (v:β):List (α × β):=if (findM kv k 0).isSome then kv else kv++[(k,v)]
theorem addM_no {kv:List (α × β)} {k:α} {v:β} (h:findM kv k 0=none):addM kv k v=kv++[(k,v)]:=by unfold addM;rw [h];rfl
theorem addM_yes {kv:List (α × β)} {k:α} {v:β} (h:(findM kv k 0).isSome=true):addM kv k v=kv:=by unfold addM;rw [if_pos h]
theorem findM_snoc (kv:List (α × β)) (k x:α) (v:β) (i:Nat):findM (kv++[(k,v)]) x i=match findM kv x i with
    | some r=>some r
    | none=>if x=k then some (i+kv.length,v) else none:=by
  induction kv generalizing i with
  | nil=>simp [findM]
  | cons p kv ih=>
    obtain ⟨a,b⟩:=p
    simp only [List.cons_append,findM]
    by_cases h:x=a
    · simp [h]
    · simp only [h,if_false,ih]
      split
      · rfl
      · rw [show i+1+kv.length=i+((a,b)::kv).length by simp;omega]
theorem findM_at {kv:List (α × β)} {x:α} {i j:Nat} {v:β} (h:findM kv x i=some (j,v)):i≤j∧kv[j-i]? = some (x,v):=by
 induction kv generalizing i with
 | nil=>cases h
 | cons p kv ih=>
  obtain ⟨a,b⟩:=p
  simp only [findM] at h
  by_cases hx:x=a
  ·rw [if_pos hx] at h
   simp only [Option.some.injEq,Prod.mk.injEq] at h
   obtain ⟨rfl,rfl⟩:=h
   exact ⟨Nat.le_refl _,by simp [hx]⟩
  ·rw [if_neg hx] at h
   obtain ⟨h1,h2⟩:=ih h
   refine ⟨by omega,?_⟩
   rw [show j-i=(j-(i+1))+1 by omega];simpa using h2
def valM (kv:List (α × β)) (x:α):Option β:=(findM kv x 0).map (·.2)
theorem valM_snoc (kv:List (α × β)) (k x:α) (v:β):valM (kv++[(k,v)]) x=match valM kv x with
    | some r=>some r
    | none=>if x=k then some v else none:=by
  unfold valM
  rw [findM_snoc]
  rcases findM kv x 0 with _ | ⟨j,w⟩
  · simp only [Option.map_none];split<;>rfl
  · rfl
theorem valM_add (kv:List (α × β)) (k x:α) (v:β):valM (addM kv k v) x=match valM kv x with
    | some r=>some r
    | none=>if x=k then some v else none:=by
  rcases h:findM kv k 0 with _ | r
  · rw [addM_no h,valM_snoc]
  · rw [addM_yes (by rw [h];rfl)]
    rcases hx:valM kv x with _ | w
    · by_cases e:x=k
      · subst e;unfold valM at hx;rw [h] at hx;cases hx
      · simp [e]
    · rfl
end
structure Maps (es:List End) (i:Nat) (kv0:List (End × Int)) (kv1:List (Int × End)):Prop where
 m0:∀ e,valM kv0 e=if e∈es.take i then some (500+((es.take i).idxOf e:Nat):Int) else none
 m1:∀ p,valM kv1 p=if 500≤p then (es.take i)[(p-500).toNat]? else none
theorem Maps.nil (es:List End):Maps es 0 [] []:=⟨fun e=>by simp [valM,findM],fun p=>by simp [valM,findM]⟩
theorem Maps.step {es:List End} {i:Nat} {kv0:List (End × Int)} {kv1:List (Int × End)} {e:End} (h:Maps es i kv0 kv1) (he:es[i]? = some e):Maps es (i+1) (addM kv0 e (500+(i:Int))) (addM kv1 (500+(i:Int)) e):=by
 have hi:i<es.length:=(List.getElem?_eq_some_iff.1 he).1
 have hl:(es.take i).length=i:=by simp;omega
 constructor
 ·intro x
  rw [valM_add,h.m0,vF he]
  by_cases hx:x∈es.take i
  ·simp only [hx,if_true,List.mem_append,true_or,List.idxOf_append]
  ·simp only [hx,if_false,List.mem_append,false_or,List.mem_singleton,List.idxOf_append]
   by_cases hxe:x=e
   ·subst hxe;simp [hl]
   ·simp [hxe]
 ·intro p
  rw [valM_add,h.m1,vF he]
  by_cases hp:500≤p
  ·simp only [hp,if_true,List.getElem?_append,hl]
   by_cases h1:(p-500).toNat<i
   ·simp only [h1,if_true]
    have:(es.take i)[(p-500).toNat]? = some (es.take i)[(p-500).toNat]:=List.getElem?_eq_getElem (by omega)
    rw [this]
   ·have h2:(es.take i)[(p-500).toNat]? = none:=by rw [List.getElem?_eq_none];omega
    simp only [h1,if_false,h2]
    by_cases hpi:p=500+(i:Int)
    ·rw [if_pos hpi,show (p-500).toNat-i=0 by omega];rfl
    ·rw [if_neg hpi,List.getElem?_eq_none (by simp;omega)]
  ·simp only [hp,if_false]
   rw [if_neg (by omega)]
theorem Maps.put {es:List End} {i:Nat} {kv0:List (End × Int)} {kv1:List (Int × End)} {e:End} (h:Maps es (i+1) kv0 kv1) (he:es[i]? = some e):∃ j,findM kv1 (500+(i:Int)) 0=some (j,e)∧kv1[j]? = some (500+(i:Int),e):=by
 have h1:=h.m1 (500+(i:Int))
 rw [if_pos (by omega),show (500+(i:Int)-500).toNat=i by omega,List.getElem?_take,if_pos (by omega),he] at h1
 unfold valM at h1
 rcases hf:findM kv1 (500+(i:Int)) 0 with _ | ⟨j,w⟩
 ·rw [hf] at h1;cases h1
 ·rw [hf] at h1
  simp only [Option.map_some,Option.some.injEq] at h1
  subst h1
  exact ⟨j,rfl,by simpa using (findM_at hf).2⟩
theorem Maps.port {es:List End} {kv0:List (End × Int)} {kv1:List (Int × End)} (h:Maps es es.length kv0 kv1) (e:End):((findM kv0 e 0).map (·.2)).getD 0=portE es e:=by
 have:=h.m0 e
 unfold valM at this
 rw [this,List.take_length]
 unfold portE
 split<;>rfl
theorem Maps.theEnd {es:List End} {kv0:List (End × Int)} {kv1:List (Int × End)} (h:Maps es es.length kv0 kv1) (p:Int):(findM kv1 p 0).map (·.2)=endP es p:=by
 have:=h.m1 p
 unfold valM at this
 rw [this,List.take_length]
 unfold endP;rfl
theorem kvs_same {es:Array MapEntry} {kv:List (Int × End)} {j:Nat} {n:Int} {e:End} (h:kvs es=kv.map fun p=>(int p.1,p.2.v)) (hj:kv[j]? = some (n,e)):kvs (es.modify j fun x=>{x with key:=int n,val:=e.v})=kv.map fun p=>(int p.1,p.2.v):=by
 rw [kvs_modify,h]
 apply List.ext_getElem?
 intro m
 rw [List.getElem?_set]
 by_cases hm:j=m
 ·subst hm
  have hl:=(List.getElem?_eq_some_iff.1 hj).1
  have he:=(List.getElem?_eq_some_iff.1 hj).2
  simp [hl,he]
 ·simp [hm]
theorem W_part {E:Env} {S:St} {K:Value→St→Prop} {t ty ft:TypeId} {fs:Array Field} {f:Field} {x:Operand} {i:Nat} {cs:Array Value} {v:Value} (ht:Tryz.prog.underlying t=some (.struct fs)) (hf:fs[i]? = some f) (hft:f.type=ft) (ha:aggT Tryz.prog ft=some false) (hx:E.ev x=some (.agg cs)) (hv:cs[f.offset]? = some v) (hk:K v S):(SOp.raw (.field t x i) ty).W Tryz.prog E S K:=
 W_field ht hf hx (partF_one (by rw [hft];exact ha) hv) hk
theorem agg98:aggT Tryz.prog 98=some false:=by kernel_rfl
theorem agg99:aggT Tryz.prog 99=some false:=by kernel_rfl
end
section
variable {S0:St} {K:Value→St→Prop}
variable {a hi lo n p:Int} {c:UInt8}
theorem ct70  (k:∀ (t:Bool) S',Ext [] S0 S'→(t=true↔lo≤n∧n≤hi)→K (.bool t) S') :
  zC 70 #[int n,int lo,int hi] S0 K:=by
 refine zGh (sf:=s70) Tryz.func70 fun H=>zR (zj O (vA (zj O (zj O (za (W_geq O O fun t9 h9=>zj O ?_))))))
 rcases t9 with _|_
 ·replace h9:=bF h9
  refine zJ O (zJ O (zJ O (vp O O O O (zj O (zN (zh (zP O ?_)))))))
  exact k _ _ H.qx (by first | assumption | (simp;done) | (simp;omega) | (simp_all;done) | (simp_all;omega))
 ·replace h9:=bT h9
  refine zi O (vB O (zi O (vB O (zi O (W_leq O O fun t13 h13=>vp O O O O (zj O (zN (zh (zP O ?_)))))))))
  exact k _ _ H.qx (by first | assumption | (simp;done) | (simp;omega) | (simp_all;done) | (simp_all;omega))
theorem ct157  (k:∀ (t:Bool) S',Ext [] S0 S'→(t=true↔1≤n∧n≤999)→K (.bool t) S') :
  zC 157 #[int n] S0 K:=by
 refine zGh (sf:=s157) Tryz.func157 fun H=>zR (zj O (vA (zj O (zCl O (ct70  fun t4 S hE h4=>?_)))))
 replace H:=H.call hE
 refine zj O (zN (zh (zP O ?_)))
 exact k _ _ H.qx (by first | assumption | (simp;done) | (simp;omega) | (simp_all;done) | (simp_all;omega))
theorem ct156  (k:∀ (t:Bool) S',Ext [] S0 S'→(t=true↔1≤n∧n≤9)→K (.bool t) S') :
  zC 156 #[int n] S0 K:=by
 refine zGh (sf:=s156) Tryz.func156 fun H=>zR (zj O (vA (zj O (zCl O (ct70  fun t4 S hE h4=>?_)))))
 replace H:=H.call hE
 refine zj O (zN (zh (zP O ?_)))
 exact k _ _ H.qx (by first | assumption | (simp;done) | (simp;omega) | (simp_all;done) | (simp_all;omega))
theorem ct173  (k:∀ (t:Bool) S',Ext [] S0 S'→(t=true↔100≤n∧n≤109)→K (.bool t) S') :
  zC 173 #[int n] S0 K:=by
 refine zGh (sf:=s173) Tryz.func173 fun H=>zR (zj O (vA (zj O (zCl O (ct70  fun t4 S hE h4=>?_)))))
 replace H:=H.call hE
 refine zj O (zN (zh (zP O ?_)))
 exact k _ _ H.qx (by first | assumption | (simp;done) | (simp;omega) | (simp_all;done) | (simp_all;omega))
theorem ct67  (k:∀ (t:Bool) S',Ext [] S0 S'→(t=true↔InE a p)→K (.bool t) S') :
  zC 67 #[.agg #[int a,int p]] S0 K:=by
 refine zGh (sf:=s67) Tryz.func67 fun H=>zR (zBx H O O fun b1 S hb1 hE H=>zj O (vA (vt O (zL1 H O .h O (zCl O (ct156  fun t5 S hE h5=>?_))))))
 replace H:=H.call hE
 refine zj O ?_
 rcases t5 with _|_
 ·replace h5:=bF h5
  refine zJ O (zJ O (zJ O (vp O O O O (zj O (zN (zh (zP O ?_)))))))
  exact k _ _ H.qx (by simp only [InE,OutE,OkE] at *;first | assumption | (simp;done) | (simp;omega) | (simp_all;done) | (simp_all;omega))
 ·replace h5:=bT h5
  refine zi O (zy O (zi O (vh H O .h O (zi O (zT O (ct157  fun t9 S hE h9=>?_))))))
  replace H:=H.call hE
  refine vp O O O O (zj O (zN (zh (zP O ?_))))
  exact k _ _ H.qx (by simp only [InE,OutE,OkE] at *;first | assumption | (simp;done) | (simp;omega) | (simp_all;done) | (simp_all;omega))
theorem ct146  (k:∀ (t:Bool) S',Ext [] S0 S'→(t=true↔OutE a p)→K (.bool t) S') :
  zC 146 #[.agg #[int a,int p]] S0 K:=by
 refine zGh (sf:=s146) Tryz.func146 fun H=>zR (zBx H O O fun b1 S hb1 hE H=>zj O (vA (vt O (zL1 H O .h O (zCl O (ct173  fun t5 S hE h5=>?_))))))
 replace H:=H.call hE
 refine zj O ?_
 rcases t5 with _|_
 ·replace h5:=bF h5
  refine zJ O (zJ O (zJ O (vp O O O O (zj O (zN (zh (zP O ?_)))))))
  exact k _ _ H.qx (by simp only [InE,OutE,OkE] at *;first | assumption | (simp;done) | (simp;omega) | (simp_all;done) | (simp_all;omega))
 ·replace h5:=bT h5
  refine zi O (zy O (zi O (vh H O .h O (zi O (zT O (ct157  fun t9 S hE h9=>?_))))))
  replace H:=H.call hE
  refine vp O O O O (zj O (zN (zh (zP O ?_))))
  exact k _ _ H.qx (by simp only [InE,OutE,OkE] at *;first | assumption | (simp;done) | (simp;omega) | (simp_all;done) | (simp_all;omega))
theorem ct89  (k:∀ (t:Bool) S',Ext [] S0 S'→(t=true↔OkE a p)→K (.bool t) S') :
  zC 89 #[.agg #[int a,int p]] S0 K:=by
 refine zGh (sf:=s89) Tryz.func89 fun H=>zR (zBx H O O fun b1 S hb1 hE H=>zj O (vA (vt O (zL1 H O .h O (zCl O (ct156  fun t5 S hE h5=>?_))))))
 replace H:=H.call hE
 refine zj O ?_
 rcases t5 with _|_
 ·replace h5:=bF h5
  refine zi O (zy O (zi O (vh H O .h O (zi O (zT O (ct173  fun t9 S hE h9=>?_))))))
  replace H:=H.call hE
  refine vp O O O O (zj O ?_)
  rcases t9 with _|_
  ·replace h9:=bF h9
   refine zi O (zy O (zi O (vh H O .h O (zi O (W_eqI O O fun t14 h14=>vp O O O O (zj O ?_))))))
   rcases t14 with _|_
   ·replace h14:=bF h14
    refine zJ O (zJ O (zJ O (vp O O O O (zj O (zN (zh (zP O ?_)))))))
    exact k _ _ H.qx (by simp only [InE,OutE,OkE] at *;first | assumption | (simp;done) | (simp;omega) | (simp_all;done) | (simp_all;omega))
   ·replace h14:=bT h14
    refine zi O (zy O (zi O (vh H O .h O (zi O (zT O (ct157  fun t19 S hE h19=>?_))))))
    replace H:=H.call hE
    refine vp O O O O (zj O (zN (zh (zP O ?_))))
    exact k _ _ H.qx (by simp only [InE,OutE,OkE] at *;first | assumption | (simp;done) | (simp;omega) | (simp_all;done) | (simp_all;omega))
  ·replace h9:=bT h9
   refine zJ O (zJ O (zJ O (vp O O O O (zj O (zi O (zy O (zi O (vh H O .h O (zi O (zT O (ct157  fun t19 S hE h19=>?_)))))))))))
   replace H:=H.call hE
   refine vp O O O O (zj O (zN (zh (zP O ?_))))
   exact k _ _ H.qx (by simp only [InE,OutE,OkE] at *;first | assumption | (simp;done) | (simp;omega) | (simp_all;done) | (simp_all;omega))
 ·replace h5:=bT h5
  refine zJ O (zJ O (zJ O (vp O O O O (zj O (zJ O (zJ O (zJ O (vp O O O O (zj O (zi O (zy O (zi O (vh H O .h O (zi O (zT O (ct157  fun t19 S hE h19=>?_))))))))))))))))
  replace H:=H.call hE
  refine vp O O O O (zj O (zN (zh (zP O ?_))))
  exact k _ _ H.qx (by simp only [InE,OutE,OkE] at *;first | assumption | (simp;done) | (simp;omega) | (simp_all;done) | (simp_all;omega))
theorem ct88  (k:∀ (t:Bool) S',Ext [] S0 S'→(t=true↔LineB c)→K (.bool t) S') :
  zC 88 #[.int .u8 c.toNat] S0 K:=by
 refine zGh (sf:=s88) Tryz.func88 fun H=>zR (zj O (vA (zj O (za (W_geq O O fun t4 h4=>zj O ?_)))))
 rcases t4 with _|_
 ·replace h4:=bF h4
  refine zJ O (zJ O (vp O O O O (zj O (zi O (vB O (zi O (W_geq O O fun t11 h11=>zi O (vB O ?_))))))))
  rcases t11 with _|_
  ·replace h11:=bF h11
   refine zJ O (zJ O (zi O (W_pick O O O O (vp O O O O (zj O (zi O (vB O (zi O (W_eqI O O fun t19 h19=>vp O O O O (zj O (zN (zh (zP O ?_)))))))))))))
   exact k _ _ H.qx (by unfold LineB;first | (simp;omega) | (simp_all;omega))
  ·replace h11:=bT h11
   refine zi O (vB O (zi O (W_leq O O fun t14 h14=>zi O (W_pick O O O O (vp O O O O (zj O ?_))))))
   rcases t14 with _|_
   ·replace h14:=bF h14
    refine zi O (vB O (zi O (W_eqI O O fun t19 h19=>vp O O O O (zj O (zN (zh (zP O ?_)))))))
    exact k _ _ H.qx (by unfold LineB;first | (simp;omega) | (simp_all;omega))
   ·replace h14:=bT h14
    refine zJ O (zJ O (vp O O O O (zj O (zN (zh (zP O ?_))))))
    exact k _ _ H.qx (by unfold LineB;first | (simp;omega) | (simp_all;omega))
 ·replace h4:=bT h4
  refine zi O (vB O (zi O (W_leq O O fun t7 h7=>vp O O O O (zj O ?_))))
  rcases t7 with _|_
  ·replace h7:=bF h7
   refine zi O (vB O (zi O (W_geq O O fun t11 h11=>zi O (vB O ?_))))
   rcases t11 with _|_
   ·replace h11:=bF h11
    refine zJ O (zJ O (zi O (W_pick O O O O (vp O O O O (zj O (zi O (vB O (zi O (W_eqI O O fun t19 h19=>vp O O O O (zj O (zN (zh (zP O ?_)))))))))))))
    exact k _ _ H.qx (by unfold LineB;first | (simp;omega) | (simp_all;omega))
   ·replace h11:=bT h11
    refine zi O (vB O (zi O (W_leq O O fun t14 h14=>zi O (W_pick O O O O (vp O O O O (zj O ?_))))))
    rcases t14 with _|_
    ·replace h14:=bF h14
     refine zi O (vB O (zi O (W_eqI O O fun t19 h19=>vp O O O O (zj O (zN (zh (zP O ?_)))))))
     exact k _ _ H.qx (by unfold LineB;first | (simp;omega) | (simp_all;omega))
    ·replace h14:=bT h14
     refine zJ O (zJ O (vp O O O O (zj O (zN (zh (zP O ?_))))))
     exact k _ _ H.qx (by unfold LineB;first | (simp;omega) | (simp_all;omega))
  ·replace h7:=bT h7
   refine zJ O (zJ O (zJ O (wpI_un O (wpI_un O (zJ O (vp O O O O (zj O (zJ O (zJ O (vp O O O O (zj O (zN (zh (zP O ?_))))))))))))))
   exact k _ _ H.qx (by unfold LineB;first | (simp;omega) | (simp_all;omega))
theorem ct85  (k:∀ (t:Bool) S',Ext [] S0 S'→(t=true↔lo≤n∧n≤hi)→K (.bool t) S') :
  zC 85 #[int n,int lo,int hi] S0 K:=by
 refine zGh (sf:=s85) Tryz.func85 fun H=>zR (zj O (vA (zj O (zj O (za (W_geq O O fun t9 h9=>zj O ?_))))))
 rcases t9 with _|_
 ·replace h9:=bF h9
  refine zJ O (zJ O (zJ O (vp O O O O (zj O (zN (zh (zP O ?_)))))))
  exact k _ _ H.qx (by first | assumption | (simp;done) | (simp;omega) | (simp_all;done) | (simp_all;omega))
 ·replace h9:=bT h9
  refine zi O (vB O (zi O (vB O (zi O (W_leq O O fun t13 h13=>vp O O O O (zj O (zN (zh (zP O ?_)))))))))
  exact k _ _ H.qx (by first | assumption | (simp;done) | (simp;omega) | (simp_all;done) | (simp_all;omega))
theorem ct90  (k:∀ (t:Bool) S',Ext [] S0 S'→(t=true↔InE a p)→K (.bool t) S') :
  zC 90 #[.agg #[int a,int p]] S0 K:=by
 refine zGh (sf:=s90) Tryz.func90 fun H=>zR (zBx H O O fun b1 S hb1 hE H=>zj O (vA (vt O (zL1 H O .h O (zCl O (ct85  fun t5 S hE h5=>?_))))))
 replace H:=H.call hE
 refine zj O ?_
 rcases t5 with _|_
 ·replace h5:=bF h5
  refine zJ O (zJ O (zJ O (vp O O O O (zj O (zN (zh (zP O ?_)))))))
  exact k _ _ H.qx (by simp only [InE,OutE,OkE] at *;first | assumption | (simp;done) | (simp;omega) | (simp_all;done) | (simp_all;omega))
 ·replace h5:=bT h5
  refine zi O (zy O (zi O (vh H O .h O (zi O (zT O (ct85  fun t9 S hE h9=>?_))))))
  replace H:=H.call hE
  refine vp O O O O (zj O (zN (zh (zP O ?_))))
  exact k _ _ H.qx (by simp only [InE,OutE,OkE] at *;first | assumption | (simp;done) | (simp;omega) | (simp_all;done) | (simp_all;omega))
theorem ct77  (k:∀ (t:Bool) S',Ext [] S0 S'→(t=true↔OutE a p)→K (.bool t) S') :
  zC 77 #[.agg #[int a,int p]] S0 K:=by
 refine zGh (sf:=s77) Tryz.func77 fun H=>zR (zBx H O O fun b1 S hb1 hE H=>zj O (vA (vt O (zL1 H O .h O (zCl O (ct85  fun t5 S hE h5=>?_))))))
 replace H:=H.call hE
 refine zj O ?_
 rcases t5 with _|_
 ·replace h5:=bF h5
  refine zJ O (zJ O (zJ O (vp O O O O (zj O (zN (zh (zP O ?_)))))))
  exact k _ _ H.qx (by simp only [InE,OutE,OkE] at *;first | assumption | (simp;done) | (simp;omega) | (simp_all;done) | (simp_all;omega))
 ·replace h5:=bT h5
  refine zi O (zy O (zi O (vh H O .h O (zi O (zT O (ct85  fun t9 S hE h9=>?_))))))
  replace H:=H.call hE
  refine vp O O O O (zj O (zN (zh (zP O ?_))))
  exact k _ _ H.qx (by simp only [InE,OutE,OkE] at *;first | assumption | (simp;done) | (simp;omega) | (simp_all;done) | (simp_all;omega))
theorem ct84  (k:∀ (t:Bool) S',Ext [] S0 S'→(t=true↔OkE a p)→K (.bool t) S') :
  zC 84 #[.agg #[int a,int p]] S0 K:=by
 refine zGh (sf:=s84) Tryz.func84 fun H=>zR (zBx H O O fun b1 S hb1 hE H=>zj O (vA (zLn (vs:=[_,_]) H O .h O (zCl O (ct90  fun t4 S hE h4=>?_)))))
 replace H:=H.call hE
 refine zj O ?_
 rcases t4 with _|_
 ·replace h4:=bF h4
  refine zi O (W_loadN (vs:=[_,_]) H O .h O (zi O (zT O (ct77  fun t7 S hE h7=>?_))))
  replace H:=H.call hE
  refine vp O O O O (zj O ?_)
  rcases t7 with _|_
  ·replace h7:=bF h7
   refine zi O (zy O (zi O (vh H O .h O (zi O (W_eqI O O fun t12 h12=>zi O (vB O ?_))))))
   rcases t12 with _|_
   ·replace h12:=bF h12
    refine zJ O (zJ O (zJ O (zi O (W_pick O O O O (vp O O O O (zj O (zN (zh (zP O ?_)))))))))
    exact k _ _ H.qx (by simp only [InE,OutE,OkE] at *;first | assumption | (simp;done) | (simp;omega) | (simp_all;done) | (simp_all;omega))
   ·replace h12:=bT h12
    refine zi O (zy O (zi O (vh H O .h O (zi O (zT O (ct85  fun t16 S hE h16=>?_))))))
    replace H:=H.call hE
    refine zi O (W_pick O O O O (vp O O O O (zj O (zN (zh (zP O ?_))))))
    exact k _ _ H.qx (by simp only [InE,OutE,OkE] at *;first | assumption | (simp;done) | (simp;omega) | (simp_all;done) | (simp_all;omega))
  ·replace h7:=bT h7
   refine zJ O (zJ O (zJ O (zJ O (wpI_un O (wpI_un O (wpI_un O (zJ O (vp O O O O (zj O (zN (zh (zP O ?_))))))))))))
   exact k _ _ H.qx (by simp only [InE,OutE,OkE] at *;first | assumption | (simp;done) | (simp;omega) | (simp_all;done) | (simp_all;omega))
 ·replace h4:=bT h4
  refine zJ O (zJ O (vp O O O O (zj O (zJ O (zJ O (zJ O (zJ O (wpI_un O (wpI_un O (wpI_un O (zJ O (vp O O O O (zj O (zN (zh (zP O ?_))))))))))))))))
  exact k _ _ H.qx (by simp only [InE,OutE,OkE] at *;first | assumption | (simp;done) | (simp;omega) | (simp_all;done) | (simp_all;omega))
theorem ct86  (k:∀ (t:Bool) S',Ext [] S0 S'→(t=true↔LineB c)→K (.bool t) S') :
  zC 86 #[.int .u8 c.toNat] S0 K:=by
 refine zGh (sf:=s86) Tryz.func86 fun H=>zR (zj O (vA (zj O (za (W_geq O O fun t4 h4=>zj O ?_)))))
 rcases t4 with _|_
 ·replace h4:=bF h4
  refine zJ O (zJ O (vp O O O O (zj O (zi O (vB O (zi O (W_geq O O fun t11 h11=>zi O (vB O ?_))))))))
  rcases t11 with _|_
  ·replace h11:=bF h11
   refine zJ O (zJ O (zi O (W_pick O O O O (vp O O O O (zj O (zi O (vB O (zi O (W_eqI O O fun t19 h19=>vp O O O O (zj O (zN (zh (zP O ?_)))))))))))))
   exact k _ _ H.qx (by unfold LineB;first | (simp;omega) | (simp_all;omega))
  ·replace h11:=bT h11
   refine zi O (vB O (zi O (W_leq O O fun t14 h14=>zi O (W_pick O O O O (vp O O O O (zj O ?_))))))
   rcases t14 with _|_
   ·replace h14:=bF h14
    refine zi O (vB O (zi O (W_eqI O O fun t19 h19=>vp O O O O (zj O (zN (zh (zP O ?_)))))))
    exact k _ _ H.qx (by unfold LineB;first | (simp;omega) | (simp_all;omega))
   ·replace h14:=bT h14
    refine zJ O (zJ O (vp O O O O (zj O (zN (zh (zP O ?_))))))
    exact k _ _ H.qx (by unfold LineB;first | (simp;omega) | (simp_all;omega))
 ·replace h4:=bT h4
  refine zi O (vB O (zi O (W_leq O O fun t7 h7=>vp O O O O (zj O ?_))))
  rcases t7 with _|_
  ·replace h7:=bF h7
   refine zi O (vB O (zi O (W_geq O O fun t11 h11=>zi O (vB O ?_))))
   rcases t11 with _|_
   ·replace h11:=bF h11
    refine zJ O (zJ O (zi O (W_pick O O O O (vp O O O O (zj O (zi O (vB O (zi O (W_eqI O O fun t19 h19=>vp O O O O (zj O (zN (zh (zP O ?_)))))))))))))
    exact k _ _ H.qx (by unfold LineB;first | (simp;omega) | (simp_all;omega))
   ·replace h11:=bT h11
    refine zi O (vB O (zi O (W_leq O O fun t14 h14=>zi O (W_pick O O O O (vp O O O O (zj O ?_))))))
    rcases t14 with _|_
    ·replace h14:=bF h14
     refine zi O (vB O (zi O (W_eqI O O fun t19 h19=>vp O O O O (zj O (zN (zh (zP O ?_)))))))
     exact k _ _ H.qx (by unfold LineB;first | (simp;omega) | (simp_all;omega))
    ·replace h14:=bT h14
     refine zJ O (zJ O (vp O O O O (zj O (zN (zh (zP O ?_))))))
     exact k _ _ H.qx (by unfold LineB;first | (simp;omega) | (simp_all;omega))
  ·replace h7:=bT h7
   refine zJ O (zJ O (zJ O (wpI_un O (wpI_un O (zJ O (vp O O O O (zj O (zJ O (zJ O (vp O O O O (zj O (zN (zh (zP O ?_))))))))))))))
   exact k _ _ H.qx (by unfold LineB;first | (simp;omega) | (simp_all;omega))
end
section
variable {S0:St} {K:Value→St→Prop}
variable {l:Bs}
theorem ct60 (hl:l.length≤1099511627776) (k:∀ (t:Bool) S',Ext [] S0 S'→(t=true↔LinP l)→K (.bool t) S') :
  zC 60 #[str l] S0 K:=by
 refine zGh (sf:=s60) Tryz.func60 fun H=>zR (zj O (zN (vz (zj O (za (W_strBytes H O fun b6 cap6 S hc6 hb6 hE H=>zLl O (zj O (zN (zE ?_)))))))))
 refine vg (fun E S m_=>∃ (i:Nat),E=Env.lst [(0,str l),(6,sl b6 0 l.length cap6),(7,int l.length),(8,int i)]∧Loc [] S0 S [(b6,BytesO l cap6 5)]∧(i≤l.length)∧(∀ c∈l.take i,LineB c)∧m_=l.length-i) ?_ ?_
 ·skip
  refine ⟨_,_,?le,0,O,H,(by omega),(by simp),O⟩
  case le=>exact Env.qle ⟨O,O,O,O,⟨⟩⟩
 ·skip
  rintro _ S _ ⟨i,rfl,H,hi,hp,rfl⟩
  refine zR (za (vq O O fun t9 h9=>zN (zB ?_)))
  rcases t9 with _|_
  ·replace h9:=bF h9
   refine zn O (vf (zM (zM (vn (ze (zR (zj O (za (vG O (za (W_leq O O fun t18 h18=>zj O (zN (zh (zP O ?_))))))))))))))
   rw [show i=l.length by omega,List.take_length] at hp
   exact k _ _ H.qx (h18.trans ⟨fun h=>⟨hp,by omega⟩,fun h=>by have:=h.2;omega⟩)
  ·replace h9:=bT h9
   obtain ⟨c,hc⟩:∃ c,l[i]? = some c:=⟨l[i]'(by omega),by simp⟩
   refine zr O (zt (ze (zB (zE (zR (zIa O O (za (zF O (H.byteAt .h hc) (zj O (vA (zj O (zCl O (ct88  fun t13 S hE h13=>?_)))))))))))))
   replace H:=H.call hE
   refine zNt O (zN ?_)
   rcases t13 with _|_
   ·replace h13:=bF h13
    refine zr O (zR (zj O (zN (zh (vd (zv (zv (vd (zv (zP O ?_))))))))))
    exact k _ _ H.qx ⟨nofun,fun h=>absurd (h.1 c (List.mem_of_getElem? hc)) h13⟩
   ·replace h13:=bT h13
    refine zn O (zt (vc (ze (zL (zAd O O (zj O (zN ?_)))))))
    refine ⟨_,_,?lt,?le,(i+1),O,H,(by omega),(mem_take_succ hc hp h13),O⟩
    case lt=>omega
    case le=>exact Env.qle ⟨O,O,O,O,⟨⟩⟩
theorem ct73 (hl:l.length≤1099511627776) (k:∀ (t:Bool) S',Ext [] S0 S'→(t=true↔LinP l)→K (.bool t) S') :
  zC 73 #[str l] S0 K:=by
 refine zGh (sf:=s73) Tryz.func73 fun H=>zR (zj O (zN (vz (zj O (za (vG O (za (W_gtr O O fun t6 h6=>zN ?_))))))))
 rcases t6 with _|_
 ·replace h6:=bF h6
  refine zn O (zt (ze (vz (zj O (zN (zE ?_))))))
  refine vg (fun E S m_=>∃ (i:Nat),E=Env.lst [(0,str l),(3,int i)]∧Loc [] S0 S []∧(i≤l.length)∧(∀ c∈l.take i,LineB c)∧m_=l.length-i) ?_ ?_
  ·skip
   refine ⟨_,_,?le,0,O,H,(by omega),(by simp),O⟩
   case le=>exact Env.qle ⟨O,O,⟨⟩⟩
  ·skip
   rintro _ S _ ⟨i,rfl,H,hi,hp,rfl⟩
   refine vz (zj O (zj O (za (vG O (za (vq O O fun t10 h10=>zN ?_))))))
   rcases t10 with _|_
   ·replace h10:=bF h10
    refine zn O (vf (zM (zM (vn (ze (zR (zj O (zN (zh (zP O ?_))))))))))
    rw [show i=l.length by omega,List.take_length] at hp
    exact k _ _ H.qx ⟨fun _=>⟨hp,by omega⟩,fun _=>rfl⟩
   ·replace h10:=bT h10
    obtain ⟨c,hc⟩:∃ c,l[i]? = some c:=⟨l[i]'(by omega),by simp⟩
    refine zr O (zt (ze (zB (zE (zR (zj O (zj O (za (W_idxT O O (by omega) hc (zCl O (ct86  fun t16 S hE h16=>?_)))))))))))
    replace H:=H.call hE
    refine zNt O (zN ?_)
    rcases t16 with _|_
    ·replace h16:=bF h16
     refine zr O (zR (zj O (zN (zh (vd (zv (zv (vd (zv (zP O ?_))))))))))
     exact k _ _ H.qx ⟨nofun,fun h=>absurd (h.1 c (List.mem_of_getElem? hc)) h16⟩
    ·replace h16:=bT h16
     refine zn O (zt (vc (ze (zL (zj O (zAd O O (zj O (zN ?_))))))))
     refine ⟨_,_,?lt,?le,(i+1),O,H,(by omega),(mem_take_succ hc hp h16),O⟩
     case lt=>omega
     case le=>exact Env.qle ⟨O,O,⟨⟩⟩
 ·replace h6:=bT h6
  refine zr O (zR (zj O (zN (zh (zv (zP O ?_))))))
  exact k _ _ H.qx ⟨nofun,fun h=>by have:=h.2;omega⟩
theorem ct72 (hl:l.length≤2199023255552) (k:∀ b cap S',Ext [] S0 S'→(S0 b=none)→(OwnB S' b 9 1 cap (strRows (zD l).1))→K (.tuple #[sl b 0 (zD l).1.length cap,str (zD l).2]) S') :
  zC 72 #[str l] S0 K:=by
 refine zGh (sf:=s72) Tryz.func72 fun H=>zR (zj O (zj O (vA (za (z_ (cs:=[]) H O O fun b7 S hb7 hE H=>zj O (vA (zj O (zN (vz (zj O (zN (zE ?_))))))))))))
 refine vg (fun E S m_=>∃ (i:Nat) (fr:Nat) (ls:List Bs) (b4:Nat) (cap4:Nat) (cs4:List Value),E=Env.lst [(0,str l),(4,sl b4 0 ls.length cap4),(5,int fr),(6,int i)]∧Loc [] S0 S [(b4,Cs cs4 9)]∧(i≤l.length)∧(fr≤i)∧(ls.length≤cap4)∧(cs4.length=cap4*1)∧(cs4.take (ls.length*1)=ls.map str)∧(zD (l.take i)=(ls,(l.take i).drop fr))∧(ls.length≤i)∧m_=l.length-i) ?_ ?_
 ·skip
  refine ⟨_,_,?le,0,0,[],b7,0,[],O,H,(by omega),(by omega),(by simp),(by simp),(by simp),(by simp [zD,spl]),(by simp),O⟩
  case le=>exact Env.qle ⟨O,O,O,O,⟨⟩⟩
 ·skip
  rintro _ S _ ⟨i,fr,ls,b4,cap4,cs4,rfl,H,hi,hfr,hn,hcl,hct,hs,hln,rfl⟩
  refine vz (zj O (zj O (za (vG O (za (vq O O fun t11 h11=>zN ?_))))))
  rcases t11 with _|_
  ·replace h11:=bF h11
   refine zn O (vf (zM (zM (vn (ze (zB (z9 [] (vJ 0 O O O (vJ 1 O O O (vJ 2 O O O (vO 3 O O (fun _ _ hK=>W_slSlo O O (by omega) (by omega) hK) (vJ 4 O O O (vJ 5 O O O (zY (ze (zh (⟨trivial,_,(zW O (zW O zU)),?_⟩)))))))))))))))))
   rw [show i=l.length by omega,List.take_length] at hs
   have e1:ls=(zD l).1:=by rw [hs]
   have e2:l.drop (fr:Int).toNat=(zD l).2:=by rw [hs];rfl
   rw [e2];subst e1
   exact k _ _ _ H.qx (H.new1 .h) ⟨_,H.get .h,by simpa using hn,hcl,by rw [strRows_flat];simpa using hct,strRows_one⟩
  ·replace h11:=bT h11
   obtain ⟨c,hc⟩:∃ c,l[i]? = some c:=⟨l[i]'(by omega),by simp⟩
   have hsn:=strLines_snoc (l.take i) c
   rw [← vF hc,hs] at hsn
   refine zr O (zt (ze (zB (zE (zR (zj O (zj O (za (W_idxT O O (by omega) hc (za (W_eqI O O fun t17 h17=>zN ?_)))))))))))
   rcases t17 with _|_
   ·replace h17:=bF h17
    refine zn O (zt (vc (ze (zL (zj O (zAd O O (zj O (zN ?_))))))))
    rw [if_neg (by rintro rfl;exact h17 rfl)] at hsn
    refine ⟨_,_,?lt,?le,(i+1),fr,ls,b4,cap4,cs4,O,H,(by omega),(by omega),hn,hcl,hct,?_,(by omega),O⟩
    case lt=>omega
    case le=>exact Env.qle ⟨O,O,O,O,⟨⟩⟩
    rw [hsn,vF hc,List.drop_append_of_le_length (by simp;omega)]
   ·replace h17:=bT h17
    refine zr O (zR (zj O (zj O (zj O (zj O (za (W_slS O O O (by omega) (by omega) (by omega) (za (z_ (cs:=[_]) H O O fun b23 S hb23 hE H=>za (W_append H O O .h1 hcl hn (Src.own H .h O) (by simp [oneCell]) O (by decide) (by omega) O fun b24 cap24 cs24 S hb24 H hE hn24 hcl24 hct24=>zj O (zN (zL (zj O (zAd O O (zj O (ve (vc (ze (zL (zj O (zAd O O (zj O (zN ?_)))))))))))))))))))))))
    have hc59:c=59:=UInt8.toNat_inj.1 (by have:(c.toNat:Int)=59:=h17;show c.toNat=59;omega)
    subst hc59
    rw [if_pos rfl] at hsn
    refine ⟨_,_,?lt,?le,(i+1),(i+1),(ls++[(l.take i).drop fr]),b24,cap24,cs24,O,(H.sub (.cons_cons _ (.cons _ .slnil))),(by omega),(by omega),(by simpa using hn24),hcl24,?_,?_,(by simp;omega),O⟩
    case lt=>omega
    case le=>exact Env.qle ⟨rfl,(by rw [List.length_append];rfl),rfl,rfl,trivial⟩
    ·rw [List.length_append,List.map_append,← hct]
     exact hct24.trans (by rw [show (l.drop (fr:Int).toNat).take ((i:Int).toNat-(fr:Int).toNat)=(l.take i).drop fr from (List.drop_take ..).symm];rfl)
    ·rw [hsn];simp
end
section
variable {S0:St} {K:Value→St→Prop}
variable {l p:Bs} {c:UInt8}
theorem ct227  (k:∀  S',Ext [] S0 S'→K (int (idx1 l c)) S') :
  zC 227 #[str l,byt c] S0 K:=by
 refine zGh (sf:=s227) Tryz.func227 fun H=>zR (zj O (vA (zj O (zj O (za (W_x237 O O (zj O (zN (zh (zP O ?_))))))))))
 exact k _ H.qx
theorem ct217  (k:∀  S',Ext [] S0 S'→K (int (idx1 l c)) S') :
  zC 217 #[str l,str [c]] S0 K:=by
 refine zGh (sf:=s217) Tryz.func217 fun H=>zR (zj O (vA (zj O (za (vG O (zj O (zN (zB (zE (zR (zj O (za (W_eqI O O fun t18 h18=>zj O ?_)))))))))))))
 rcases t18 with _|_
 ·replace h18:=bF h18
  refine zi O (vB O (zi O (vB O (zi O (W_eqS O O fun t22 h22=>vp O O O O (zj O (zN ?_)))))))
  rcases t22 with _|_
  ·replace h22:=bF h22
   refine zn O (zR (zj O (za (W_eqI O O fun t26 h26=>zj O (zN ?_)))))
   rcases t26 with _|_
   ·replace h26:=bF h26
    exact absurd rfl h26
   ·replace h26:=bT h26
    refine zr O (zR (zj O (zj O (za (W_idxT O O (by omega) O (zCl O (ct227  fun S hE =>?_)))))))
    replace H:=H.call hE
    refine zj O (zN (zh (vd (zv (zP O ?_)))))
    exact k _ H.qx
  ·replace h22:=bT h22
   refine zr O (zR (zj O (zN (zh (vd (zv (zP O ?_)))))))
   subst h22
   rw [show idx1 [c] c=0 by simp [idx1]] at k
   exact k _ H.qx
 ·replace h18:=bT h18
  exact absurd h18 (by simp)
theorem ct218 (hl:l.length≤1099511627776) (k:∀ (t:Bool) S',Ext [] S0 S'→(t=true↔c∈l)→K (.tuple #[str (bef l c),str (aft l c),.bool t]) S') :
  zC 218 #[str l,str [c]] S0 K:=by
 refine zGh (sf:=s218) Tryz.func218 fun H=>zR (zj O (zj O (zj O (zN (vz (zj O (zj O (zCl O (ct217  fun S hE =>?_)))))))))
 replace H:=H.call hE
 refine zj O (vA (zj O (za (W_geq O O fun t12 h12=>zN ?_))))
 rcases t12 with _|_
 ·replace h12:=bF h12
  obtain ⟨hm,h1,h2⟩:=idx1_neg h12
  refine zn O (zt (ze (zR (zj O (zj O (zj O (zj O (zN (zh (⟨trivial,_,(zW O (zW O (zW O zU))),?_⟩))))))))))
  rw [h1,h2] at k
  exact k false _ H.qx ⟨nofun,fun h=>absurd h hm⟩
 ·replace h12:=bT h12
  obtain ⟨hm,hi,hlt⟩:=idx1_pos h12
  simp only [hi]
  have hc1:[c].length=1:=rfl
  refine zr O (zB (z9 [] (vJ 0 O O O (vJ 1 O O O (vO 2 O O (fun _ _ hK=>W_slShi O O (by omega) (by omega) hK) (vJ 3 O O O (vJ 4 O O O (vJ 5 O O O (vO 6 O O (fun _ _ hK=>vG O hK) (vO 7 O O (fun _ _ hK=>W_add O O (by omega) (by omega) hK) (vO 8 O O (fun _ _ hK=>W_slSlo O O (by omega) (by omega) hK) (vJ 9 O O O (vJ 10 O O O (vJ 11 O O O (zY (ze (zh (zv (⟨trivial,_,(zW O (zW O (zW O zU))),?_⟩)))))))))))))))))))
  exact k true _ H.qx ⟨fun _=>hm,fun _=>rfl⟩
theorem ct180 (hl:l.length≤1099511627776) (k:∀ (t:Bool) S',Ext [] S0 S'→(t=true↔c∈l)→K (.tuple #[str (bef l c),str (aft l c),.bool t]) S') :
  zC 180 #[str l,str [c]] S0 K:=by
 refine zGh (sf:=s180) Tryz.func180 fun H=>zR (zj O (zj O (zj O (vA (zj O (zj O (zCl O (ct218 (by omega) fun t9 S hE h9=>?_))))))))
 replace H:=H.call hE
 refine zEx O O (zEx O O (zEx O O (zj O (zj O (zj O (zN (zh (⟨trivial,_,(zW O (zW O (zW O zU))),?_⟩))))))))
 exact k t9 _ H.qx h9
theorem ct95  (k:∀  S',Ext [] S0 S'→K (int (l.count c:Nat)) S') :
  zC 95 #[str l,str [c]] S0 K:=by
 refine zGh (sf:=s95) Tryz.func95 fun H=>zR (zj O (zN (vz (zj O (za (vG O (za (W_eqI O O fun t9 h9=>zN ?_))))))))
 rcases t9 with _|_
 ·replace h9:=bF h9
  refine zn O (zt (ze (vz (zj O (za (vG O (za (W_eqI O O fun t15 h15=>zN ?_))))))))
  rcases t15 with _|_
  ·replace h15:=bF h15
   exact absurd rfl h15
  ·replace h15:=bT h15
   refine zr O (zR (zj O (zj O (za (W_idxT O O (by omega) O (za (W_x177 O O (zj O (zN (zh (zv (zP O ?_))))))))))))
   exact k _ H.qx
 ·replace h9:=bT h9
  exact absurd h9 (by simp)
theorem ct181 (hl:l.length≤1099511627776) (k:∀ (r:Int) S',Ext [] S0 S'→(LastI l c r)→K (int r) S') :
  zC 181 #[str l,byt c] S0 K:=by
 refine zGh (sf:=s181) Tryz.func181 fun H=>zR (zj O (zN (vz (zj O (za (vG O (zSb O O (zj O (zN (zE ?_))))))))))
 refine vg (fun E S m_=>∃ (n:Nat),E=Env.lst [(0,str l),(1,byt c),(5,int (n-1))]∧Loc [] S0 S []∧(n≤l.length)∧(c∉l.drop n)∧m_=2*n) ?_ ?_
 ·skip
  refine ⟨_,_,?le,l.length,O,H,(by omega),(by simp),O⟩
  case le=>exact Env.qle ⟨O,O,O,⟨⟩⟩
 ·skip
  rintro _ S _ ⟨n,rfl,H,hn,hp,rfl⟩
  refine vz (zj O (za (W_geq O O fun t10 h10=>zN ?_)))
  rcases t10 with _|_
  ·replace h10:=bF h10
   refine zn O (vf (zM (zM (vn (ze (zR (zj O (zN (zh (zP O ?_))))))))))
   obtain rfl:n=0:=by omega
   exact k _ _ H.qx (.inl ⟨rfl,by simpa using hp⟩)
  ·replace h10:=bT h10
   obtain ⟨x,hc⟩:∃ x,l[((n:Int)-1).toNat]? = some x:=⟨l[((n:Int)-1).toNat]'(by omega),by simp⟩
   refine zr O (zt (ze (zB (zE (zR (zj O (zj O (za (W_idxT O O (by omega) hc (zj O (za (W_eqI O O fun t17 h17=>zN ?_))))))))))))
   rcases t17 with _|_
   ·replace h17:=bF h17
    refine zn O (zt (vc (ze (zL (zj O (zSb O O (zj O (zN ?_))))))))
    obtain ⟨m,rfl⟩:∃ m,n=m+1:=⟨n-1,by omega⟩
    have hm:(((m+1:Nat):Int)-1)=(m:Int):=by omega
    rw [hm] at hc
    refine ⟨_,_,?lt,?le,m,O,H,(by omega),(by
     have hx:l[m]? = some x:=hc
     obtain ⟨hml,hxe⟩:=List.getElem?_eq_some_iff.1 hx
     rw [List.drop_eq_getElem_cons hml,hxe]
     simp only [List.mem_cons,not_or]
     exact ⟨fun e=>h17 (by rw [e]),hp⟩),rfl⟩
    case lt=>omega
    case le=>exact Env.qle ⟨rfl,rfl,(by show some (int (((m+1:Nat):Int)-1-1))=_;rw [hm]),trivial⟩
   ·replace h17:=bT h17
    refine zr O (zR (zj O (zj O (zN (zh (vd (zv (zv (vd (zv (zP O ?_)))))))))))
    have hx:x=c:=UInt8.toNat_inj.1 (by omega)
    subst hx
    exact k _ _ H.qx (.inr ⟨n-1,by omega,by rw [← hc];congr 1;omega,by rw [show n-1+1=n by omega];exact hp⟩)
theorem ct97 (hl:l.length≤1099511627776) (k:∀ (r:Int) S',Ext [] S0 S'→(LastI l c r)→K (int r) S') :
  zC 97 #[str l,str [c]] S0 K:=by
 refine zGh (sf:=s97) Tryz.func97 fun H=>zR (zj O (vA (zj O (za (vG O (zj O (zN (zB (zE (zR (zj O (za (W_eqI O O fun t10 h10=>zj O (zN ?_))))))))))))))
 rcases t10 with _|_
 ·replace h10:=bF h10
  refine zn O (zR (zj O (za (W_eqI O O fun t15 h15=>zj O (zN ?_)))))
  rcases t15 with _|_
  ·replace h15:=bF h15
   exact absurd rfl h15
  ·replace h15:=bT h15
   refine zr O (zR (zj O (zj O (za (W_idxT O O (by omega) O (zCl O (ct181 (by omega) fun r19 S hE h19=>?_)))))))
   replace H:=H.call hE
   refine zj O (zN (zh (vd (zv (zP O ?_)))))
   exact k _ _ H.qx h19
 ·replace h10:=bT h10
  exact absurd h10 (by simp)
theorem ct245  (k:∀ (t:Bool) S',Ext [] S0 S'→(t=true↔p <+: l)→K (.bool t) S') :
  zC 245 #[str l,str p] S0 K:=by
 refine zGh (sf:=s245) Tryz.func245 fun H=>zR (zj O (vA (zj O (za (vG O (zj O (za (vG O (za (W_geq O O fun t9 h9=>zj O ?_))))))))))
 rcases t9 with _|_
 ·replace h9:=bF h9
  refine zJ O (zJ O (zJ O (zJ O (zJ O (zJ O (vp O O O O (zj O (zN (zh (zP O ?_))))))))))
  exact k _ _ H.qx ⟨nofun,fun h=>absurd h.length_le (by omega)⟩
 ·replace h9:=bT h9
  refine zi O (vB O (zi O (vB O (zi O (vG O (zi O (W_slShi O O (by omega) (by omega) (zi O (vB O (zi O (W_eqS O O fun t16 h16=>vp O O O O (zj O (zN (zh (zP O ?_)))))))))))))))
  exact k _ _ H.qx (h16.trans ⟨fun h=>by rw [List.prefix_iff_eq_take];exact h.symm,fun h=>(List.prefix_iff_eq_take.1 h).symm⟩)
theorem ct239  (k:∀ (t:Bool) S',Ext [] S0 S'→(t=true↔p <+: l)→K (.tuple #[str (bif t then l.drop p.length else l),.bool t]) S') :
  zC 239 #[str l,str p] S0 K:=by
 refine zGh (sf:=s239) Tryz.func239 fun H=>zR (zj O (zj O (zN (vz (zj O (zj O (zCl O (ct245  fun t8 S hE h8=>?_))))))))
 replace H:=H.call hE
 refine zNt O (zN ?_)
 rcases t8 with _|_
 ·replace h8:=bF h8
  refine zr O (zR (zj O (zj O (zj O (zN (zh (zv (⟨trivial,_,(zW O (zW O zU)),?_⟩))))))))
  exact k false _ H.qx ⟨nofun,fun h=>absurd h h8⟩
 ·replace h8:=bT h8
  have hle:=(h8:p <+: l).length_le
  refine zn O (zt (ze (zR (zj O (zj O (za (vG O (za (W_slSlo O O (by omega) (by omega) (zj O (zj O (zN (zh (⟨trivial,_,(zW O (zW O zU)),?_⟩))))))))))))))
  exact k true _ H.qx ⟨fun _=>h8,fun _=>rfl⟩
theorem ct231  (k:∀ (t:Bool) S',Ext [] S0 S'→(t=true↔p <+: l)→K (.tuple #[str (bif t then l.drop p.length else l),.bool t]) S') :
  zC 231 #[str l,str p] S0 K:=by
 refine zGh (sf:=s231) Tryz.func231 fun H=>zR (zj O (zj O (vA (zj O (zj O (zCl O (ct239  fun t8 S hE h8=>?_)))))))
 replace H:=H.call hE
 refine zEx O O (zEx O O (zj O (zj O (zN (zh (⟨trivial,_,(zW O (zW O zU)),?_⟩))))))
 exact k _ _ H.qx h8
end
section
variable {S0:St} {K:Value→St→Prop}
variable {l:Bs}
theorem ct244 {n:Nat} (hn:n≤1099511627776) (k:∀  S',Ext [] S0 S'→K (str (dig n)) S') :
  zC 244 #[int n] S0 K:=by
 refine zGh (sf:=s244) Tryz.func244 fun H=>?_
 obtain ⟨n0,hn0⟩:∃ n0,n=n0:=⟨n,rfl⟩
 have hn1:n0≤1099511627776:=by omega
 rw [show dig n=dig n0 by rw [hn0]] at k
 refine zR (zj O (vA (zj O (zN (zB (zE ?_))))))
 refine vg (fun E S m_=>∃ (n:Nat) (o:Bs),E=Env.lst [(0,int n),(3,str o)]∧Loc [] S0 S []∧(n≤1099511627776)∧(dig n0=dig n++o)∧(o.length+n≤n0)∧m_=2*n) ?_ ?_
 ·skip
  refine ⟨_,_,?le,n,[],O,H,hn,(by simp [hn0]),(by simp [hn0]),O⟩
  case le=>exact Env.qle ⟨O,O,⟨⟩⟩
 ·skip
  rintro _ S _ ⟨n,o,rfl,H,hn,ho,hol,rfl⟩
  refine vz (zj O (za (W_gtr O O fun t5 h5=>zN ?_)))
  rcases t5 with _|_
  ·replace h5:=bF h5
   refine zn O (vf (zM (zM (vn (ze (zR (zj O (zAd O O (za (W_conv (m:=((dg n).toNat:Nat)) O (by rw [dg_nat (by omega),wrapu8_in (by omega) (by omega)];omega) (za (z_ (cs:=[_]) H O O fun b19 S hb19 hE H=>za (W_bytesStr (l:=[dg n]) O (H.cells .h O) (zj O (za (W_catS (l:=[dg n]) O O (by simp;omega) (zj O (zN (zh (zP O ?_))))))))))))))))))))
   rw [ho,dig_lt (by omega)] at k
   exact k _ H.qx
  ·replace h5:=bT h5
   refine zr O (zt (ze (zE (zR (zj O (za (W_rem (m:=10) O O (by decide) (zAd O O (za (W_conv (m:=((dg (n % 10)).toNat:Nat)) O (by rw [dg_nat (by omega),wrapu8_in (by omega) (by omega)];omega) (za (z_ (cs:=[_]) H O O fun b10 S hb10 hE H=>za (W_bytesStr (l:=[dg (n % 10)]) O (H.cells .h O) (zj O (za (W_catS (l:=[dg (n % 10)]) O O (by simp;omega) (zj O (zN (zL (zj O (za (W_quo (m:=10) O O (by decide) (by omega) (zj O (ve (vc (ze ?_))))))))))))))))))))))))))
   refine ⟨_,_,?lt,?le,(n / 10),(dg (n % 10)::o),O,(H.sub (.cons _ .slnil)),(by omega),(by rw [ho,dig_ge (by omega)];simp),(by simp;omega),O⟩
   case lt=>omega
   case le=>exact Env.qle ⟨O,O,⟨⟩⟩
theorem ct243  (k:∀ (r:Int) S',Ext [] S0 S'→(NumP l r)→K (int r) S') :
  zC 243 #[str l] S0 K:=by
 refine zGh (sf:=s243) Tryz.func243 fun H=>zR (zj O (zN (vz (zj O (za (vG O (za (W_eqI O O fun t7 h7=>zj O ?_))))))))
 rcases t7 with _|_
 ·replace h7:=bF h7
  refine zi O (vB O (zi O (vG O (zi O (W_gtr O O fun t11 h11=>vp O O O O (zN ?_))))))
  rcases t11 with _|_
  ·replace h11:=bF h11
   refine zn O (zt (ze (zR (zj O (zN (vz (zj O (zN (zE ?_)))))))))
   refine vg (fun E S m_=>∃ (i:Nat) (v:Nat),E=Env.lst [(0,str l),(3,int v),(4,int i)]∧Loc [] S0 S []∧(i≤l.length)∧(v=vD (l.take i))∧(v<10 ^ i)∧(∀ c∈l.take i,48≤c.toNat∧c.toNat≤57)∧m_=l.length-i) ?_ ?_
   ·skip
    refine ⟨_,_,?le,0,0,O,H,(by omega),(by simp [vD]),(by simp),(by simp),O⟩
    case le=>exact Env.qle ⟨O,O,O,⟨⟩⟩
   ·skip
    rintro _ S _ ⟨i,v,rfl,H,hi,hv,hb,hd,rfl⟩
    refine vz (zj O (zj O (za (vG O (za (vq O O fun t16 h16=>zN ?_))))))
    rcases t16 with _|_
    ·replace h16:=bF h16
     obtain rfl:i=l.length:=by omega
     rw [List.take_length] at hv
     have hv4:v<10000:=Nat.lt_of_lt_of_le hb (Nat.pow_le_pow_right (n:=10) (by decide) (show l.length≤4 by omega))
     refine zn O (vf (zM (zM (vn (ze (vz (zj O (zCl O (ct244 (by omega) fun S hE =>?_)))))))))
     replace H:=H.call hE
     refine zj O (za (W_neS O O fun t40 h40=>zN ?_))
     rcases t40 with _|_
     ·replace h40:=bF h40
      refine zn O (zt (ze (zR (zj O (zj O (zN (zh (zP O ?_))))))))
      exact k _ _ H.qx (.inl ⟨v,by omega,(Classical.not_not.1 h40).symm,rfl⟩)
     ·replace h40:=bT h40
      refine zr O (zR (zj O (zN (zh (zv (zP O ?_))))))
      exact k _ _ H.qx (.inr ⟨fun n hn e=>h40 (by rw [hv,e,vD_dig]),rfl⟩)
    ·replace h16:=bT h16
     obtain ⟨c,hc⟩:∃ c,l[i]? = some c:=⟨l[i]'(by omega),by simp⟩
     have hv4:v<10000:=Nat.lt_of_lt_of_le hb (Nat.pow_le_pow_right (n:=10) (by decide) (show i≤4 by omega))
     have hc8:=UInt8.toNat_lt c
     refine zr O (zt (ze (zB (zE (vz (zj O (zj O (za (W_idxT O O (by omega) hc (za (vq O O fun t22 h22=>zj O ?_)))))))))))
     rcases t22 with _|_
     ·replace h22:=bF h22
      refine zi O (vB O (zi O (vB O (zi O (W_idxT O O (by omega) hc (zi O (W_gtr O O fun t27 h27=>vp O O O O (zN ?_))))))))
      rcases t27 with _|_
      ·replace h27:=bF h27
       refine zn O (zt (ze (zL (zj O (za (W_mul O O (by omega) (by omega) (zj O (zj O (za (W_idxT O O (by omega) hc (za (W_subu8 O O (by omega) (by omega) (za (W_conv O (wrap64_in (by omega) (by omega)) (zAd O O (zj O (ve (vc (ze (zL (zj O (zAd O O (zj O (zN ?_))))))))))))))))))))))))
       refine ⟨_,_,?lt,?le,(i+1),(v*10+(c.toNat-48)),O,H,(by omega),(by rw [vF hc,vD_snoc,hv]),(by rw [Nat.pow_succ];omega),(mem_take_succ hc hd ⟨by omega,by omega⟩),O⟩
       case lt=>omega
       case le=>exact Env.qle ⟨rfl,(by show some (int ((v:Int)*10+((c.toNat:Int)-48)))=_;congr 2;omega),rfl,trivial⟩
      ·replace h27:=bT h27
       refine zr O (zR (zj O (zN (zh (zv (vd (zv (zv (vd (zv (zP O ?_)))))))))))
       exact k _ _ H.qx (.inr ⟨fun n hn e=>by have:=dig_mem (n:=n) (c:=c) (e ▸ List.mem_of_getElem? hc);omega,rfl⟩)
     ·replace h22:=bT h22
      refine zJ O (zJ O (zJ O (zJ O (vp O O O O (zN (zr O (zR (zj O (zN (zh (zv (vd (zv (zv (vd (zv (zP O ?_)))))))))))))))))
      exact k _ _ H.qx (.inr ⟨fun n hn e=>by have:=dig_mem (n:=n) (c:=c) (e ▸ List.mem_of_getElem? hc);omega,rfl⟩)
  ·replace h11:=bT h11
   refine zr O (zR (zj O (zN (zh (zv (zP O ?_))))))
   exact k _ _ H.qx (.inr ⟨fun n hn e=>by have:=dig_le4 hn;rw [← e] at this;omega,rfl⟩)
 ·replace h7:=bT h7
  refine zJ O (zJ O (zJ O (vp O O O O (zN (zr O (zR (zj O (zN (zh (zv (zP O ?_)))))))))))
  exact k _ _ H.qx (.inr ⟨fun n hn e=>by have:=dig_pos n;rw [← e] at this;omega,rfl⟩)
theorem ct242 (hl:l.length≤1099511627776) (k:∀ b cap S',Ext [] S0 S'→(S0 b=none)→(OwnB S' b 9 1 cap (strRows (words l)))→K (sl b 0 (words l).length cap) S') :
  zC 242 #[str l] S0 K:=by
 refine zGh (sf:=s242) Tryz.func242 fun H=>zR (zj O (vA (za (z_ (cs:=[]) H O O fun b6 S hb6 hE H=>zj O (vA (zj O (zN (vz (zj O (zN (zE ?_)))))))))))
 refine vg (fun E S m_=>∃ (i:Nat) (w:Bs) (ls:List Bs) (b3:Nat) (cap3:Nat) (cs3:List Value),E=Env.lst [(0,str l),(3,sl b3 0 ls.length cap3),(4,str w),(5,int i)]∧Loc [] S0 S [(b3,Cs cs3 9)]∧(i≤l.length)∧(ls.length≤cap3)∧(cs3.length=cap3*1)∧(cs3.take (ls.length*1)=ls.map str)∧(spl 32 (l.take i)=(ls,w))∧(ls.length≤i)∧(w.length≤i)∧m_=l.length-i) ?_ ?_
 ·skip
  refine ⟨_,_,?le,0,[],[],b6,0,[],O,H,(by omega),(by simp),(by simp),(by simp),(by simp [spl]),(by simp),(by simp),O⟩
  case le=>exact Env.qle ⟨O,O,O,O,⟨⟩⟩
 ·skip
  rintro _ S _ ⟨i,w,ls,b3,cap3,cs3,rfl,H,hi,hn,hcl,hct,hs,hln,hwn,rfl⟩
  refine vz (zj O (zj O (za (vG O (za (vq O O fun t10 h10=>zN ?_))))))
  rcases t10 with _|_
  ·replace h10:=bF h10
   refine zn O (vf (zM (zM (vn (ze (zR (zj O (zj O (za (z_ (cs:=[_]) H O O fun b30 S hb30 hE H=>za (W_append H O O .h1 hcl hn (Src.own H .h O) (by simp [oneCell]) O (by decide) (by omega) O fun b31 cap31 cs31 S hb31 H hE hn31 hcl31 hct31=>zj O (zN (zh (zP O ?_))))))))))))))
   rw [show i=l.length by omega,List.take_length] at hs
   have e1:words l=ls++[w]:=by unfold words;rw [hs]
   rw [e1] at k
   rw [show (ls.length+1)=(ls++[w]).length by simp]
   exact k _ _ _ H.qx (H.new1 .h) ⟨_,H.get .h,by simpa using hn31,hcl31,by rw [strRows_flat,List.map_append,← hct];simpa using hct31,strRows_one⟩
  ·replace h10:=bT h10
   obtain ⟨c,hc⟩:∃ c,l[i]? = some c:=⟨l[i]'(by omega),by simp⟩
   have hsn:=spl_snoc 32 (l.take i) c
   rw [← vF hc,hs] at hsn
   refine zr O (zt (ze (zB (zE (zR (zj O (zj O (za (W_idxT O O (by omega) hc (za (W_eqI O O fun t16 h16=>zN ?_)))))))))))
   rcases t16 with _|_
   ·replace h16:=bF h16
    refine zn O (zL (zj O (zj O (zj O (zj O (zAd O O (za (W_slS O O O (by omega) (by omega) (by omega) (za (W_catS O O (by simp only [List.length_take,List.length_drop];omega) (zj O (ve (vc (ze (zL (zj O (zAd O O (zj O (zN ?_)))))))))))))))))))
    rw [if_neg (by rintro rfl;exact h16 rfl)] at hsn
    have hx1:(l.drop (i:Int).toNat).take (((i:Int)+1).toNat-(i:Int).toNat)=[c]:=by
     obtain ⟨h1,h2⟩:=List.getElem?_eq_some_iff.1 hc
     rw [show ((i:Int)+1).toNat-(i:Int).toNat=1 by omega,show (i:Int).toNat=i by omega,List.drop_eq_getElem_cons h1,h2];rfl
    refine ⟨_,_,?lt,?le,(i+1),(w++[c]),ls,b3,cap3,cs3,O,H,(by omega),hn,hcl,hct,?_,(by omega),(by simp;omega),O⟩
    case lt=>omega
    case le=>exact Env.qle ⟨rfl,rfl,(by show some (str (w++_))=_;rw [hx1]),rfl,trivial⟩
    exact hsn
   ·replace h16:=bT h16
    refine zr O (zR (zj O (zj O (za (z_ (cs:=[_]) H O O fun b19 S hb19 hE H=>za (W_append H O O .h1 hcl hn (Src.own H .h O) (by simp [oneCell]) O (by decide) (by omega) O fun b20 cap20 cs20 S hb20 H hE hn20 hcl20 hct20=>zj O (zN (zL (zj O (ve (vc (ze (zL (zj O (zAd O O (zj O (zN ?_)))))))))))))))))
    have hc59:c=32:=UInt8.toNat_inj.1 (by have:(c.toNat:Int)=32:=h16;show c.toNat=32;omega)
    subst hc59
    rw [if_pos rfl] at hsn
    refine ⟨_,_,?lt,?le,(i+1),[],(ls++[w]),b20,cap20,cs20,O,(H.sub (.cons_cons _ (.cons _ .slnil))),(by omega),(by simpa using hn20),hcl20,?_,?_,(by simp;omega),(by simp),O⟩
    case lt=>omega
    case le=>exact Env.qle ⟨rfl,(by rw [List.length_append];rfl),rfl,rfl,trivial⟩
    ·rw [List.length_append,List.map_append,← hct]
     exact hct20
    ·exact hsn
end
section
variable {S0:St} {K:Value→St→Prop}
variable {a:Int}
theorem ct244i (h0:0≤a) (h1:a≤9999) (k:∀ S',Ext [] S0 S'→(dig a.toNat).length≤4→K (str (dig a.toNat)) S'):Calls1 Tryz.prog 244 #[int a] S0 K:=by
 obtain ⟨n,rfl⟩:∃ n:Nat,a=n:=⟨a.toNat,by omega⟩
 exact ct244 (by omega) fun S' hE=>k S' hE (dig_le4 (by omega))
theorem ct236 {p:Int}  (k:∀  S',Ext [] S0 S'→K (str (eText a p)) S') :
  zC 236 #[.agg #[int a,int p]] S0 K:=by
 refine zGh (sf:=s236) Tryz.func236 fun H=>zR (zBx H O O fun b1 S hb1 hE H=>zj O (zN (vz (zLn (vs:=[_,_]) H O .h O (zCl O (ct84  fun t4 S hE h4=>?_))))))
 replace H:=H.call hE
 refine zNt O (zN ?_)
 rcases t4 with _|_
 ·replace h4:=bF h4
  refine zr O (zR (zj O (zN (zh (zv (zP O ?_))))))
  rw [show eText a p=[] from if_neg h4] at k
  exact k _ H.qx
 ·replace h4:=bT h4
  have hok:=h4
  unfold OkE at hok
  refine zn O (zt (ze (zB (z9 [] (zLf 0 O O O (vk 1 O O (fun S' hS'=>zG fun K hK=>zF O (zH (hS' O) (by simp) (H.cell .h O)) hK) (zLf 4 O O O (vk 5 O O (fun S' hS'=>zG fun K hK=>zF O (zH (hS' O) (by simp) (H.cell .h O)) hK) (zA 2 (by kernel_rfl) O O (zu (zT O (ct244i (by omega) (by omega) fun S hE h8=>?_))))))))))))
  replace H:=H.call hE
  refine ⟨fun _=>hE.up.ext,vO 3 O O (fun _ _ hK=>W_catS O O (by simp;omega) hK) (zA 6 (by kernel_rfl) O O (zu (zT O (ct244i (by omega) (by omega) fun S hE h12=>?_))))⟩
  replace H:=H.call hE
  refine zLd (vO 7 O O (fun _ _ hK=>W_catS O O (by simp;omega) hK) (vJ 8 O O O (zY (ze (zh (zP O ?_))))))
  rw [show eText a p=eTxt a p from if_pos h4] at k
  exact k _ H.qx
theorem ct235 {l:Bs} (hl:l.length≤1099511627776) (k:∀ (a p:Int) (t:Bool) S',Ext [] S0 S'→(t=true→RdE l a p)→(t=false→a=0∧p=0∧∀ x y,¬ RdE l x y)→K (.tuple #[.agg #[int a,int p],.bool t]) S') :
  zC 235 #[str l] S0 K:=by
 refine zGh (sf:=s235) Tryz.func235 fun H=>zR (zAl H O fun b2 S hb2 hE H=>zj O (vA (zj O (zCl O (ct242 (by omega) fun b7 cap7 S hE hb7 hO7=>?_)))))
 replace H:=H.call hE
 refine zj O (zN (vz (zj O (zLl O (za (W_neI O O fun t10 h10=>zN ?_))))))
 rcases t10 with _|_
 ·replace h10:=bF h10
  refine zn O (zt (ze (zB ?_)))
  obtain ⟨w0,w1,hw⟩:=len2 (show (words l).length=2 by omega)
  have f0:S.cell? ⟨b7,0,none⟩=some (str w0):=by
   obtain ⟨b,off,e,hc⟩:=hO7.sl.row 0 [str w0] (by rw [hw];rfl)
   cases e;exact vw (i:=0) hc rfl
  have f1:S.cell? ⟨b7,1,none⟩=some (str w1):=by
   obtain ⟨b,off,e,hc⟩:=hO7.sl.row 1 [str w1] (by rw [hw];rfl)
   cases e;exact vw (i:=0) hc rfl
  refine z9 [] (vJ 0 O O O (vO 1 O O (fun _ _ hK=>vl O O (by omega) (by omega) hK) (vk 2 O O (fun S' hS'=>zG fun K hK=>zF O (zH (hS' O) (by simp) f0) hK) (vJ 4 O O O (vO 5 O O (fun _ _ hK=>vl O O (by omega) (by omega) hK) (vk 6 O O (fun S' hS'=>zG fun K hK=>zF O (zH (hS' O) (by simp) f1) hK) (wpD_two 3 9 (by kernel_rfl) O O O O ?_ ?_)))))))
  ·skip
   refine zu (zT O (ct243  fun r15 S hE h15=>?_))
   replace H:=H.call hE
   refine ⟨fun _=>hE.up.ext,wpD_two 7 9 (by kernel_rfl) O O O O ?_ ?_⟩
   ·skip
    refine zu (zT O (ct243  fun r19 S hE h19=>?_))
    replace H:=H.call hE
    refine zLd (vO 8 O O (fun _ _ hK=>vL (cs:=[_,_]) O O hK) (zA 9 (by kernel_rfl) O O (zu (W_alloc H O fun b5 S hb5 hE H=>⟨fun _=>hE.up.ext,zA 10 (by kernel_rfl) O O (zu (zSt H O O O .h O fun S hE H=>zLd (zY (ze (vz (zLn (vs:=[_,_]) H O .h O (zCl O (ct84  fun t22 S hE h22=>?_))))))))⟩))))
    replace H:=H.call hE
    refine zNt O (zN ?_)
    rcases t22 with _|_
    ·replace h22:=bF h22
     refine zr O (zR (za (vL (cs:=[_,_]) O O (zSs H O O O .h1 O fun S hE H=>zj O (zN (zh (zv (⟨trivial,_,(z0 (ws:=[_,_]) H O .h1 O (zW O zU)),?_⟩))))))))
     exact k 0 0 false _ H.qx nofun (fun _=>⟨rfl,rfl,not_rd_of_num hw h15 h19 h22⟩)
    ·replace h22:=bT h22
     refine zn O (zt (ze (zR (zLn (vs:=[_,_]) H O .h O (zSs H O O O .h1 O fun S hE H=>zj O (zN (zh (⟨trivial,_,(z0 (ws:=[_,_]) H O .h1 O (zW O zU)),?_⟩))))))))
     exact k _ _ true _ H.qx (fun _=>rd_of_num hw h15 h19 h22) nofun
   ·skip
    refine zu (W_alloc H O fun b5 S hb5 hE H=>⟨fun _=>hE.up.ext,zA 7 (by kernel_rfl) O O (zu (zT O (ct243  fun r19 S hE h19=>?_)))⟩)
    replace H:=H.call hE
    refine zLd (vO 8 O O (fun _ _ hK=>vL (cs:=[_,_]) O O hK) (zA 10 (by kernel_rfl) O O (zu (zSt H O O O .h O fun S hE H=>zLd (zY (ze (vz (zLn (vs:=[_,_]) H O .h O (zCl O (ct84  fun t22 S hE h22=>?_))))))))))
    replace H:=H.call hE
    refine zNt O (zN ?_)
    rcases t22 with _|_
    ·replace h22:=bF h22
     refine zr O (zR (za (vL (cs:=[_,_]) O O (zSs H O O O .h1 O fun S hE H=>zj O (zN (zh (zv (⟨trivial,_,(z0 (ws:=[_,_]) H O .h1 O (zW O zU)),?_⟩))))))))
     exact k 0 0 false _ H.qx nofun (fun _=>⟨rfl,rfl,not_rd_of_num hw h15 h19 h22⟩)
    ·replace h22:=bT h22
     refine zn O (zt (ze (zR (zLn (vs:=[_,_]) H O .h O (zSs H O O O .h1 O fun S hE H=>zj O (zN (zh (⟨trivial,_,(z0 (ws:=[_,_]) H O .h1 O (zW O zU)),?_⟩))))))))
     exact k _ _ true _ H.qx (fun _=>rd_of_num hw h15 h19 h22) nofun
  ·skip
   refine zu (W_alloc H O fun b5 S hb5 hE H=>⟨fun _=>hE.up.ext,zA 3 (by kernel_rfl) O O (zu (zT O (ct243  fun r15 S hE h15=>?_)))⟩)
   replace H:=H.call hE
   refine ⟨fun _=>hE.up.ext,zA 7 (by kernel_rfl) O O (zu (zT O (ct243  fun r19 S hE h19=>?_)))⟩
   replace H:=H.call hE
   refine zLd (vO 8 O O (fun _ _ hK=>vL (cs:=[_,_]) O O hK) (zA 10 (by kernel_rfl) O O (zu (zSt H O O O .h O fun S hE H=>zLd (zY (ze (vz (zLn (vs:=[_,_]) H O .h O (zCl O (ct84  fun t22 S hE h22=>?_))))))))))
   replace H:=H.call hE
   refine zNt O (zN ?_)
   rcases t22 with _|_
   ·replace h22:=bF h22
    refine zr O (zR (za (vL (cs:=[_,_]) O O (zSs H O O O .h1 O fun S hE H=>zj O (zN (zh (zv (⟨trivial,_,(z0 (ws:=[_,_]) H O .h1 O (zW O zU)),?_⟩))))))))
    exact k 0 0 false _ H.qx nofun (fun _=>⟨rfl,rfl,not_rd_of_num hw h15 h19 h22⟩)
   ·replace h22:=bT h22
    refine zn O (zt (ze (zR (zLn (vs:=[_,_]) H O .h O (zSs H O O O .h1 O fun S hE H=>zj O (zN (zh (⟨trivial,_,(z0 (ws:=[_,_]) H O .h1 O (zW O zU)),?_⟩))))))))
    exact k _ _ true _ H.qx (fun _=>rd_of_num hw h15 h19 h22) nofun
 ·replace h10:=bT h10
  refine zr O (zR (za (vL (cs:=[_,_]) O O (zSs H O O O .h O fun S hE H=>zj O (zN (zh (zv (⟨trivial,_,(z0 (ws:=[_,_]) H O .h O (zW O zU)),?_⟩))))))))
  exact k 0 0 false _ H.qx nofun (fun _=>⟨rfl,rfl,not_rd_of_len (by omega)⟩)
end
section
variable {S0:St} {K:Value→St→Prop}
variable {e:End} {es:List End} {cap:Nat} {a:Option Addr}
theorem ct136 (hs:Sl S0 2 a (zS es)) (hcp:es.length≤cap) (hl:es.length≤1099511627776) (k:∀  S',Ext [] S0 S'→K (int (findE es e)) S') :
  zC 136 #[.agg #[.slice a es.length cap],e.v] S0 K:=by
 refine zGh (sf:=s136) Tryz.func136 fun H=>zR (zBx H O O fun b2 S hb2 hE H=>zBx H O O fun b3 S hb3 hE H=>zj O (zN (vz (zj O (zN (zE ?_))))))
 refine vg (fun E S m_=>∃ (i:Nat),E=Env.lst [(2,ptr b2 0),(3,ptr b3 0),(5,int i)]∧Loc [] S0 S [(b3,Cs e.row 31),(b2,Cs [.slice a es.length cap] 26)]∧(i≤es.length)∧(e∉es.take i)∧m_=es.length-i) ?_ ?_
 ·skip
  refine ⟨_,_,?le,0,O,H,(by omega),(by simp),O⟩
  case le=>exact Env.qle ⟨O,O,O,⟨⟩⟩
 ·skip
  rintro _ S _ ⟨i,rfl,H,hi,hn,rfl⟩
  refine vz (zj O (vt O (zL1 H O .h1 O (zLl O (za (vq O O fun t10 h10=>zN ?_))))))
  rcases t10 with _|_
  ·replace h10:=bF h10
   refine zn O (vf (zM (zM (vn (ze (zR (zj O (zN (zh (zP O ?_))))))))))
   rw [show i=es.length by omega,List.take_length] at hn
   rw [findE_no hn] at k
   exact k _ H.qx
  ·replace h10:=bT h10
   obtain ⟨x,hx⟩:∃ x,es[i]? = some x:=⟨es[i]'(by omega),by simp⟩
   obtain ⟨b,off,rfl,hc⟩  :=hs.row i _ (endRows_at hx)
   refine zr O (zt (ze (zB (zE (zB (z9 [] (zLf 0 O O O (vk 1 O O (fun S' hS'=>zG fun K hK=>zF O (zH (hS' O) (by simp) (H.cell .h1 O)) hK) (vJ 2 O O O (vO 3 O O (fun _ _ hK=>vl O O (by omega) (by omega) hK) (vk 4 O O (fun S' hS'=>zG fun K hK=>zV (vs:=[_,_]) O (zK (hS' O) (by simp) (H.qx.cells hc)) hK) (vk 5 O O (fun S' hS'=>zG fun K hK=>zV O (zK (hS' O) (by simp) (H.cells (vs:=[_,_]) .h O)) hK) (zCm 6 O O (fun S' _=>zG fun K hK=>W_eqE O O hK) fun t19 h19=>zY (ze ?_))))))))))))))
   rcases t19 with _|_
   ·replace h19:=bF h19
    refine zn O (zt (vc (ze (zL (zj O (zAd O O (zj O (zN ?_))))))))
    refine ⟨_,_,?lt,?le,(i+1),O,H,(by omega),(not_mem_take_succ hx hn (End.ne' h19)),O⟩
    case lt=>omega
    case le=>exact Env.qle ⟨O,O,O,⟨⟩⟩
   ·replace h19:=bT h19
    refine zr O (zR (zj O (zj O (zN (zh (vd (zv (zv (vd (zv (zP O ?_)))))))))))
    rw [End.ext' h19] at hx
    rw [findE_at hx hn] at k
    exact k _ H.qx
theorem ct138 (hs:Sl S0 2 a (zS es)) (hcp:es.length≤cap) (hl:es.length≤1099511627776) (k:∀  S',Ext [] S0 S'→K (int (portE es e)) S') :
  zC 138 #[.agg #[.slice a es.length cap],e.v] S0 K:=by
 refine zGh (sf:=s138) Tryz.func138 fun H=>zR (zBx H O O fun b2 S hb2 hE H=>zBx H O O fun b3 S hb3 hE H=>zj O (vA (zLn (vs:=[_]) H O .h1 O (zLn (vs:=[_,_]) H O .h O (zCl O (ct136 (hs.mono H.qx) hcp (by omega) fun S hE =>?_))))))
 replace H:=H.call hE
 have hf:=findE_bd es e
 refine zj O (zN (vz (zj O (za (vq O O fun t10 h10=>zN ?_)))))
 rcases t10 with _|_
 ·replace h10:=bF h10
  refine zn O (zt (ze (zR (zj O (zAd O O (zj O (zN (zh (zP O ?_)))))))))
  rw [portE_eq,if_neg h10] at k
  exact k _ H.qx
 ·replace h10:=bT h10
  refine zr O (zR (zj O (zN (zh (zv (zP O ?_))))))
  rw [portE_eq,if_pos h10] at k
  exact k _ H.qx
theorem ct80 {q:Int} (hs:Sl S0 2 a (zS es)) (hcp:es.length≤cap) (hl:es.length≤1099511627776) (k:∀ (e:End) (t:Bool) S',Ext [] S0 S'→(t=true→endP es q=some e)→(t=false→endP es q=none∧e=⟨0,0⟩)→K (.tuple #[e.v,.bool t]) S') :
  zC 80 #[.agg #[.slice a es.length cap],int q] S0 K:=by
 refine zGh (sf:=s80) Tryz.func80 fun H=>zR (zBx H O O fun b2 S hb2 hE H=>zAl H O fun b4 S hb4 hE H=>zj O (zN (vz (zj O (vt O (zL1 H O .h1 O (zLl O (zAd O O (zSb O O (zCl O (ct85  fun t12 S hE h12=>?_)))))))))))
 replace H:=H.call hE
 refine zNt O (zN ?_)
 rcases t12 with _|_
 ·replace h12:=bF h12
  refine zr O (zR (za (vL (cs:=[_,_]) O O (zSs H O O O .h O fun S hE H=>zj O (zN (zh (zv (⟨trivial,_,(z0 (ws:=[_,_]) H O .h O (zW O zU)),?_⟩))))))))
  exact k ⟨0,0⟩ false _ H.qx nofun fun _=>⟨endP_none h12,rfl⟩
 ·replace h12:=bT h12
  obtain ⟨x,hx⟩:∃ x,es[(q-500).toNat]? = some x:=⟨es[(q-500).toNat]'(by omega),by simp⟩
  obtain ⟨b,off,rfl,hc⟩:=hs.row _ _ (endRows_at hx)
  refine zn O (zt (ze (zR (vt O (zL1 H O .h1 O (zj O (zSb O O (zIa O O (za (zV (vs:=[_,_]) O (H.qx.cells hc) (zSs H O O O .h O fun S hE H=>zj O (zN (zh (⟨trivial,_,(z0 (ws:=[_,_]) H O .h O (zW O zU)),?_⟩))))))))))))))
  exact k x true _ H.qx (fun _=>endP_some hx h12.1) nofun
theorem ct161 (hs:Sl S0 2 a (zS es)) (hcp:es.length≤cap) (hl:es.length≤1099511627776) (k:∀ b cap S',Ext [] S0 S'→(S0 b=none)→(OwnB S' b 31 2 cap (zS es))→K (.agg #[sl b 0 es.length cap]) S') :
  zC 161 #[.agg #[.slice a es.length cap]] S0 K:=by
 refine zGh (sf:=s161) Tryz.func161 fun H=>zR (zBx H O O fun b1 S hb1 hE H=>zAl H O fun b2 S hb2 hE H=>vA (za (z_ (cs:=[]) H O O fun b3 S hb3 hE H=>vt O (zL1 H O .h2 O (za (W_append (new:=(zS es).flatten) H O O .h O (Nat.le_refl _) (Src.sl (hs.mono H.qx) endRows_two (by simp)) endRows_one (endRows_flat_len es) (by decide) (by omega) O fun b6 cap6 cs6 S hb6 H hE hn6 hcl6 hct6=>za (vL (cs:=[_]) O O (zSs H O O O .h1 O fun S hE H=>zN (zh (⟨trivial,_,(z0 (ws:=[_]) H O .h1 O zU),?_⟩))))))))))
 rw [show (0+es.length)=es.length by omega]
 exact k _ _ _ H.qx (H.new1 .h) ⟨_,H.get .h,by simpa using hn6,hcl6,by simpa using hct6,endRows_two⟩
theorem ct91 (hs:Sl S0 2 a (zS es)) (hcp:es.length≤cap) (hl:es.length≤6) (k:∀ (a1:Option Addr) (cap1:Nat) S',Ext [] S0 S'→(Sl S' 2 a1 (zS (putE es e)))→((putE es e).length≤cap1)→(Org S0 a a1)→((a1=a∧cap1=cap∧putE es e=es)∨∃ b,a1=some ⟨b,0,none⟩∧S0 b=none∧OwnB S' b 31 2 cap1 (zS (putE es e)))→K (.tuple #[.agg #[.slice a1 (putE es e).length cap1],int (putP es e)]) S') :
  zC 91 #[.agg #[.slice a es.length cap],e.v] S0 K:=by
 refine zGh (sf:=s91) Tryz.func91 fun H=>zR (zBx H O O fun b2 S hb2 hE H=>zBx H O O fun b3 S hb3 hE H=>zAl H O fun b4 S hb4 hE H=>zj O (vA (zLn (vs:=[_]) H O .h2 O (zLn (vs:=[_,_]) H O .h1 O (zCl O (ct138 (hs.mono H.qx) hcp (by omega) fun S hE =>?_))))))
 replace H:=H.call hE
 refine zj O (zN (vz (zj O (za (W_gtr O O fun t11 h11=>zN ?_)))))
 rcases t11 with _|_
 ·replace h11:=bF h11
  have hm:e∉es:=fun hm=>by unfold portE at h11;rw [if_pos hm] at h11;omega
  refine zn O (zt (ze (vz (vt O (zL1 H O .h2 O (zLl O (za (W_eqI O O fun t17 h17=>zN ?_))))))))
  rcases t17 with _|_
  ·replace h17:=bF h17
   refine zn O (zt (ze (zB (z9 [] (zLf 1 O O O (vk 2 O O (fun S' hS'=>zG fun K hK=>zF O (zH (hS' O) (by simp) (H.cell .h2 O)) hK) (vk 4 O O (fun S' hS'=>zG fun K hK=>zV O (zK (hS' O) (by simp) (H.cells (vs:=[_,_]) .h1 O)) hK) (wpD_two 0 5 (by kernel_rfl) O O O O ?_ ?_))))))))
   ·skip
    refine zu (z_ (cs:=[]) H O O fun b19 S hb19 hE H=>⟨fun _=>hE.up.ext,wpD_two 3 5 (by kernel_rfl) O O O O ?_ ?_⟩)
    ·skip
     refine zu (W_appendZ (new:=(zS es).flatten) H O O .h (Src.sl (hs.mono H.qx) endRows_two (by simp)) endRows_one (endRows_flat_len es) (by decide) (by decide) (by omega) O fun b22 cap22 cs22 S hb22 H hE hn22 hcl22 hct22=>⟨fun _=>hE.up.ext,zA 5 (by kernel_rfl) O O (zu (z_ (cs:=[_,_]) H O O fun b24 S hb24 hE H=>⟨fun _=>hE.up.ext,zA 6 (by kernel_rfl) O O (zu (W_append H O O .h1 hcl22 hn22 (Src.own H .h O) (by simp [oneCell]) O (by decide) (by omega) O fun b25 cap25 cs25 S hb25 H hE hn25 hcl25 hct25=>zLd (zLf 7 O O O (zA 8 (by kernel_rfl) O O (zu (zSt H O O O .h4 O fun S hE H=>zLd (zY (ze (zB (z9 [b4] (vk 0 O O (fun S' hS'=>zG fun K hK=>zV O (zK (hS' O) (nin1 (by rintro rfl;exact absurd H.nodup (by simp))) (H.cells (vs:=[_]) .h4 O)) hK) (zLf 1 O O O (vk 2 O O (fun S' hS'=>zG fun K hK=>zF O (zH (hS' O) (nin1 (by rintro rfl;exact absurd H.nodup (by simp))) (H.cell .h4 O)) hK) (vO 3 O O (fun _ _ hK=>W_lenL O hK) (vO 4 O O (fun _ _ hK=>W_add O O (by omega) (by omega) hK) (vO 5 O O (fun _ _ hK=>W_sub O O (by omega) (by omega) hK) (zA 6 (by kernel_rfl) O O (zu (zSt H O O O .h2 O fun S hE H=>⟨fun _=>hE.ext,vJ 7 O O O (zY (ze (zh ?_)))⟩)))))))))))))))))))⟩))⟩)
     refine ⟨trivial,_,(z0 (ws:=[_]) H O .h2 O (zW O zU)),?_⟩
     obtain ⟨p1,p2⟩:=putE_new hm (show ¬ 6≤es.length by omega)
     rw [p1,p2] at k
     rw [show (0+es.length+1)=(es++[e]).length by simp,show (500:Int)+((es++[e]).length:Nat)-1=500+es.length by simp;omega]
     exact k _ _ _ H.qx (sl_put H .h hct22 hct25) (by simpa using hn25) (.new (H.new1 .h)) (.inr ⟨_,rfl,H.new1 .h,own_put H .h hct22 hct25 (by simpa using hn25) hcl25⟩)
    ·skip
     refine zu (z_ (cs:=[_,_]) H O O fun b24 S hb24 hE H=>⟨fun _=>hE.up.ext,zA 3 (by kernel_rfl) O O (zu (W_appendZ (new:=(zS es).flatten) H O O .h1 (Src.sl (hs.mono H.qx) endRows_two (by simp)) endRows_one (endRows_flat_len es) (by decide) (by decide) (by omega) O fun b22 cap22 cs22 S hb22 H hE hn22 hcl22 hct22=>⟨fun _=>hE.up.ext,zA 6 (by kernel_rfl) O O (zu (W_append H O O .h hcl22 hn22 (Src.own H .h1 O) (by simp [oneCell]) O (by decide) (by omega) O fun b25 cap25 cs25 S hb25 H hE hn25 hcl25 hct25=>zLd (zLf 7 O O O (zA 8 (by kernel_rfl) O O (zu (zSt H O O O .h4 O fun S hE H=>zLd (zY (ze (zB (z9 [b4] (vk 0 O O (fun S' hS'=>zG fun K hK=>zV O (zK (hS' O) (nin1 (by rintro rfl;exact absurd H.nodup (by simp))) (H.cells (vs:=[_]) .h4 O)) hK) (zLf 1 O O O (vk 2 O O (fun S' hS'=>zG fun K hK=>zF O (zH (hS' O) (nin1 (by rintro rfl;exact absurd H.nodup (by simp))) (H.cell .h4 O)) hK) (vO 3 O O (fun _ _ hK=>W_lenL O hK) (vO 4 O O (fun _ _ hK=>W_add O O (by omega) (by omega) hK) (vO 5 O O (fun _ _ hK=>W_sub O O (by omega) (by omega) hK) (zA 6 (by kernel_rfl) O O (zu (zSt H O O O .h2 O fun S hE H=>⟨fun _=>hE.ext,vJ 7 O O O (zY (ze (zh ?_)))⟩)))))))))))))))))))⟩))⟩)
     refine ⟨trivial,_,(z0 (ws:=[_]) H O .h2 O (zW O zU)),?_⟩
     obtain ⟨p1,p2⟩:=putE_new hm (show ¬ 6≤es.length by omega)
     rw [p1,p2] at k
     rw [show (0+es.length+1)=(es++[e]).length by simp,show (500:Int)+((es++[e]).length:Nat)-1=500+es.length by simp;omega]
     exact k _ _ _ H.qx (sl_put H .h hct22 hct25) (by simpa using hn25) (.new (H.new1 .h)) (.inr ⟨_,rfl,H.new1 .h,own_put H .h hct22 hct25 (by simpa using hn25) hcl25⟩)
   ·skip
    refine zu (z_ (cs:=[_,_]) H O O fun b24 S hb24 hE H=>⟨fun _=>hE.up.ext,zA 0 (by kernel_rfl) O O (zu (z_ (cs:=[]) H O O fun b19 S hb19 hE H=>⟨fun _=>hE.up.ext,zA 3 (by kernel_rfl) O O (zu (W_appendZ (new:=(zS es).flatten) H O O .h (Src.sl (hs.mono H.qx) endRows_two (by simp)) endRows_one (endRows_flat_len es) (by decide) (by decide) (by omega) O fun b22 cap22 cs22 S hb22 H hE hn22 hcl22 hct22=>⟨fun _=>hE.up.ext,zA 6 (by kernel_rfl) O O (zu (W_append H O O .h hcl22 hn22 (Src.own H .h1 O) (by simp [oneCell]) O (by decide) (by omega) O fun b25 cap25 cs25 S hb25 H hE hn25 hcl25 hct25=>zLd (zLf 7 O O O (zA 8 (by kernel_rfl) O O (zu (zSt H O O O .h4 O fun S hE H=>zLd (zY (ze (zB (z9 [b4] (vk 0 O O (fun S' hS'=>zG fun K hK=>zV O (zK (hS' O) (nin1 (by rintro rfl;exact absurd H.nodup (by simp))) (H.cells (vs:=[_]) .h4 O)) hK) (zLf 1 O O O (vk 2 O O (fun S' hS'=>zG fun K hK=>zF O (zH (hS' O) (nin1 (by rintro rfl;exact absurd H.nodup (by simp))) (H.cell .h4 O)) hK) (vO 3 O O (fun _ _ hK=>W_lenL O hK) (vO 4 O O (fun _ _ hK=>W_add O O (by omega) (by omega) hK) (vO 5 O O (fun _ _ hK=>W_sub O O (by omega) (by omega) hK) (zA 6 (by kernel_rfl) O O (zu (zSt H O O O .h2 O fun S hE H=>⟨fun _=>hE.ext,vJ 7 O O O ?_⟩)))))))))))))))))))⟩))⟩))⟩)
    refine zY (ze (zh (⟨trivial,_,(z0 (ws:=[_]) H O .h2 O (zW O zU)),?_⟩)))
    obtain ⟨p1,p2⟩:=putE_new hm (show ¬ 6≤es.length by omega)
    rw [p1,p2] at k
    rw [show (0+es.length+1)=(es++[e]).length by simp,show (500:Int)+((es++[e]).length:Nat)-1=500+es.length by simp;omega]
    exact k _ _ _ H.qx (sl_put H .h hct22 hct25) (by simpa using hn25) (.new (H.new1 .h)) (.inr ⟨_,rfl,H.new1 .h,own_put H .h hct22 hct25 (by simpa using hn25) hcl25⟩)
  ·replace h17:=bT h17
   refine zr O (zR (zLn (vs:=[_]) H O .h2 O (zSs H O O O .h O fun S hE H=>zj O (zN (zh (zv (⟨trivial,_,(z0 (ws:=[_]) H O .h O (zW O zU)),?_⟩)))))))
   (obtain ⟨p1,p2⟩:=putE_full hm (show 6≤es.length by omega);rw [p1,p2] at k;exact k _ _ _ H.qx (hs.mono H.qx) hcp (.same _ _) (.inl ⟨rfl,rfl,rfl⟩))
 ·replace h11:=bT h11
  have hm:e∈es:=Classical.byContradiction fun hn=>by unfold portE at h11;rw [if_neg hn] at h11;omega
  obtain ⟨p1,p2⟩:=putE_mem hm
  refine zr O (zR (zLn (vs:=[_]) H O .h2 O (zj O (zSs H O O O .h O fun S hE H=>zj O (zN (zh (zv (⟨trivial,_,(z0 (ws:=[_]) H O .h O (zW O zU)),?_⟩))))))))
  (rw [p1,p2] at k;exact k _ _ _ H.qx (hs.mono H.qx) hcp (.same _ _) (.inl ⟨rfl,rfl,rfl⟩))
theorem ct57 (hs:Sl S0 2 a (zS es)) (hcp:es.length≤cap) (hl:es.length≤1099511627776) (k:∀ (t:Bool) S',Ext [] S0 S'→(t=true↔TabP es)→K (.bool t) S') :
  zC 57 #[.agg #[.slice a es.length cap]] S0 K:=by
 refine zGh (sf:=s57) Tryz.func57 fun H=>zR (zBx H O O fun b1 S hb1 hE H=>zj O (zN (vz (vt O (zL1 H O .h O (zLl O (za (W_gtr O O fun t7 h7=>zN ?_))))))))
 rcases t7 with _|_
 ·replace h7:=bF h7
  refine zn O (zt (ze (vz (zj O (zN (zE ?_))))))
  refine vg (fun E S m_=>∃ (i:Nat),E=Env.lst [(1,ptr b1 0),(3,int i)]∧Loc [] S0 S [(b1,Cs [.slice a es.length cap] 26)]∧(i≤es.length)∧(∀ e∈es.take i,e.inn)∧((es.take i).Nodup)∧m_=es.length-i) ?_ ?_
  ·skip
   refine ⟨_,_,?le,0,O,H,(by omega),(by simp),(by simp),O⟩
   case le=>exact Env.qle ⟨O,O,⟨⟩⟩
  ·skip
   rintro _ S _ ⟨i,rfl,H,hi,hp,hnd,rfl⟩
   refine vz (zj O (vt O (zL1 H O .h O (zLl O (za (vq O O fun t12 h12=>zN ?_))))))
   rcases t12 with _|_
   ·replace h12:=bF h12
    refine zn O (vf (zM (zM (vn (ze (zR (zj O (zN (zh (zP O ?_))))))))))
    rw [show i=es.length by omega,List.take_length] at hp hnd
    exact k _ _ H.qx ⟨fun _=>TabP_of (by omega) hp hnd,fun _=>rfl⟩
   ·replace h12:=bT h12
    obtain ⟨x,hx⟩:∃ x,es[i]? = some x:=⟨es[i]'(by omega),by simp⟩
    obtain ⟨b,off,rfl,hc⟩  :=hs.row i _ (endRows_at hx)
    refine zr O (zt (ze (zB (zE (zB (z9 [] (zLf 0 O O O (vk 1 O O (fun S' hS'=>zG fun K hK=>zF O (zH (hS' O) (by simp) (H.cell .h O)) hK) (vJ 2 O O O (vO 3 O O (fun _ _ hK=>vl O O (by omega) (by omega) hK) (vk 4 O O (fun S' hS'=>zG fun K hK=>zV (vs:=[_,_]) O (zK (hS' O) (by simp) (H.qx.cells hc)) hK) (zA 5 (by kernel_rfl) O O (zu (zT O (ct90  fun t20 S hE h20=>?_)))))))))))))))
    replace H:=H.call hE
    refine ⟨fun _=>hE.up.ext,vO 6 O O (fun _ _ hK=>W_not O hK) (vJ 7 O O O ?_)⟩
    rcases t20 with _|_
    ·replace h20:=bF h20
     refine vk 8 O O (fun S' _=>vo O (by decide)) (vk 9 O O (fun S' _=>vo O (by decide)) (vk 10 O O (fun S' _=>vo O (by decide)) (vk 11 O O (fun S' _=>vo O (by decide)) (vk 12 O O (fun S' _=>vo O (by decide)) (vk 13 O O (fun S' _=>vo O (by decide)) (vk 14 O O (fun S' _=>vo O (by decide)) (vk 15 O O (fun S' _=>vo O (by decide)) (vk 16 O O (fun S' _=>vo O (by decide)) (vk 17 O O (fun S' _=>vo O (by decide)) (zA 18 (by kernel_rfl) O O (step_no O (by decide) (⟨fun _=>fun _ _ _ h=>h,vk 19 O O (fun S' _=>vo O (by decide)) (vO 20 O O (fun _ _ hK=>W_pick O O O O hK) (zY (ze (zr O (zR (zj O (zN (zh (vd (zv (zv (vd (zv (zP O ?_))))))))))))))⟩))))))))))))
     exact k _ _ H.qx ⟨nofun,fun h=>absurd h (TabP_no1 hx h20)⟩
    ·replace h20:=bT h20
     refine vk 8 O O (fun S' _=>vi O fun K hK=>zy O hK) (vk 9 O O (fun S' hS'=>vi O fun K hK=>zF O (zH (hS' O) (by simp) (H.cell .h O)) hK) (vk 10 O O (fun S' _=>vi O fun K hK=>vB O hK) (vk 11 O O (fun S' _=>vi O fun K hK=>W_slTake (l:=es) O O (by omega) (by omega) hcp hK) (vk 12 O O (fun S' _=>vi O fun K hK=>vL (cs:=[_]) O O hK) (vk 13 O O (fun S' _=>vi O fun K hK=>zy O hK) (vk 14 O O (fun S' hS'=>vi O fun K hK=>zF O (zH (hS' O) (by simp) (H.cell .h O)) hK) (vk 15 O O (fun S' _=>vi O fun K hK=>vB O hK) (vk 16 O O (fun S' _=>vi O fun K hK=>vl O O (by omega) (by omega) hK) (vk 17 O O (fun S' hS'=>vi O fun K hK=>zV (vs:=[_,_]) O (zK (hS' O) (by simp) (H.qx.cells hc)) hK) (zA 18 (by kernel_rfl) O O (step_yes O (zT O (ct136 (es:=es.take i) ((hs.mono H.qx).takeE i) (by simp;omega) (by simp;omega) fun S hE =>?_)))))))))))))
     replace H:=H.call hE
     refine zLd (zCm 19 O O (fun S' _=>vi O fun K hK=>W_bin O O O hK) fun t34 h34=>vO 20 O O (fun _ _ hK=>W_pick O O O O hK) (zY (ze ?_)))
     rcases t34 with _|_
     ·replace h34:=bF h34
      refine zn O (zt (vc (ze (zL (zj O (zAd O O (zj O (zN ?_))))))))
      refine ⟨_,_,?lt,?le,(i+1),O,H,(by omega),(mem_take_succ hx hp h20),(nodup_take_succ hx hnd h34),O⟩
      case lt=>omega
      case le=>exact Env.qle ⟨O,O,⟨⟩⟩
     ·replace h34:=bT h34
      refine zr O (zR (zj O (zN (zh (vd (zv (zv (vd (zv (zP O ?_))))))))))
      exact k _ _ H.qx ⟨nofun,fun h=>absurd h (TabP_no2 hx h34)⟩
 ·replace h7:=bT h7
  refine zr O (zR (zj O (zN (zh (zv (zP O ?_))))))
  exact k _ _ H.qx ⟨nofun,fun h=>absurd h.1 (by omega)⟩
end
section
variable {S0:St} {K:Value→St→Prop}
variable {l:Bs} {es:List End} {cap:Nat} {a:Option Addr}
theorem ct226 (hl:l.length≤1099511627776) (k:∀ (e:End) (t:Bool) S',Ext [] S0 S'→(t=true→says l=some e)→(t=false→says l=none∧e=⟨0,0⟩)→K (.tuple #[e.v,.bool t]) S') :
  zC 226 #[str l] S0 K:=by
 refine zGh (sf:=s226) Tryz.func226 fun H=>zR (zAl H O fun b2 S hb2 hE H=>zj O (zN (vz (zj O (za (vG O (za (vq O O fun t8 h8=>zj O ?_))))))))
 rcases t8 with _|_
 ·replace h8:=bF h8
  refine zi O (vB O (zi O (W_slShi O O (by omega) (by omega) (zi O (W_neS O O fun t12 h12=>vp O O O O (zN ?_))))))
  rcases t12 with _|_
  ·replace h12:=bF h12
   have hsd:l.take 5=PORT:=Classical.not_not.1 h12
   refine zn O (zt (ze (zR (zj O (za (W_slSlo O O (by omega) (by omega) (zCl O (ct235 (by simp;omega) fun a18 p18 t18 S hE hy18 hn18=>?_))))))))
   replace H:=H.call hE
   have h18:t18=true↔t18=true:=Iff.rfl
   refine zj O (zEx O O (zEx O O (zAl H O fun b4 S hb4 hE H=>zSs H O O O .h O fun S hE H=>zj O (zN (vz (zj O (zNt O (zj O ?_))))))))
   rcases t18 with _|_
   ·replace h18:=bF h18
    refine zJ O (zJ O (zJ O (vp O O O O (zN (zr O (zR (za (vL (cs:=[_,_]) O O (zSs H O O O .h1 O fun S hE H=>zj O (zN (zh (zv (⟨trivial,_,(z0 (ws:=[_,_]) H O .h1 O (zW O zU)),?_⟩)))))))))))))
    exact k ⟨0,0⟩ false _ H.qx nofun (fun _=>⟨says_no2 hsd (hn18 rfl).2.2,rfl⟩)
   ·replace h18:=bT h18
    refine zi O (W_loadN (vs:=[_,_]) H O .h O (zi O (zT O (ct90  fun t25 S hE h25=>?_))))
    replace H:=H.call hE
    refine zi O (W_not O (vp O O O O (zN ?_)))
    rcases t25 with _|_
    ·replace h25:=bF h25
     refine zr O (zR (za (vL (cs:=[_,_]) O O (zSs H O O O .h1 O fun S hE H=>zj O (zN (zh (zv (⟨trivial,_,(z0 (ws:=[_,_]) H O .h1 O (zW O zU)),?_⟩))))))))
     exact k ⟨0,0⟩ false _ H.qx nofun (fun _=>⟨says_no1 hsd (hy18 rfl) h25,rfl⟩)
    ·replace h25:=bT h25
     refine zn O (zt (ze (zR (zLn (vs:=[_,_]) H O .h O (zSs H O O O .h1 O fun S hE H=>zj O (zN (zh (⟨trivial,_,(z0 (ws:=[_,_]) H O .h1 O (zW O zU)),?_⟩))))))))
     exact k ⟨a18,p18⟩ true _ H.qx (fun _=>says_yes hsd (hy18 rfl) h25) nofun
  ·replace h12:=bT h12
   have hsd:l.take 5≠PORT:=h12
   refine zr O (zR (za (vL (cs:=[_,_]) O O (zSs H O O O .h O fun S hE H=>zj O (zN (zh (zv (⟨trivial,_,(z0 (ws:=[_,_]) H O .h O (zW O zU)),?_⟩))))))))
   exact k ⟨0,0⟩ false _ H.qx nofun (fun _=>⟨says_no3 hsd,rfl⟩)
 ·replace h8:=bT h8
  have hsd:=take5_short (l:=l) (by omega)
  refine zJ O (zJ O (zJ O (vp O O O O (zN (zr O (zR (za (vL (cs:=[_,_]) O O (zSs H O O O .h O fun S hE H=>zj O (zN (zh (zv (⟨trivial,_,(z0 (ws:=[_,_]) H O .h O (zW O zU)),?_⟩)))))))))))))
  exact k ⟨0,0⟩ false _ H.qx nofun (fun _=>⟨says_no3 hsd,rfl⟩)
theorem ct224 (hl:l.length≤1099511627776) (k:∀ (p:Int) (t:Bool) S',Ext [] S0 S'→(t=true→boxP l=some p)→(t=false→boxP l=none∧p=0)→K (.tuple #[int p,.bool t]) S') :
  zC 224 #[str l] S0 K:=by
 refine zGh (sf:=s224) Tryz.func224 fun H=>zR (zj O (zj O (zN (vz (zj O (za (vG O (za (vq O O fun t8 h8=>zj O ?_)))))))))
 rcases t8 with _|_
 ·replace h8:=bF h8
  refine zi O (vB O (zi O (W_slShi O O (by omega) (by omega) (zi O (W_neS O O fun t12 h12=>vp O O O O (zN ?_))))))
  rcases t12 with _|_
  ·replace h12:=bF h12
   have hsd:l.take 5=PORT:=Classical.not_not.1 h12
   refine zn O (zt (ze (zR (zj O (za (W_slSlo O O (by omega) (by omega) (zCl O (ct235 (by simp;omega) fun a17 p17 t17 S hE hy17 hn17=>?_))))))))
   replace H:=H.call hE
   have h17:t17=true↔t17=true:=Iff.rfl
   refine zj O (zEx O O (zEx O O (zAl H O fun b4 S hb4 hE H=>zSs H O O O .h O fun S hE H=>zj O (zN (vz (zj O (zNt O (zj O ?_))))))))
   rcases t17 with _|_
   ·replace h17:=bF h17
    refine zJ O (zJ O (zJ O (vp O O O O (zN (zr O (zR (zj O (zj O (zN (zh (zv (⟨trivial,_,(zW O (zW O zU)),?_⟩))))))))))))
    exact k 0 false _ H.qx nofun (fun _=>⟨box_no2 hsd (hn17 rfl).2.2,rfl⟩)
   ·replace h17:=bT h17
    refine zi O (zy O (zi O (vh H O .h O (zi O (W_neI O O fun t25 h25=>vp O O O O (zN ?_))))))
    rcases t25 with _|_
    ·replace h25:=bF h25
     refine zn O (zt (ze (zR (vt O (zL1 H O .h O (zj O (zj O (zN (zh (⟨trivial,_,(zW O (zW O zU)),?_⟩))))))))))
     exact k p17 true _ H.qx (fun _=>box_yes hsd (hy17 rfl) (Classical.not_not.1 h25)) nofun
    ·replace h25:=bT h25
     refine zr O (zR (zj O (zj O (zN (zh (zv (⟨trivial,_,(zW O (zW O zU)),?_⟩)))))))
     exact k 0 false _ H.qx nofun (fun _=>⟨box_no1 hsd (hy17 rfl) h25,rfl⟩)
  ·replace h12:=bT h12
   have hsd:l.take 5≠PORT:=h12
   refine zr O (zR (zj O (zj O (zN (zh (zv (⟨trivial,_,(zW O (zW O zU)),?_⟩)))))))
   exact k 0 false _ H.qx nofun (fun _=>⟨box_no3 hsd,rfl⟩)
 ·replace h8:=bT h8
  have hsd:=take5_short (l:=l) (by omega)
  refine zJ O (zJ O (zJ O (vp O O O O (zN (zr O (zR (zj O (zj O (zN (zh (zv (⟨trivial,_,(zW O (zW O zU)),?_⟩))))))))))))
  exact k 0 false _ H.qx nofun (fun _=>⟨box_no3 hsd,rfl⟩)
theorem ct225 {e:End}  (k:∀  S',Ext [] S0 S'→K (str e.line) S') :
  zC 225 #[e.v] S0 K:=by
 refine zGh (sf:=s225) Tryz.func225 fun H=>zR (zBx H O O fun b1 S hb1 hE H=>zj O (zN (vz (zLn (vs:=[_,_]) H O .h O (zCl O (ct84  fun t4 S hE h4=>?_))))))
 replace H:=H.call hE
 refine zNt O (zN ?_)
 rcases t4 with _|_
 ·replace h4:=bF h4
  refine zr O (zR (zj O (zN (zh (zv (zP O ?_))))))
  (rw [End.line_eq,if_neg (show ¬ e.ok from h4)] at k;exact k _ H.qx)
 ·replace h4:=bT h4
  refine zn O (zt (ze (zR (zLn (vs:=[_,_]) H O .h O (zCl O (ct236  fun S hE =>?_))))))
  replace H:=H.call hE
  have hle:=eText_len e.a e.p
  refine za (W_catS O O (by simp;omega) (zj O (zN (zh (zP O ?_)))))
  (rw [End.line_eq,if_pos (show e.ok from h4)] at k;exact k _ H.qx)
theorem ct22 (hl:l.length≤1099511627776) (k:∀ (t:Bool) S',Ext [] S0 S'→(t=true↔StrP l)→K (.bool t) S') :
  zC 22 #[str l] S0 K:=by
 refine zGh (sf:=s22) Tryz.func22 fun H=>zR (zj O (zN (vz (zj O (za (vG O (za (W_gtr O O fun t8 h8=>zN ?_))))))))
 rcases t8 with _|_
 ·replace h8:=bF h8
  refine zn O (zt (ze (zR (zj O (zCl O (ct72 (by omega) fun b11 cap11 S hE hb11 hO11=>?_))))))
  obtain ⟨cs11,ho11,hn11,hcl11,hct11,_⟩:=hO11
  replace H:=H.adopt hE hb11 ho11
  have hnl:=strLines_len l
  have hrl:(zD l).2.length≤l.length:=spl_rest_len 59 l
  have hal:=lines_le l
  refine zj O (zEx O O (zEx O O (zj O (zj O (zN (vz (zj O (zN (zE ?_)))))))))
  refine vg (fun E S m_=>∃ (i:Nat),E=Env.lst [(3,sl b11 0 (zD l).1.length cap11),(4,str (zD l).2),(5,int i)]∧Loc [] S0 S [(b11,Cs cs11 9)]∧(i≤(zD l).1.length)∧(∀ x∈(zD l).1.take i,LinP x)∧m_=(zD l).1.length-i) ?_ ?_
  ·skip
   refine ⟨_,_,?le,0,O,H,(by omega),(by simp),O⟩
   case le=>exact Env.qle ⟨O,O,O,⟨⟩⟩
  ·skip
   rintro _ S _ ⟨i,rfl,H,hi,hp,rfl⟩
   refine vz (zj O (zj O (zLl O (za (vq O O fun t17 h17=>zN ?_)))))
   rcases t17 with _|_
   ·replace h17:=bF h17
    refine zn O (vf (zM (zM (vn (ze (zR (zj O (zCl O (ct73 (by omega) fun t27 S hE h27=>?_)))))))))
    replace H:=H.call hE
    refine zj O (zN (zh (zP O ?_)))
    rw [show i=(zD l).1.length by omega,List.take_length] at hp
    exact k _ _ H.qx (h27.trans ⟨fun h=>⟨hp,h,by omega⟩,fun h=>h.2.1⟩)
   ·replace h17:=bT h17
    obtain ⟨x,hx⟩:∃ x,(zD l).1[i]? = some x:=⟨(zD l).1[i]'(by omega),by simp⟩
    have hx11:=str_at hct11 hx
    refine zr O (zt (ze (zB (zE (zR (zj O (zj O (zIa O O (zL1 H O .h hx11 (zCl O (ct73 (by have:=hal x (List.mem_of_getElem? hx);omega) fun t24 S hE h24=>?_)))))))))))
    replace H:=H.call hE
    refine zNt O (zN ?_)
    rcases t24 with _|_
    ·replace h24:=bF h24
     refine zr O (zR (zj O (zN (zh (vd (zv (zv (vd (zv (zP O ?_))))))))))
     exact k _ _ H.qx ⟨nofun,fun h=>absurd (h.1 x (List.mem_of_getElem? hx)) h24⟩
    ·replace h24:=bT h24
     refine zn O (zt (vc (ze (zL (zj O (zAd O O (zj O (zN ?_))))))))
     refine ⟨_,_,?lt,?le,(i+1),O,H,(by omega),(mem_take_succ hx hp h24),O⟩
     case lt=>omega
     case le=>exact Env.qle ⟨O,O,O,⟨⟩⟩
 ·replace h8:=bT h8
  refine zr O (zR (zj O (zN (zh (zv (zP O ?_))))))
  exact k _ _ H.qx ⟨nofun,fun h=>by have:=h.2.2;omega⟩
theorem ct216 (hs:Sl S0 2 a (zS es)) (hcp:es.length≤cap) (hl:es.length≤6) (hll:l.length≤1099511627776) (k:∀ (a1:Option Addr) (cap1:Nat) S',Ext [] S0 S'→(Sl S' 2 a1 (zS (vE es l).1))→((vE es l).1.length≤cap1)→(Org S0 a a1)→K (.tuple #[.agg #[.slice a1 (vE es l).1.length cap1],str (vE es l).2]) S') :
  zC 216 #[.agg #[.slice a es.length cap],str l] S0 K:=by
 refine zGh (sf:=s216) Tryz.func216 fun H=>zR (zBx H O O fun b2 S hb2 hE H=>zAl H O fun b4 S hb4 hE H=>zj O (vA (zj O (zCl O (ct226 (by omega) fun e12 t12 S hE hy12 hn12=>?_)))))
 replace H:=H.call hE
 have h12:t12=true↔t12=true:=Iff.rfl
 refine zj O (zEx O O (zEx O O (zAl H O fun b6 S hb6 hE H=>zSs H O O O .h O fun S hE H=>zj O (zN (vz (zj O (zNt O (zN ?_))))))))
 rcases t12 with _|_
 ·replace h12:=bF h12
  refine zr O (zR (zLn (vs:=[_]) H O .h2 O (zj O (zSs H O O O .h1 O fun S hE H=>zj O (zN (zh (zv (⟨trivial,_,(z0 (ws:=[_]) H O .h1 O (zW O zU)),?_⟩))))))))
  (rw [lineOut_none (hn12 rfl).1] at k;exact k _ _ _ H.qx (hs.mono H.qx) hcp (.same _ _))
 ·replace h12:=bT h12
  refine zn O (zt (ze (zR (zLn (vs:=[_]) H O .h2 O (zLn (vs:=[_,_]) H O .h O (zCl O (ct91 (hs.mono H.qx) hcp (by omega) fun a22 cap22 S hE hs22 hc22 ho22 hw22=>?_)))))))
  have hs22_b4:=ho22.ne (hs.ne (H.new1 .h1)) (H.get .h1)
  replace ho22:=ho22.back H.qx
  replace H:=H.call hE
  refine zj O (zEx O O (zEx O O (zAl H O fun b8 S hb8 hE H=>?_)))
  have hs22_b8:=hs22.ne hb8
  replace hs22:=hs22.mono hE
  refine zSs H O O O .h O fun S hE H=>?_
  replace hs22:=hs22.qy hE hs22_b8
  refine zj O (zN (vz (zj O (za (W_eqI O O fun t26 h26=>zN ?_)))))
  rcases t26 with _|_
  ·replace h26:=bF h26
   refine zn O (zt (ze (zB (z9 [] (vk 0 O O (fun S' hS'=>zG fun K hK=>zV O (zK (hS' O) (by simp) (H.cells (vs:=[_]) .h O)) hK) (vJ 1 O O O (vO 2 O O (fun _ _ hK=>vL (cs:=[_,_]) O O hK) (zA 3 (by kernel_rfl) O O (zu (zT O (ct225 (e:=⟨50,putP es e12⟩) fun S hE =>?_)))))))))))
   replace H:=H.call hE
   replace hs22:=hs22.mono hE
   refine ⟨fun _=>hE.up.ext,zA 4 (by kernel_rfl) O O (zu (zSt H O O O .h2 O fun S hE H=>?_))⟩
   replace hs22:=hs22.qy hE hs22_b4
   refine zLd (vJ 5 O O O (zY (ze (zh (⟨trivial,_,(z0 (ws:=[_]) H O .h2 O (zW O zU)),?_⟩)))))
   (rw [lineOut_port (hy12 rfl) h26] at k;exact k _ _ _ H.qx hs22 hc22 ho22)
  ·replace h26:=bT h26
   refine zr O (zR (zLn (vs:=[_]) H O .h O (zSs H O O O .h2 O fun S hE H=>?_)))
   replace hs22:=hs22.qy hE hs22_b4
   refine zj O (zN (zh (zv (⟨trivial,_,(z0 (ws:=[_]) H O .h2 O (zW O zU)),?_⟩))))
   (rw [lineOut_full (hy12 rfl) h26] at k;exact k _ _ _ H.qx hs22 hc22 ho22)
theorem ct208 (hs:Sl S0 2 a (zS es)) (hcp:es.length≤cap) (hl:es.length≤1099511627776) (hll:l.length≤1099511627776) (k:∀  S',Ext [] S0 S'→K (str (lineIn es l)) S') :
  zC 208 #[.agg #[.slice a es.length cap],str l] S0 K:=by
 refine zGh (sf:=s208) Tryz.func208 fun H=>zR (zBx H O O fun b2 S hb2 hE H=>zj O (vA (zj O (zCl O (ct224 (by omega) fun p11 t11 S hE hy11 hn11=>?_)))))
 replace H:=H.call hE
 have h11:t11=true↔t11=true:=Iff.rfl
 refine zj O (zEx O O (zEx O O (zj O (zj O (zN (vz (zj O (zNt O (zN ?_)))))))))
 rcases t11 with _|_
 ·replace h11:=bF h11
  refine zr O (zR (zj O (zj O (zN (zh (zv (zP O ?_)))))))
  (rw [lineIn_none (hn11 rfl).1] at k;exact k _ H.qx)
 ·replace h11:=bT h11
  refine zn O (zt (ze (zR (zLn (vs:=[_]) H O .h O (zj O (zCl O (ct80 (hs.mono H.qx) hcp (by omega) fun e20 t20 S hE hy20 hn20=>?_)))))))
  replace H:=H.call hE
  have h20:t20=true↔t20=true:=Iff.rfl
  refine zj O (zEx O O (zEx O O (zAl H O fun b7 S hb7 hE H=>zSs H O O O .h O fun S hE H=>zj O (zN (vz (zj O (zNt O (zN ?_))))))))
  rcases t20 with _|_
  ·replace h20:=bF h20
   refine zr O (zR (zj O (zj O (zN (zh (zv (zP O ?_)))))))
   (rw [lineIn_no (hy11 rfl) (hn20 rfl).1] at k;exact k _ H.qx)
  ·replace h20:=bT h20
   refine zn O (zt (ze (zR (zLn (vs:=[_,_]) H O .h O (zCl O (ct225  fun S hE =>?_))))))
   replace H:=H.call hE
   refine zj O (zN (zh (zP O ?_)))
   (rw [lineIn_yes (hy11 rfl) (hy20 rfl)] at k;exact k _ H.qx)
theorem ct175 (hs:Sl S0 2 a (zS es)) (hcp:es.length≤cap) (hl:es.length≤6) (hll:l.length≤1048576) (k:∀ (a1:Option Addr) (cap1:Nat) S',Ext [] S0 S'→(Sl S' 2 a1 (zS (vr es l).1))→((vr es l).1.length≤cap1)→(Org S0 a a1)→((vr es l).2.length≤1099527356416)→K (.tuple #[.agg #[.slice a1 (vr es l).1.length cap1],str (vr es l).2]) S') :
  zC 175 #[.agg #[.slice a es.length cap],str l] S0 K:=by
 refine zGh (sf:=s175) Tryz.func175 fun H=>?_
 have hq:=hs
 refine zR (zBx H O O fun b2 S hb2 hE H=>?_)
 have hq_b2:=hq.ne hb2
 replace hq:=hq.mono hE
 refine zAl H O fun b4 S hb4 hE H=>?_
 have hq_b4:=hq.ne hb4
 replace hq:=hq.mono hE
 refine zj O (vA (zj O (zCl O (ct72 (by omega) fun b14 cap14 S hE hb14 hO14=>?_))))
 obtain ⟨cs14,ho14,hn14,hcl14,hct14,_⟩:=hO14
 replace H:=H.adopt hE hb14 ho14
 have hnl:(zD l).1.length≤l.length:=strLines_len l
 have hal:=lines_le l
 have hlim:=linesOut_len6 (zD l).1 hl
 replace hq:=hq.mono hE
 refine zj O (zEx O O (zEx O O (zj O (zj O (vA (zj O (zN (vz (zj O (zN (zE ?_)))))))))))
 refine vg (fun E S m_=>∃ (i:Nat) (a1:Option Addr) (cap1:Nat) (es1:List End) (tx:Bs),E=Env.lst [(2,ptr b2 0),(4,ptr b4 0),(6,sl b14 0 (zD l).1.length cap14),(8,str tx),(9,int i)]∧Loc [] S0 S [(b14,Cs cs14 9),(b4,Cs [.slice none 0 0] 26),(b2,Cs [.slice a1 es1.length cap1] 26)]∧(i≤(zD l).1.length)∧(linesOut es ((zD l).1.take i)=(es1,tx))∧(Sl S 2 a1 (zS es1))∧(∀ b off,a1=some ⟨b,off,none⟩→b≠b2)∧(∀ b off,a1=some ⟨b,off,none⟩→b≠b4)∧(es1.length≤cap1)∧(Org S0 a a1)∧(tx.length≤i*(l.length+15))∧(es1.length≤6)∧m_=(zD l).1.length-i) ?_ ?_
 ·skip
  refine ⟨_,_,?le,0,a,cap,es,[],O,H,(by omega),O,hq,hq_b2,hq_b4,hcp,(.same _ _),(by simp),hl,O⟩
  case le=>exact Env.qle ⟨O,O,O,O,O,⟨⟩⟩
 ·skip
  rintro _ S _ ⟨i,a1,cap1,es1,tx,rfl,H,hi,hlo,hq,hq_b2,hq_b4,hcp1,ho1,htl,hl1,rfl⟩
  have hes1:es1=es1:=rfl
  refine vz (zj O (zj O (zLl O (za (vq O O fun t20 h20=>zN ?_)))))
  rcases t20 with _|_
  ·replace h20:=bF h20
   refine zn O (vf (zM (zM (vn (ze (zR (zLn (vs:=[_]) H O .h2 O (zj O (zSs H O O O .h1 O fun S hE H=>?_)))))))))
   replace hq:=hq.qy hE hq_b4
   refine zj O (zN (zh (⟨trivial,_,(z0 (ws:=[_]) H O .h1 O (zW O zU)),?_⟩)))
   rw [show i=(zD l).1.length by omega,List.take_length] at hlo
   have hst:vr es l=(es1,tx):=hlo
   have hmb:=mul_bd (i:=i) (n:=l.length) (by omega) hll
   rw [hst] at k
   exact k _ _ _ H.qx hq hcp1 ho1 (by show tx.length≤_;omega)
  ·replace h20:=bT h20
   obtain ⟨x,hx⟩:∃ x,(zD l).1[i]? = some x:=⟨(zD l).1[i]'(by omega),by simp⟩
   have hx14:=str_at hct14 hx
   have hmb:=mul_bd (i:=i) (n:=l.length) (by omega) hll
   refine zr O (zt (ze (zB (zE (zB (z9 [] (vk 0 O O (fun S' hS'=>zG fun K hK=>zV O (zK (hS' O) (by simp) (H.cells (vs:=[_]) .h2 O)) hK) (vJ 1 O O O (vJ 2 O O O (vO 3 O O (fun _ _ hK=>vl O O (by omega) (by omega) hK) (vk 4 O O (fun S' hS'=>zG fun K hK=>zF O (zH (hS' O) (by simp) (H.cell .h hx14)) hK) (wpD_two 5 9 (by kernel_rfl) O O O O ?_ ?_))))))))))))
   ·skip
    refine zu (zT O (ct216 hq hcp1 (by rw [hes1];exact hl1) (by have:=hal x (List.mem_of_getElem? hx);omega) fun a29 cap29 S hE hs29 hc29 ho29=>?_))
    have hs29_b4:=ho29.ne hq_b4 (H.get .h1)
    have hs29_b2:=ho29.ne hq_b2 (H.get .h2)
    replace ho29:=ho1.trans (ho29.back H.qx)
    replace H:=H.call hE
    have hsl:=lineOut_snd_len es1 x
    have hxl:=hal x (List.mem_of_getElem? hx)
    refine zLd (vJ 6 O O O (vO 7 O O (fun _ _ hK=>vj O O hK) (vO 8 O O (fun _ _ hK=>vj O O hK) (zA 9 (by kernel_rfl) O O (zu (W_alloc H O fun b10 S hb10 hE H=>?_))))))
    have hs29_b10:=hs29.ne hb10
    replace hs29:=hs29.mono hE
    refine ⟨fun _=>hE.up.ext,zA 10 (by kernel_rfl) O O (zu (zSt H O O O .h O fun S hE H=>?_))⟩
    replace hs29:=hs29.qy hE hs29_b10
    refine zLd (vJ 11 O O O (zY (ze (zR (zLn (vs:=[_]) H O .h O (zSs H O O O .h3 O fun S hE H=>?_))))))
    replace hs29:=hs29.qy hE hs29_b2
    refine zN (zL (zj O (zj O (za (W_catS O O (by omega) (za (W_catS O O (by simp only [List.length_append,List.length_cons,List.length_nil];omega) (zj O (ve (vc (ze (zL (zj O (zAd O O (zj O (zN ?_))))))))))))))))
    refine ⟨_,_,?lt,?le,(i+1),a29,cap29,(vE es1 x).1,(tx++(vE es1 x).2++[59]),O,(H.sub (.cons _ (.cons_cons _ (.cons_cons _ (.cons_cons _ .slnil))))),(by omega),(linesOut_take hx hlo),hs29,hs29_b2,hs29_b4,hc29,ho29,(by rw [Nat.add_mul];simp only [List.length_append,List.length_cons,List.length_nil];omega),(lineOut_len6 x hl1),O⟩
    case lt=>omega
    case le=>exact Env.qle ⟨O,O,O,O,O,⟨⟩⟩
   ·skip
    refine zu (W_alloc H O fun b10 S hb10 hE H=>?_)
    have hq_b10:=hq.ne hb10
    replace hq:=hq.mono hE
    refine ⟨fun _=>hE.up.ext,zA 5 (by kernel_rfl) O O (zu (zT O (ct216 hq hcp1 (by rw [hes1];exact hl1) (by have:=hal x (List.mem_of_getElem? hx);omega) fun a29 cap29 S hE hs29 hc29 ho29=>?_)))⟩
    have hs29_b10:=ho29.ne hq_b10 (H.get .h)
    have hs29_b4:=ho29.ne hq_b4 (H.get .h2)
    have hs29_b2:=ho29.ne hq_b2 (H.get .h3)
    replace ho29:=ho1.trans (ho29.back H.qx)
    replace H:=H.call hE
    have hsl:=lineOut_snd_len es1 x
    have hxl:=hal x (List.mem_of_getElem? hx)
    refine zLd (vJ 6 O O O (vO 7 O O (fun _ _ hK=>vj O O hK) (vO 8 O O (fun _ _ hK=>vj O O hK) (zA 10 (by kernel_rfl) O O (zu (zSt H O O O .h O fun S hE H=>?_))))))
    replace hs29:=hs29.qy hE hs29_b10
    refine zLd (vJ 11 O O O (zY (ze (zR (zLn (vs:=[_]) H O .h O (zSs H O O O .h3 O fun S hE H=>?_))))))
    replace hs29:=hs29.qy hE hs29_b2
    refine zN (zL (zj O (zj O (za (W_catS O O (by omega) (za (W_catS O O (by simp only [List.length_append,List.length_cons,List.length_nil];omega) (zj O (ve (vc (ze (zL (zj O (zAd O O (zj O (zN ?_))))))))))))))))
    refine ⟨_,_,?lt,?le,(i+1),a29,cap29,(vE es1 x).1,(tx++(vE es1 x).2++[59]),O,(H.sub (.cons _ (.cons_cons _ (.cons_cons _ (.cons_cons _ .slnil))))),(by omega),(linesOut_take hx hlo),hs29,hs29_b2,hs29_b4,hc29,ho29,(by rw [Nat.add_mul];simp only [List.length_append,List.length_cons,List.length_nil];omega),(lineOut_len6 x hl1),O⟩
    case lt=>omega
    case le=>exact Env.qle ⟨O,O,O,O,O,⟨⟩⟩
end
section
variable {S0:St} {K:Value→St→Prop}
variable {e f:End} {rs:List Rule} {cap:Nat} {a:Option Addr} {x:Rule}
theorem ct137  (k:∀ (t:Bool) S',Ext [] S0 S'→(t=true↔RuleP x)→K (.bool t) S') :
  zC 137 #[x.v] S0 K:=by
 refine zGh (sf:=s137) Tryz.func137 fun H=>zR (zBx H O O fun b1 S hb1 hE H=>zj O (vA (vt O (zL1 H O .h O (vt O (zL1 H O .h O (zCl O (ct85  fun t7 S hE h7=>?_))))))))
 replace H:=H.call hE
 refine zj O ?_
 rcases t7 with _|_
 ·replace h7:=bF h7
  refine zJ O (zJ O (zJ O (vp O O O O (zj O (zJ O (zJ O (zJ O (zJ O (zJ O (vp O O O O (zj O (zJ O (zJ O (zJ O (vp O O O O (zj O (zJ O (zJ O (zJ O (zJ O (zJ O (vp O O O O (zj O (zJ O (zJ O (zJ O (vp O O O O (zj O ?_))))))))))))))))))))))))))))
  refine zN (zh (zP O ?_))
  exact k _ _ H.qx (by unfold RuleP;first | (rw [h35];omega) | (simp;omega))
 ·replace h7:=bT h7
  refine zi O (zy O (zi O (vh H O .h O (zi O (W_leq O O fun t11 h11=>vp O O O O (zj O ?_))))))
  rcases t11 with _|_
  ·replace h11:=bF h11
   refine zJ O (zJ O (zJ O (zJ O (zJ O (vp O O O O (zj O (zJ O (zJ O (zJ O (vp O O O O (zj O (zJ O (zJ O (zJ O (zJ O (zJ O (vp O O O O (zj O (zJ O (zJ O (zJ O (vp O O O O (zj O (zN (zh (zP O ?_))))))))))))))))))))))))))
   exact k _ _ H.qx (by unfold RuleP;first | (rw [h35];omega) | (simp;omega))
  ·replace h11:=bT h11
   refine zi O (zy O (zi O (vh H O .h O (zi O (zy O (zi O (vh H O .h O (zi O (zT O (ct85  fun t18 S hE h18=>?_))))))))))
   replace H:=H.call hE
   refine vp O O O O (zj O ?_)
   rcases t18 with _|_
   ·replace h18:=bF h18
    refine zJ O (zJ O (zJ O (vp O O O O (zj O (zJ O (zJ O (zJ O (zJ O (zJ O (vp O O O O (zj O (zJ O (zJ O (zJ O (vp O O O O (zj O (zN (zh (zP O ?_)))))))))))))))))))
    exact k _ _ H.qx (by unfold RuleP;first | (rw [h35];omega) | (simp;omega))
   ·replace h18:=bT h18
    refine zi O (zy O (zi O (vh H O .h O (zi O (W_leq O O fun t23 h23=>vp O O O O (zj O ?_))))))
    rcases t23 with _|_
    ·replace h23:=bF h23
     refine zJ O (zJ O (zJ O (zJ O (zJ O (vp O O O O (zj O (zJ O (zJ O (zJ O (vp O O O O (zj O (zN (zh (zP O ?_))))))))))))))
     exact k _ _ H.qx (by unfold RuleP;first | (rw [h35];omega) | (simp;omega))
    ·replace h23:=bT h23
     refine zi O (zy O (zi O (vh H O .h O (zi O (zy O (zi O (vh H O .h O (zi O (zT O (ct85  fun t30 S hE h30=>?_))))))))))
     replace H:=H.call hE
     refine vp O O O O (zj O ?_)
     rcases t30 with _|_
     ·replace h30:=bF h30
      refine zJ O (zJ O (zJ O (vp O O O O (zj O (zN (zh (zP O ?_)))))))
      exact k _ _ H.qx (by unfold RuleP;first | (rw [h35];omega) | (simp;omega))
     ·replace h30:=bT h30
      refine zi O (zy O (zi O (vh H O .h O (zi O (W_leq O O fun t35 h35=>vp O O O O (zj O (zN (zh (zP O ?_)))))))))
      exact k _ _ H.qx (by unfold RuleP;first | (rw [h35];omega) | (simp;omega))
theorem ct58 (hs:Sl S0 7 a (z5 rs)) (hl:rs.length≤1099511627776) (k:∀ (t:Bool) S',Ext [] S0 S'→(t=true↔RulesP rs)→K (.bool t) S') :
  zC 58 #[.slice a rs.length cap] S0 K:=by
 refine zGh (sf:=s58) Tryz.func58 fun H=>zR (zj O (zN (vz (zj O (zLl O (za (W_gtr O O fun t6 h6=>zN ?_)))))))
 rcases t6 with _|_
 ·replace h6:=bF h6
  refine zn O (zt (ze (vz (zj O (zN (zE ?_))))))
  refine vg (fun E S m_=>∃ (i:Nat),E=Env.lst [(0,.slice a rs.length cap),(3,int i)]∧Loc [] S0 S []∧(i≤rs.length)∧(∀ r∈rs.take i,RuleP r)∧m_=rs.length-i) ?_ ?_
  ·skip
   refine ⟨_,_,?le,0,O,H,(by omega),(by simp),O⟩
   case le=>exact Env.qle ⟨O,O,⟨⟩⟩
  ·skip
   rintro _ S _ ⟨i,rfl,H,hi,hp,rfl⟩
   refine vz (zj O (zj O (zLl O (za (vq O O fun t10 h10=>zN ?_)))))
   rcases t10 with _|_
   ·replace h10:=bF h10
    refine zn O (vf (zM (zM (vn (ze (zR (zj O (zN (zh (zP O ?_))))))))))
    rw [show i=rs.length by omega,List.take_length] at hp
    exact k _ _ H.qx ⟨fun _=>⟨by omega,hp⟩,fun _=>rfl⟩
   ·replace h10:=bT h10
    obtain ⟨x,hx⟩:∃ x,rs[i]? = some x:=⟨rs[i]'(by omega),by simp⟩
    obtain ⟨b,off,rfl,hc⟩:=hs.row i _ (ruleRows_at hx)
    refine zr O (zt (ze (zB (zE (zR (zj O (zj O (zIa O O (za (zV (vs:=[_,_,_,_,_,_,_]) O (H.qx.cells hc) (zCl O (ct137  fun t17 S hE h17=>?_))))))))))))
    replace H:=H.call hE
    refine zNt O (zN ?_)
    rcases t17 with _|_
    ·replace h17:=bF h17
     refine zr O (zR (zj O (zN (zh (vd (zv (zv (vd (zv (zP O ?_))))))))))
     exact k _ _ H.qx ⟨nofun,fun h=>absurd (h.2 x (List.mem_of_getElem? hx)) h17⟩
    ·replace h17:=bT h17
     refine zn O (zt (vc (ze (zL (zj O (zAd O O (zj O (zN ?_))))))))
     refine ⟨_,_,?lt,?le,(i+1),O,H,(by omega),(mem_take_succ hx hp h17),O⟩
     case lt=>omega
     case le=>exact Env.qle ⟨O,O,⟨⟩⟩
 ·replace h6:=bT h6
  refine zr O (zR (zj O (zN (zh (zv (zP O ?_))))))
  exact k _ _ H.qx ⟨nofun,fun h=>absurd h.1 (by omega)⟩
theorem ct162  (k:∀ (t:Bool) S',Ext [] S0 S'→(t=true↔FitsP x e f)→K (.bool t) S') :
  zC 162 #[x.v,e.v,f.v] S0 K:=by
 refine zGh (sf:=s162) Tryz.func162 fun H=>zR (zBx H O O fun b3 S hb3 hE H=>zBx H O O fun b4 S hb4 hE H=>zBx H O O fun b5 S hb5 hE H=>zj O (vA (vt O (zL1 H O .h1 O (vt O (zL1 H O .h2 O (vt O (zL1 H O .h2 O (zCl O (ct85  fun t13 S hE h13=>?_))))))))))
 replace H:=H.call hE
 refine zj O ?_
 rcases t13 with _|_
 ·replace h13:=bF h13
  refine zJ O (zJ O (zJ O (zJ O (zJ O (zJ O (zJ O (vp O O O O (zj O (zJ O (zJ O (zJ O (zJ O (zJ O (zJ O (zJ O (vp O O O O (zj O (zN (zh (zP O ?_))))))))))))))))))))
  exact k _ _ H.qx (by unfold FitsP;first | (rw [h30];omega) | (simp;omega))
 ·replace h13:=bT h13
  refine zi O (zy O (zi O (vh H O .h O (zi O (zy O (zi O (vh H O .h2 O (zi O (zy O (zi O (vh H O .h2 O (zi O (zT O (ct85  fun t21 S hE h21=>?_))))))))))))))
  replace H:=H.call hE
  refine vp O O O O (zj O ?_)
  rcases t21 with _|_
  ·replace h21:=bF h21
   refine zJ O (zJ O (zJ O (zJ O (zJ O (zJ O (zJ O (vp O O O O (zj O (zN (zh (zP O ?_)))))))))))
   exact k _ _ H.qx (by unfold FitsP;first | (rw [h30];omega) | (simp;omega))
  ·replace h21:=bT h21
   refine zi O (zy O (zi O (vh H O .h O (zi O (zy O (zi O (vh H O .h2 O (zi O (zy O (zi O (vh H O .h2 O (zi O (zT O (ct85  fun t30 S hE h30=>?_))))))))))))))
   replace H:=H.call hE
   refine vp O O O O (zj O (zN (zh (zP O ?_))))
   exact k _ _ H.qx (by unfold FitsP;first | (rw [h30];omega) | (simp;omega))
theorem ct81 (hs:Sl S0 7 a (z5 rs)) (hl:rs.length≤1099511627776) (k:∀ (t:Bool) S',Ext [] S0 S'→(t=true↔mayR rs e f=true)→K (.bool t) S') :
  zC 81 #[.slice a rs.length cap,e.v,f.v] S0 K:=by
 refine zGh (sf:=s81) Tryz.func81 fun H=>zR (zBx H O O fun b4 S hb4 hE H=>zBx H O O fun b5 S hb5 hE H=>zj O (zN (vz (zj O (zN (zE ?_))))))
 refine vg (fun E S m_=>∃ (i:Nat),E=Env.lst [(0,.slice a rs.length cap),(4,ptr b4 0),(5,ptr b5 0),(7,int i)]∧Loc [] S0 S [(b5,Cs f.row 31),(b4,Cs e.row 31)]∧(i≤rs.length)∧(mayR rs e f=mayR (rs.drop i) e f)∧m_=rs.length-i) ?_ ?_
 ·skip
  refine ⟨_,_,?le,0,O,H,(by omega),(by simp),O⟩
  case le=>exact Env.qle ⟨O,O,O,O,⟨⟩⟩
 ·skip
  rintro _ S _ ⟨i,rfl,H,hi,hm,rfl⟩
  refine vz (zj O (zj O (zLl O (za (vq O O fun t11 h11=>zN ?_)))))
  rcases t11 with _|_
  ·replace h11:=bF h11
   refine zn O (vf (zM (zM (vn (ze (zR (zj O (zN (zh (zP O ?_))))))))))
   exact k _ _ H.qx (by rw [hm,mayR_end (by omega)])
  ·replace h11:=bT h11
   obtain ⟨x,hx⟩:∃ x,rs[i]? = some x:=⟨rs[i]'(by omega),by simp⟩
   obtain ⟨b,off,rfl,hc⟩:=hs.row i _ (ruleRows_at hx)
   refine zr O (zt (ze (zB (zE (zB (z9 [] (vJ 0 O O O (vJ 1 O O O (vO 2 O O (fun _ _ hK=>vl O O (by omega) (by omega) hK) (vk 3 O O (fun S' hS'=>zG fun K hK=>zV (vs:=[_,_,_,_,_,_,_]) O (zK (hS' O) (by simp) (H.qx.cells hc)) hK) (vk 4 O O (fun S' hS'=>zG fun K hK=>zV O (zK (hS' O) (by simp) (H.cells (vs:=[_,_]) .h1 O)) hK) (vk 5 O O (fun S' hS'=>zG fun K hK=>zV O (zK (hS' O) (by simp) (H.cells (vs:=[_,_]) .h O)) hK) (zA 6 (by kernel_rfl) O O (zu (zT O (ct162  fun t20 S hE h20=>?_))))))))))))))))
   replace H:=H.call hE
   refine zLd (zY (ze ?_))
   rcases t20 with _|_
   ·replace h20:=bF h20
    refine zn O (zt (vc (ze (zL (zj O (zAd O O (zj O (zN ?_))))))))
    refine ⟨_,_,?lt,?le,(i+1),O,H,(by omega),(hm.trans (mayR_drop hx h20)),O⟩
    case lt=>omega
    case le=>exact Env.qle ⟨O,O,O,O,⟨⟩⟩
   ·replace h20:=bT h20
    refine zr O (zR (zj O (zj O (zIa O O (vt O (za (zF O (vw (i:=0) (H.qx.cells hc) O) (zj O (zN (zh (vd (zv (zv (vd (zv (zP O ?_))))))))))))))))
    exact k _ _ H.qx (by rw [hm,mayR_hit hx h20])
end
section
variable {S0:St} {K:Value→St→Prop}
variable {q:Int} {sp:List Span} {cap:Nat} {a:Option Addr} {s:Seg}
theorem ct29  (k:∀ (t:Bool) S',Ext [] S0 S'→(t=true↔SegP s)→K (.bool t) S') :
  zC 29 #[s.v] S0 K:=by
 refine zGh (sf:=s29) Tryz.func29 fun H=>zR (zBx H O O fun b1 S hb1 hE H=>zj O (zN (vz (vt O (zLn (vs:=[_,_]) H O .h O (zCl O (ct84  fun t6 S hE h6=>?_)))))))
 replace H:=H.call hE
 refine zNt O (zj O ?_)
 rcases t6 with _|_
 ·replace h6:=bF h6
  refine zJ O (zJ O (zJ O (zJ O (vp O O O O (zj O (zJ O (zJ O (zJ O (zJ O (vp O O O O (zj O (zJ O (zJ O (zJ O (zJ O (vp O O O O (zj O (zJ O (zJ O (zJ O (zJ O (vp O O O O (zN (zr O (zR (zj O (zN (zh (zv ?_)))))))))))))))))))))))))))))
  refine zP O ?_
  exact k _ _ H.qx ⟨nofun,fun h=>by obtain ⟨p1,p2,p3,p4,p5,p6⟩:=h;first | exact absurd p1 h6 | exact absurd p2 h11 | exact absurd p3 h17 | exact absurd p4 h23 | omega⟩
 ·replace h6:=bT h6
  refine zi O (zy O (zi O (W_loadN (vs:=[_,_]) H O .h O (zi O (zT O (ct84  fun t11 S hE h11=>?_))))))
  replace H:=H.call hE
  refine zi O (W_not O (vp O O O O (zj O ?_)))
  rcases t11 with _|_
  ·replace h11:=bF h11
   refine zJ O (zJ O (zJ O (zJ O (vp O O O O (zj O (zJ O (zJ O (zJ O (zJ O (vp O O O O (zj O (zJ O (zJ O (zJ O (zJ O (vp O O O O (zN (zr O (zR (zj O (zN (zh (zv (zP O ?_))))))))))))))))))))))))
   exact k _ _ H.qx ⟨nofun,fun h=>by obtain ⟨p1,p2,p3,p4,p5,p6⟩:=h;first | exact absurd p1 h6 | exact absurd p2 h11 | exact absurd p3 h17 | exact absurd p4 h23 | omega⟩
  ·replace h11:=bT h11
   refine zi O (zy O (zi O (vh H O .h O (zi O (zT O (ct85  fun t17 S hE h17=>?_))))))
   replace H:=H.call hE
   refine zi O (W_not O (vp O O O O (zj O ?_)))
   rcases t17 with _|_
   ·replace h17:=bF h17
    refine zJ O (zJ O (zJ O (zJ O (vp O O O O (zj O (zJ O (zJ O (zJ O (zJ O (vp O O O O (zN (zr O (zR (zj O (zN (zh (zv (zP O ?_))))))))))))))))))
    exact k _ _ H.qx ⟨nofun,fun h=>by obtain ⟨p1,p2,p3,p4,p5,p6⟩:=h;first | exact absurd p1 h6 | exact absurd p2 h11 | exact absurd p3 h17 | exact absurd p4 h23 | omega⟩
   ·replace h17:=bT h17
    refine zi O (zy O (zi O (vh H O .h O (zi O (zT O (ct85  fun t23 S hE h23=>?_))))))
    replace H:=H.call hE
    refine zi O (W_not O (vp O O O O (zj O ?_)))
    rcases t23 with _|_
    ·replace h23:=bF h23
     refine zJ O (zJ O (zJ O (zJ O (vp O O O O (zN (zr O (zR (zj O (zN (zh (zv (zP O ?_))))))))))))
     exact k _ _ H.qx ⟨nofun,fun h=>by obtain ⟨p1,p2,p3,p4,p5,p6⟩:=h;first | exact absurd p1 h6 | exact absurd p2 h11 | exact absurd p3 h17 | exact absurd p4 h23 | omega⟩
    ·replace h23:=bT h23
     refine zi O (zy O (zi O (vh H O .h O (zi O (vG O (zi O (W_gtr O O fun t30 h30=>vp O O O O (zN ?_))))))))
     rcases t30 with _|_
     ·replace h30:=bF h30
      refine zn O (zt (ze (vz (zj O (zN (zE ?_))))))
      refine vg (fun E S m_=>∃ (i:Nat),E=Env.lst [(1,ptr b1 0),(3,int i)]∧Loc [] S0 S [(b1,Cs s.row 33)]∧(i≤s.dt.length)∧(∀ c∈s.dt.take i,SegB c)∧m_=s.dt.length-i) ?_ ?_
      ·skip
       refine ⟨_,_,?le,0,O,H,(by omega),(by simp),O⟩
       case le=>exact Env.qle ⟨O,O,⟨⟩⟩
      ·skip
       rintro _ S _ ⟨i,rfl,H,hi,hp,rfl⟩
       refine vz (zj O (vt O (zL1 H O .h O (za (vG O (za (vq O O fun t36 h36=>zN ?_)))))))
       rcases t36 with _|_
       ·replace h36:=bF h36
        refine zn O (vf (zM (zM (vn (ze (zR (zj O (zN (zh (zP O ?_))))))))))
        (rw [show i=s.dt.length by omega,List.take_length] at hp;exact k _ _ H.qx ⟨fun _=>⟨h6,h11,h17,h23,by omega,hp⟩,fun _=>rfl⟩)
       ·replace h36:=bT h36
        obtain ⟨c,hc⟩:∃ c,s.dt[i]? = some c:=⟨s.dt[i]'(by omega),by simp⟩
        refine zr O (zt (ze (zB (zE (zR (vt O (zL1 H O .h O (zj O (za (W_idxT O O (by omega) hc (zCl O (ct86  fun t43 S hE h43=>?_))))))))))))
        replace H:=H.call hE
        refine zNt O (zj O ?_)
        rcases t43 with _|_
        ·replace h43:=bF h43
         refine zi O (zy O (zi O (vh H O .h O (zi O (vB O (zi O (W_idxT O O (by omega) hc (zi O (W_neI O O fun t50 h50=>vp O O O O (zN ?_))))))))))
         rcases t50 with _|_
         ·replace h50:=bF h50
          refine zn O (zt (vc (ze (zL (zj O (zAd O O (zj O (zN ?_))))))))
          refine ⟨_,_,?lt,?le,(i+1),O,H,(by omega),(mem_take_succ hc hp (by first | exact .inl h43 | exact .inr (UInt8.toNat_inj.1 (by have:(c.toNat:Int)=59:=Classical.not_not.1 h50;show c.toNat=59;omega)))),O⟩
          case lt=>omega
          case le=>exact Env.qle ⟨O,O,⟨⟩⟩
         ·replace h50:=bT h50
          refine zr O (zR (zj O (zN (zh (vd (zv (zv (vd (zv (zP O ?_))))))))))
          exact k _ _ H.qx ⟨nofun,fun h=>by rcases h.2.2.2.2.2 c (List.mem_of_getElem? hc) with h | h;exact absurd h h43;subst h;exact absurd rfl h50⟩
        ·replace h43:=bT h43
         refine zJ O (zJ O (zJ O (zJ O (zJ O (vp O O O O (zN (zn O (zt (vc (ze (zL (zj O (zAd O O (zj O (zN ?_)))))))))))))))
         refine ⟨_,_,?lt,?le,(i+1),O,H,(by omega),(mem_take_succ hc hp (by first | exact .inl h43 | exact .inr (UInt8.toNat_inj.1 (by have:(c.toNat:Int)=59:=Classical.not_not.1 h50;show c.toNat=59;omega)))),O⟩
         case lt=>omega
         case le=>exact Env.qle ⟨O,O,⟨⟩⟩
     ·replace h30:=bT h30
      refine zr O (zR (zj O (zN (zh (zv (zP O ?_))))))
      exact k _ _ H.qx ⟨nofun,fun h=>by obtain ⟨p1,p2,p3,p4,p5,p6⟩:=h;first | exact absurd p1 h6 | exact absurd p2 h11 | exact absurd p3 h17 | exact absurd p4 h23 | omega⟩
theorem ct163 {l:Bs} (hl:l.length≤1099511627776) (hd:s.dt.length≤1099511627776) (k:∀  S',Ext [] S0 S'→K (str (grown l s)) S') :
  zC 163 #[str l,s.v] S0 K:=by
 refine zGh (sf:=s163) Tryz.func163 fun H=>zR (zBx H O O fun b3 S hb3 hE H=>zj O (zN (vz (vt O (zL1 H O .h O (za (vq O O fun t7 h7=>zj O ?_)))))))
 rcases t7 with _|_
 ·replace h7:=bF h7
  refine zi O (zy O (zi O (vh H O .h O (zi O (vB O (zi O (vG O (zi O (W_gtr O O fun t13 h13=>vp O O O O (zj O ?_))))))))))
  rcases t13 with _|_
  ·replace h13:=bF h13
   refine zi O (zy O (zi O (vh H O .h O (zi O (zy O (zi O (vh H O .h O (zi O (vG O (zi O (W_add O O (by omega) (by omega) (zi O (vB O (zi O (vG O (zi O (W_leq O O fun t24 h24=>vp O O O O (zN ?_))))))))))))))))))
   rcases t24 with _|_
   ·replace h24:=bF h24
    refine zn O (zt (ze (zR (zj O (vt O (zL1 H O .h O (zj O (za (vG O (vt O (zL1 H O .h O (zSb O O (za (W_slSlo O O (by omega) (by omega) (za (W_catS O O (by simp;omega) (zj O (zN (zh (zP O ?_))))))))))))))))))))
    (rw [show grown l s=l++s.dt.drop ((l.length:Int)-s.sq).toNat from if_neg (by omega)] at k;exact k _ H.qx)
   ·replace h24:=bT h24
    refine zr O (zR (zj O (zj O (zN (zh (zv (zP O ?_)))))))
    (rw [show grown l s=l from if_pos (by omega)] at k;exact k _ H.qx)
  ·replace h13:=bT h13
   refine zJ O (zJ O (zJ O (zJ O (zJ O (zJ O (zJ O (zJ O (zJ O (vp O O O O (zN (zr O (zR (zj O (zj O (zN (zh (zv (zP O ?_))))))))))))))))))
   (rw [show grown l s=l from if_pos (by omega)] at k;exact k _ H.qx)
 ·replace h7:=bT h7
  refine zJ O (zJ O (zJ O (zJ O (zJ O (vp O O O O (zj O (zJ O (zJ O (zJ O (zJ O (zJ O (zJ O (zJ O (zJ O (zJ O (vp O O O O (zN (zr O (zR (zj O (zj O (zN (zh (zv (zP O ?_)))))))))))))))))))))))))
  (rw [show grown l s=l from if_pos (by omega)] at k;exact k _ H.qx)
theorem ct166 (hs:Sl S0 5 a (spanRows sp)) (hl:sp.length≤1099511627776) (k:∀  S',Ext [] S0 S'→K (int (outD 0 sp q)) S') :
  zC 166 #[.slice a sp.length cap,int q] S0 K:=by
 refine zGh (sf:=s166) Tryz.func166 fun H=>zR (zj O (vA (zj O (zN (vz (zj O (zN (zE ?_))))))))
 refine vg (fun E S m_=>∃ (i:Nat) (n:Int),E=Env.lst [(0,.slice a sp.length cap),(1,int q),(5,int n),(6,int i)]∧Loc [] S0 S []∧(i≤sp.length)∧(outD 0 sp q=outD n (sp.drop i) q)∧m_=sp.length-i) ?_ ?_
 ·skip
  refine ⟨_,_,?le,0,0,O,H,(by omega),(by simp),O⟩
  case le=>exact Env.qle ⟨O,O,O,O,⟨⟩⟩
 ·skip
  rintro _ S _ ⟨i,n,rfl,H,hi,hm,rfl⟩
  refine vz (zj O (zj O (zLl O (za (vq O O fun t10 h10=>zN ?_)))))
  rcases t10 with _|_
  ·replace h10:=bF h10
   refine zn O (vf (zM (zM (vn (ze (zR (zj O (zj O (zN (zh (zP O ?_)))))))))))
   rw [hm,outD_end (by omega)] at k
   exact k _ H.qx
  ·replace h10:=bT h10
   obtain ⟨x,hx⟩:∃ x,sp[i]? = some x:=⟨sp[i]'(by omega),by simp⟩
   obtain ⟨b,off,rfl,hc⟩:=hs.row i _ (spanRows_at hx)
   refine zr O (zt (ze (zB (zE (vz (zj O (zj O (zj O (zIa O O (vt O (za (zF O (vw (i:=1) (H.qx.cells hc) O) (za (vq O O fun t19 h19=>zN ?_))))))))))))))
   rcases t19 with _|_
   ·replace h19:=bF h19
    refine zn O (zt (ze (zL (zj O (zj O (zIa O O (vt O (za (zF O (vw (i:=3) (H.qx.cells hc) O) (zj O (ve (vc (ze (zL (zj O (zAd O O (zj O (zN ?_))))))))))))))))))
    refine ⟨_,_,?lt,?le,(i+1),x.ot,O,H,(by omega),(hm.trans (outD_drop hx h19)),O⟩
    case lt=>omega
    case le=>exact Env.qle ⟨O,O,O,O,⟨⟩⟩
   ·replace h19:=bT h19
    refine zr O (zR (zj O (zj O (zIa O O (vt O (za (zF O (vw (i:=2) (H.qx.cells hc) O) (zj O (zN (zh (zv (vd (zv (zv (vd (zv (zP O ?_)))))))))))))))))
    rw [hm,outD_hit hx h19] at k
    exact k _ H.qx
theorem ct168 (hs:Sl S0 5 a (spanRows sp)) (hl:sp.length≤1099511627776) (hq0:-1099511627776≤q) (hq1:q≤1099511627776) (hb:∀ x∈sp,(0≤x.f∧x.f≤4398046511104)∧(0≤x.oa∧x.oa≤4398046511104)) (k:∀  S',Ext [] S0 S'→K (int (backD 0 sp q)) S') :
  zC 168 #[.slice a sp.length cap,int q] S0 K:=by
 refine zGh (sf:=s168) Tryz.func168 fun H=>zR (zj O (vA (zj O (zN (vz (zj O (zN (zE ?_))))))))
 refine vg (fun E S m_=>∃ (i:Nat) (n:Int),E=Env.lst [(0,.slice a sp.length cap),(1,int q),(5,int n),(6,int i)]∧Loc [] S0 S []∧(i≤sp.length)∧(backD 0 sp q=backD n (sp.drop i) q)∧m_=sp.length-i) ?_ ?_
 ·skip
  refine ⟨_,_,?le,0,0,O,H,(by omega),(by simp),O⟩
  case le=>exact Env.qle ⟨O,O,O,O,⟨⟩⟩
 ·skip
  rintro _ S _ ⟨i,n,rfl,H,hi,hm,rfl⟩
  refine vz (zj O (zj O (zLl O (za (vq O O fun t11 h11=>zN ?_)))))
  rcases t11 with _|_
  ·replace h11:=bF h11
   refine zn O (vf (zM (zM (vn (ze (zR (zj O (zj O (zN (zh (zP O ?_)))))))))))
   (rw [hm,backD_end (by omega)] at k;exact k _ H.qx)
  ·replace h11:=bT h11
   obtain ⟨x,hx⟩:∃ x,sp[i]? = some x:=⟨sp[i]'(by omega),by simp⟩
   obtain ⟨b,off,rfl,hc⟩:=hs.row i _ (spanRows_at hx)
   have hbx:=hb x (List.mem_of_getElem? hx)
   refine zr O (zt (ze (zB (zE (zR (zj O (zj O (zIa O O (za (zV (vs:=[_,_,_,_,_]) O (H.qx.cells hc) (zAl H O fun b7 S hb7 hE H=>zSs H O O O .h O fun S hE H=>zN (vz (zj O (vt O (zL1 H O .h O (za (W_geq O O fun t21 h21=>zN ?_)))))))))))))))))
   rcases t21 with _|_
   ·replace h21:=bF h21
    refine zn O (zt (ze (vz (vt O (zL1 H O .h O ?_)))))
    obtain ⟨tpl,htpl⟩:∃ tpl,x.pl=tpl:=⟨_,rfl⟩
    have hpl:tpl=true↔x.pl=true:=by rw [htpl]
    rw [htpl]
    refine zj O ?_
    rcases tpl with _|_
    ·replace hpl:=bF hpl
     refine zJ O (zJ O (zJ O (zJ O (vp O O O O (zN (zn O (zt (ze (zR (vt O (zL1 H O .h O (zj O (zN (zh (vd (zv (zv (vd (zv (zP O ?_))))))))))))))))))))
     (rw [hm,backD_hit hx h21,if_neg (fun h=>by rw [htpl] at h;cases h.1)] at k;exact k _ H.qx)
    ·replace hpl:=bT hpl
     refine zi O (vB O (zi O (zy O (zi O (vh H O .h O (zi O (W_gtr O O fun t30 h30=>vp O O O O (zN ?_))))))))
     rcases t30 with _|_
     ·replace h30:=bF h30
      refine zn O (zt (ze (zR (vt O (zL1 H O .h O (zj O (zN (zh (vd (zv (zv (vd (zv (zP O ?_))))))))))))))
      (rw [hm,backD_hit hx h21,if_neg (fun h=>h30 h.2)] at k;exact k _ H.qx)
     ·replace h30:=bT h30
      refine zr O (zR (vt O (zL1 H O .h O (zj O (zAd O O (vt O (zL1 H O .h O (zSb O O (zj O (zN (zh (zv (vd (zv (zv (vd (zv (zP O ?_))))))))))))))))))
      (rw [hm,backD_hit hx h21,if_pos ⟨htpl,h30⟩] at k;exact k _ H.qx)
   ·replace h21:=bT h21
    refine zr O (zR (vt O (zL1 H O .h O (zj O (zN (vf (zM (vn (ze (zL (zj O (zAd O O (zj O (zN ?_))))))))))))))
    refine ⟨_,_,?lt,?le,(i+1),x.t,O,(H.sub (.cons _ .slnil)),(by omega),(hm.trans (backD_drop hx h21)),O⟩
    case lt=>omega
    case le=>exact Env.qle ⟨O,O,O,O,⟨⟩⟩
end
section
variable {S0:St} {K:Value→St→Prop}
variable {l:Bs}
theorem ct213 {a1 a2:Option Addr} {c1 c2:Nat} {ls ms:List Bs} (hs1:Sl S0 1 a1 (strRows ls)) (hs2:Sl S0 1 a2 (strRows ms)) (hl1:lsum ls≤2199023255552) (hl2:lsum ms≤2199023255552) (k:∀ b cap S',Ext [] S0 S'→(S0 b=none)→(OwnB S' b 195 5 cap (spanRows (pairs ls ms)))→K (sl b 0 (pairs ls ms).length cap) S') :
  zC 213 #[.slice a1 ls.length c1,.slice a2 ms.length c2] S0 K:=by
 refine zGh (sf:=s213) Tryz.func213 fun H=>?_
 have hb1:=len_lsum ls
 have hb2:=len_lsum ms
 refine zR (zj O (vA (za (z_ (cs:=[]) H O O fun b10 S hb10 hE H=>zj O (vA (zj O (vA (zj O (zN (vz (zj O (zN (zE ?_)))))))))))))
 refine vg (fun E S m_=>∃ (i:Nat) (b5:Nat) (cap5:Nat) (cs5:List Value),E=Env.lst [(0,.slice a1 ls.length c1),(1,.slice a2 ms.length c2),(5,sl b5 0 i cap5),(6,int (lsum (ls.take i))),(7,int (lsum (ms.take i))),(8,int i)]∧Loc [] S0 S [(b5,Cs cs5 195)]∧(i≤ls.length)∧(i≤ms.length)∧(i≤cap5)∧(cs5.length=cap5*5)∧(cs5.take (i*5)=(spanRows (pairs (ls.take i) (ms.take i))).flatten)∧m_=ls.length-i) ?_ ?_
 ·skip
  refine ⟨_,_,?le,0,b10,0,[],O,H,(by omega),(by omega),(by simp),(by simp),(by simp [pairs,pairsF]),O⟩
  case le=>exact Env.qle ⟨O,O,O,O,O,O,⟨⟩⟩
 ·skip
  rintro _ S _ ⟨i,b5,cap5,cs5,rfl,H,hi1,hi2,hn,hcl,hct,rfl⟩
  refine vz (zj O (zj O (zLl O (za (vq O O fun t14 h14=>zj O ?_)))))
  rcases t14 with _|_
  ·replace h14:=bF h14
   refine zJ O (zJ O (zJ O (zJ O (vp O O O O (zN (zn O (vf (zM (zM (vn (ze (zR (zj O (zj O (zN (zh (zP O ?_)))))))))))))))))
   have hmin:i=min ls.length ms.length:=by omega
   rw [pairs_min hmin] at hct
   have hpl:(pairs ls ms).length=i:=by rw [hmin];exact pairsF_len 0 0 ls ms
   rw [← hpl] at hct hn ⊢
   exact k _ _ _ H.qx (H.new1 .h) ⟨_,H.get .h,by simpa using hn,hcl,by simpa using hct,spanRows_five⟩
  ·replace h14:=bT h14
   refine zi O (vB O (zi O (vB O (zi O (W_lenL O (zi O (vq O O fun t19 h19=>vp O O O O (zN ?_))))))))
   rcases t19 with _|_
   ·replace h19:=bF h19
    refine zn O (vf (zM (zM (vn (ze (zR (zj O (zj O (zN (zh (zP O ?_)))))))))))
    have hmin:i=min ls.length ms.length:=by omega
    rw [pairs_min hmin] at hct
    have hpl:(pairs ls ms).length=i:=by rw [hmin];exact pairsF_len 0 0 ls ms
    rw [← hpl] at hct hn ⊢
    exact k _ _ _ H.qx (H.new1 .h) ⟨_,H.get .h,by simpa using hn,hcl,by simpa using hct,spanRows_five⟩
   ·replace h19:=bT h19
    obtain ⟨x,hx⟩:∃ x,ls[i]? = some x:=⟨ls[i]'(by omega),by simp⟩
    obtain ⟨y,hy⟩:∃ y,ms[i]? = some y:=⟨ms[i]'(by omega),by simp⟩
    obtain ⟨q1,o1,rfl,hc1⟩:=hs1.row i _ (strRows_at hx)
    obtain ⟨q2,o2,rfl,hc2⟩:=hs2.row i _ (strRows_at hy)
    have hx1:=lsum_take hx
    have hy1:=lsum_take hy
    have hx2:=lsum_take_le ls (i+1)
    have hy2:=lsum_take_le ms (i+1)
    have hpt:=pairs_take hx hy
    refine zr O (zt (ze (zB (zE (zR (zj O (zj O (zIa O O (za (zF O (vw (i:=0) (H.qx.cells hc2) O) (zj O (zN (zB (z9 [] (vJ 0 O O O (vJ 1 O O O (vJ 2 O O O (vJ 3 O O O (vJ 4 O O O (vO 5 O O (fun _ _ hK=>vl O O (by omega) (by omega) hK) (vk 6 O O (fun S' hS'=>zG fun K hK=>zF O (zH (hS' O) (by simp) (vw (i:=0) (H.qx.cells hc1) O)) hK) (vO 7 O O (fun _ _ hK=>vG O hK) (vO 8 O O (fun _ _ hK=>W_add O O (by omega) (by omega) hK) (vO 9 O O (fun _ _ hK=>W_add O O (by omega) (by omega) hK) (vJ 10 O O O (vJ 11 O O O (vJ 12 O O O (vO 13 O O (fun _ _ hK=>vG O hK) (vO 14 O O (fun _ _ hK=>W_add O O (by omega) (by omega) hK) ?_)))))))))))))))))))))))))))))
    refine vO 15 O O (fun _ _ hK=>W_add O O (by omega) (by omega) hK) (vJ 16 O O O (vJ 17 O O O (vJ 18 O O O (vO 19 O O (fun _ _ hK=>vl O O (by omega) (by omega) hK) (vk 20 O O (fun S' hS'=>zG fun K hK=>zF O (zH (hS' O) (by simp) (vw (i:=0) (H.qx.cells hc1) O)) hK) (zCm 21 O O (fun S' _=>zG fun K hK=>W_eqSd O O hK) fun t48 h48=>?_))))))
    obtain rfl:t48=decide (y=x):=by rw [Bool.eq_iff_iff,h48,decide_eq_true_iff]
    refine vO 22 O O (fun _ _ hK=>vL (cs:=[_,_,_,_,_]) O O hK) (zA 23 (by kernel_rfl) O O (zu (z_ (cs:=[_,_,_,_,_]) H O O fun b50 S hb50 hE H=>zLd (zA 24 (by kernel_rfl) O O (zu (W_append H O O .h1 hcl hn (Src.own H .h O) (by simp [oneCell]) O (by decide) (by omega) O fun b51 cap51 cs51 S hb51 H hE hn51 hcl51 hct51=>zLd (vJ 25 O O O (zY (ze (zR (zj O (zj O (zj O (zIa O O (za (zF O (vw (i:=0) (H.qx.cells hc1) O) (za (vG O (zAd O O (zAd O O (zj O (zN (zL (zj O (zj O (za (vG O (zAd O O (zAd O O (zj O (ve ?_)))))))))))))))))))))))))))))))
    refine vc (ze (zL (zj O (zAd O O (zj O (zN ?_))))))
    refine ⟨_,_,?lt,?le,(i+1),b51,cap51,cs51,O,(H.sub (.cons_cons _ (.cons _ .slnil))),(by omega),(by omega),hn51,hcl51,(hct51.trans (by rw [hct,hpt];simp only [spanRows,List.map_append,List.flatten_append,List.map_cons,List.map_nil,List.flatten_cons,List.flatten_nil,List.append_nil])),O⟩
    case lt=>omega
    case le=>exact Env.qle ⟨rfl,rfl,rfl,(by show some (int ((lsum (ls.take i):Nat)+(x.length:Nat)+1))=_;rw [hx1];congr 2),(by show some (int ((lsum (ms.take i):Nat)+(y.length:Nat)+1))=_;rw [hy1];congr 2),rfl,trivial⟩
theorem ct167 {m:Bs} (hl:l.length≤1099527356416) (hm:m.length≤1099527356416) (k:∀ b cap S',Ext [] S0 S'→(S0 b=none)→(OwnB S' b 195 5 cap (spanRows (spansO l m)))→K (sl b 0 (spansO l m).length cap) S') :
  zC 167 #[str l,str m] S0 K:=by
 refine zGh (sf:=s167) Tryz.func167 fun H=>zR (zj O (vA (zj O (zCl O (ct72 (by omega) fun b11 cap11 S hE hb11 hO11=>?_)))))
 replace H:=H.call hE
 refine zj O (zEx O O (zEx O O (zj O (zj O (vA (zj O (zCl O (ct72 (by omega) fun b16 cap16 S hE hb16 hO16=>?_))))))))
 replace hO11:=hO11.mono hE
 replace H:=H.call hE
 refine zj O (zEx O O (zEx O O (zj O (zj O (vA (zj O (zj O (zCl O (ct213 hO11.sl hO16.sl (by have:lsum (zD l).1+(zD l).2.length=l.length:=lsum_lines 59 l;omega) (by have:lsum (zD m).1+(zD m).2.length=m.length:=lsum_lines 59 m;omega) fun b21 cap21 S hE hb21 hO21=>?_)))))))))
 replace hb21:=H.qx.isNone hb21
 replace H:=H.call hE
 refine zj O (zN (zh (zP O ?_)))
 exact k _ _ _ H.qx hb21 hO21
theorem ct169 {s:Seg} {q:Nat} (hl:l.length≤1099527356416) (hq:q≤1099527356416) (k:∀ b cap S',Ext [] S0 S'→(S0 b=none)→(OwnB S' b 33 7 cap (segRows (cutO s l q)))→K (sl b 0 (cutO s l q).length cap) S') :
  zC 169 #[s.v,str l,int q] S0 K:=by
 refine zGh (sf:=s169) Tryz.func169 fun H=>zR (zBx H O O fun b3 S hb3 hE H=>zj O (vA (za (z_ (cs:=[]) H O O fun b10 S hb10 hE H=>zj O (zN (zB (zE ?_)))))))
 refine vg (fun E S m_=>∃ (a:Nat) (out:List Seg) (b7:Nat) (cap7:Nat) (cs7:List Value),E=Env.lst [(1,str l),(2,int a),(3,ptr b3 0),(7,sl b7 0 out.length cap7)]∧Loc [] S0 S [(b7,Cs cs7 33),(b3,Cs s.row 33)]∧(out.length≤cap7)∧(cs7.length=cap7*7)∧(cs7.take (out.length*7)=(segRows out).flatten)∧(out++cutS s l a=cutS s l q)∧(out.length≤a)∧(a≤1099527356416)∧m_=l.length-a) ?_ ?_
 ·skip
  refine ⟨_,_,?le,q,[],b10,0,[],O,H,(by simp),(by simp),(by simp),(by simp),(by simp),(by omega),O⟩
  case le=>exact Env.qle ⟨O,O,O,O,⟨⟩⟩
 ·skip
  rintro _ S _ ⟨a,out,b7,cap7,cs7,rfl,H,hn,hcl,hct,hc,hol,ha,rfl⟩
  refine vz (zj O (zj O (za (vG O (za (vq O O fun t14 h14=>zN ?_))))))
  rcases t14 with _|_
  ·replace h14:=bF h14
   refine zn O (vf (zM (zM (vn (ze (vz (zj O (zLl O (za (W_eqI O O fun t35 h35=>zN ?_))))))))))
   rcases t35 with _|_
   ·replace h35:=bF h35
    refine zn O (zt (ze (zR (zj O (zj O (zN (zh (zP O ?_))))))))
    have he:cutS s l a=[]:=cutS_end (by omega)
    rw [he,List.append_nil] at hc
    have hq2:q<l.length:=Classical.byContradiction fun h=>by rw [cutS_end h] at hc;rw [hc] at h35;exact h35 rfl
    have hco:cutO s l q=out:=by unfold cutO;rw [if_pos hq2,hc]
    rw [hco] at k
    exact k _ _ _ H.qx (H.new1 .h) ⟨_,H.get .h,by simpa using hn,hcl,by simpa using hct,segRows_seven⟩
   ·replace h35:=bT h35
    refine zr O (zR (zj O (za (vG O (vt O (zSs H O O O .h1 O fun S hE H=>vA (vt O (zSs H O O O .h1 O fun S hE H=>zN (zL (zj O (zLn (vs:=[_,_,_,_,_,_,_]) H O .h1 O (za (z_ (cs:=[_,_,_,_,_,_,_]) H O O fun b42 S hb42 hE H=>za (W_append H O O .h1 hcl hn (Src.own H .h O) (by simp [oneCell,setl]) O (by decide) (by omega) O fun b43 cap43 cs43 S hb43 H hE hn43 hcl43 hct43=>zj O (vA (zj O (zj O (zN (zh (zP O ?_))))))))))))))))))))
    have he:cutS s l a=[]:=cutS_end (by omega)
    rw [he,List.append_nil] at hc
    have ho:out=[]:=List.eq_nil_of_length_eq_zero (by omega)
    have hq2:¬ q<l.length:=fun h=>by rw [ho,cutS_step h] at hc;cases hc
    have hco:cutO s l q=[{s with sq:=l.length,dt:=[]}]:=by unfold cutO;rw [if_neg hq2]
    rw [hco] at k
    subst ho
    exact k _ _ _ H.qx (H.new1 .h) ⟨_,H.get .h,by simpa using hn43,hcl43,by simpa using hct43,segRows_seven⟩
  ·replace h14:=bT h14
   refine zr O (zt (ze (zE (zR (zj O (za (vG O (zj O (zAd O O (za (W_min2 O O (zj O (vA (zLn (vs:=[_,_,_,_,_,_,_]) H O .h1 O (zAl H O fun b9 S hb9 hE H=>zSs H O O O .h O fun S hE H=>vA (zj O (vt O (zSs H O O O .h O fun S hE H=>vA (zj O (zj O (zj O (za (W_slS O O O (by omega) (by omega) (by omega) (vt O (zSs H O O O .h O fun S hE H=>vA (zj O (zLn (vs:=[_,_,_,_,_,_,_]) H O .h O ?_)))))))))))))))))))))))))))
   refine za (z_ (cs:=[_,_,_,_,_,_,_]) H O O fun b30 S hb30 hE H=>za (W_append H O O .h2 hcl hn (Src.own H .h O) (by simp [oneCell,setl]) O (by decide) (by omega) O fun b31 cap31 cs31 S hb31 H hE hn31 hcl31 hct31=>zj O (zN (zL (zj O (zj O (ve (vc (ze ?_)))))))))
   have hd12:(l.drop (a:Int).toNat).take ((min (l.length:Int) ((a:Int)+12)).toNat-(a:Int).toNat)=(l.drop a).take 12:=by
    rw [show (a:Int).toNat=a by omega]
    by_cases h:a+12≤l.length
    ·rw [show (min (l.length:Int) ((a:Int)+12)).toNat-a=12 by omega]
    ·rw [List.take_of_length_le (by simp;omega),List.take_of_length_le (by simp;omega)]
   have hcs:=cutS_step (s:=s) (show a<l.length by omega)
   have hcn:cutS s l (a+12)=cutS s l (min l.length (a+12)):=by
    by_cases h:a+12≤l.length
    ·rw [show min l.length (a+12)=a+12 by omega]
    ·rw [cutS_end (by omega),cutS_end (by omega)]
   refine ⟨_,_,?lt,?le,(min l.length (a+12)),(out++[{s with sq:=a,dt:=(l.drop a).take 12}]),b31,cap31,cs31,O,(H.sub (.cons_cons _ (.cons _ (.cons _ (.cons_cons _ .slnil))))),(by simpa using hn31),hcl31,?_,(by rw [← hcn,List.append_assoc,← hc,hcs];rfl),(by simp;omega),(by omega),O⟩
   case lt=>omega
   case le=>exact Env.qle ⟨rfl,(by show some (int (min (l.length:Int) ((a:Int)+12)))=_;congr 2;omega),rfl,(by rw [List.length_append];rfl),trivial⟩
   rw [List.length_append]
   refine hct31.trans ?_
   rw [hct]
   simp only [segRows,List.map_append,List.flatten_append,List.map_cons,List.map_nil,List.flatten_cons,List.flatten_nil,List.append_nil]
   rw [hd12]
end
section
variable {S0:St} {K:Value→St→Prop}
variable {b:Box} {l:Bs} {e f:End} {cs:List Conn} {es:List End} {c1 c2 c3 cap:Nat} {a a1 a2 a3:Option Addr}
theorem ct82 (hs:Sl S0 7 a (zX cs)) (hl:cs.length≤1099511627776) (k:∀  S',Ext [] S0 S'→K (int (vK cs e f)) S') :
  zC 82 #[.slice a cs.length cap,e.v,f.v] S0 K:=by
 refine zGh (sf:=s82) Tryz.func82 fun H=>zR (zBx H O O fun b4 S hb4 hE H=>zBx H O O fun b5 S hb5 hE H=>zj O (zN (vz (zj O (zN (zE ?_))))))
 refine vg (fun E S m_=>∃ (i:Nat),E=Env.lst [(0,.slice a cs.length cap),(4,ptr b4 0),(5,ptr b5 0),(7,int i)]∧Loc [] S0 S [(b5,Cs f.row 31),(b4,Cs e.row 31)]∧(i≤cs.length)∧(FoundAt cs i e f)∧m_=cs.length-i) ?_ ?_
 ·skip
  refine ⟨_,_,?le,0,O,H,(by omega),(.zero _ _ _),O⟩
  case le=>exact Env.qle ⟨O,O,O,O,⟨⟩⟩
 ·skip
  rintro _ S _ ⟨i,rfl,H,hi,hm,rfl⟩
  refine vz (zj O (zj O (zLl O (za (vq O O fun t11 h11=>zN ?_)))))
  rcases t11 with _|_
  ·replace h11:=bF h11
   refine zn O (vf (zM (zM (vn (ze (zR (zj O (zN (zh (zP O ?_))))))))))
   (rw [hm.no (by omega)] at k;exact k _ H.qx)
  ·replace h11:=bT h11
   obtain ⟨x,hx⟩:∃ x,cs[i]? = some x:=⟨cs[i]'(by omega),by simp⟩
   obtain ⟨b,off,rfl,hc⟩:=hs.row i _ (vH hx)
   refine zr O (zt (ze (zB (zE (zB (z9 [] (vJ 0 O O O (vJ 1 O O O (vO 2 O O (fun _ _ hK=>vl O O (by omega) (by omega) hK) (zLf 3 O O O (vk 4 O O (fun S' hS'=>zG fun K hK=>zV (vs:=[_,_]) O (zK (hS' O) (by simp) (cells_at (i:=0) (m:=2) (H.qx.cells hc) O)) hK) (vk 5 O O (fun S' hS'=>zG fun K hK=>zV O (zK (hS' O) (by simp) (H.cells (vs:=[_,_]) .h1 O)) hK) (zCm 6 O O (fun S' _=>zG fun K hK=>W_eqE O O hK) fun t20 h20=>vJ 7 O O O ?_)))))))))))))
   rcases t20 with _|_
   ·replace h20:=bF h20
    refine vk 8 O O (fun S' _=>vo O (by decide)) (vk 9 O O (fun S' _=>vo O (by decide)) (vk 10 O O (fun S' _=>vo O (by decide)) (vk 11 O O (fun S' _=>vo O (by decide)) (vk 12 O O (fun S' _=>vo O (by decide)) (vk 13 O O (fun S' _=>vo O (by decide)) (vk 14 O O (fun S' _=>vo O (by decide)) (vO 15 O O (fun _ _ hK=>W_pick O O O O hK) (zY (ze (zn O (zt (vc (ze (zL (zj O (zAd O O (zj O (zN ?_))))))))))))))))))
    refine ⟨_,_,?lt,?le,(i+1),O,H,(by omega),(by first | exact hm.succ hx (fun h=>h20 (by rw [h.1];exact ⟨rfl,rfl⟩)) | exact hm.succ hx (fun h=>h28 (by rw [h.2];exact ⟨rfl,rfl⟩))),O⟩
    case lt=>omega
    case le=>exact Env.qle ⟨O,O,O,O,⟨⟩⟩
   ·replace h20:=bT h20
    refine vk 8 O O (fun S' _=>vi O fun K hK=>vB O hK) (vk 9 O O (fun S' _=>vi O fun K hK=>vB O hK) (vk 10 O O (fun S' _=>vi O fun K hK=>vl O O (by omega) (by omega) hK) (vk 11 O O (fun S' _=>vi O fun K hK=>zy O hK) (vk 12 O O (fun S' hS'=>vi O fun K hK=>zV (vs:=[_,_]) O (zK (hS' O) (by simp) (cells_at (i:=2) (m:=2) (H.qx.cells hc) O)) hK) (vk 13 O O (fun S' hS'=>vi O fun K hK=>zV O (zK (hS' O) (by simp) (H.cells (vs:=[_,_]) .h O)) hK) (zCm 14 O O (fun S' _=>vi O fun K hK=>W_eqE O O hK) fun t28 h28=>vO 15 O O (fun _ _ hK=>W_pick O O O O hK) (zY (ze ?_))))))))
    rcases t28 with _|_
    ·replace h28:=bF h28
     refine zn O (zt (vc (ze (zL (zj O (zAd O O (zj O (zN ?_))))))))
     refine ⟨_,_,?lt,?le,(i+1),O,H,(by omega),(by first | exact hm.succ hx (fun h=>h20 (by rw [h.1];exact ⟨rfl,rfl⟩)) | exact hm.succ hx (fun h=>h28 (by rw [h.2];exact ⟨rfl,rfl⟩))),O⟩
     case lt=>omega
     case le=>exact Env.qle ⟨O,O,O,O,⟨⟩⟩
    ·replace h28:=bT h28
     refine zr O (zR (zj O (zj O (zN (zh (vd (zv (zv (vd (zv (zP O ?_)))))))))))
     (rw [hm.hit hx ⟨End.ext' h20,End.ext' h28⟩] at k;exact k _ H.qx)
theorem ct139 (hs:Sl S0 2 a (zS es)) (hcp:es.length≤cap) (hl:es.length≤6) (hll:l.length≤1048576) (k:∀ (t:Bool) S',Ext [] S0 S'→(t=true↔knowsP es l)→K (.bool t) S') :
  zC 139 #[.agg #[.slice a es.length cap],str l] S0 K:=by
 refine zGh (sf:=s139) Tryz.func139 fun H=>zR (zBx H O O fun b2 S hb2 hE H=>zj O (vA (zLn (vs:=[_]) H O .h O (zj O (zCl O (ct175 (hs.mono H.qx) hcp (by omega) (by omega) fun a10 cap10 S hE hs10 hc10 ho10 htl10=>?_))))))
 replace H:=H.call hE
 refine zj O (zEx O O (zEx O O (zAl H O fun b5 S hb5 hE H=>zSs H O O O .h O fun S hE H=>zj O (vA (vt O (zL1 H O .h O (zLl O (vt O (zL1 H O .h1 O (zLl O (za (W_eqI O O fun t19 h19=>zj O (zN (zh (zP O ?_)))))))))))))))
 exact k _ _ H.qx (h19.trans (by unfold knowsP;omega))
theorem ct140 {m:Bs} (hs:Sl S0 2 a (zS es)) (hcp:es.length≤cap) (hl:es.length≤1099511627776) (hll:l.length≤1099511627776) (hmm:m.length≤1099511627776) (k:∀ (t:Bool) S',Ext [] S0 S'→(t=true↔nearP es l m)→K (.bool t) S') :
  zC 140 #[.agg #[.slice a es.length cap],str l,str m] S0 K:=by
 refine zGh (sf:=s140) Tryz.func140 fun H=>zR (zBx H O O fun b3 S hb3 hE H=>zj O (vA (zj O (zCl O (ct72 (by omega) fun b14 cap14 S hE hb14 hO14=>?_)))))
 obtain ⟨cs14,ho14,hn14,hcl14,hct14,_⟩:=hO14
 replace H:=H.adopt hE hb14 ho14
 have hal:=lines_le l
 have hnl:(zD l).1.length≤l.length:=strLines_len l
 refine zj O (zEx O O (zEx O O (zj O (zj O (vA (zj O (zCl O (ct72 (by omega) fun b19 cap19 S hE hb19 hO19=>?_))))))))
 obtain ⟨cs19,ho19,hn19,hcl19,hct19,_⟩:=hO19
 replace H:=H.adopt hE hb19 ho19
 have hbl:=lines_le m
 refine zj O (zEx O O (zEx O O (zj O (zj O (zN (vz (zj O (zLl O (zj O (zLl O (za (W_neI O O fun t26 h26=>zj O ?_))))))))))))
 rcases t26 with _|_
 ·replace h26:=bF h26
  refine zi O (vB O (zi O (W_neS O O fun t29 h29=>vp O O O O (zj O ?_))))
  rcases t29 with _|_
  ·replace h29:=bF h29
   refine zi O (vB O (zi O (vG O (zi O (W_gtr O O fun t34 h34=>vp O O O O (zN ?_))))))
   rcases t34 with _|_
   ·replace h34:=bF h34
    refine zn O (zt (ze (vz (zj O (zN (zE ?_))))))
    refine vg (fun E S m_=>∃ (i:Nat),E=Env.lst [(3,ptr b3 0),(7,sl b14 0 (zD l).1.length cap14),(9,sl b19 0 (zD m).1.length cap19),(11,int i)]∧Loc [] S0 S [(b19,Cs cs19 9),(b14,Cs cs14 9),(b3,Cs [.slice a es.length cap] 26)]∧(i≤(zD l).1.length)∧(∀ (j:Nat) (u v:Bs),j<i→(zD l).1[j]? = some u→(zD m).1[j]? = some v→v=u∨v=lineIn es u)∧m_=(zD l).1.length-i) ?_ ?_
    ·skip
     refine ⟨_,_,?le,0,O,H,(by omega),(fun _ _ _ h=>absurd h (by omega)),O⟩
     case le=>exact Env.qle ⟨O,O,O,O,⟨⟩⟩
    ·skip
     rintro _ S _ ⟨i,rfl,H,hi,hp,rfl⟩
     refine vz (zj O (zj O (zLl O (za (vq O O fun t39 h39=>zN ?_)))))
     rcases t39 with _|_
     ·replace h39:=bF h39
      refine zn O (vf (zM (zM (vn (ze (zR (zj O (zN (zh (zP O ?_))))))))))
      exact k _ _ H.qx ⟨fun _=>⟨by omega,Classical.not_not.1 h29,by omega,fun j u v hu hv=>hp j u v (by have:=(List.getElem?_eq_some_iff.1 hu).1;omega) hu hv⟩,fun _=>rfl⟩
     ·replace h39:=bT h39
      have hlen:(zD l).1.length=(zD m).1.length:=by omega
      obtain ⟨x,hx⟩:∃ x,(zD l).1[i]? = some x:=⟨(zD l).1[i]'(by omega),by simp⟩
      obtain ⟨y,hy⟩:∃ y,(zD m).1[i]? = some y:=⟨(zD m).1[i]'(by omega),by simp⟩
      have hx14:=str_at hct14 hx
      have hy19:=str_at hct19 hy
      refine zr O (zt (ze (zB (zE (zB (z9 [] (vJ 0 O O O (vJ 1 O O O (vO 2 O O (fun _ _ hK=>vl O O (by omega) (by omega) hK) (vk 3 O O (fun S' hS'=>zG fun K hK=>zF O (zH (hS' O) (by simp) (H.cell .h hy19)) hK) (vJ 4 O O O (vJ 5 O O O (vO 6 O O (fun _ _ hK=>vl O O (by omega) (by omega) hK) (vk 7 O O (fun S' hS'=>zG fun K hK=>zF O (zH (hS' O) (by simp) (H.cell .h1 hx14)) hK) (zCm 8 O O (fun S' _=>zG fun K hK=>W_neSd O O hK) fun t50 h50=>vJ 9 O O O ?_)))))))))))))))
      rcases t50 with _|_
      ·replace h50:=bF h50
       refine vk 10 O O (fun S' _=>vo O (by decide)) (vk 11 O O (fun S' _=>vo O (by decide)) (vk 12 O O (fun S' _=>vo O (by decide)) (vk 13 O O (fun S' _=>vo O (by decide)) (vk 14 O O (fun S' _=>vo O (by decide)) (vk 15 O O (fun S' _=>vo O (by decide)) (vk 16 O O (fun S' _=>vo O (by decide)) (vk 17 O O (fun S' _=>vo O (by decide)) (vk 18 O O (fun S' _=>vo O (by decide)) (zA 19 (by kernel_rfl) O O (step_no O (by decide) (⟨fun _=>fun _ _ _ h=>h,vk 20 O O (fun S' _=>vo O (by decide)) (vO 21 O O (fun _ _ hK=>W_pick O O O O hK) (zY (ze (zn O (zt (vc (ze (zL (zj O (zAd O O (zj O (zN ?_))))))))))))⟩)))))))))))
       refine ⟨_,_,?lt,?le,(i+1),O,H,(by omega),(fun j u v hj hu hv=>by
        by_cases hji:j<i
        ·exact hp j u v hji hu hv
        ·obtain rfl:j=i:=by omega
         rw [hx] at hu;rw [hy] at hv;cases hu;cases hv
         first | exact .inl (Classical.not_not.1 h50) | exact .inr (Classical.not_not.1 h62)),rfl⟩
       case lt=>omega
       case le=>exact Env.qle ⟨O,O,O,O,⟨⟩⟩
      ·replace h50:=bT h50
       refine vk 10 O O (fun S' _=>vi O fun K hK=>vB O hK) (vk 11 O O (fun S' _=>vi O fun K hK=>vB O hK) (vk 12 O O (fun S' _=>vi O fun K hK=>vl O O (by omega) (by omega) hK) (vk 13 O O (fun S' hS'=>vi O fun K hK=>zF O (zH (hS' O) (by simp) (H.cell .h hy19)) hK) (vk 14 O O (fun S' hS'=>vi O fun K hK=>zV O (zK (hS' O) (by simp) (H.cells (vs:=[_]) .h2 O)) hK) (vk 15 O O (fun S' _=>vi O fun K hK=>vB O hK) (vk 16 O O (fun S' _=>vi O fun K hK=>vB O hK) (vk 17 O O (fun S' _=>vi O fun K hK=>vl O O (by omega) (by omega) hK) (vk 18 O O (fun S' hS'=>vi O fun K hK=>zF O (zH (hS' O) (by simp) (H.cell .h1 hx14)) hK) (zA 19 (by kernel_rfl) O O (step_yes O (zT O (ct208 (hs.mono H.qx) hcp (by omega) (by have:=hal x (List.mem_of_getElem? hx);omega) fun S hE =>?_))))))))))))
       replace H:=H.call hE
       refine ⟨fun _=>hE.up.ext,zCm 20 O O (fun S' _=>vi O fun K hK=>W_neSd O O hK) fun t62 h62=>vO 21 O O (fun _ _ hK=>W_pick O O O O hK) (zY (ze ?_))⟩
       rcases t62 with _|_
       ·replace h62:=bF h62
        refine zn O (zt (vc (ze (zL (zj O (zAd O O (zj O (zN ?_))))))))
        refine ⟨_,_,?lt,?le,(i+1),O,H,(by omega),(fun j u v hj hu hv=>by
         by_cases hji:j<i
         ·exact hp j u v hji hu hv
         ·obtain rfl:j=i:=by omega
          rw [hx] at hu;rw [hy] at hv;cases hu;cases hv
          first | exact .inl (Classical.not_not.1 h50) | exact .inr (Classical.not_not.1 h62)),rfl⟩
        case lt=>omega
        case le=>exact Env.qle ⟨O,O,O,O,⟨⟩⟩
       ·replace h62:=bT h62
        refine zr O (zR (zj O (zN (zh (vd (zv (zv (vd (zv (zP O ?_))))))))))
        exact k _ _ H.qx ⟨nofun,fun h=>by rcases h.2.2.2 i x y hx hy with h | h;exact absurd h h50;exact absurd h h62⟩
   ·replace h34:=bT h34
    refine zr O (zR (zj O (zN (zh (zv (zP O ?_))))))
    exact k _ _ H.qx ⟨nofun,fun h=>by have:=h.2.2.1;omega⟩
  ·replace h29:=bT h29
   refine zJ O (zJ O (zJ O (vp O O O O (zN (zr O (zR (zj O (zN (zh (zv (zP O ?_)))))))))))
   exact k _ _ H.qx ⟨nofun,fun h=>absurd h.2.1 h29⟩
 ·replace h26:=bT h26
  refine zJ O (zJ O (vp O O O O (zj O (zJ O (zJ O (zJ O (vp O O O O (zN (zr O (zR (zj O (zN (zh (zv (zP O ?_)))))))))))))))
  exact k _ _ H.qx ⟨nofun,fun h=>by have:=h.1;omega⟩
theorem ct59 {j:Nat} {x:Conn} (h1:Sl S0 7 a1 (z5 b.rs)) (h2:Sl S0 2 a2 (zS b.es)) (h3:Sl S0 7 a3 (zX b.cs)) (hc2:b.es.length≤c2) (hc3:b.cs.length≤c3) (hz:BoxZ b) (h6:b.es.length≤6) (hx:b.cs[j]? = some x) (k:∀ (t:Bool) S',Ext [] S0 S'→(t=true↔ConnP b.es x∧vK (b.cs.take j) x.i x.o<0)→K (.bool t) S') :
  zC 59 #[.agg #[.slice a1 b.rs.length c1,.slice a2 b.es.length c2,.slice a3 b.cs.length c3],int j] S0 K:=by
 refine zGh (sf:=s59) Tryz.func59 fun H=>?_
 obtain ⟨z1,z2,z3,hzz⟩:=hz
 have hzx:=hzz x (List.mem_of_getElem? hx)
 have hj:=(List.getElem?_eq_some_iff.1 hx).1
 obtain ⟨p,off,rfl,hc⟩:=h3.row j _ (vH hx)
 refine zR (zBx H O O fun b2 S hb2 hE H=>zj O (vA (vt O (zL1 H O .h O (zj O (zIa O O (za (zV (vs:=[_,_,_,_,_,_,_]) O (H.qx.cells hc) (zAl H O fun b5 S hb5 hE H=>zSs H O O O .h O fun S hE H=>zN (vz (vt O (zLn (vs:=[_,_]) H O .h O (zCl O (ct90  fun t13 S hE h13=>?_))))))))))))))
 replace H:=H.call hE
 refine zNt O (zj O ?_)
 rcases t13 with _|_
 ·replace h13:=bF h13
  refine zJ O (zJ O (zJ O (zJ O (vp O O O O (zj O (zJ O (zJ O (zJ O (zJ O (vp O O O O (zj O (zJ O (zJ O (zJ O (zJ O (zJ O (zJ O (vp O O O O (zj O (zJ O (zJ O (zJ O (zJ O (vp O O O O (zj O (zJ O (zJ O (zJ O ?_))))))))))))))))))))))))))))
  refine zJ O (vp O O O O (zN (zr O (zR (zj O (zN (zh (zv (zP O ?_)))))))))
  exact k _ _ H.qx ⟨nofun,fun h=>by obtain ⟨⟨p1,p2,p3,p4,p5,p6,p7,p8⟩,_⟩:=h;first | exact absurd p1 h13 | exact absurd p2 h18 | exact absurd p3 h25 | exact absurd p4 (portE_zero.1 h33) | exact absurd p5 h38 | exact absurd p6 h44 | exact absurd p7 h51 | exact absurd p8 h59⟩
 ·replace h13:=bT h13
  refine zi O (zy O (zi O (W_loadN (vs:=[_,_]) H O .h O (zi O (zT O (ct77  fun t18 S hE h18=>?_))))))
  replace H:=H.call hE
  refine zi O (W_not O (vp O O O O (zj O ?_)))
  rcases t18 with _|_
  ·replace h18:=bF h18
   refine zJ O (zJ O (zJ O (zJ O (vp O O O O (zj O (zJ O (zJ O (zJ O (zJ O (zJ O (zJ O (vp O O O O (zj O (zJ O (zJ O (zJ O (zJ O (vp O O O O (zj O (zJ O (zJ O (zJ O (zJ O (vp O O O O (zN (zr O (zR (zj O ?_))))))))))))))))))))))))))))
   refine zN (zh (zv (zP O ?_)))
   exact k _ _ H.qx ⟨nofun,fun h=>by obtain ⟨⟨p1,p2,p3,p4,p5,p6,p7,p8⟩,_⟩:=h;first | exact absurd p1 h13 | exact absurd p2 h18 | exact absurd p3 h25 | exact absurd p4 (portE_zero.1 h33) | exact absurd p5 h38 | exact absurd p6 h44 | exact absurd p7 h51 | exact absurd p8 h59⟩
  ·replace h18:=bT h18
   refine zi O (zy O (zi O (zy O (zi O (vh H O .h O (zi O (W_neI O O fun t25 h25=>vp O O O O (zj O ?_))))))))
   rcases t25 with _|_
   ·replace h25:=bF h25
    refine zi O (zy O (zi O (W_loadN (vs:=[_]) H O .h1 O (zi O (zy O (zi O (W_loadN (vs:=[_,_]) H O .h O (zi O (zT O (ct138 (h2.mono H.qx) hc2 (by omega) fun S hE =>?_))))))))))
    replace H:=H.call hE
    refine zi O (W_eqI O O fun t33 h33=>vp O O O O (zj O ?_))
    rcases t33 with _|_
    ·replace h33:=bF h33
     refine zi O (zy O (zi O (vh H O .h O (zi O (zT O (ct22 (by omega) fun t38 S hE h38=>?_))))))
     replace H:=H.call hE
     refine zi O (W_not O (vp O O O O (zj O ?_)))
     rcases t38 with _|_
     ·replace h38:=bF h38
      refine zJ O (zJ O (zJ O (zJ O (vp O O O O (zN (zr O (zR (zj O (zN (zh (zv (zP O ?_))))))))))))
      exact k _ _ H.qx ⟨nofun,fun h=>by obtain ⟨⟨p1,p2,p3,p4,p5,p6,p7,p8⟩,_⟩:=h;first | exact absurd p1 h13 | exact absurd p2 h18 | exact absurd p3 h25 | exact absurd p4 (portE_zero.1 h33) | exact absurd p5 h38 | exact absurd p6 h44 | exact absurd p7 h51 | exact absurd p8 h59⟩
     ·replace h38:=bT h38
      refine zi O (zy O (zi O (vh H O .h O (zi O (zT O (ct22 (by omega) fun t44 S hE h44=>?_))))))
      replace H:=H.call hE
      refine zi O (W_not O (vp O O O O (zN ?_)))
      rcases t44 with _|_
      ·replace h44:=bF h44
       refine zr O (zR (zj O (zN (zh (zv (zP O ?_))))))
       exact k _ _ H.qx ⟨nofun,fun h=>by obtain ⟨⟨p1,p2,p3,p4,p5,p6,p7,p8⟩,_⟩:=h;first | exact absurd p1 h13 | exact absurd p2 h18 | exact absurd p3 h25 | exact absurd p4 (portE_zero.1 h33) | exact absurd p5 h38 | exact absurd p6 h44 | exact absurd p7 h51 | exact absurd p8 h59⟩
      ·replace h44:=bT h44
       refine zn O (zt (ze (zB (z9 [] (zLf 0 O O O (vk 1 O O (fun S' hS'=>zG fun K hK=>zV O (zK (hS' O) (by simp) (H.cells (vs:=[_]) .h1 O)) hK) (zLf 2 O O O (vk 3 O O (fun S' hS'=>zG fun K hK=>zF O (zH (hS' O) (by simp) (H.cell .h O)) hK) (zA 4 (by kernel_rfl) O O (zu (zT O (ct139 (h2.mono H.qx) hc2 (by omega) (by omega) fun t51 S hE h51=>?_))))))))))))
       replace H:=H.call hE
       refine ⟨fun _=>hE.up.ext,vJ 5 O O O ?_⟩
       rcases t51 with _|_
       ·replace h51:=bF h51
        refine vk 6 O O (fun S' _=>vo O (by decide)) (vk 7 O O (fun S' _=>vo O (by decide)) (vk 8 O O (fun S' _=>vo O (by decide)) (vk 9 O O (fun S' _=>vo O (by decide)) (vk 10 O O (fun S' _=>vo O (by decide)) (vk 11 O O (fun S' _=>vo O (by decide)) (zA 12 (by kernel_rfl) O O (step_no O (by decide) (⟨fun _=>fun _ _ _ h=>h,vO 13 O O (fun _ _ hK=>W_pick O O O O hK) (vJ 14 O O O (vk 15 O O (fun S' _=>vo O (by decide)) (vk 16 O O (fun S' _=>vo O (by decide)) (vk 17 O O (fun S' _=>vo O (by decide)) (vk 18 O O (fun S' _=>vo O (by decide)) (vk 19 O O (fun S' _=>vo O (by decide)) (vk 20 O O (fun S' _=>vo O (by decide)) (vk 21 O O (fun S' _=>vo O (by decide)) (vk 22 O O (fun S' _=>vo O (by decide)) (zA 23 (by kernel_rfl) O O (step_no O (by decide) (⟨fun _=>fun _ _ _ h=>h,vk 24 O O (fun S' _=>vo O (by decide)) (vO 25 O O (fun _ _ hK=>W_pick O O O O hK) (vJ 26 O O O (zY (ze (zh (zP O ?_))))))⟩))))))))))))⟩))))))))
        exact k _ _ H.qx ⟨nofun,fun h=>by obtain ⟨⟨p1,p2,p3,p4,p5,p6,p7,p8⟩,_⟩:=h;first | exact absurd p1 h13 | exact absurd p2 h18 | exact absurd p3 h25 | exact absurd p4 (portE_zero.1 h33) | exact absurd p5 h38 | exact absurd p6 h44 | exact absurd p7 h51 | exact absurd p8 h59⟩
       ·replace h51:=bT h51
        refine vk 6 O O (fun S' _=>vi O fun K hK=>zy O hK) (vk 7 O O (fun S' hS'=>vi O fun K hK=>zV O (zK (hS' O) (by simp) (H.cells (vs:=[_]) .h1 O)) hK) (vk 8 O O (fun S' _=>vi O fun K hK=>zy O hK) (vk 9 O O (fun S' hS'=>vi O fun K hK=>zF O (zH (hS' O) (by simp) (H.cell .h O)) hK) (vk 10 O O (fun S' _=>vi O fun K hK=>zy O hK) (vk 11 O O (fun S' hS'=>vi O fun K hK=>zF O (zH (hS' O) (by simp) (H.cell .h O)) hK) (zA 12 (by kernel_rfl) O O (step_yes O (zT O (ct140 (h2.mono H.qx) hc2 (by omega) (by omega) (by omega) fun t59 S hE h59=>?_)))))))))
        replace H:=H.call hE
        refine ⟨fun _=>hE.up.ext,vO 13 O O (fun _ _ hK=>W_pick O O O O hK) (vJ 14 O O O ?_)⟩
        rcases t59 with _|_
        ·replace h59:=bF h59
         refine vk 15 O O (fun S' _=>vo O (by decide)) (vk 16 O O (fun S' _=>vo O (by decide)) (vk 17 O O (fun S' _=>vo O (by decide)) (vk 18 O O (fun S' _=>vo O (by decide)) (vk 19 O O (fun S' _=>vo O (by decide)) (vk 20 O O (fun S' _=>vo O (by decide)) (vk 21 O O (fun S' _=>vo O (by decide)) (vk 22 O O (fun S' _=>vo O (by decide)) (zA 23 (by kernel_rfl) O O (step_no O (by decide) (⟨fun _=>fun _ _ _ h=>h,vk 24 O O (fun S' _=>vo O (by decide)) (vO 25 O O (fun _ _ hK=>W_pick O O O O hK) (vJ 26 O O O (zY (ze (zh (zP O ?_))))))⟩))))))))))
         exact k _ _ H.qx ⟨nofun,fun h=>by obtain ⟨⟨p1,p2,p3,p4,p5,p6,p7,p8⟩,_⟩:=h;first | exact absurd p1 h13 | exact absurd p2 h18 | exact absurd p3 h25 | exact absurd p4 (portE_zero.1 h33) | exact absurd p5 h38 | exact absurd p6 h44 | exact absurd p7 h51 | exact absurd p8 h59⟩
        ·replace h59:=bT h59
         refine vk 15 O O (fun S' _=>vi O fun K hK=>zy O hK) (vk 16 O O (fun S' hS'=>vi O fun K hK=>zF O (zH (hS' O) (by simp) (H.cell .h1 O)) hK) (vk 17 O O (fun S' _=>vi O fun K hK=>vB O hK) (vk 18 O O (fun S' _=>vi O fun K hK=>W_slTake (l:=b.cs) O O (by omega) (by omega) hc3 hK) (vk 19 O O (fun S' _=>vi O fun K hK=>zy O hK) (vk 20 O O (fun S' hS'=>vi O fun K hK=>zV O (zK (hS' O) (by simp) (H.cells (vs:=[_,_]) .h O)) hK) (vk 21 O O (fun S' _=>vi O fun K hK=>zy O hK) (vk 22 O O (fun S' hS'=>vi O fun K hK=>zV O (zK (hS' O) (by simp) (H.cells (vs:=[_,_]) .h O)) hK) (zA 23 (by kernel_rfl) O O (step_yes O (zT O (ct82 (cs:=b.cs.take j) ((h3.mono H.qx).takeC j) (by simp;omega) fun S hE =>?_)))))))))))
         replace H:=H.call hE
         refine zLd (zCm 24 O O (fun S' _=>vi O fun K hK=>W_bin O O O hK) fun t71 h71=>vO 25 O O (fun _ _ hK=>W_pick O O O O hK) (vJ 26 O O O (zY (ze (zh (zP O ?_))))))
         exact k _ _ H.qx (h71.trans ⟨fun h=>⟨⟨h13,h18,Classical.not_not.1 h25,Classical.not_not.1 (fun hm=>h33 (portE_zero.2 hm)),h38,h44,h51,h59⟩,h⟩,fun h=>h.2⟩)
    ·replace h33:=bT h33
     refine zJ O (zJ O (zJ O (zJ O (vp O O O O (zj O (zJ O (zJ O (zJ O (zJ O (vp O O O O (zN (zr O (zR (zj O (zN (zh (zv (zP O ?_))))))))))))))))))
     exact k _ _ H.qx ⟨nofun,fun h=>by obtain ⟨⟨p1,p2,p3,p4,p5,p6,p7,p8⟩,_⟩:=h;first | exact absurd p1 h13 | exact absurd p2 h18 | exact absurd p3 h25 | exact absurd p4 (portE_zero.1 h33) | exact absurd p5 h38 | exact absurd p6 h44 | exact absurd p7 h51 | exact absurd p8 h59⟩
   ·replace h25:=bT h25
    refine zJ O (zJ O (zJ O (zJ O (zJ O (zJ O (vp O O O O (zj O (zJ O (zJ O (zJ O (zJ O (vp O O O O (zj O (zJ O (zJ O (zJ O (zJ O (vp O O O O (zN (zr O (zR (zj O (zN (zh (zv (zP O ?_))))))))))))))))))))))))))
    exact k _ _ H.qx ⟨nofun,fun h=>by obtain ⟨⟨p1,p2,p3,p4,p5,p6,p7,p8⟩,_⟩:=h;first | exact absurd p1 h13 | exact absurd p2 h18 | exact absurd p3 h25 | exact absurd p4 (portE_zero.1 h33) | exact absurd p5 h38 | exact absurd p6 h44 | exact absurd p7 h51 | exact absurd p8 h59⟩
theorem ct14 (h1:Sl S0 7 a1 (z5 b.rs)) (h2:Sl S0 2 a2 (zS b.es)) (h3:Sl S0 7 a3 (zX b.cs)) (hc2:b.es.length≤c2) (hc3:b.cs.length≤c3) (hz:BoxZ b) (k:∀ (t:Bool) S',Ext [] S0 S'→(t=true↔BoxP b)→K (.bool t) S') :
  zC 14 #[.agg #[.slice a1 b.rs.length c1,.slice a2 b.es.length c2,.slice a3 b.cs.length c3]] S0 K:=by
 refine zGh (sf:=s14) Tryz.func14 fun H=>?_
 obtain ⟨z1,z2,z3,hzz⟩:=id hz
 refine zR (zBx H O O fun b1 S hb1 hE H=>zj O (zN (vz (vt O (zLn (vs:=[_]) H O .h O (zCl O (ct57 (h2.mono H.qx) hc2 (by omega) fun t6 S hE h6=>?_)))))))
 replace H:=H.call hE
 refine zNt O (zj O ?_)
 rcases t6 with _|_
 ·replace h6:=bF h6
  refine zJ O (zJ O (zJ O (zJ O (vp O O O O (zj O (zJ O (zJ O (zJ O (zJ O (vp O O O O (zN (zr O (zR (zj O (zN (zh (zv (zP O ?_))))))))))))))))))
  exact k _ _ H.qx ⟨nofun,fun h=>absurd h.1 h6⟩
 ·replace h6:=bT h6
  refine zi O (zy O (zi O (vh H O .h O (zi O (zT O (ct58 (h1.mono H.qx) (by omega) fun t11 S hE h11=>?_))))))
  replace H:=H.call hE
  refine zi O (W_not O (vp O O O O (zj O ?_)))
  rcases t11 with _|_
  ·replace h11:=bF h11
   refine zJ O (zJ O (zJ O (zJ O (vp O O O O (zN (zr O (zR (zj O (zN (zh (zv (zP O ?_))))))))))))
   exact k _ _ H.qx ⟨nofun,fun h=>absurd h.2.1 h11⟩
  ·replace h11:=bT h11
   refine zi O (zy O (zi O (vh H O .h O (zi O (W_lenL O (zi O (W_gtr O O fun t18 h18=>vp O O O O (zN ?_))))))))
   rcases t18 with _|_
   ·replace h18:=bF h18
    refine zn O (zt (ze (vz (zj O (zN (zE ?_))))))
    refine vg (fun E S m_=>∃ (i:Nat),E=Env.lst [(1,ptr b1 0),(3,int i)]∧Loc [] S0 S [(b1,Cs [.slice a1 b.rs.length c1,.slice a2 b.es.length c2,.slice a3 b.cs.length c3] 29)]∧(i≤b.cs.length)∧(∀ (q:Nat) (c:Conn),q<i→b.cs[q]? = some c→ConnP b.es c∧vK (b.cs.take q) c.i c.o<0)∧m_=b.cs.length-i) ?_ ?_
    ·skip
     refine ⟨_,_,?le,0,O,H,(by omega),(fun _ _ h=>absurd h (by omega)),O⟩
     case le=>exact Env.qle ⟨O,O,⟨⟩⟩
    ·skip
     rintro _ S _ ⟨i,rfl,H,hi,hp,rfl⟩
     refine vz (zj O (vt O (zL1 H O .h O (zLl O (za (vq O O fun t24 h24=>zN ?_))))))
     rcases t24 with _|_
     ·replace h24:=bF h24
      refine zn O (vf (zM (zM (vn (ze (zR (zj O (zN (zh (zP O ?_))))))))))
      exact k _ _ H.qx ⟨fun _=>⟨h6,h11,by omega,fun q c hc=>hp q c (by have:=(List.getElem?_eq_some_iff.1 hc).1;omega) hc⟩,fun _=>rfl⟩
     ·replace h24:=bT h24
      obtain ⟨x,hx⟩:∃ x,b.cs[i]? = some x:=⟨b.cs[i]'(by omega),by simp⟩
      refine zr O (zt (ze (zB (zE (zR (zLn (vs:=[_,_,_]) H O .h O (zj O (zCl O (ct59 (h1.mono H.qx) (h2.mono H.qx) (h3.mono H.qx) hc2 hc3 hz h6.1 hx fun t29 S hE h29=>?_)))))))))
      replace H:=H.call hE
      refine zNt O (zN ?_)
      rcases t29 with _|_
      ·replace h29:=bF h29
       refine zr O (zR (zj O (zN (zh (vd (zv (zv (vd (zv (zP O ?_))))))))))
       exact k _ _ H.qx ⟨nofun,fun h=>absurd (h.2.2.2 i x hx) h29⟩
      ·replace h29:=bT h29
       refine zn O (zt (vc (ze (zL (zj O (zAd O O (zj O (zN ?_))))))))
       refine ⟨_,_,?lt,?le,(i+1),O,H,(by omega),(fun q c hq hc=>by
        by_cases hqi:q<i
        ·exact hp q c hqi hc
        ·obtain rfl:q=i:=by omega
         rw [hx] at hc;cases hc;exact h29),rfl⟩
       case lt=>omega
       case le=>exact Env.qle ⟨O,O,⟨⟩⟩
   ·replace h18:=bT h18
    refine zr O (zR (zj O (zN (zh (zv (zP O ?_))))))
    exact k _ _ H.qx ⟨nofun,fun h=>by have:=h.2.2.1;omega⟩
theorem ct79 (h1:Sl S0 7 a1 (z5 b.rs)) (h2:Sl S0 2 a2 (zS b.es)) (h3:Sl S0 7 a3 (zX b.cs)) (hc2:b.es.length≤c2) (hc3:b.cs.length≤c3) (hz:BoxZ b) (k:∀ (n1 n2 n3 d1 d2 d3:Nat) S',Ext [] S0 S'→(OwnB S' n1 162 7 d1 (z5 b.rs))→(OwnB S' n2 31 2 d2 (zS b.es))→(OwnB S' n3 49 7 d3 (zX b.cs))→(S0 n1=none)→(S0 n2=none)→(S0 n3=none)→(n1≠n2)→(n1≠n3)→(n2≠n3)→K (.agg #[sl n1 0 b.rs.length d1,sl n2 0 b.es.length d2,sl n3 0 b.cs.length d3]) S') :
  zC 79 #[.agg #[.slice a1 b.rs.length c1,.slice a2 b.es.length c2,.slice a3 b.cs.length c3]] S0 K:=by
 refine zGh (sf:=s79) Tryz.func79 fun H=>?_
 obtain ⟨z1,z2,z3,hzz⟩:=id hz
 refine zR (zBx H O O fun b1 S hb1 hE H=>zAl H O fun b2 S hb2 hE H=>zN (zB (z9 [] (zLf 1 O O O (vk 2 O O (fun S' hS'=>zG fun K hK=>zF O (zH (hS' O) (by simp) (H.cell .h1 O)) hK) (zLf 4 O O O (vk 5 O O (fun S' hS'=>zG fun K hK=>zV O (zK (hS' O) (by simp) (H.cells (vs:=[_]) .h1 O)) hK) (zLf 8 O O O (vk 9 O O (fun S' hS'=>zG fun K hK=>zF O (zH (hS' O) (by simp) (H.cell .h1 O)) hK) (wpD_two 0 7 (by kernel_rfl) O O O O ?_ ?_))))))))))
 ·skip
  refine zu (z_ (cs:=[]) H O O fun b3 S hb3 hE H=>⟨fun _=>hE.up.ext,wpD_two 3 7 (by kernel_rfl) O O O O ?_ ?_⟩)
  ·skip
   refine zu (W_appendZ (new:=(z5 b.rs).flatten) H O O .h (Src.sl (h1.mono H.qx) vN (by simp)) ruleRows_one (ruleRows_flat _) (by decide) (by decide) (by omega) O fun b6 cap6 cs6 S hb6 H hE hn6 hcl6 hct6=>⟨fun _=>hE.up.ext,wpD_two 6 7 (by kernel_rfl) O O O O ?_ ?_⟩)
   ·skip
    refine zu (zT O (ct161 (h2.mono H.qx) hc2 (by omega) fun b9 cap9 S hE hb9 hO9=>?_))
    obtain ⟨cs9,ho9,hn9,hcl9,hct9,_⟩:=hO9
    replace H:=H.adopt hE hb9 ho9
    refine ⟨fun _=>hE.up.ext,zA 7 (by kernel_rfl) O O (zu (z_ (cs:=[]) H O O fun b10 S hb10 hE H=>⟨fun _=>hE.up.ext,zA 10 (by kernel_rfl) O O (zu (W_appendZ (new:=(zX b.cs).flatten) H O O .h (Src.sl (h3.mono H.qx) zZ (by simp)) connRows_one (connRows_flat _) (by decide) (by decide) (by omega) O fun b13 cap13 cs13 S hb13 H hE hn13 hcl13 hct13=>zLd (vO 11 O O (fun _ _ hK=>vL (cs:=[_,_,_]) O O hK) (zA 12 (by kernel_rfl) O O (zu (zSt H O O O .h3 O fun S hE H=>zLd (zY (ze (zh (⟨trivial,_,(z0 (ws:=[_,_,_]) H O .h3 O zU),?_⟩))))))))))⟩))⟩
    simp only [Nat.zero_add] at hn6 hct6 hn13 hct13 ⊢
    have hnd:=H.nodup
    simp at hnd
    exact k _ _ _ _ _ _ _ H.qx ⟨_,H.get .h2,by simpa using hn6,hcl6,by simpa using hct6,vN⟩ ⟨_,H.get .h1,by simpa using hn9,hcl9,by simpa using hct9,endRows_two⟩ ⟨_,H.get .h,by simpa using hn13,hcl13,by simpa using hct13,zZ⟩ (H.new1 .h2) (H.new1 .h1) (H.new1 .h) (by omega) (by omega) (by omega)
   ·skip
    refine zu (z_ (cs:=[]) H O O fun b10 S hb10 hE H=>⟨fun _=>hE.up.ext,zA 6 (by kernel_rfl) O O (zu (zT O (ct161 (h2.mono H.qx) hc2 (by omega) fun b9 cap9 S hE hb9 hO9=>?_)))⟩)
    obtain ⟨cs9,ho9,hn9,hcl9,hct9,_⟩:=hO9
    replace H:=H.adopt hE hb9 ho9
    refine ⟨fun _=>hE.up.ext,zA 10 (by kernel_rfl) O O (zu (W_appendZ (new:=(zX b.cs).flatten) H O O .h1 (Src.sl (h3.mono H.qx) zZ (by simp)) connRows_one (connRows_flat _) (by decide) (by decide) (by omega) O fun b13 cap13 cs13 S hb13 H hE hn13 hcl13 hct13=>zLd (vO 11 O O (fun _ _ hK=>vL (cs:=[_,_,_]) O O hK) (zA 12 (by kernel_rfl) O O (zu (zSt H O O O .h3 O fun S hE H=>zLd (zY (ze (zh (⟨trivial,_,(z0 (ws:=[_,_,_]) H O .h3 O zU),?_⟩))))))))))⟩
    simp only [Nat.zero_add] at hn6 hct6 hn13 hct13 ⊢
    have hnd:=H.nodup
    simp at hnd
    exact k _ _ _ _ _ _ _ H.qx ⟨_,H.get .h2,by simpa using hn6,hcl6,by simpa using hct6,vN⟩ ⟨_,H.get .h1,by simpa using hn9,hcl9,by simpa using hct9,endRows_two⟩ ⟨_,H.get .h,by simpa using hn13,hcl13,by simpa using hct13,zZ⟩ (H.new1 .h2) (H.new1 .h1) (H.new1 .h) (by omega) (by omega) (by omega)
  ·skip
   refine zu (z_ (cs:=[]) H O O fun b10 S hb10 hE H=>⟨fun _=>hE.up.ext,zA 3 (by kernel_rfl) O O (zu (W_appendZ (new:=(z5 b.rs).flatten) H O O .h1 (Src.sl (h1.mono H.qx) vN (by simp)) ruleRows_one (ruleRows_flat _) (by decide) (by decide) (by omega) O fun b6 cap6 cs6 S hb6 H hE hn6 hcl6 hct6=>⟨fun _=>hE.up.ext,zA 6 (by kernel_rfl) O O (zu (zT O (ct161 (h2.mono H.qx) hc2 (by omega) fun b9 cap9 S hE hb9 hO9=>?_)))⟩))⟩)
   obtain ⟨cs9,ho9,hn9,hcl9,hct9,_⟩:=hO9
   replace H:=H.adopt hE hb9 ho9
   refine ⟨fun _=>hE.up.ext,zA 10 (by kernel_rfl) O O (zu (W_appendZ (new:=(zX b.cs).flatten) H O O .h2 (Src.sl (h3.mono H.qx) zZ (by simp)) connRows_one (connRows_flat _) (by decide) (by decide) (by omega) O fun b13 cap13 cs13 S hb13 H hE hn13 hcl13 hct13=>zLd (vO 11 O O (fun _ _ hK=>vL (cs:=[_,_,_]) O O hK) (zA 12 (by kernel_rfl) O O (zu (zSt H O O O .h3 O fun S hE H=>zLd (zY (ze (zh (⟨trivial,_,(z0 (ws:=[_,_,_]) H O .h3 O zU),?_⟩))))))))))⟩
   simp only [Nat.zero_add] at hn6 hct6 hn13 hct13 ⊢
   have hnd:=H.nodup
   simp at hnd
   exact k _ _ _ _ _ _ _ H.qx ⟨_,H.get .h2,by simpa using hn6,hcl6,by simpa using hct6,vN⟩ ⟨_,H.get .h1,by simpa using hn9,hcl9,by simpa using hct9,endRows_two⟩ ⟨_,H.get .h,by simpa using hn13,hcl13,by simpa using hct13,zZ⟩ (H.new1 .h2) (H.new1 .h1) (H.new1 .h) (by omega) (by omega) (by omega)
 ·skip
  refine zu (z_ (cs:=[]) H O O fun b10 S hb10 hE H=>⟨fun _=>hE.up.ext,zA 0 (by kernel_rfl) O O (zu (z_ (cs:=[]) H O O fun b3 S hb3 hE H=>⟨fun _=>hE.up.ext,zA 3 (by kernel_rfl) O O (zu (W_appendZ (new:=(z5 b.rs).flatten) H O O .h (Src.sl (h1.mono H.qx) vN (by simp)) ruleRows_one (ruleRows_flat _) (by decide) (by decide) (by omega) O fun b6 cap6 cs6 S hb6 H hE hn6 hcl6 hct6=>⟨fun _=>hE.up.ext,zA 6 (by kernel_rfl) O O (zu (zT O (ct161 (h2.mono H.qx) hc2 (by omega) fun b9 cap9 S hE hb9 hO9=>?_)))⟩))⟩))⟩)
  obtain ⟨cs9,ho9,hn9,hcl9,hct9,_⟩:=hO9
  replace H:=H.adopt hE hb9 ho9
  refine ⟨fun _=>hE.up.ext,zA 10 (by kernel_rfl) O O (zu (W_appendZ (new:=(zX b.cs).flatten) H O O .h2 (Src.sl (h3.mono H.qx) zZ (by simp)) connRows_one (connRows_flat _) (by decide) (by decide) (by omega) O fun b13 cap13 cs13 S hb13 H hE hn13 hcl13 hct13=>zLd (vO 11 O O (fun _ _ hK=>vL (cs:=[_,_,_]) O O hK) (zA 12 (by kernel_rfl) O O (zu (zSt H O O O .h3 O fun S hE H=>zLd (zY (ze (zh (⟨trivial,_,(z0 (ws:=[_,_,_]) H O .h3 O zU),?_⟩))))))))))⟩
  simp only [Nat.zero_add] at hn6 hct6 hn13 hct13 ⊢
  have hnd:=H.nodup
  simp at hnd
  exact k _ _ _ _ _ _ _ H.qx ⟨_,H.get .h2,by simpa using hn6,hcl6,by simpa using hct6,vN⟩ ⟨_,H.get .h1,by simpa using hn9,hcl9,by simpa using hct9,endRows_two⟩ ⟨_,H.get .h,by simpa using hn13,hcl13,by simpa using hct13,zZ⟩ (H.new1 .h2) (H.new1 .h1) (H.new1 .h) (by omega) (by omega) (by omega)
theorem ct78 (h1:Sl S0 7 a1 (z5 b.rs)) (h2:Sl S0 2 a2 (zS b.es)) (h3:Sl S0 7 a3 (zX b.cs)) (hc2:b.es.length≤c2) (hc3:b.cs.length≤c3) (hz:BoxZ b) (k:∀ (x1 x2 x3:Option Addr) (d1 d2 d3:Nat) (q:Box) S',Ext [] S0 S'→(BoxP b→q=b)→(¬ BoxP b→q=Box.nil)→(BoxM S0 S' x1 x2 x3 d2 d3 q)→K (.agg #[.slice x1 q.rs.length d1,.slice x2 q.es.length d2,.slice x3 q.cs.length d3]) S') :
  zC 78 #[.agg #[.slice a1 b.rs.length c1,.slice a2 b.es.length c2,.slice a3 b.cs.length c3]] S0 K:=by
 refine zGh (sf:=s78) Tryz.func78 fun H=>zR (zBx H O O fun b1 S hb1 hE H=>zAl H O fun b2 S hb2 hE H=>zN (vz (zLn (vs:=[_,_,_]) H O .h1 O (zCl O (ct14 (h1.mono H.qx) (h2.mono H.qx) (h3.mono H.qx) hc2 hc3 hz fun t4 S hE h4=>?_)))))
 replace H:=H.call hE
 refine zNt O (zN ?_)
 rcases t4 with _|_
 ·replace h4:=bF h4
  refine zr O (zR (za (vL (cs:=[_,_,_]) O O (zSs H O O O .h O fun S hE H=>zN (zh (zv (⟨trivial,_,(z0 (ws:=[_,_,_]) H O .h O zU),?_⟩)))))))
  exact k none none none 0 0 0 Box.nil _ H.qx (fun h=>absurd h h4) (fun _=>rfl) (.nil _ _)
 ·replace h4:=bT h4
  refine zn O (zt (ze (zR (zLn (vs:=[_,_,_]) H O .h1 O (zCl O (ct79 (h1.mono H.qx) (h2.mono H.qx) (h3.mono H.qx) hc2 hc3 hz fun n18 n28 n38 d18 d28 d38 S hE hP8 hQ8 hR8 hp8 hq8 hr8 hpq8 hpr8 hqr8=>?_))))))
  obtain ⟨csP8,hoP8,hnP8,hclP8,hctP8,_⟩:=hP8
  obtain ⟨csQ8,hoQ8,hnQ8,hclQ8,hctQ8,_⟩:=hQ8
  obtain ⟨csR8,hoR8,hnR8,hclR8,hctR8,_⟩:=hR8
  replace H:=H.add3 hE hp8 hq8 hr8 hoP8 hoQ8 hoR8 hpq8 hpr8 hqr8 (H.qx.isNone hp8) (H.qx.isNone hq8) (H.qx.isNone hr8)
  refine zSs H O O O .h3 O fun S hE H=>zN (zh (⟨trivial,_,(z0 (ws:=[_,_,_]) H O .h3 O zU),?_⟩))
  have hnd:=H.nodup
  simp at hnd
  exact k _ _ _ _ _ _ b _ H.qx (fun _=>rfl) (fun h=>absurd h4 h) ⟨vC (H.get .h) rfl hctP8 vN,vC (H.get .h1) rfl hctQ8 endRows_two,.inr ⟨_,rfl,H.new1 .h2,⟨_,H.get .h2,hnR8,hclR8,hctR8,zZ⟩,own_ne hpr8,own_ne hqr8⟩,by simpa using hnQ8,by simpa using hnR8,.own (H.new1 .h),.own (H.new1 .h1)⟩
theorem ct174 {d3 n3:Nat} {rs:List Rule} {csR:List Value} (ho:S0 n3=some ⟨Cs csR 49,true⟩) (hn:cs.length≤d3) (hcl:csR.length=d3*7) (hct:csR.take (cs.length*7)=(zX cs).flatten) (hl:cs.length≤3) (k:∀ (m3 d:Nat) (csq:List Value) S',Ext [n3] S0 S'→(m3=n3∨S0 m3=none)→S' m3=some ⟨Cs csq 49,true⟩→(vM cs e f).1.length≤d→csq.length=d*7→csq.take ((vM cs e f).1.length*7)=(zX (vM cs e f).1).flatten→K (.tuple #[.agg #[.slice a1 rs.length c1,.slice a2 es.length c2,sl m3 0 (vM cs e f).1.length d],int (vM cs e f).2]) S') :
  zC 174 #[.agg #[.slice a1 rs.length c1,.slice a2 es.length c2,sl n3 0 cs.length d3],e.v,f.v] S0 K:=by
 refine zGo (sf:=s174) Tryz.func174 ?_
 have H:=Loc.start1 ho
 refine zR (zBx H O O fun b3 S hb3 hE H=>zBx H O O fun b4 S hb4 hE H=>zBx H O O fun b5 S hb5 hE H=>zAl H O fun b6 S hb6 hE H=>zj O (vA (vt O (zL1 H O .h3 O (zLn (vs:=[_,_]) H O .h2 O (zLn (vs:=[_,_]) H O .h1 O (zCl O (ct82 (vC (H.get .h4) (n:=cs.length*7) (by simp) hct zZ) (by omega) fun S hE =>?_))))))))
 replace H:=H.call hE
 refine zj O (zN (vz (zj O (za (W_geq O O fun t15 h15=>zN ?_)))))
 rcases t15 with _|_
 ·replace h15:=bF h15
  refine zn O (zt (ze (vz (vt O (zL1 H O .h3 O (zLl O (za (W_eqI O O fun t21 h21=>zN ?_))))))))
  rcases t21 with _|_
  ·replace h21:=bF h21
   refine zn O (zt (ze (zR (vt O (zL1 H O .h3 O (zLn (vs:=[_,_]) H O .h2 O (zLn (vs:=[_,_]) H O .h1 O (za (vL (cs:=[_,_,_,_,_,_,_]) O O (za (z_ (cs:=[_,_,_,_,_,_,_]) H O O fun b28 S hb28 hE H=>za (W_append H O O .h5 hcl hn (Src.own H .h O) (by simp [oneCell]) O (by decide) (by omega) O fun b29 cap29 cs29 S hb29 H hE hn29 hcl29 hct29=>vt O (zSs H O O O .h5 O fun S hE H=>zN (zB (z9 [b6] (vk 0 O O (fun S' hS'=>zG fun K hK=>zV O (zK (hS' O) (nin1 (by rintro rfl;exact absurd H.nodup (by simp))) (H.cells (vs:=[_,_,_]) .h5 O)) hK) (zLf 1 O O O (vk 2 O O (fun S' hS'=>zG fun K hK=>zF O (zH (hS' O) (nin1 (by rintro rfl;exact absurd H.nodup (by simp))) (H.cell .h5 O)) hK) (vO 3 O O (fun _ _ hK=>W_lenL O hK) (vO 4 O O (fun _ _ hK=>W_sub O O (by omega) (by omega) hK) (zA 5 (by kernel_rfl) O O (zu (zSt H O O O .h2 O fun S hE H=>⟨fun _=>hE.ext,vJ 6 O O O (zY (ze (zh (⟨trivial,_,(z0 (ws:=[_,_,_]) H O .h2 O (zW O zU)),?_⟩))))⟩)))))))))))))))))))))))
   rw [placeC_new h15 (by omega)] at k
   rw [show (cs.length+1)=(cs++[⟨e,f,[],[],[]⟩]:List Conn).length by simp,show (((cs++[⟨e,f,[],[],[]⟩]:List Conn).length:Nat):Int)-1=cs.length by simp]
   exact k _ _ _ _ H.qx ((H.fresh _ _ (Has.mem .h)).symm.imp_left (by simp)) (H.get .h) (by simpa using hn29) hcl29 (by rw [List.length_append];refine hct29.trans ?_;rw [hct];simp)
  ·replace h21:=bT h21
   refine zr O (zR (zLn (vs:=[_,_,_]) H O .h3 O (zSs H O O O .h O fun S hE H=>zj O (zN (zh (zv (⟨trivial,_,(z0 (ws:=[_,_,_]) H O .h O (zW O zU)),?_⟩)))))))
   (rw [placeC_full h15 (by omega)] at k;exact k _ _ _ _ H.qx (.inl rfl) (H.get .h4) hn hcl hct)
 ·replace h15:=bT h15
  refine zr O (zR (zLn (vs:=[_,_,_]) H O .h3 O (zj O (zSs H O O O .h O fun S hE H=>zj O (zN (zh (zv (⟨trivial,_,(z0 (ws:=[_,_,_]) H O .h O (zW O zU)),?_⟩))))))))
  (rw [placeC_old h15] at k;exact k _ _ _ _ H.qx (.inl rfl) (H.get .h4) hn hcl hct)
end
section
variable {S0:St} {K:Value→St→Prop}
variable {c1 c2:Nat} {a1 a2:Option Addr} {s:Seg}
theorem ct169i {l:Bs} {q:Int} (hl:l.length≤1099527356416) (h0:0≤q) (hq:q≤1099527356416) (k:∀ b cap S',Ext [] S0 S'→(S0 b=none)→(OwnB S' b 33 7 cap (segRows (cutO s l q.toNat)))→K (sl b 0 (cutO s l q.toNat).length cap) S'):Calls1 Tryz.prog 169 #[s.v,str l,int q] S0 K:=by
 obtain ⟨n,rfl⟩:∃ n:Nat,q=n:=⟨q.toNat,by omega⟩
 exact ct169 hl (by omega) k
theorem ct92 {d3 n3:Nat} {rs:List Rule} {es:List End} {cs:List Conn} {csR:List Value} {port:Int} (ho:S0 n3=some ⟨Cs csR 49,true⟩) (hn:cs.length≤d3) (hcl:csR.length=d3*7) (hct:csR.take (cs.length*7)=(zX cs).flatten) (hl:cs.length≤3) (h2:Sl S0 2 a2 (zS es)) (h2_n3:∀ b off,a2=some ⟨b,off,none⟩→b≠n3) (hc2:es.length≤c2) (hes:es.length≤6) (hz:∀ c∈cs,c.kn.length≤240∧c.he.length≤240∧c.ne.length≤240) (hsd:s.dt.length≤12) (hsq:0≤s.sq∧s.sq≤240) (hak:0≤s.ak∧s.ak≤240) (k:∀ (x2:Option Addr) (m3 d2 d b cap:Nat) (r:Box × List Seg) S',r=ctlO ⟨rs,es,cs⟩ s port→r.1.rs=rs→Ext [n3] S0 S'→OrgX n3 S0 a2 x2→Sl S' 2 x2 (zS r.1.es)→r.1.es.length≤d2→(∀ b off,x2=some ⟨b,off,none⟩→b≠m3)→(m3=n3∨S0 m3=none)→OwnB S' m3 49 7 d (zX r.1.cs)→(b=n3∨S0 b=none)→OwnB S' b 33 7 cap (segRows r.2)→K (.tuple #[.agg #[.slice a1 rs.length c1,.slice x2 r.1.es.length d2,sl m3 0 r.1.cs.length d],sl b 0 r.2.length cap]) S') :
  zC 92 #[.agg #[.slice a1 rs.length c1,.slice a2 es.length c2,sl n3 0 cs.length d3],s.v,int port] S0 K:=by
 refine zGo (sf:=s92) Tryz.func92 ?_
 have H:=Loc.start1 ho
 refine zR (zBx H O O fun b3 S hb3 hE H=>?_)
 have h2_b3:=h2.ne hb3
 replace h2:=h2.mono hE
 refine zBx H O O fun b4 S hb4 hE H=>?_
 have h2_b4:=h2.ne hb4
 replace h2:=h2.mono hE
 refine zAl H O fun b6 S hb6 hE H=>?_
 have h2_b6:=h2.ne hb6
 replace h2:=h2.mono hE
 refine zj O (vA (zLn (vs:=[_,_,_]) H O .h2 O (vt O (zLn (vs:=[_,_]) H O .h1 O (vt O (zLn (vs:=[_,_]) H O .h1 O (zCl O (ct174 (H.get .h3) hn hcl hct hl fun b20 d20 csq20 S hE hb20 ho20 hn20 hcl20 hct20=>?_))))))))
 replace H:=H.callR .h3 hE hb20 ho20
 have h2_b20:=h2.ne2 h2_n3 hb20
 replace h2:=h2.qy hE h2_n3
 refine zj O (zEx O O (zEx O O (zSs H O O O .h3 O fun S hE H=>?_)))
 replace h2:=h2.qy hE h2_b3
 refine zj O (zN (vz (zj O (za (vq O O fun t24 h24=>zN ?_)))))
 rcases t24 with _|_
 ·replace h24:=bF h24
  have hpl:=placeC_bd h24
  obtain ⟨c0,hx⟩:∃ c0,(vM cs s.s s.d).1[(vM cs s.s s.d).2.toNat]? = some c0:=⟨(vM cs s.s s.d).1[(vM cs s.s s.d).2.toNat]'hpl,by simp⟩
  have hzp:=placeC_mem (e:=s.s) (f:=s.d) hz ⟨by simp,by simp,by simp⟩ c0 (List.mem_of_getElem? hx)
  have hgl:=grown_len c0.kn s
  refine zn O (zt (ze (zR (vt O (zL1 H O .h3 O (zj O (zIa O O (za (zV (vs:=[_,_,_,_,_,_,_]) O (cells_own (H.get .h) (row_sub (by simpa using hct20) zZ (vH hx))) (zAl H O fun b9 S hb9 hE H=>?_))))))))))
  have h2_b9:=h2.ne hb9
  replace h2:=h2.mono hE
  refine zSs H O O O .h O fun S hE H=>?_
  replace h2:=h2.qy hE h2_b9
  refine vA (vt O (zL1 H O .h O (zLn (vs:=[_,_,_,_,_,_,_]) H O .h3 O (zCl O (ct163 (by omega) (by omega) fun S hE =>?_)))))
  replace H:=H.call hE
  replace h2:=h2.mono hE
  refine zj O (zN ?_)
  refine wpS_cut (fun E S=>∃ (c:Conn),E=Env.lst [(2,int port),(3,ptr b3 0),(4,ptr b4 0),(6,ptr b6 0),(8,int (vM cs s.s s.d).2),(9,ptr b9 0)]∧Loc [n3] S0 S [(b9,Cs c.row 49),(b20,Cs csq20 49),(b6,Cs [.slice none 0 0,.slice none 0 0,.slice none 0 0] 29),(b4,Cs s.row 33),(b3,Cs [.slice a1 rs.length c1,.slice a2 es.length c2,sl b20 0 (vM cs s.s s.d).1.length d20] 29)]∧(Sl S 2 a2 (zS es))∧(c=vI c0 s)) ?_ ?_
  ·skip
   refine zR (zj O (zCl O (ct22 (by omega) fun t37 S hE h37=>?_)))
   replace H:=H.call hE
   replace h2:=h2.mono hE
   refine zN ?_
   rcases t37 with _|_
   ·replace h37:=bF h37
    refine zn O (zt (ze ?_))
    refine ⟨_,?le,c0,O,H,h2,(knownC_no h37)⟩
    case le=>exact Env.qle ⟨O,O,O,O,O,O,⟨⟩⟩
   ·replace h37:=bT h37
    refine zr O (zL (zj O (vt O (zSs H O O O .h O fun S hE H=>?_))))
    replace h2:=h2.qy hE h2_b9
    refine zN ?_
    refine ⟨_,?le,{c0 with kn:=grown c0.kn s},O,H,h2,(knownC_yes h37)⟩
    case le=>exact Env.qle ⟨O,O,O,O,O,O,⟨⟩⟩
  ·skip
   rintro _ S ⟨c,rfl,H,h2,hkc⟩
   have hkl:c.kn.length≤c0.kn.length+s.dt.length:=by rw [hkc];exact knownC_len
   obtain ⟨kr1,kr2,kr3,kr4⟩:c.i=c0.i∧c.o=c0.o∧c.he=c0.he∧c.ne=c0.ne:=by rw [hkc];exact knownC_rest c0 s
   have kl3:=congrArg List.length kr3
   have kl4:=congrArg List.length kr4
   refine zR (vt O (zLn (vs:=[_]) H O .h4 O (vt O (zL1 H O .h O (zCl O (ct175 h2 hc2 (by omega) (by omega) fun a45 cap45 S hE hs45 hc45 ho45 htl45=>?_))))))
   have hs45_b6:=ho45.ne h2_b6 (H.get .h2)
   have hs45_b4:=ho45.ne h2_b4 (H.get .h3)
   have hs45_b3:=ho45.ne h2_b3 (H.get .h4)
   have hs45_b20:=ho45.ne h2_b20 (H.get .h1)
   replace ho45:=OrgX.of ho45 H.qx
   replace H:=H.call hE
   refine zj O (zEx O O (zEx O O (zAl H O fun b11 S hb11 hE H=>?_)))
   have hs45_b11:=hs45.ne hb11
   replace hs45:=hs45.mono hE
   refine zSs H O O O .h O fun S hE H=>?_
   replace hs45:=hs45.qy hE hs45_b11
   refine zj O (vA (zLn (vs:=[_]) H O .h O (vt O (zSs H O O O .h5 O fun S hE H=>?_))))
   replace hs45:=hs45.qy hE hs45_b3
   refine vA (vt O (zL1 H O .h5 O (zj O (zLn (vs:=[_,_,_,_,_,_,_]) H O .h1 O (zIa O O ?_)))))
   have hbd20:(0+(vM cs s.s s.d).2.toNat*7)+7≤csq20.length:=by omega
   refine za (W_store H O O O O O (by decide) .h2 hbd20 O fun S hE H=>?_)
   replace hs45:=hs45.qy hE hs45_b20
   refine zN (zB (z9 [] (zLf 0 O O O (vk 1 O O (fun S' hS'=>zG fun K hK=>zF O (zH (hS' O) (by simp) (H.cell .h1 O)) hK) (vJ 2 O O O (zLf 4 O O O (vk 5 O O (fun S' hS'=>zG fun K hK=>zF O (zH (hS' O) (by simp) (H.cell .h4 O)) hK) (zA 3 (by kernel_rfl) O O (zu (zT O (ct167 (by omega) (by omega) fun b58 cap58 S hE hb58 hO58=>?_)))))))))))
   replace H:=H.call hE
   replace hs45:=hs45.mono hE
   refine ⟨fun _=>hE.up.ext,zA 6 (by kernel_rfl) O O (zu (zT O (ct166 hO58.sl (by have:=spansO_len c.kn (vr es c.kn).2;omega) fun S hE =>?_)))⟩
   replace H:=H.call hE
   replace hs45:=hs45.mono hE
   have hq61:=outO_bd c.kn (vr es c.kn).2 s.sq
   refine zLd (vJ 7 O O O (zY (ze (zR (zj O (za (vL (cs:=[_,_]) O O (vt O (zSs H O O O .h4 O fun S hE H=>?_)))))))))
   replace hs45:=hs45.qy hE hs45_b4
   refine zN (zB (z9 [] (zLf 0 O O O (vk 1 O O (fun S' hS'=>zG fun K hK=>zF O (zH (hS' O) (by simp) (H.cell .h1 O)) hK) (zLf 2 O O O (vk 3 O O (fun S' hS'=>zG fun K hK=>zF O (zH (hS' O) (by simp) (H.cell .h1 O)) hK) (zLf 5 O O O (vk 6 O O (fun S' hS'=>zG fun K hK=>zF O (zH (hS' O) (by simp) (H.cell .h4 O)) hK) (zA 4 (by kernel_rfl) O O (zu (zT O (ct167 (by omega) (by omega) fun b69 cap69 S hE hb69 hO69=>?_))))))))))))
   replace H:=H.call hE
   replace hs45:=hs45.mono hE
   refine ⟨fun _=>hE.up.ext,zA 7 (by kernel_rfl) O O (zu (zT O (ct168 hO69.sl (by have:=spansO_len c.he c.ne;omega) (by omega) (by omega) (spansO_ok (by omega) (by omega)) fun S hE =>?_)))⟩
   replace H:=H.call hE
   replace hs45:=hs45.mono hE
   refine zLd (zLf 8 O O O (zA 9 (by kernel_rfl) O O (zu (zSt H O O O .h4 O fun S hE H=>?_))))
   replace hs45:=hs45.qy hE hs45_b4
   refine zLd (zY (ze (zB (z9 [] (vk 0 O O (fun S' hS'=>zG fun K hK=>zV O (zK (hS' O) (by simp) (H.cells (vs:=[_,_,_]) .h5 O)) hK) (vk 1 O O (fun S' hS'=>zG fun K hK=>zV O (zK (hS' O) (by simp) (H.cells (vs:=[_,_,_,_,_,_,_]) .h4 O)) hK) (vJ 2 O O O (vJ 3 O O O (zA 4 (by kernel_rfl) O O (zu (zT O (ct169i (s:={s with s:=⟨50,port⟩,ak:=backD 0 (spansO c.he c.ne) s.ak}) (by omega) (by omega) (by omega) fun b78 cap78 S hE hb78 hO78=>?_))))))))))))
   obtain ⟨cs78,ho78,hp78⟩:=hO78
   replace H:=H.adopt hE hb78 ho78
   replace hs45:=hs45.mono hE
   refine ⟨fun _=>hE.up.ext,zA 5 (by kernel_rfl) O O (zu (zSt H O O O .h4 O fun S hE H=>?_))⟩
   replace hs45:=hs45.qy hE hs45_b6
   refine zLd (vJ 6 O O O (zY (ze (zh (⟨trivial,_,(z0 (ws:=[_,_,_]) H O .h4 O (zW O zU)),?_⟩)))))
   have hr:=ctlO_yes (b:=⟨rs,es,cs⟩) (port:=port) h24 hx hkc
   have hsl:(vM cs s.s s.d).1.length=((vM cs s.s s.d).1.set (vM cs s.s s.d).2.toNat c).length:=by simp
   rw [hsl]
   refine k a45 b20 cap45 d20 b78 cap78 _ _ hr.symm O H.qx ho45 ?_ ?_ hs45_b20 ?_ ?_ ((H.fresh _ _ (Has.mem .h)).symm.imp_left (by simp)) ⟨cs78,H.get .h,hp78⟩
   ·exact hs45
   ·exact hc45
   ·exact (H.fresh _ _ (Has.mem .h3)).symm.imp_left (by simp)
   ·refine ⟨_,H.get .h3,?_,?_,?_,zZ⟩
    ·simpa using hn20
    ·rw [setl_len (by simpa using hbd20)];exact hcl20
    ·have:=row_setl (k:=7) (rows:=zX (vM cs s.s s.d).1) (r:=c.row) (by simpa using hct20) zZ rfl (by simpa using hpl)
     simpa [zX,List.map_set] using this
 ·replace h24:=bT h24
  refine zr O (zR (zLn (vs:=[_,_,_]) H O .h3 O (za (z_ (cs:=[]) H O O fun b26 S hb26 hE H=>?_))))
  replace h2:=h2.mono hE
  refine zSs H O O O .h2 O fun S hE H=>?_
  replace h2:=h2.qy hE h2_b6
  refine zj O (zN (zh (zv (⟨trivial,_,(z0 (ws:=[_,_,_]) H O .h2 O (zW O zU)),?_⟩))))
  have hr:=ctlO_no (b:=⟨rs,es,cs⟩) (port:=port) h24
  refine k a2 b20 c2 d20 b26 0 _ _ hr.symm O H.qx (.same _ _ _) h2 hc2 h2_b20 ((H.fresh _ _ (Has.mem .h1)).symm.imp_left (by simp)) ⟨_,H.get .h1,by simpa using hn20,hcl20,by simpa using hct20,zZ⟩ ?_ ⟨_,H.get .h,by simp,by simp,by simp,segRows_seven⟩
  exact (H.fresh _ _ (Has.mem .h)).symm.imp_left (by simp)
theorem ct32 {a3:Option Addr} {c3:Nat} {b:Box} (h1:Sl S0 7 a1 (z5 b.rs)) (h2:Sl S0 2 a2 (zS b.es)) (h3:Sl S0 7 a3 (zX b.cs)) (hc2:b.es.length≤c2) (hc3:b.cs.length≤c3) (hz:BoxZ b) (k:∀ (x1 x2 x3 x4:Option Addr) (d1 d2 d3 d4:Nat) (r:Box × List Seg) S',Ext [] S0 S'→(r=boxOutP b s)→(BoxM S0 S' x1 x2 x3 d2 d3 r.1)→(Sl S' 7 x4 (segRows r.2))→(r.2.length≤d4)→K (.tuple #[.agg #[.slice x1 r.1.rs.length d1,.slice x2 r.1.es.length d2,.slice x3 r.1.cs.length d3],.slice x4 r.2.length d4]) S') :
  zC 32 #[.agg #[.slice a1 b.rs.length c1,.slice a2 b.es.length c2,.slice a3 b.cs.length c3],s.v] S0 K:=by
 refine zGh (sf:=s32) Tryz.func32 fun H=>?_
 obtain ⟨z1,z2,z3,hzz⟩:=id hz
 refine zR (zBx H O O fun b2 S hb2 hE H=>zBx H O O fun b3 S hb3 hE H=>zAl H O fun b4 S hb4 hE H=>zj O (zN (zB ?_)))
 refine wpS_cut (fun E S=>∃ (t38:Bool),E=Env.lst [(2,ptr b2 0),(3,ptr b3 0),(4,ptr b4 0),(5,.slice none 0 0),(38,.bool t38)]∧Loc [] S0 S [(b4,Cs [.slice none 0 0,.slice none 0 0,.slice none 0 0] 29),(b3,Cs s.row 33),(b2,Cs [.slice a1 b.rs.length c1,.slice a2 b.es.length c2,.slice a3 b.cs.length c3] 29)]∧(t38=true↔¬ (BoxP b∧SegP s∧s.s.inn∧s.d.out∧mayR b.rs s.s s.d=true))) ?_ ?_
 ·skip
  refine zL (zLn (vs:=[_,_,_]) H O .h2 O (zCl O (ct14 (h1.mono H.qx) (h2.mono H.qx) (h3.mono H.qx) hc2 hc3 hz fun t10 S hE h10=>?_)))
  replace H:=H.call hE
  refine zNt O (zj O ?_)
  rcases t10 with _|_
  ·replace h10:=bF h10
   refine zJ O (zJ O (zJ O (vp O O O O (zj O (zJ O (zJ O (zJ O (zJ O (vp O O O O (zj O (zJ O (zJ O (zJ O (zJ O (vp O O O O (zj O (zJ O (zJ O (zJ O (zJ O (zJ O (zJ O (zJ O (zJ O (vp O O O O (zN ?_))))))))))))))))))))))))))
   refine ⟨_,?le,true,O,H,⟨fun _ h=>by obtain ⟨p1,p2,p3,p4,p5⟩:=h;first | exact absurd p1 (by assumption) | exact absurd p2 (by assumption) | exact absurd p3 (by assumption) | exact absurd p4 (by assumption) | exact absurd p5 (by assumption),fun _=>rfl⟩⟩
   case le=>exact Env.qle ⟨O,O,O,O,O,⟨⟩⟩
  ·replace h10:=bT h10
   refine zi O (W_loadN (vs:=[_,_,_,_,_,_,_]) H O .h1 O (zi O (zT O (ct29  fun t14 S hE h14=>?_))))
   replace H:=H.call hE
   refine zi O (W_not O (vp O O O O (zj O ?_)))
   rcases t14 with _|_
   ·replace h14:=bF h14
    refine zJ O (zJ O (zJ O (zJ O (vp O O O O (zj O (zJ O (zJ O (zJ O (zJ O (vp O O O O (zj O (zJ O (zJ O (zJ O (zJ O (zJ O (zJ O (zJ O (zJ O (vp O O O O (zN ?_)))))))))))))))))))))
    refine ⟨_,?le,true,O,H,⟨fun _ h=>by obtain ⟨p1,p2,p3,p4,p5⟩:=h;first | exact absurd p1 (by assumption) | exact absurd p2 (by assumption) | exact absurd p3 (by assumption) | exact absurd p4 (by assumption) | exact absurd p5 (by assumption),fun _=>rfl⟩⟩
    case le=>exact Env.qle ⟨O,O,O,O,O,⟨⟩⟩
   ·replace h14:=bT h14
    refine zi O (zy O (zi O (W_loadN (vs:=[_,_]) H O .h1 O (zi O (zT O (ct90  fun t20 S hE h20=>?_))))))
    replace H:=H.call hE
    refine zi O (W_not O (vp O O O O (zj O ?_)))
    rcases t20 with _|_
    ·replace h20:=bF h20
     refine zJ O (zJ O (zJ O (zJ O (vp O O O O (zj O (zJ O (zJ O (zJ O (zJ O (zJ O (zJ O (zJ O (zJ O (vp O O O O (zN ?_)))))))))))))))
     refine ⟨_,?le,true,O,H,⟨fun _ h=>by obtain ⟨p1,p2,p3,p4,p5⟩:=h;first | exact absurd p1 (by assumption) | exact absurd p2 (by assumption) | exact absurd p3 (by assumption) | exact absurd p4 (by assumption) | exact absurd p5 (by assumption),fun _=>rfl⟩⟩
     case le=>exact Env.qle ⟨O,O,O,O,O,⟨⟩⟩
    ·replace h20:=bT h20
     refine zi O (zy O (zi O (W_loadN (vs:=[_,_]) H O .h1 O (zi O (zT O (ct77  fun t26 S hE h26=>?_))))))
     replace H:=H.call hE
     refine zi O (W_not O (vp O O O O (zj O ?_)))
     rcases t26 with _|_
     ·replace h26:=bF h26
      refine zJ O (zJ O (zJ O (zJ O (zJ O (zJ O (zJ O (zJ O (vp O O O O (zN ?_)))))))))
      refine ⟨_,?le,true,O,H,⟨fun _ h=>by obtain ⟨p1,p2,p3,p4,p5⟩:=h;first | exact absurd p1 (by assumption) | exact absurd p2 (by assumption) | exact absurd p3 (by assumption) | exact absurd p4 (by assumption) | exact absurd p5 (by assumption),fun _=>rfl⟩⟩
      case le=>exact Env.qle ⟨O,O,O,O,O,⟨⟩⟩
     ·replace h26:=bT h26
      refine zi O (zy O (zi O (vh H O .h2 O (zi O (zy O (zi O (W_loadN (vs:=[_,_]) H O .h1 O (zi O (zy O (zi O (W_loadN (vs:=[_,_]) H O .h1 O (zi O (zT O (ct81 (h1.mono H.qx) (by omega) fun t36 S hE h36=>?_))))))))))))))
      replace H:=H.call hE
      refine zi O (W_not O (vp O O O O (zN ?_)))
      refine ⟨_,?le,(!t36),O,H,⟨fun e h=>(by have h9:=h36.2 h.2.2.2.2;rw [h9] at e;cases e),fun h=>(by cases t36;exact rfl;exact absurd ⟨h10,h14,h20,h26,h36.1 rfl⟩ h)⟩⟩
      case le=>exact Env.qle ⟨O,O,O,O,O,⟨⟩⟩
 ·skip
  rintro _ S ⟨t38,rfl,H,h38⟩
  rcases t38 with _|_
  ·replace h38:=bF h38
   obtain ⟨h10,h14,h20,h26,h36⟩:=Classical.not_not.1 h38
   obtain ⟨sm1,sm2,sm3,sm4⟩:=h10.small
   obtain ⟨g1,g2,g3,g4,g5,g6⟩:=id h14
   refine zn O (zt (ze (zR (zLn (vs:=[_,_,_]) H O .h2 O (zCl O (ct79 (h1.mono H.qx) (h2.mono H.qx) (h3.mono H.qx) hc2 hc3 hz fun n143 n243 n343 d143 d243 d343 S hE hP43 hQ43 hR43 hp43 hq43 hr43 hpq43 hpr43 hqr43=>?_))))))
   obtain ⟨csP43,hoP43,hnP43,hclP43,hctP43,_⟩:=hP43
   obtain ⟨csQ43,hoQ43,hnQ43,hclQ43,hctQ43,_⟩:=hQ43
   obtain ⟨csR43,hoR43,hnR43,hclR43,hctR43,_⟩:=hR43
   replace H:=H.add3 hE hp43 hq43 hr43 hoP43 hoQ43 hoR43 hpq43 hpr43 hqr43 (H.qx.isNone hp43) (H.qx.isNone hq43) (H.qx.isNone hr43)
   have hq:=(vC (H.get .h1) rfl hctQ43 endRows_two)
   have hq_n343:=own_ne (a:=n243) (b:=n343) (by rintro rfl;exact absurd H.nodup (by simp))
   have hq_b4:=own_ne (a:=n243) (b:=b4) (by rintro rfl;exact absurd H.nodup (by simp))
   have hq_b3:=own_ne (a:=n243) (b:=b3) (by rintro rfl;exact absurd H.nodup (by simp))
   have hqc:b.es.length≤d243:=by simpa using hnQ43
   refine zAl H O fun b6 S hb6 hE H=>?_
   have hq_b6:=hq.ne hb6
   replace hq:=hq.mono hE
   refine zSs H O O O .h O fun S hE H=>?_
   replace hq:=hq.qy hE hq_b6
   refine vA (vt O (zLn (vs:=[_]) H O .h O (vt O (zLn (vs:=[_,_]) H O .h5 O (zCl O (ct91 (es:=b.es) (e:=s.s) hq hqc (by omega) fun a49 cap49 S hE hs49 hc49 ho49 hw49=>?_))))))
   have hs49_b6:=ho49.ne hq_b6 (H.get .h)
   have hs49_b4:=ho49.ne hq_b4 (H.get .h4)
   have hs49_b3:=ho49.ne hq_b3 (H.get .h5)
   have hs49_n343:=ho49.ne hq_n343 (H.get .h3)
   replace ho49:Org S0 none a49:=(Org.own (H.new1 .h2)).trans (ho49.back H.qx)
   replace H:=H.call hE
   refine zj O (zEx O O (zEx O O (zAl H O fun b7 S hb7 hE H=>?_)))
   have hs49_b7:=hs49.ne hb7
   replace hs49:=hs49.mono hE
   refine zSs H O O O .h O fun S hE H=>?_
   replace hs49:=hs49.qy hE hs49_b7
   refine zj O (zN (vz (zj O (za (W_eqI O O fun t53 h53=>zN ?_)))))
   rcases t53 with _|_
   ·replace h53:=bF h53
    refine zn O (zt (ze (zR (zLn (vs:=[_]) H O .h O (vt O (zSs H O O O .h1 O fun S hE H=>?_))))))
    replace hs49:=hs49.qy hE hs49_b6
    refine zN (vz (vt O (vt O (zL1 H O .h6 O (za (W_eqI O O fun t61 h61=>zN ?_))))))
    rcases t61 with _|_
    ·replace h61:=bF h61
     refine zn O (zt (ze (zR (zj O (za (vL (cs:=[_,_]) O O (vt O (zSs H O O O .h6 O fun S hE H=>?_))))))))
     replace hs49:=hs49.qy hE hs49_b3
     refine zN (zB (z9 [b4] (vk 0 O O (fun S' hS'=>zG fun K hK=>zV O (zK (hS' O) (nin1 (by rintro rfl;exact absurd H.nodup (by simp))) (H.cells (vs:=[_,_,_]) .h1 O)) hK) (vk 1 O O (fun S' hS'=>zG fun K hK=>zV O (zK (hS' O) (nin1 (by rintro rfl;exact absurd H.nodup (by simp))) (H.cells (vs:=[_,_,_,_,_,_,_]) .h6 O)) hK) (wpD_two 2 3 (by kernel_rfl) O O O O ?_ ?_)))))
     ·skip
      refine zu (z_ (cs:=[_,_,_,_,_,_,_]) H O O fun b73 S hb73 hE H=>?_)
      replace hs49:=hs49.mono hE
      refine ⟨fun _=>hE.up.ext,zA 3 (by kernel_rfl) O O (zu (zSt H O O O .h6 O fun S hE H=>?_))⟩
      replace hs49:=hs49.qy hE hs49_b4
      refine ⟨fun _=>hE.ext,vJ 4 O O O (zY (ze (zh (⟨trivial,_,(z0 (ws:=[_,_,_]) H O .h6 O (zW O zU)),?_⟩))))⟩
      have hok:BoxP b∧SegP s∧s.s.inn∧s.d.out∧mayR b.rs s.s s.d=true:=⟨h10,h14,h20,h26,h36⟩
      refine k _ _ _ (some ⟨b73,0,none⟩) _ _ _ 1 ({b with es:=putE b.es s.s},[{s with s:=⟨50,putP b.es s.s⟩}]) _ H.qx (boxOutP_one hok h53 h61).symm ⟨vC (H.get .h3) O hctP43 vN,hs49,.inr ⟨n343,O,H.new1 .h5,⟨_,H.get .h5,hnR43,hclR43,hctR43,zZ⟩,own_ne hpr43,hs49_n343⟩,hc49,by simpa using hnR43,.own (H.new1 .h3),ho49⟩ (vC (n:=7) (H.get .h) O O segRows_seven) (Nat.le_refl _)
     ·skip
      refine zu (zSt H O O O .h5 O fun S hE H=>?_)
      replace hs49:=hs49.qy hE hs49_b4
      refine ⟨fun _=>hE.ext,zA 2 (by kernel_rfl) O O (zu (z_ (cs:=[_,_,_,_,_,_,_]) H O O fun b73 S hb73 hE H=>?_))⟩
      replace hs49:=hs49.mono hE
      refine ⟨fun _=>hE.up.ext,vJ 4 O O O (zY (ze (zh (⟨trivial,_,(z0 (ws:=[_,_,_]) H O .h6 O (zW O zU)),?_⟩))))⟩
      have hok:BoxP b∧SegP s∧s.s.inn∧s.d.out∧mayR b.rs s.s s.d=true:=⟨h10,h14,h20,h26,h36⟩
      refine k _ _ _ (some ⟨b73,0,none⟩) _ _ _ 1 ({b with es:=putE b.es s.s},[{s with s:=⟨50,putP b.es s.s⟩}]) _ H.qx (boxOutP_one hok h53 h61).symm ⟨vC (H.get .h3) O hctP43 vN,hs49,.inr ⟨n343,O,H.new1 .h5,⟨_,H.get .h5,hnR43,hclR43,hctR43,zZ⟩,own_ne hpr43,hs49_n343⟩,hc49,by simpa using hnR43,.own (H.new1 .h3),ho49⟩ (vC (n:=7) (H.get .h) O O segRows_seven) (Nat.le_refl _)
    ·replace h61:=bT h61
     refine zr O (zR (zLn (vs:=[_,_,_]) H O .h1 O (zLn (vs:=[_,_,_,_,_,_,_]) H O .h6 O (zj O (zCl O (ct92 (csR:=csR43) (H.get .h4) (by simpa using hnR43) hclR43 (by simpa using hctR43) (by omega) hs49 hs49_n343 hc49 (putE_len6 _ sm2) (fun c hc=>by have:=sm4 c hc;omega) g5 g3 g4 fun x65 b65 e65 d65 m65 cap65 r65 S hr65 hrs65 hE hox65 hs65 hc65 hx65 hb65 hO65 hm65 hM65=>?_))))))
     obtain ⟨cs65,ho65,hn65,hcl65,hct65,_⟩:=hO65
     have ho65x:Org S0 none x65:=Org.ofX hox65 H.qx (H.new1 .h4) ho49
     have hs65_b4:=hox65.ne (y:=b4) (by rintro rfl;exact absurd H.nodup (by simp)) (H.get .h5) hs49_b4
     have hg65:=hM65.sl
     have hg65_b4:=new_ne hm65 (by rintro rfl;exact absurd H.nodup (by simp)) (H.get .h5)
     have hnn65:(segRows r65.2).length≤cap65:=by obtain ⟨_,_,h,_⟩:=hM65;exact h
     replace H:=H.callR .h4 hE hb65 ho65
     refine zEx O O (zEx O O (zSs H O O O .h5 O fun S hE H=>?_))
     replace hs65:=hs65.qy hE hs65_b4
     replace hg65:=hg65.qy hE hg65_b4
     refine zj O (zN (zh (zv (⟨trivial,_,(z0 (ws:=[_,_,_]) H O .h5 O (zW O zU)),?_⟩))))
     have hok:BoxP b∧SegP s∧s.s.inn∧s.d.out∧mayR b.rs s.s s.d=true:=⟨h10,h14,h20,h26,h36⟩
     have hrr:r65=boxOutP b s:=by rw [hr65,boxOutP_ctl hok h53 h61]
     rw [← hrs65]
     refine k _ _ _ _ _ _ _ _ r65 _ H.qx hrr ⟨?_,hs65,.inr ⟨b65,O,H.new1 .h,⟨_,H.get .h,hn65,hcl65,hct65,zZ⟩,own_ne (by rintro rfl;exact absurd H.nodup (by simp)),hx65⟩,hc65,by simpa using hn65,.own (H.new1 .h3),ho65x⟩ hg65 (by simpa using hnn65)
     rw [hrs65]
     exact vC (H.get .h3) rfl hctP43 vN
   ·replace h53:=bT h53
    refine zr O (zR (zLn (vs:=[_,_,_]) H O .h1 O (za (z_ (cs:=[]) H O O fun b55 S hb55 hE H=>zSs H O O O .h6 O fun S hE H=>zj O (zN (zh (zv (⟨trivial,_,(z0 (ws:=[_,_,_]) H O .h6 O (zW O zU)),?_⟩))))))))
    have hok:BoxP b∧SegP s∧s.s.inn∧s.d.out∧mayR b.rs s.s s.d=true:=⟨h10,h14,h20,h26,h36⟩
    refine k _ _ _ (some ⟨b55,0,none⟩) _ _ _ 0 (b,[]) _ H.qx (boxOutP_full hok h53).symm ⟨vC (H.get .h3) O hctP43 vN,vC (H.get .h4) O hctQ43 endRows_two,.inr ⟨n343,O,H.new1 .h5,⟨_,H.get .h5,hnR43,hclR43,hctR43,zZ⟩,own_ne hpr43,own_ne hqr43⟩,by simpa using hnQ43,by simpa using hnR43,.own (H.new1 .h3),.own (H.new1 .h4)⟩ (vC (n:=0) (H.get .h) O O (by simp)) (Nat.le_refl _)
  ·replace h38:=bT h38
   refine zr O (zR (zLn (vs:=[_,_,_]) H O .h2 O (zCl O (ct78 (h1.mono H.qx) (h2.mono H.qx) (h3.mono H.qx) hc2 hc3 hz fun x140 x240 x340 d140 d240 d340 q40 S hE hy40 hn40 hM40=>?_))))
   have hM40_b4:=hM40.old (H.get .h)
   replace hM40:=hM40.back H.qx
   replace H:=H.call hE
   refine za (z_ (cs:=[]) H O O fun b41 S hb41 hE H=>?_)
   replace hM40:=hM40.mono hE
   refine zSs H O O O .h1 O fun S hE H=>?_
   replace hM40:=hM40.qy hE hM40_b4
   refine zj O (zN (zh (zv (⟨trivial,_,(z0 (ws:=[_,_,_]) H O .h1 O (zW O zU)),?_⟩))))
   obtain ⟨f1,f2⟩:=boxOutP_not (b:=b) (s:=s) h38
   refine k x140 x240 x340 (some ⟨b41,0,none⟩) d140 d240 d340 0 (q40,[]) _ H.qx ?_ hM40 ?_ (Nat.le_refl _)
   ·by_cases hbp:BoxP b
    ·rw [f1 hbp,hy40 hbp]
    ·rw [f2 hbp,hn40 hbp]
   ·exact vC (n:=0) (H.get .h) rfl rfl (by simp)
end
section
variable {S0:St} {K:Value→St→Prop}
variable {n:Nat}
theorem ct262 {t0:Bool}  (k:∀  S',Ext [] S0 S'→K (int (bif t0 then 1 else 0)) S') :
  zC 262 #[.bool t0] S0 K:=by
 refine zGh (sf:=s262) Tryz.func262 fun H=>?_
 have h0:t0=true↔t0=true:=Iff.rfl
 refine zR (zj O (zN (vz (zj O (zN ?_)))))
 rcases t0 with _|_
 ·replace h0:=bF h0
  refine zn O (zt (ze (zR (zj O (zN (zh (zP O ?_)))))))
  exact k _ H.qx
 ·replace h0:=bT h0
  refine zr O (zR (zj O (zN (zh (zv (zP O ?_))))))
  exact k _ H.qx
theorem ct260 {r:Int} (h0:7≤r) (h1:r≤10) (k:∀ (q:Int) S',Ext [] S0 S'→((r≤9→q=2)∧(r=10→q=3))→K (int q) S') :
  zC 260 #[int r] S0 K:=by
 refine zGh (sf:=s260) Tryz.func260 fun H=>zR (zj O (vA (zj O (za (W_mul O O (by omega) (by omega) (za (W_shr O O (by decide) (by decide) (zj O (zN (zh (zP O (k _ _ H.qx ?_))))))))))))
 obtain rfl | rfl | rfl | rfl:r=7∨r=8∨r=9∨r=10:=by omega
 all_goals exact ⟨by decide,by decide⟩
theorem ct261 (h0:100≤n) (h1:n≤999) (k:∀ (r:Int) S',Ext [] S0 S'→(7≤r∧r≤10)→K (int r) S') :
  zC 261 #[.int .u64 n] S0 K:=by
 refine zGh (sf:=s261) Tryz.func261 fun H=>zR (zj O (zN (vz (zj O (za (W_geq O O fun t4 h4=>zN ?_))))))
 rcases t4 with _|_
 ·replace h4:=bF h4
  refine zn O (zt (ze (vz (zj O (za (W_geq O O fun t8 h8=>zN ?_))))))
  rcases t8 with _|_
  ·replace h8:=bF h8
   refine zn O (zt (ze (vz (zj O (za (W_geq O O fun t14 h14=>zN ?_))))))
   rcases t14 with _|_
   ·replace h14:=bF h14
    refine zn O (zt (ze (zR (zj O ?_))))
    obtain ⟨c,hlc,hc1,hc2,hc3⟩:=len8_all ⟨n,by omega⟩
    simp only at hc1 hc2 hc3 hlc
    have hc8:c.toNat=7∨c.toNat=8∨c.toNat=1∨c.toNat=2:=by
     by_cases hn:100≤n
     ·rcases hc1 hn with rfl | rfl<;>decide
     ·by_cases h1:n=1
      ·rw [hc2 h1];decide
      ·rw [hc3 (by omega)];decide
    have hc9:256≤n→c.toNat≤2∧1≤c.toNat:=by
     intro hn
     by_cases h1:n=1
     ·rw [hc2 h1];decide
     ·rw [hc3 (by omega)];decide
    have hc10:n<256→7≤c.toNat:=by
     intro hn
     rcases hc1 (by omega) with rfl | rfl<;>decide
    refine zj O (za (W_conv (m:=((n:Nat):Int)) O (wrapu8_in (by omega) (by omega)) (za (W_idxT (l:=LEN8) O O (by omega) hlc (za (W_conv O (wrap64_in (by omega) (by omega)) (zAd O O (zj O (zN (zh (zP O ?_)))))))))))
    exact k _ _ H.qx (by omega)
   ·replace h14:=bT h14
    refine zr O (zR (zj O (za (W_shrU (j:=8) (m:=256) O O (by decide) (by decide) (zj O (zN (zL (zj O (zAd O O (zj O (vA (zj O ?_))))))))))))
    obtain ⟨c,hlc,hc1,hc2,hc3⟩:=len8_all ⟨(n / 256),by omega⟩
    simp only at hc1 hc2 hc3 hlc
    have hc8:c.toNat=7∨c.toNat=8∨c.toNat=1∨c.toNat=2:=by
     by_cases hn:100≤(n / 256)
     ·rcases hc1 hn with rfl | rfl<;>decide
     ·by_cases h1:(n / 256)=1
      ·rw [hc2 h1];decide
      ·rw [hc3 (by omega)];decide
    have hc9:256≤n→c.toNat≤2∧1≤c.toNat:=by
     intro hn
     by_cases h1:(n / 256)=1
     ·rw [hc2 h1];decide
     ·rw [hc3 (by omega)];decide
    have hc10:n<256→7≤c.toNat:=by
     intro hn
     rcases hc1 (by omega) with rfl | rfl<;>decide
    refine zj O (za (W_conv (m:=(((n / 256):Nat):Int)) O (wrapu8_in (by omega) (by omega)) (za (W_idxT (l:=LEN8) O O (by omega) hlc (za (W_conv O (wrap64_in (by omega) (by omega)) (zAd O O (zj O (zN (zh (zP O ?_)))))))))))
    exact k _ _ H.qx (by omega)
  ·replace h8:=bT h8
   exact absurd h8 (by omega)
 ·replace h4:=bT h4
  exact absurd h4 (by omega)
theorem sz246:(Tryz.prog.info? 246).map (·.size)=some 1:=by kernel_rfl
theorem ct255 (hG:Glob S0) (h0:100≤n) (h1:n≤999) (k:∀  S',Ext [] S0 S'→K (int 3) S') :
  zC 255 #[.int .u64 n] S0 K:=by
 refine zGh (sf:=s255) Tryz.func255 fun H=>zR (zj O (vA (zj O (zCl O (ct261 (by omega) (by omega) fun r5 S hE hr5=>?_)))))
 replace H:=H.call hE
 refine zCl O (ct260 (by omega) (by omega) fun q6 S hE hq6=>?_)
 replace H:=H.call hE
 refine zj O (zN (zB ?_))
 have hG2:=hG.mono H.qx
 have hq23:q6=2∨q6=3:=by have:=hq6;omega
 obtain ⟨v11,hv11,hp11⟩:∃ v:Nat,S.cell? ⟨4,q6.toNat*1,none⟩=some (.int .u64 v)∧((q6=2∧v=100)∨(q6=3∧v=1000)):=by
  rcases hq23 with rfl | rfl
  ·exact ⟨100,hG2.p2,.inl ⟨rfl,rfl⟩⟩
  ·exact ⟨1000,hG2.p3,.inr ⟨rfl,rfl⟩⟩
 refine zL (zj O (zj O (zj O ?_)))
 obtain ⟨ti5,hti5,hts5⟩:=Option.map_eq_some_iff.1 sz246
 refine za (W_arrAddr Tryz.underlying257 hti5 O O (by omega) (by rcases hq23 with rfl | rfl<;>decide) ?_)
 rw [hts5,addr_add,Nat.zero_add]
 refine za (zF O hv11 (za (W_geq O O fun t12 h12=>zCl O (ct262 (t0:=t12) fun S hE =>?_))))
 replace H:=H.call hE
 refine za (W_add O O (by cases t12<;>simp<;>omega) (by cases t12<;>simp<;>omega) (zj O (zN (zh (zP O ?_)))))
 have e:q6+(bif t12 then (1:Int) else 0)=3:=by
  rcases hp11 with ⟨e1,e2⟩ | ⟨e1,e2⟩
  ·have:t12=true:=h12.2 (by subst e2;omega)
   rw [this,e1];rfl
  ·have:t12=false:=by
    cases t12 with
    | false=>rfl
    | true=>have:=h12.1 rfl;subst e2;omega
   rw [this,e1];rfl
 rw [← e] at k
 exact k _ H.qx
theorem ct254 (h1:n<100) (k:∀  S',Ext [] S0 S'→K (str (dig n)) S') :
  zC 254 #[int n] S0 K:=by
 refine zGh (sf:=s254) Tryz.func254 fun H=>zR (zj O (zN (vz (zj O (za (vq O O fun t4 h4=>zN ?_))))))
 rcases t4 with _|_
 ·replace h4:=bF h4
  refine zn O (zt (ze (zR (zj O (za (W_mul O O (by omega) (by omega) (zj O (za (W_mul O O (by omega) (by omega) (zAd O O (za (W_slS (l:=SMALLS) O O O (by omega) (by omega) (by rw [SMALLS_len];omega) (zj O (zN (zh (zP O ?_))))))))))))))))
  have e:((SMALLS.drop (((n:Nat):Int)*2).toNat).take ((((n:Nat):Int)*2+2).toNat-(((n:Nat):Int)*2).toNat))=dig n:=by
   rw [show (((n:Nat):Int)*2).toNat=2*n by omega,show (((n:Nat):Int)*2+2).toNat-2*n=2 by omega]
   exact smalls2 (by omega) (by omega)
  rw [← e] at k
  exact k _ H.qx
 ·replace h4:=bT h4
  refine zr O (zR (zj O (zj O (zAd O O (za (W_slS (l:=DIG36) O O O (by omega) (by omega) (by rw [DIG36_len];omega) (zj O (zN (zh (zv (zP O ?_)))))))))))
  have e:((DIG36.drop ((n:Nat):Int).toNat).take ((((n:Nat):Int)+1).toNat-((n:Nat):Int).toNat))=dig n:=by
   rw [show ((n:Nat):Int).toNat=n by omega,show (((n:Nat):Int)+1).toNat-n=1 by omega]
   exact dig36_1 (by omega)
  rw [← e] at k
  exact k _ H.qx
theorem sz5:(Tryz.prog.info? 5).map (·.size)=some 1:=by kernel_rfl
theorem ct256 {b:Nat} (ho:S0 b=some ⟨Cs (List.replicate 24 (byt 0)) 245,true⟩) (h0:100≤n) (h1:n≤999) (k:∀ (cs':List Value) S',Ext [b] S0 S'→S' b=some ⟨Cs cs' 245,true⟩→subl cs' 1 3=some ((dig n).map byt)→K (.tuple #[]) S') :
  zC 256 #[sl b 1 3 23,.int .u64 n] S0 K:=by
 refine zGo (sf:=s256) Tryz.func256 ?_
 have H:=Loc.start1 ho
 refine zR (zj O (zLl O (zj O (zN (zB (zE ?_))))))
 refine vg (fun E S m_=>E=Env.lst [(0,sl b 1 3 23),(1,.int .u64 n),(4,int 3)]∧Loc [b] S0 S [(b,Cs (List.replicate 24 (byt 0)) 245)]∧m_=0) ?_ ?_
 ·skip
  refine ⟨_,_,?le,O,H,O⟩
  case le=>exact Env.qle ⟨O,O,O,⟨⟩⟩
 ·skip
  rintro _ S _ ⟨rfl,H,rfl⟩
  refine vz (zj O (za (W_geq O O fun t20 h20=>zN ?_)))
  rcases t20 with _|_
  ·replace h20:=bF h20
   refine zn O (vf (zM (zM (vn (ze (zR (zj O (za (W_conv (m:=(n:Int)) O (wrapu32_in (by omega) (by omega)) (zj O (zN (vz (zj O (za (W_geq O O fun t99 h99=>zN ?_)))))))))))))))
   rcases t99 with _|_
   ·replace h99:=bF h99
    refine zn O (zt (ze (vz (zj O (za (W_geq O O fun t139 h139=>zN ?_))))))
    rcases t139 with _|_
    ·replace h139:=bF h139
     exact absurd (by omega) h139
    ·replace h139:=bT h139
     refine zr O (zR (zj O (za (W_remU (n:=n) (m:=100) O O (by decide) (za (W_mulU (n:=n % 100) (m:=2) O O (wrapu32_in (by omega) (by omega)) (zj O (vA (zj O (za (W_quoU (n:=n) (m:=100) O O (by decide) (wrapu32_in (by omega) (by omega)) (zj O (zN (zB (z9 [] (vJ 0 O O O (vJ 1 O O O (vO 2 O O (fun _ _ hK=>W_sub O O (by omega) (by omega) hK) (vJ 3 O O O (vJ 4 O O O (vO 5 O O (fun _ _ hK=>W_sub O O (by omega) (by omega) hK) (vJ 6 O O O (vO 7 O O (fun _ _ hK=>W_addU (n:=n % 100*2) (m:=1) O O (wrapu32_in (by omega) (by omega)) hK) (vO 8 O O (fun _ _ hK=>W_idxT (l:=SMALLS) (c:=dg (n % 100 % 10)) O O (by omega) (by rw [← smalls1 (show n % 100<100 by omega)];congr 1;omega) hK) (vJ 9 O O O (vO 10 O O (fun _ _ hK=>W_idxT (l:=SMALLS) (c:=dg (n % 100 / 10)) O O (by omega) (by rw [← smalls0 (show n % 100<100 by omega)];congr 1;omega) hK) (vO 11 O O (fun _ _ hK=>vl O O (by omega) (by omega) hK) (zA 12 (by kernel_rfl) O O (zu (zSt H O O O .h O fun S hE H=>zLd (vO 13 O O (fun _ _ hK=>vl O O (by omega) (by omega) hK) ?_)))))))))))))))))))))))))))))))
     refine zA 14 (by kernel_rfl) O O (zu (zSt H O O O .h O fun S hE H=>zLd (zY (ze (zL (zj O (zSb O O (zj O (vA (zj O (za (W_gtr O O fun t161 h161=>zN ?_))))))))))))
     rcases t161 with _|_
     ·replace h161:=bF h161
      exact absurd (by omega) h161
     ·replace h161:=bT h161
      refine zr O (zL (zj O (zj O (za (W_addU (n:=48) (m:=n / 100) O O (wrapu32_in (by omega) (by omega)) (za (W_conv (m:=((dg (n / 100)).toNat:Nat)) O (by rw [dg_nat (by omega),wrapu8_in (by omega) (by omega)]) (zIa O O (zSs H O O O .h O fun S hE H=>ve (⟨trivial,_,zU,k _ _ H.qx (H.get .h) ?_⟩))))))))))
      rw [dig3 (by omega) (by omega)]
      rfl
   ·replace h99:=bT h99
    exact absurd h99 (by omega)
  ·replace h20:=bT h20
   exact absurd h20 (by omega)
theorem ct248 (hG:Glob S0) (h0:1≤n) (h1:n≤999) (k:∀  S',Ext [] S0 S'→K (str (dig n)) S') :
  zC 248 #[int n,int 10] S0 K:=by
 refine zGh (sf:=s248) Tryz.func248 fun H=>zR (zj O (zN (vz (zj O (za (W_eqI O O fun t11 h11=>zN ?_))))))
 rcases t11 with _|_
 ·replace h11:=bF h11
  exact absurd rfl h11
 ·replace h11:=bT h11
  refine zr O (vz (zj O (za (W_leq O O fun t13 h13=>zj O ?_))))
  rcases t13 with _|_
  ·replace h13:=bF h13
   exact absurd (by omega) h13
  ·replace h13:=bT h13
   refine zi O (vB O (zi O (vq O O fun t16 h16=>vp O O O O (zN ?_))))
   rcases t16 with _|_
   ·replace h16:=bF h16
    refine zn O (zt (ze (zR (zAl H O fun b5 S hb5 hE H=>vA (zj O (za (W_conv (m:=(n:Int)) O (wrapu64_in (by omega) (by omega)) (zj O (zN (vz (zj O (za (vq O O fun t23 h23=>zN ?_)))))))))))))
    rcases t23 with _|_
    ·replace h23:=bF h23
     refine zn O (zt (ze (zR (zj O (zCl O (ct255 (hG.mono H.qx) (by omega) (by omega) fun S hE =>?_))))))
     replace H:=H.call hE
     refine zj O (vA (zj O (zAd O O ?_)))
     obtain ⟨ti5,hti5,hts5⟩:=Option.map_eq_some_iff.1 sz5
     refine za (W_arrSl (i:=1) (j:=4) Tryz.underlying245 hti5 hts5 O O O O O (by decide) (by decide) (by decide) (zj O (zCl O (ct256 (H.get .h) (by omega) (by omega) fun cs32 S hE ho32 hs32=>?_))))
     replace H:=H.callX hE .h ho32
     refine zN (vz (zj O (za (vq O O fun t34 h34=>zN ?_))))
     rcases t34 with _|_
     ·replace h34:=bF h34
      refine zn O (zt (ze (zR (zj O (zAd O O ?_)))))
      obtain ⟨ti5,hti5,hts5⟩:=Option.map_eq_some_iff.1 sz5
      refine za (W_arrSl (i:=1) (j:=4) Tryz.underlying245 hti5 hts5 O O O O O (by decide) (by decide) (by decide) (za (W_bytesStr (l:=dig n) O (cells_own (H.get .h) hs32) (zj O (zN (zh (zv (zP O ?_))))))))
      exact k _ H.qx
     ·replace h34:=bT h34
      exact absurd h34 (by omega)
    ·replace h23:=bT h23
     exact absurd h23 (by omega)
   ·replace h16:=bT h16
    refine zr O (zR (zj O (zCl O (ct254 (by omega) fun S hE =>?_))))
    replace H:=H.call hE
    refine zj O (zN (zh (zv (zv (zP O ?_)))))
    exact k _ H.qx
theorem ct241 (hG:Glob S0) (h0:1≤n) (h1:n≤999) (k:∀  S',Ext [] S0 S'→K (str (dig n)) S') :
  zC 241 #[int n] S0 K:=by
 refine zGh (sf:=s241) Tryz.func241 fun H=>zR (zj O (vA (zj O (zCl O (ct248 (hG.mono H.qx) (by omega) (by omega) fun S hE =>?_)))))
 replace H:=H.call hE
 refine zj O (zN (zh (zP O ?_)))
 exact k _ H.qx
theorem ct233 (hG:Glob S0) (h0:1≤n) (h1:n≤999) (k:∀  S',Ext [] S0 S'→K (str (dig n)) S') :
  zC 233 #[int n] S0 K:=by
 refine zGh (sf:=s233) Tryz.func233 fun H=>zR (zj O (vA (zj O (zCl O (ct241 (hG.mono H.qx) (by omega) (by omega) fun S hE =>?_)))))
 replace H:=H.call hE
 refine zj O (zN (zh (zP O ?_)))
 exact k _ H.qx
end
section
variable {S0:St} {K:Value→St→Prop}
variable {f l:Bs}
theorem ct159 (hl:l.length≤2097152) (k:∀  S',Ext [] S0 S'→K (str l) S') :
  zC 159 #[str l] S0 K:=by
 refine zGh (sf:=s159) Tryz.func159 fun H=>zR (zj O (zN (vz (zj O (za (vG O (za (W_eqI O O fun t6 h6=>zN ?_))))))))
 rcases t6 with _|_
 ·replace h6:=bF h6
  have hl0:0<l.length:=by omega
  refine zn O (zt (ze (zR (zj O (za (vG O (za (W_mkSlice H O O (Nat.le_refl _) (by omega) (by omega) fun b9 cs9 S hb9 H hE hcl9=>zj O (vA (zj O (zj O (za (W_copy_ tryzPT H O O O (by omega) hl0 O .h fun S hE H=>?_)))))))))))))
  have hs12:(setl cs9 0 (l.map byt)).take l.length=l.map byt:=by
   simp only [setl,List.take_zero,List.nil_append]
   rw [List.take_left' (by simp)]
  refine vA (zj O (zIa O O (zj O (zLl O (za (W_unsafeStr_ tryzPT H O O hl0 (by omega) hs12 .h fun S hE H=>zj O (zN (zh (zP O ?_)))))))))
  exact k _ H.qx
 ·replace h6:=bT h6
  refine zr O (zR (zj O (zN (zh (zv (zP O ?_))))))
  have e:l=[]:=List.length_eq_zero_iff.1 (by omega)
  subst e
  exact k _ H.qx
theorem ct71 (hl:l.length≤2097152) (k:∀  S',Ext [] S0 S'→K (str l) S') :
  zC 71 #[str l] S0 K:=by
 refine zGh (sf:=s71) Tryz.func71 fun H=>zR (zj O (vA (zj O (zCl O (ct159 (by omega) fun S hE =>?_)))))
 replace H:=H.call hE
 refine zj O (zN (zh (zP O ?_)))
 exact k _ H.qx
theorem ct250 (hG:Glob S0) (hl:l.length≤1048576) (k:∀ b S',Ext [] S0 S'→K (ptr b 0) S') :
  zC 250 #[str f,str l] S0 K:=by
 refine zGh (sf:=s250) Tryz.func250 fun H=>zR (zj O (zN (zB ?_)))
 obtain ⟨t8,a8,hv8⟩:=(hG.mono H.qx).e2
 refine z9 [] (vJ 0 O O O (vJ 1 O O O (vk 3 O O (fun S' hS'=>zG fun K hK=>zF O (zH (hS' O) (by simp) hv8) hK) (zA 2 (by kernel_rfl) O O (zu (zT O (ct159 (by omega) fun S hE =>?_)))))))
 replace H:=H.call hE
 refine ⟨fun _=>hE.up.ext,vO 4 O O (fun _ _ hK=>vL (cs:=[_,_,_]) O O hK) (zA 5 (by kernel_rfl) O O (zu (W_box H O O fun b10 S hb10 hE H=>zLd (vJ 6 O O O (zY (ze (zh (zP O ?_))))))))⟩
 exact k _ _ H.qx
theorem ct249   (k:∀  S',Ext [] S0 S'→K (.tuple #[int 0,.iface 239 (int 2)]) S') :
  zC 249 #[str [],int 10,int 0] S0 K:=by
 refine zGh (sf:=s249) Tryz.func249 fun H=>zR (zj O (zj O (zN (vz (zj O (za (W_eqS O O fun t13 h13=>zN ?_)))))))
 rcases t13 with _|_
 ·replace h13:=bF h13
  exact absurd rfl h13
 ·replace h13:=bT h13
  refine zr O (zR (za (W_mkIface O (zj O (zj O (zN (zh (zv (⟨trivial,_,(zW O (zW O zU)),?_⟩)))))))))
  exact k _ H.qx
theorem cmp239:(Tryz.prog.info? 239).map (·.comparable)=some true:=by kernel_rfl
theorem ct247 (hG:Glob S0) (hl:l.length≤1048576) (k:∀ b S',Ext [] S0 S'→K (.iface 242 (ptr b 0)) S') :
  zC 247 #[str f,str l,int 0,int 0,.iface 239 (int 2)] S0 K:=by
 refine zGh (sf:=s247) Tryz.func247 fun H=>zR (zj O (zN (vz (zj O (zN (zE (zB ?_)))))))
 obtain ⟨i239,hi239,hc239⟩:=Option.map_eq_some_iff.1 cmp239
 refine zL (za (W_mkIface O (za (W_eqII Tryz.underlying215 hi239 hc239 Tryz.underlying239 O O (zj O (zN (zr O (zR (zj O (zj O (zCl O (ct250 (hG.mono H.qx) (by omega) fun b17 S hE =>?_))))))))))))
 replace H:=H.call hE
 refine za (W_mkIface O (zj O (zN (zh (vd (zv (zP O ?_)))))))
 exact k _ _ H.qx
theorem ct246 (hl:l.length≤18) (k:∀ (t:Bool) (v:Int) S',Ext [] S0 S'→(AtoiP l t v)→K (.tuple #[int v,bif t then .iface 239 (int 2) else .nilIface]) S') :
  zC 246 #[str l] S0 K:=by
 refine zGh (sf:=s246) Tryz.func246 fun H=>zR (zj O (zj O (vA (zj O (za (vG O (zj O (zN (vz (zj O (zJ O (zJ O (zJ O (wpI_un O (wpI_un O (zJ O (vp O O O O (zj O (zi O (vB O (zi O (vB O (zi O (vq O O fun t24 h24=>zi O (vB O ?_)))))))))))))))))))))))))
 rcases t24 with _|_
 ·replace h24:=bF h24
  refine zJ O (zJ O (zi O (W_pick O O O O (zi O (W_pick O O O O (vp O O O O (zN (zn O (zt (ze (zB ?_)))))))))))
  obtain rfl:l=[]:=List.length_eq_zero_iff.1 (by omega)
  refine zL (zj O (zCl O (ct249  fun S hE =>?_)))
  replace H:=H.call hE
  refine zj O (zEx O O (zEx O O (zj O (zj O (vA (zj O (zj O (zj O (zj O (zN (zh (⟨trivial,_,(zW O (zW O zU)),?_⟩))))))))))))
  exact k true _ _ H.qx .nil
 ·replace h24:=bT h24
  obtain ⟨c0,hc0⟩:∃ c0,l[0]? = some c0:=⟨l[0]'(by omega),by simp⟩
  refine zi O (vB O (zi O (vq O O fun t27 h27=>zi O (W_pick O O O O (zi O (W_pick O O O O (vp O O O O (zN ?_))))))))
  rcases t27 with _|_
  ·replace h27:=bF h27
   exact absurd (by omega) h27
  ·replace h27:=bT h27
   refine zr O (zR (zj O (zj O (zN ?_))))
   refine wpS_cut (fun E S=>∃ (r:Bs),E=Env.lst [(0,str r),(5,str l)]∧Loc [] S0 S []∧((l=r∧r≠[])∨((∃ s,l=s::r∧(s=43∨s=45))∧r≠[]))∧(r.length≤l.length)) ?_ ?_
   ·skip
    refine zR (zj O (za (W_idxT O O (by omega) hc0 (za (W_eqI O O fun t34 h34=>zj O ?_)))))
    rcases t34 with _|_
    ·replace h34:=bF h34
     refine zi O (vB O (zi O (W_idxT O O (by omega) hc0 (zi O (W_eqI O O fun t38 h38=>vp O O O O (zN ?_))))))
     rcases t38 with _|_
     ·replace h38:=bF h38
      refine zn O (zt (ze ?_))
      refine ⟨_,?le,l,O,H,(.inl ⟨O,by rintro rfl;simp at hc0⟩),(Nat.le_refl _)⟩
      case le=>exact Env.qle ⟨O,O,⟨⟩⟩
     ·replace h38:=bT h38
      refine zr O (zR (zj O (za (W_slSlo O O (by omega) (by omega) (zj O (vA (zj O (za (vG O (za (vq O O fun t44 h44=>zN ?_)))))))))))
      rcases t44 with _|_
      ·replace h44:=bF h44
       refine zn O (zt (ze ?_))
       refine ⟨_,?le,(l.drop (1:Int).toNat),O,H,(sgn_drop hc0 h44 (.inr h38)),(by simp)⟩
       case le=>exact Env.qle ⟨O,O,⟨⟩⟩
      ·replace h44:=bT h44
       refine zr O (zR (za (W_mkIface O (zj O (zj O (zN (zh (zv (zv (⟨trivial,_,(zW O (zW O zU)),?_⟩))))))))))
       exact k true _ _ H.qx (.head hc0 (by omega) (by omega) (by omega) _)
    ·replace h34:=bT h34
     refine zJ O (zJ O (zJ O (vp O O O O (zN (zr O (zR (zj O (za (W_slSlo O O (by omega) (by omega) (zj O (vA (zj O (za (vG O (za (vq O O fun t44 h44=>zN ?_))))))))))))))))
     rcases t44 with _|_
     ·replace h44:=bF h44
      refine zn O (zt (ze ?_))
      refine ⟨_,?le,(l.drop (1:Int).toNat),O,H,(sgn_drop hc0 h44 (.inl h34)),(by simp)⟩
      case le=>exact Env.qle ⟨O,O,⟨⟩⟩
     ·replace h44:=bT h44
      refine zr O (zR (za (W_mkIface O (zj O (zj O (zN (zh (zv (zv (⟨trivial,_,(zW O (zW O zU)),?_⟩))))))))))
      exact k true _ _ H.qx (.head hc0 (by omega) (by omega) (by omega) _)
   ·skip
    rintro _ S ⟨r,rfl,H,hr,hrl⟩
    refine zR (zj O (zN (vz (zj O (za (W_strBytes H O fun b47 cap47 S hc47 hb47 hE H=>zLl O (zj O (zN (zE ?_)))))))))
    refine vg (fun E S m_=>∃ (i:Nat) (n:Nat),E=Env.lst [(0,str r),(5,str l),(6,int n),(47,sl b47 0 r.length cap47),(48,int r.length),(49,int i)]∧Loc [] S0 S [(b47,BytesO r cap47 5)]∧(i≤r.length)∧(n<10 ^ i)∧(n=vD (r.take i))∧m_=r.length-i) ?_ ?_
    ·skip
     refine ⟨_,_,?le,0,0,O,H,(by omega),(by simp),O,O⟩
     case le=>exact Env.qle ⟨O,O,O,O,O,O,⟨⟩⟩
    ·skip
     rintro _ S _ ⟨i,n,rfl,H,hi,hn,hv,rfl⟩
     refine zR (za (vq O O fun t50 h50=>zN (zB ?_)))
     rcases t50 with _|_
     ·replace h50:=bF h50
      have hp2:=pow18' (i:=i) (by omega)
      refine zn O (vf (zM (zM (vn (ze (vz (zj O (za (W_idxT O O (by omega) hc0 (za (W_eqI O O fun t66 h66=>zN ?_)))))))))))
      rcases t66 with _|_
      ·replace h66:=bF h66
       refine zn O (zt (ze (zR (zj O (zj O (zj O (zN (zh (zv (⟨trivial,_,(zW O (zW O zU)),?_⟩))))))))))
       rw [show i=r.length by omega,List.take_length] at hv
       rcases hr with ⟨rfl,hr⟩ | ⟨⟨s,hr,hs⟩,_⟩
       ·exact k false _ _ H.qx (.good hr (by omega) hv)
       ·exact k false _ _ H.qx (.sign hr hs (by omega) (by omega) _)
      ·replace h66:=bT h66
       refine zr O (zL (zj O (za (W_neg3 O (by omega) (by omega) (zj O (vA (zj O (zj O (zj O (zN (zh (zv (⟨trivial,_,(zW O (zW O zU)),?_⟩)))))))))))))
       exact k false _ _ H.qx (.head hc0 (by omega) (by omega) (by omega) _)
     ·replace h50:=bT h50
      obtain ⟨c,hc⟩:∃ c,r[i]? = some c:=⟨r[i]'(by omega),by simp⟩
      obtain ⟨w,hw,hw1,hw2⟩:=u8sub c
      have hp1:=pow18 (i:=i) (by omega)
      have hc256:c.toNat<256:=c.toNat_lt
      refine zr O (zt (ze (zB (zE (zR (zIa O O (za (zF O (H.byteAt .h hc) (zj O (vA (zj O (za (W_bin (v:=.int .u8 (w:Nat)) O O (by simp only [binI,hw]) (zj O (zN (vz (zj O (za (W_gtr O O fun t56 h56=>zN ?_)))))))))))))))))))
      rcases t56 with _|_
      ·replace h56:=bF h56
       refine zn O (zt (ze (zL (zj O (za (W_mul O O (by omega) (by omega) (zj O (za (W_conv (m:=(w:Int)) O (wrap64_in (by omega) (by omega)) (zAd O O (zj O (ve (vc (ze (zL (zAd O O (zj O (zN ?_))))))))))))))))))
       refine ⟨_,_,?lt,?le,(i+1),(n*10+w),O,H,(by omega),(by rw [Nat.pow_succ];omega),(by rw [vF hc,vD_snoc,← hv];omega),O⟩
       case lt=>omega
       case le=>exact Env.qle ⟨O,O,O,O,O,O,⟨⟩⟩
      ·replace h56:=bT h56
       refine zr O (zR (za (W_mkIface O (zj O (zj O (zN (zh (zv (vd (zv (zv (vd (zv (zv (⟨trivial,_,(zW O (zW O zU)),?_⟩)))))))))))))))
       rcases hr with ⟨rfl,hr⟩ | ⟨⟨s,hr,hs⟩,_⟩
       ·exact k true _ _ H.qx (.bad (List.mem_of_getElem? hc) (by omega))
       ·exact k true _ _ H.qx (.sign hr hs (by omega) (by omega) _)
theorem ct240 (hG:Glob S0) (hl:l.length≤18) (k:∀ (t:Bool) (v:Int) (b:Nat) S',Ext [] S0 S'→(AtoiP l t v)→K (.tuple #[int v,bif t then .iface 242 (ptr b 0) else .nilIface]) S') :
  zC 240 #[str l] S0 K:=by
 refine zGh (sf:=s240) Tryz.func240 fun H=>zR (zj O (zj O (vA (zj O (zCl O (ct246 (by omega) fun t8 v8 S hE hA8=>?_))))))
 replace H:=H.call hE
 have h8:t8=true↔t8=true:=Iff.rfl
 refine zj O (zEx O O (zEx O O (zj O (zj O (zN (vz (zj O (za (W_errNil Tryz.underlying215 O (zN ?_))))))))))
 rcases t8 with _|_
 ·replace h8:=bF h8
  refine zn O (zt (ze (zR (zj O (zj O (zj O (zN (zh (⟨trivial,_,(zW O (zW O zU)),?_⟩)))))))))
  exact k false _ 0 _ H.qx hA8
 ·replace h8:=bT h8
  skip
  refine zr O (zR (zj O (zj O (zj O (zCl O (ct247 (f:=[65,116,111,105]) (hG.mono H.qx) (by omega) fun b16 S hE =>?_))))))
  replace H:=H.call hE
  refine zj O (zj O (zN (zh (zv (⟨trivial,_,(zW O (zW O zU)),?_⟩)))))
  exact k true _ b16 _ H.qx hA8
end
section
variable {S0:St} {K:Value→St→Prop}
variable {l:Bs} {e x:End}
theorem ct233i {a:Int} (hG:Glob S0) (h0:1≤a) (h1:a≤999) (k:∀ S',Ext [] S0 S'→(dig a.toNat).length≤4→K (str (dig a.toNat)) S'):Calls1 Tryz.prog 233 #[int a] S0 K:=by
 obtain ⟨n,rfl⟩:∃ n:Nat,a=n:=⟨a.toNat,by omega⟩
 exact ct233 hG (by omega) (by omega) fun S' hE=>k S' hE (dig_le4 (by omega))
theorem ct221 (hG:Glob S0) (k:∀  S',Ext [] S0 S'→((e.text).length≤9)→K (str e.text) S') :
  zC 221 #[e.v] S0 K:=by
 refine zGh (sf:=s221) Tryz.func221 fun H=>zR (zBx H O O fun b1 S hb1 hE H=>zj O (zN (vz (zLn (vs:=[_,_]) H O .h O (zCl O (ct89  fun t4 S hE h4=>?_))))))
 replace H:=H.call hE
 refine zNt O (zN ?_)
 rcases t4 with _|_
 ·replace h4:=bF h4
  refine zr O (zR (zj O (zN (zh (zv (zP O ?_))))))
  rw [show e.text=[] from if_neg h4] at k
  exact k _ H.qx (by simp)
 ·replace h4:=bT h4
  have hok:e.ok:=h4
  have hok2:=hok
  unfold End.ok OkE at hok2
  refine zn O (zt (ze (zB (z9 [] (zLf 0 O O O (vk 1 O O (fun S' hS'=>zG fun K hK=>zF O (zH (hS' O) (by simp) (H.cell .h O)) hK) (zLf 4 O O O (vk 5 O O (fun S' hS'=>zG fun K hK=>zF O (zH (hS' O) (by simp) (H.cell .h O)) hK) (zA 2 (by kernel_rfl) O O (zu (zT O (ct233i (hG.mono H.qx) (by omega) (by omega) fun S hE h8=>?_))))))))))))
  replace H:=H.call hE
  refine ⟨fun _=>hE.up.ext,vO 3 O O (fun _ _ hK=>W_catS O O (by simp;omega) hK) (zA 6 (by kernel_rfl) O O (zu (zT O (ct233i (hG.mono H.qx) (by omega) (by omega) fun S hE h12=>?_))))⟩
  replace H:=H.call hE
  refine zLd (vO 7 O O (fun _ _ hK=>W_catS O O (by simp;omega) hK) (vJ 8 O O O (zY (ze (zh (zP O ?_))))))
  rw [show e.text=e.txt from if_pos hok] at k
  exact k _ H.qx (by unfold End.txt eTxt;simp;omega)
theorem ct232 (hG:Glob S0) (hl:l.length≤18) (k:∀ (t:Bool) (ty:TypeId) (a:Value) S',Ext [] S0 S'→(t=true↔rd l=none)→K (.tuple #[((rd l).getD ⟨0,0⟩).v,bif t then .iface ty a else .nilIface]) S') :
  zC 232 #[str l] S0 K:=by
 refine zGh (sf:=s232) Tryz.func232 fun H=>zR (zAl H O fun b2 S hb2 hE H=>zj O (vA (zj O (zCl O (ct180 (by omega) fun t14 S hE h14=>?_)))))
 replace H:=H.call hE
 have hbl:(bef l 32).length≤18:=by unfold bef;rw [List.length_take];omega
 have hal:(aft l 32).length≤18:=by unfold aft;rw [List.length_drop];omega
 refine zj O (zEx O O (zEx O O (zEx O O (zj O (zj O (zj O (vA (zj O (zCl O (ct240 (hG.mono H.qx) (by omega) fun t20 v20 b20 S hE hA20=>?_))))))))))
 replace H:=H.call hE
 have h20:t20=true↔t20=true:=Iff.rfl
 refine zj O (zEx O O (zEx O O (zj O (zj O (vA (zj O (zCl O (ct240 (hG.mono H.qx) (by omega) fun t25 v25 b25 S hE hA25=>?_))))))))
 replace H:=H.call hE
 have h25:t25=true↔t25=true:=Iff.rfl
 refine zj O (zEx O O (zEx O O (zj O (zj O (vA (zj O (zj O (za (vL (cs:=[_,_]) O O (zAl H O fun b11 S hb11 hE H=>zSs H O O O .h O fun S hE H=>zN (vz (zj O (za (W_errNil Tryz.underlying215 O (zj O ?_)))))))))))))))
 rcases t20 with _|_
 ·replace h20:=bF h20
  refine zi O (vB O (zi O (W_errNil Tryz.underlying215 O (vp O O O O (zj O ?_)))))
  rcases t25 with _|_
  ·replace h25:=bF h25
   refine zi O (W_loadN (vs:=[_,_]) H O .h O (zi O (zT O (ct221 (e:=⟨v20,v25⟩) (hG.mono H.qx) fun S hE hl39=>?_))))
   replace H:=H.call hE
   refine zi O (vB O (zi O (W_neS O O fun t41 h41=>vp O O O O (zN ?_))))
   rcases t41 with _|_
   ·replace h41:=bF h41
    refine zn O (zt (ze (zR (zLn (vs:=[_,_]) H O .h O (zSs H O O O .h1 O fun S hE H=>zj O (zN (zh (⟨trivial,_,(z0 (ws:=[_,_]) H O .h1 O (zW O zU)),?_⟩))))))))
    have hr:=rd_yes (t2:=false) (v2:=v25) hA20 rfl (Classical.not_not.1 h41)
    rw [hr] at k
    exact k false 0 undef _ H.qx ⟨nofun,nofun⟩
   ·replace h41:=bT h41
    refine zr O (zB ?_)
    obtain ⟨ty44,a44,hv44⟩:=(hG.mono H.qx).e1
    refine z9 [b2] (vO 0 O O (fun _ _ hK=>vL (cs:=[_,_]) O O hK) (vk 1 O O (fun S' hS'=>zG fun K hK=>zF O (zH (hS' O) (hG.nin1 (H.new1 .h1)) hv44) hK) (zA 2 (by kernel_rfl) O O (zu (zSt H O O O .h1 O fun S hE H=>⟨fun _=>hE.ext,vJ 3 O O O (zY (ze (zh (zv (⟨trivial,_,(z0 (ws:=[_,_]) H O .h1 O (zW O zU)),?_⟩)))))⟩)))))
    have hr:=rd_fail hA20 hA25 (.inr (.inr h41))
    rw [hr] at k
    exact k true ty44 a44 _ H.qx ⟨fun _=>rfl,fun _=>rfl⟩
  ·replace h25:=bT h25
   refine zJ O (zJ O (zJ O (zJ O (vp O O O O (zN (zr O (zB ?_)))))))
   obtain ⟨ty44,a44,hv44⟩:=(hG.mono H.qx).e1
   refine z9 [b2] (vO 0 O O (fun _ _ hK=>vL (cs:=[_,_]) O O hK) (vk 1 O O (fun S' hS'=>zG fun K hK=>zF O (zH (hS' O) (hG.nin1 (H.new1 .h1)) hv44) hK) (zA 2 (by kernel_rfl) O O (zu (zSt H O O O .h1 O fun S hE H=>⟨fun _=>hE.ext,vJ 3 O O O (zY (ze (zh (zv (⟨trivial,_,(z0 (ws:=[_,_]) H O .h1 O (zW O zU)),?_⟩)))))⟩)))))
   have hr:=rd_fail hA20 hA25 (.inr (.inl rfl))
   rw [hr] at k
   exact k true ty44 a44 _ H.qx ⟨fun _=>rfl,fun _=>rfl⟩
 ·replace h20:=bT h20
  refine zJ O (zJ O (vp O O O O (zj O (zJ O (zJ O (zJ O (zJ O (vp O O O O (zN (zr O (zB ?_)))))))))))
  obtain ⟨ty44,a44,hv44⟩:=(hG.mono H.qx).e1
  refine z9 [b2] (vO 0 O O (fun _ _ hK=>vL (cs:=[_,_]) O O hK) (vk 1 O O (fun S' hS'=>zG fun K hK=>zF O (zH (hS' O) (hG.nin1 (H.new1 .h1)) hv44) hK) (zA 2 (by kernel_rfl) O O (zu (zSt H O O O .h1 O fun S hE H=>⟨fun _=>hE.ext,vJ 3 O O O (zY (ze (zh (zv (⟨trivial,_,(z0 (ws:=[_,_]) H O .h1 O (zW O zU)),?_⟩)))))⟩)))))
  have hr:=rd_fail hA20 hA25 (.inl rfl)
  rw [hr] at k
  exact k true ty44 a44 _ H.qx ⟨fun _=>rfl,fun _=>rfl⟩
theorem said_t {t:Bool} {o:Option End} (h:t=true↔o=none):(t==false)=true↔∃ x,o=some x:=by
 cases t with
 | true=>simp;rw [h.1 rfl];simp
 | false=>
  cases o with
  | none=>exact absurd (h.2 rfl) (by simp)
  | some x=>exact ⟨fun _=>⟨x,rfl⟩,fun _=>rfl⟩
theorem ct220 (hG:Glob S0) (hl:l.length≤18) (k:∀ (t:Bool) (e:End) S',Ext [] S0 S'→(t=true↔∃ x,said l=some x)→(∀ x,said l=some x→e=x)→K (.tuple #[e.v,.bool t]) S') :
  zC 220 #[str l] S0 K:=by
 refine zGh (sf:=s220) Tryz.func220 fun H=>zR (zAl H O fun b2 S hb2 hE H=>zj O (vA (zj O (zCl O (ct231  fun t10 S hE h10=>?_)))))
 replace H:=H.call hE
 refine zj O (zEx O O (zEx O O (zj O (zj O (vA (zj O (zCl O (ct232 (hG.mono H.qx) (by cases t10<;>simp<;>omega) fun t15 ty15 a15 S hE hr15=>?_))))))))
 replace H:=H.call hE
 have h15:t15=true↔t15=true:=Iff.rfl
 refine zj O (zEx O O (zEx O O (zAl H O fun b6 S hb6 hE H=>zSs H O O O .h O fun S hE H=>zj O (zN (zB (z9 [] (vk 0 O O (fun S' hS'=>zG fun K hK=>zV O (zK (hS' O) (by simp) (H.cells (vs:=[_,_]) .h O)) hK) (vJ 1 O O O (vJ 2 O O O ?_)))))))))
 rcases t10 with _|_
 ·replace h10:=bF h10
  have hsd:said l=none:=by unfold said;exact if_neg h10
  refine vk 3 O O (fun S' _=>vo O (by decide)) (vk 4 O O (fun S' _=>vo O (by decide)) (vO 5 O O (fun _ _ hK=>W_pick O O O O hK) (zA 6 (by kernel_rfl) O O (zu (zSt H O O O .h1 O fun S hE H=>zLd (vJ 7 O O O (zY (ze (zh (⟨trivial,_,(z0 (ws:=[_,_]) H O .h1 O (zW O zU)),?_⟩))))))))))
  exact k _ _ _ H.qx ⟨nofun,fun ⟨x,hx⟩=>by rw [hsd] at hx;cases hx⟩ (fun x hx=>by rw [hsd] at hx;cases hx)
 ·replace h10:=bT h10
  have hsd:said l=rd (l.drop 5):=by unfold said;exact if_pos h10
  refine vk 3 O O (fun S' _=>vi O fun K hK=>vB O hK) (vk 4 O O (fun S' _=>vi O fun K hK=>W_errNil Tryz.underlying215 O hK) (vO 5 O O (fun _ _ hK=>W_pick O O O O hK) (zA 6 (by kernel_rfl) O O (zu (zSt H O O O .h1 O fun S hE H=>zLd (vJ 7 O O O (zY (ze (zh (⟨trivial,_,(z0 (ws:=[_,_]) H O .h1 O (zW O zU)),?_⟩))))))))))
  exact k _ _ _ H.qx (by rw [hsd];exact said_t hr15) (fun x hx=>by rw [hsd] at hx;show (rd (l.drop 5)).getD _=x;rw [hx];rfl)
theorem says_n (h:¬ ∃ x,said l=some x):says l=none:=by
 unfold says;rcases hs:said l with _ | x
 ·rfl
 ·exact absurd ⟨x,hs⟩ h
theorem box_n (h:¬ ∃ x,said l=some x):boxP l=none:=by
 unfold boxP;rcases hs:said l with _ | x
 ·rfl
 ·exact absurd ⟨x,hs⟩ h
theorem says_i (h:said l=some x) (hi:¬ x.inn):says l=none:=by unfold says;rw [h];exact if_neg hi
theorem says_y (h:said l=some x) (hi:x.inn):says l=some x:=by unfold says;rw [h];exact if_pos hi
theorem box_i (h:said l=some x) (hi:x.a≠50):boxP l=none:=by unfold boxP;rw [h];exact if_neg hi
theorem box_y (h:said l=some x) (hi:x.a=50):boxP l=some x.p:=by unfold boxP;rw [h];exact if_pos hi
theorem ct211 (hG:Glob S0) (hl:l.length≤18) (k:∀ (t:Bool) S',Ext [] S0 S'→(t=true↔∃ x,says l=some x)→K (.tuple #[((says l).getD ⟨0,0⟩).v,.bool t]) S') :
  zC 211 #[str l] S0 K:=by
 refine zGh (sf:=s211) Tryz.func211 fun H=>zR (zAl H O fun b2 S hb2 hE H=>zj O (vA (zj O (zCl O (ct220 (hG.mono H.qx) (by omega) fun t8 e8 S hE h8 he8=>?_)))))
 replace H:=H.call hE
 refine zj O (zEx O O (zEx O O (zAl H O fun b4 S hb4 hE H=>zSs H O O O .h O fun S hE H=>zj O (zN (vz (zj O (zNt O (zj O ?_))))))))
 rcases t8 with _|_
 ·replace h8:=bF h8
  refine zJ O (zJ O (zJ O (vp O O O O (zN (zr O (zR (za (vL (cs:=[_,_]) O O (zSs H O O O .h1 O fun S hE H=>zj O (zN (zh (zv (⟨trivial,_,(z0 (ws:=[_,_]) H O .h1 O (zW O zU)),?_⟩)))))))))))))
  have hsy:=says_n h8
  rw [hsy] at k
  exact k false _ H.qx ⟨nofun,fun ⟨x,hx⟩=>by cases hx⟩
 ·replace h8:=bT h8
  refine zi O (W_loadN (vs:=[_,_]) H O .h O (zi O (zT O (ct67  fun t15 S hE h15=>?_))))
  replace H:=H.call hE
  refine zi O (W_not O (vp O O O O (zN ?_)))
  rcases t15 with _|_
  ·replace h15:=bF h15
   refine zr O (zR (za (vL (cs:=[_,_]) O O (zSs H O O O .h1 O fun S hE H=>zj O (zN (zh (zv (⟨trivial,_,(z0 (ws:=[_,_]) H O .h1 O (zW O zU)),?_⟩))))))))
   obtain ⟨x8,hx8⟩:=h8
   obtain rfl:=he8 _ hx8
   have hsy:=says_i hx8 h15
   rw [hsy] at k
   exact k false _ H.qx ⟨nofun,fun ⟨x,hx⟩=>by cases hx⟩
  ·replace h15:=bT h15
   refine zn O (zt (ze (zR (zLn (vs:=[_,_]) H O .h O (zSs H O O O .h1 O fun S hE H=>zj O (zN (zh (⟨trivial,_,(z0 (ws:=[_,_]) H O .h1 O (zW O zU)),?_⟩))))))))
   obtain ⟨x8,hx8⟩:=h8
   obtain rfl:=he8 _ hx8
   have hsy:=says_y hx8 h15
   rw [hsy] at k
   exact k true _ H.qx ⟨fun _=>⟨_,rfl⟩,fun _=>rfl⟩
theorem ct183 (hG:Glob S0) (hl:l.length≤18) (k:∀ (t:Bool) S',Ext [] S0 S'→(t=true↔∃ x,boxP l=some x)→K (.tuple #[int ((boxP l).getD 0),.bool t]) S') :
  zC 183 #[str l] S0 K:=by
 refine zGh (sf:=s183) Tryz.func183 fun H=>zR (zj O (zj O (vA (zj O (zCl O (ct220 (hG.mono H.qx) (by omega) fun t8 e8 S hE h8 he8=>?_))))))
 replace H:=H.call hE
 refine zj O (zEx O O (zEx O O (zAl H O fun b4 S hb4 hE H=>zSs H O O O .h O fun S hE H=>zj O (zN (vz (zj O (zNt O (zj O ?_))))))))
 rcases t8 with _|_
 ·replace h8:=bF h8
  refine zJ O (zJ O (zJ O (vp O O O O (zN (zr O (zR (zj O (zj O (zN (zh (zv (⟨trivial,_,(zW O (zW O zU)),?_⟩))))))))))))
  have hsy:=box_n h8
  rw [hsy] at k
  exact k false _ H.qx ⟨nofun,fun ⟨x,hx⟩=>by cases hx⟩
 ·replace h8:=bT h8
  refine zi O (zy O (zi O (vh H O .h O (zi O (W_neI O O fun t16 h16=>vp O O O O (zN ?_))))))
  rcases t16 with _|_
  ·replace h16:=bF h16
   refine zn O (zt (ze (zR (vt O (zL1 H O .h O (zj O (zj O (zN (zh (⟨trivial,_,(zW O (zW O zU)),?_⟩))))))))))
   obtain ⟨x8,hx8⟩:=h8
   obtain rfl:=he8 _ hx8
   have hsy:=box_y hx8 (Classical.not_not.1 h16)
   rw [hsy] at k
   exact k true _ H.qx ⟨fun _=>⟨_,rfl⟩,fun _=>rfl⟩
  ·replace h16:=bT h16
   refine zr O (zR (zj O (zj O (zN (zh (zv (⟨trivial,_,(zW O (zW O zU)),?_⟩)))))))
   obtain ⟨x8,hx8⟩:=h8
   obtain rfl:=he8 _ hx8
   have hsy:=box_i hx8 h16
   rw [hsy] at k
   exact k false _ H.qx ⟨nofun,fun ⟨x,hx⟩=>by cases hx⟩
theorem ct184 (hG:Glob S0) (k:∀  S',Ext [] S0 S'→K (str e.line) S') :
  zC 184 #[e.v] S0 K:=by
 refine zGh (sf:=s184) Tryz.func184 fun H=>zR (zBx H O O fun b1 S hb1 hE H=>zj O (zN (vz (zLn (vs:=[_,_]) H O .h O (zCl O (ct89  fun t4 S hE h4=>?_))))))
 replace H:=H.call hE
 refine zNt O (zN ?_)
 rcases t4 with _|_
 ·replace h4:=bF h4
  refine zr O (zR (zj O (zN (zh (zv (zP O ?_))))))
  rw [show e.line=[] from if_neg h4] at k
  exact k _ H.qx
 ·replace h4:=bT h4
  refine zn O (zt (ze (zR (zLn (vs:=[_,_]) H O .h O (zCl O (ct221 (hG.mono H.qx) fun S hE hl7=>?_))))))
  replace H:=H.call hE
  refine za (W_catS O O (by simp;omega) (zj O (zN (zh (zP O ?_)))))
  rw [show e.line=PORT++e.text from by unfold End.line End.text;rw [if_pos (show e.ok from h4),if_pos (show e.ok from h4)]] at k
  exact k _ H.qx
end
section
open Go
section
variable {P:Program} {E:Env} {S:St} {D:List Nat} {Q:SEx→Env→St→List Nat→Prop}
def SEx.thnX (f:Env→St→List Nat→Prop) (Q:SEx→Env→St→List Nat→Prop):SEx→Env→St→List Nat→Prop
 | .normal=>f
 | e=>Q e
def SEx.blkX (id:Nat) (Q:SEx→Env→St→List Nat→Prop):SEx→Env→St→List Nat→Prop
 | .exit id'=>if id'=id then Q .normal else Q (.exit id')
 | e=>Q e
theorem wpX_mono:∀ (c:XCode) (E:Env) (S:St) (D:List Nat) (Q Q':SEx→Env→St→List Nat→Prop),(∀ e E S D,Q e E S D→Q' e E S D)→wpX P c E S D Q→wpX P c E S D Q':=by
 intro c
 induction c with
 | slim s=>exact fun E S D Q Q' hq h=>wpS_mono h fun e E S q=>hq e E S D q
 | seq a b iha ihb=>
  intro E S D Q Q' hq h
  refine iha E S D _ _ (fun e E S D q=>?_) h
  cases e with
  | normal=>obtain ⟨E1,hle,q⟩:=q;exact ⟨E1,hle,ihb _ _ _ _ _ hq q⟩
  | exit id=>exact hq _ _ _ _ q
  | ret=>exact hq _ _ _ _ q
 | block id a ih=>
  intro E S D Q Q' hq h
  refine ih E S D _ _ (fun e E S D q=>?_) h
  cases e with
  | normal=>exact hq _ _ _ _ q
  | exit id'=>simp only at q ⊢;split<;>rename_i hc<;>simp only [hc,if_true,if_false] at q<;>exact hq _ _ _ _ q
  | ret=>exact hq _ _ _ _ q
 | range x ps sa sb=>
  intro E S D Q Q' hq h
  obtain ⟨f,fn,fs,cs,h1,h2,h3,h4,h5⟩:=h
  refine ⟨f,fn,fs,cs,h1,h2,h3,h4,fun d l r hd hl hro=>(h5 d l r hd hl hro).mono fun v S' q=>?_⟩
  exact q.imp (fun q=>⟨q.1,hq _ _ _ _ q.2⟩) (fun q=>⟨q.1,hq _ _ _ _ q.2⟩)
theorem wpX_slim {s:SCode} (h:wpS P s E S fun e E S=>Q e E S D):wpX P (.slim s) E S D Q:=h
theorem wpX_seq {a b:XCode} (h:wpX P a E S D (SEx.thnX (fun E S D=>wpX P b E S D Q) Q)):wpX P (.seq a b) E S D Q:=by
 refine wpX_mono a E S D _ _ (fun e E S D q=>?_) h
 cases e with
 | normal=>exact ⟨E,.refl E,q⟩
 | exit id=>exact q
 | ret=>exact q
theorem wpX_block {id:Nat} {a:XCode} (h:wpX P a E S D (SEx.blkX id Q)):wpX P (.block id a) E S D Q:=by
 refine wpX_mono a E S D _ _ (fun e E S D q=>?_) h
 cases e with
 | normal=>exact q
 | exit id'=>
  simp only [SEx.blkX] at q
  by_cases hc:id'=id<;>simp only [hc,if_true,if_false] at q ⊢ <;> exact q
 | ret=>exact q
theorem thnX_norm {f:Env→St→List Nat→Prop} (h:f E S D):SEx.thnX f Q .normal E S D:=h
theorem thnX_ret {f:Env→St→List Nat→Prop} (h:Q .ret E S D):SEx.thnX f Q .ret E S D:=h
theorem blkX_norm {id:Nat} (h:Q .normal E S D):SEx.blkX id Q .normal E S D:=h
theorem blkX_ret {id:Nat} (h:Q .ret E S D):SEx.blkX id Q .ret E S D:=h
theorem wpX_range {x:Operand} {ps:List Nat} {sa sb:SCode} {f:FuncId} {fn:Func} {p:Value} (hx:E.ev x=some (.func (.func f) #[] #[p])) (hf:P.funcs[f]? = some fn) (hb:fn.body.isSome=true) (hn:(fn.name == "runtime.NumGoroutine")=false)
    (h:∀ (d l:Nat) (r:Loop),S d=none→(S.put d (.deferred (some []))) l=none→RoundOk P ps sa sb E l r →
      Calls1 P f #[.func (.yield l) #[] #[],p] ((S.put d (.deferred (some []))).put l (lp r .ready none)) fun _ S'=>
          (S' l=some ⟨lp r .ready none,true⟩∧Q .normal E (S'.put l (lp r .exhausted none)) (d::D))∨(S' l=some ⟨lp r .done (some .ret),true⟩∧Q .ret E (S'.put l (lp r .exhausted (some .ret))) (d::D))):wpX P (.range x ps sa sb) E S D Q:=
  ⟨f,fn,#[],#[p],hx,hf,hb,hn,h⟩
theorem Loc.takeL {X:List Nat} {S0 S:St} {L:List (Nat × Obj)} (H:Loc X S0 S L) (n:Nat):Loc X S0 S (L.take n):=H.sub (List.take_sublist n L)
theorem Loc.putE {X:List Nat} {S0 S:St} {L L':List (Nat × Obj)} (H:Loc X S0 S L) {b:Nat} {o o':Obj} (hu:Upd L b o o' L'):Ext [b] S (S.put b o')∧Loc X S0 (S.put b o') L':=⟨.put_old (H.own _ _ hu.mem) _,H.put hu⟩
end
theorem cell_of {S:St} {b off:Nat} {cs:List Value} {e:TypeId} {v:Value} (h:S b=some ⟨Cs cs e,true⟩) (hv:cs[off]? = some v):S.cell? ⟨b,off,none⟩=some v:=by simp [St.cell?,h,hv]
theorem bef_aft {l:Bs} {c:UInt8} (h:c∈l):l=bef l c++c::aft l c∧c∉bef l c:=by
 unfold bef aft
 have hi:=List.idxOf_lt_length_of_mem h
 have he:l[l.idxOf c]=c:=List.getElem_idxOf hi
 refine ⟨?_,?_⟩
 ·conv=>lhs;rw [← List.take_append_drop (l.idxOf c) l,List.drop_eq_getElem_cons hi,he]
 ·intro hm
  rw [List.mem_take_iff_getElem] at hm
  obtain ⟨i,hi',hc⟩:=hm
  have h3:=List.not_of_lt_findIdx (p:=(· == c)) (xs:=l) (i:=i) (by simp only [List.idxOf] at hi';omega)
  simp [hc] at h3
theorem spl_mid2 {s:UInt8} (a y:Bs):(spl s (a++s::y)).2=(spl s y).2:=by
 induction a with
 | nil=>simp [spl]
 | cons c a ih=>
  simp only [List.cons_append,spl]
  split
  ·exact ih
  ·rcases h:spl s (a++s::y) with ⟨ls,r⟩
   rw [h] at ih
   cases ls with
   | nil=>
    exfalso
    have h2:=spl_join s (a++s::y)
    have h3:=spl_clean s (a++s::y)
    rw [h] at h2 h3
    simp only [List.map_nil,List.flatten_nil,List.nil_append] at h2
    apply h3.2
    show s∈r
    rw [← h2];simp
   | cons l ls=>exact ih
theorem spl_rest {s:UInt8} {l:Bs} {r:Int} (h:LastI l s r):-1≤r∧r<l.length∧l.drop (r+1).toNat=(spl s l).2:=by
 rcases h with ⟨rfl,h⟩ | ⟨n,rfl,h,h2⟩
 ·rw [spl_nomem h];exact ⟨by omega,by omega,rfl⟩
 ·obtain ⟨hn,he⟩:=List.getElem?_eq_some_iff.1 h
  refine ⟨by omega,by omega,?_⟩
  rw [show ((n:Int)+1).toNat=n+1 by omega]
  have e:l=l.take n++s::l.drop (n+1):=by
   conv=>lhs;rw [← List.take_append_drop n l,List.drop_eq_getElem_cons hn,he]
  conv=>rhs;rw [e,spl_mid2,spl_nomem h2]
theorem lines_next {l r x r':Bs} {ls:List Bs} (hs:zD l=(ls++(zD r).1,(zD r).2)) (hr:r=x++59::r') (hx:59∉x):zD l=((ls++[x])++(zD r').1,(zD r').2):=by
 rw [hs,hr]
 simp only [zD]
 rw [spl_cons hx]
 simp
theorem lines_end {l r:Bs} {ls:List Bs} (hs:zD l=(ls++(zD r).1,(zD r).2)) (hr:59∉r):zD l=(ls,r):=by
 rw [hs]
 simp only [zD]
 rw [spl_nomem hr];simp
theorem ct179 {l b:Nat} {J:Bs→St→Prop} {s:Bs} {S0:St} {K:Value→St→Prop}
    (hb:∀ r S,J r S→S b=some ⟨Cs [str r] 9,true⟩) (hlen:∀ r S,J r S→r.length≤1099511627776) (hm:∀ r S S',J r S→Ext [] S S'→J r S')
    (hy:∀ r x r' S,J r S→r=x++59::r'→59∉x→Yields Tryz.prog l [str x] S fun v S'=>(v=.bool true∧S' b=some ⟨Cs [str r] 9,true⟩∧∀ S'',Ext [b] S' S''→S'' b=some ⟨Cs [str r'] 9,true⟩→J r' S'')∨(v=.bool false∧K (resVal []) S'))
    (hz:∀ r S,J r S→59∉r→K (resVal []) S) (h0:J s S0):Calls1 Tryz.prog 179 #[.func (.yield l) #[] #[],ptr b 0] S0 K:=by
  refine calls1_slim (sf:=s179) Tryz.func179 k179 (of_decide_eq_true rfl) ?_
  show wpS Tryz.prog c179 (Env.of [.func (.yield l) #[] #[],ptr b 0]) S0 _
  refine zE ?_
  refine vg (fun E S m_=>∃ r,E=Env.lst [(0,.func (.yield l) #[] #[]),(1,ptr b 0)]∧J r S∧m_=r.length) ?_ ?_
  · refine ⟨_,_,?le,s,rfl,h0,rfl⟩
    case le=>exact Env.qle ⟨rfl,rfl,trivial⟩
  rintro _ S _ ⟨r,rfl,hJ,rfl⟩
  refine zE ?_
  refine zB ?_
  refine zL ?_
  refine za (zF rfl (cell_of (hb _ _ hJ) rfl) ?_)
  refine za (zT rfl (ct180 (hlen _ _ hJ) fun t8 S hE h8=>?_))
  replace hJ:=hm _ _ _ hJ hE
  refine za (vB rfl ?_)
  refine za (vj rfl rfl ?_)
  refine za (vj rfl rfl ?_)
  refine za (vj rfl rfl ?_)
  refine za (vB rfl ?_)
  refine za (vB rfl ?_)
  refine za (vB rfl ?_)
  refine ve ?_
  refine ze ?_
  refine zB ?_
  refine zB ?_
  refine zL ?_
  refine za (vB rfl ?_)
  refine za (W_not rfl ?_)
  refine za (vB rfl ?_)
  rcases t8 with _|_
  · replace h8:=bF h8
    refine wpI_no rfl (by decide) ?_
    refine wpI_no rfl (by decide) ?_
    refine wpI_no rfl (by decide) ?_
    refine wpI_no rfl (by decide) ?_
    refine za (W_pick rfl rfl rfl rfl ?_)
    refine ve ?_
    refine ze ?_
    refine zr rfl ?_
    refine zh (zv (vd (zv (vd ?_))))
    exact ⟨trivial,_,zU,hz _ _ hJ h8⟩
  · replace h8:=bT h8
    obtain ⟨e8,n8⟩:=bef_aft h8
    refine zi rfl (vB rfl ?_)
    refine zi rfl (vB rfl ?_)
    refine zi rfl (W_yield rfl rfl ((hy _ _ _ _ hJ e8 n8).mono fun v S' q=>?_))
    rcases q with ⟨rfl,hb',hJ'⟩ | ⟨rfl,hK⟩
    · refine zi rfl (W_not rfl ?_)
      refine za (W_pick rfl rfl rfl rfl ?_)
      refine ve ?_
      refine ze ?_
      refine zn rfl ?_
      refine zt ?_
      refine ze ?_
      refine zL ?_
      have H:=Loc.start1 hb'
      refine za (vB rfl ?_)
      refine za (W_store H rfl rfl rfl rfl rfl (by decide) .head (of_decide_eq_true rfl) rfl fun S hE H=>?_)
      refine ve ?_
      refine vc ?_
      refine ze ?_
      refine ⟨_,_,?lt,?le,aft r 59,rfl,hJ' _ hE (H.get .head),rfl⟩
      case le=>exact Env.qle ⟨rfl,rfl,trivial⟩
      case lt=>
        have:=congrArg List.length e8
        simp at this;omega
    · refine zi rfl (W_not rfl ?_)
      refine za (W_pick rfl rfl rfl rfl ?_)
      refine ve ?_
      refine ze ?_
      refine zr rfl ?_
      refine zh (zv (vd (zv (vd ?_))))
      exact ⟨trivial,_,zU,hK⟩
end
section
variable {S0:St} {K:Value→St→Prop}
variable {l:Bs}
theorem ct96  (k:∀ b S',Ext [] S0 S'→(S0 b=none)→(S' b=some ⟨Cs [str l] 9,true⟩)→K (.func (.func 179) #[] #[ptr b 0]) S') :
  zC 96 #[str l] S0 K:=by
 refine zGh (sf:=s96) Tryz.func96 fun H=>zR (zBx H O O fun b1 S hb1 hE H=>zj O (vA (za (W_mkFunc O O (zj O (zN (zh (zP O ?_))))))))
 exact k _ _ H.qx (H.new1 .h) (H.get .h)
theorem ct35 (hl:l.length≤1099511627776) (k:∀ b cap S',Ext [] S0 S'→(S0 b=none)→(OwnB S' b 9 1 cap (strRows (zD l).1))→K (.tuple #[sl b 0 (zD l).1.length cap,str (zD l).2]) S') :
  zC 35 #[str l] S0 K:=by
 refine calls1_x (sf:=s35) Tryz.func35 (by kernel_rfl) (of_decide_eq_true O) ?_
 show wpX Tryz.prog c35 (Env.of [str l]) S0 [] _
 have H:=Loc.start [] S0
 refine wpX_seq (wpX_slim (zL (zj O (zj O (ve (thnX_norm (wpX_seq (wpX_slim (zL (zj O (zCl O (ct95  fun S hE =>?_))))))))))))
 replace H:=H.call hE
 have hcn:l.count 59≤l.length:=List.count_le_length
 refine za (W_mkSlice H O O (Nat.zero_le _) (by omega) (by omega) fun b8 cs8 S hb8 H hE hcl8=>zAl H O fun b4 S hb4 hE H=>zSs H O O O .h O fun S hE H=>ve (thnX_norm (wpX_seq (wpX_seq (wpX_slim (zL (zj O (zCl O (ct96  fun b10 S hE hb10 ho10=>?_)))))))))
 replace H:=H.adopt hE hb10 ho10
 refine ve (thnX_norm (wpX_block (wpX_range O Tryz.func179 O O fun d10 l10 lr10 hd10 hl10 hro10=>?_)))
 replace H:=(H.alloc hd10 (.deferred (some []))).alloc hl10 (lp lr10 .ready none)
 refine ct179 (l:=l10) (b:=b10) (s:=l) (J:=fun r_ S=>(∃ (ls:List Bs) (b8:Nat) (cap8:Nat) (cs8:List Value),Loc [] S0 S [(b4,Cs [sl b8 0 ls.length cap8] 59),(b8,Cs cs8 9),(l10,lp lr10 .ready none),(d10,.deferred (some [])),(b10,Cs [str r_] 9)]∧(zD l=(ls++(zD r_).1,(zD r_).2))∧(r_.length+ls.length≤l.length)∧(ls.length≤cap8)∧(cs8.length=cap8*1)∧(cs8.take (ls.length*1)=ls.map str))) ?_ ?_ ?_ ?_ ?_ ?_
 ·rintro r_ S ⟨ls,b8,cap8,cs8,H,hs,hrl,hn,hcl,hct⟩
  exact H.get .h4
 ·rintro r_ S ⟨ls,b8,cap8,cs8,H,hs,hrl,hn,hcl,hct⟩
  omega
 ·rintro r_ S S2 ⟨ls,b8,cap8,cs8,H,hs,hrl,hn,hcl,hct⟩ hE
  exact ⟨ls,b8,cap8,cs8,H.call hE,hs,hrl,hn,hcl,hct⟩
 ·rintro r_ x_ r2_ S ⟨ls,b8,cap8,cs8,H,hs,hrl,hn,hcl,hct⟩ hrx hx59
  refine hro10.h [str x_] S _ O ?_ (H.get .h2)
  refine zL (zj O (ve (⟨O,H.get .h2,?_⟩)))
  obtain ⟨hE,H⟩:=H.putE (b:=l10) (o':=lp lr10 .busy none) .h2
  refine zE (zL (zL1 H O .h O (zj O (za (z_ (cs:=[_]) H O O fun b14 S hb14 hE H=>za (W_append H O O .h2 hcl hn (Src.own H .h O) (by simp [oneCell]) O (by decide) (by omega) O fun b15 cap15 cs15 S hb15 H hE hn15 hcl15 hct15=>zSs H O O O .h2 O fun S hE H=>ve (vc (⟨H.get .h3,?_⟩))))))))
  obtain ⟨hE,H⟩:=H.putE (b:=l10) (o':=lp lr10 .ready none) .h3
  refine .inl ⟨O,H.get .h5,fun S hE ho=>?_⟩
  replace H:=H.callX hE .h5 ho
  have hln:=congrArg List.length hrx
  simp only [List.length_append,List.length_cons] at hln
  rw [show ls.length+1=(ls++[x_]).length by simp] at H
  replace H:=H.front .h5
  replace H:=H.front .h5
  replace H:=H.front .h5
  replace H:=H.front .h3
  replace H:=H.front .h5
  refine ⟨(ls++[x_]),b15,cap15,cs15,(H.takeL 5),(lines_next hs hrx hx59),(by simp only [List.length_append,List.length_cons,List.length_nil];omega),(by simpa using hn15),hcl15,(by rw [List.length_append,List.map_append,← hct];exact hct15)⟩
 ·rintro r_ S ⟨ls,b8,cap8,cs8,H,hs,hrl,hn,hcl,hct⟩ hz59
  refine .inl ⟨H.get .h2,?_⟩
  obtain ⟨hE,H⟩:=H.putE (b:=l10) (o':=lp lr10 .exhausted none) .h2
  refine blkX_norm (thnX_norm (wpX_slim (zB ?_)))
  have hse:=lines_end hs hz59
  refine z9 [] (vk 0 O O (fun S' hS'=>zG fun K hK=>zF O (zH (hS' O) (by simp) (H.cell .h O)) hK) (vJ 1 O O O (vJ 2 O O O (zA 3 (by kernel_rfl) O O (zu (zT O (ct97 (by omega) fun r19 S hE h19=>?_)))))))
  replace H:=H.call hE
  have hsr:=spl_rest h19
  refine ⟨fun _=>hE.up.ext,vO 4 O O (fun _ _ hK=>W_add O O (by omega) (by omega) hK) (vO 5 O O (fun _ _ hK=>W_slSlo O O (by omega) (by omega) hK) (vJ 6 O O O (vJ 7 O O O (zY (ze (zh (⟨trivial,H.get .h3,?_⟩)))))))⟩
  obtain ⟨hE,H⟩:=H.putE (b:=d10) (o':=.deferred none) .h3
  refine ⟨_,(zW O (zW O zU)),?_⟩
  rw [hsr.2.2]
  have e1:(zD l).1=ls:=by rw [hse]
  rw [e1] at k
  exact k _ _ _ H.qx (H.new1 .h1) ⟨_,H.get .h1,by simpa using hn,hcl,by rw [strRows_flat];simpa using hct,strRows_one⟩
 ·skip
  replace H:=H.front .h2
  replace H:=H.front .h2
  replace H:=H.front .h2
  replace H:=H.front .h4
  replace H:=H.front .h4
  exact ⟨[],b8,(l.count 59),cs8,H,(by simp),(by simp),(by simp),hcl8,(by simp)⟩
theorem ct147 (hl:l.length≤2097152) (k:∀ (t:Bool) S',Ext [] S0 S'→(t=true↔StrP l)→K (.bool t) S') :
  zC 147 #[str l] S0 K:=by
 refine zGh (sf:=s147) Tryz.func147 fun H=>zR (zj O (vA (zj O (zCl O (ct35 (by omega) fun b9 cap9 S hE hb9 hO9=>?_)))))
 obtain ⟨cs9,ho9,hn9,hcl9,hct9,_⟩:=hO9
 replace H:=H.adopt hE hb9 ho9
 have hnl:(zD l).1.length≤l.length:=strLines_len l
 have hrl:(zD l).2.length≤l.length:=spl_rest_len 59 l
 have hal:=lines_le l
 refine zj O (zEx O O (zEx O O (zj O (zj O (zN (vz (zj O (zj O (za (z_ (cs:=[_]) H O O fun b14 S hb14 hE H=>za (W_append H O O .h1 hcl9 (by simpa using hn9) (Src.own H .h O) (by simp [oneCell]) O (by decide) (by omega) O fun b15 cap15 cs15 S hb15 H hE hn15 hcl15 hct15=>?_)))))))))))
 obtain ⟨xs,hxs⟩:∃ xs,xs=((zD l).1++[(zD l).2]):=⟨_,rfl⟩
 have hxn:xs.length=(zD l).1.length+1:=by rw [hxs];simp
 have hxc:cs15.take ((strRows xs).length*1)=(strRows xs).flatten:=by
  rw [show (strRows xs).length=xs.length by simp,hxn,hct15,hxs,strRows_flat,List.map_append,← strRows_flat]
  rw [show (zD l).1.length*1=(strRows (zD l).1).length*1 by simp,hct9];rfl
 have hxl:∀ x∈xs,x.length≤l.length:=by
  rw [hxs];intro x hx
  rcases List.mem_append.1 hx with hx | hx
  ·exact hal x hx
  ·obtain rfl:=List.mem_singleton.1 hx;exact hrl
 rw [← hxn]
 refine zLl O (zj O (zN (zE ?_)))
 refine vg (fun E S m_=>∃ (i:Nat),E=Env.lst [(0,str l),(15,sl b15 0 xs.length cap15),(16,int xs.length),(17,int i)]∧Loc [] S0 S [(b15,Cs cs15 9)]∧(i≤xs.length)∧(∀ x∈xs.take i,LinP x)∧m_=xs.length-i) ?_ ?_
 ·skip
  refine ⟨_,_,?le,0,O,(H.sub (.cons_cons _ (.cons _ .slnil))),(by omega),(by simp),O⟩
  case le=>exact Env.qle ⟨O,O,O,O,⟨⟩⟩
 ·skip
  rintro _ S _ ⟨i,rfl,H,hi,hp,rfl⟩
  refine zR (za (vq O O fun t18 h18=>zN (zB ?_)))
  rcases t18 with _|_
  ·replace h18:=bF h18
   refine zn O (vf (zM (zM (vn (ze (zR (zj O (za (vG O (za (W_leq O O fun t27 h27=>zj O (zN (zh (zP O ?_))))))))))))))
   rw [show i=xs.length by omega,List.take_length,hxs] at hp
   exact k _ _ H.qx (h27.trans ⟨fun h=>⟨fun x hx=>hp x (by simp [hx]),hp _ (by simp),by omega⟩,fun h=>by have:=h.2.2;omega⟩)
  ·replace h18:=bT h18
   obtain ⟨x,hx⟩:∃ x,xs[i]? = some x:=⟨xs[i]'(by omega),by simp⟩
   have hx15:=str_at hxc hx
   refine zr O (zt (ze (zB (zE (zR (zIa O O (zL1 H O .h hx15 (zj O (vA (zj O (zCl O (ct60 (by have:=hxl x (List.mem_of_getElem? hx);omega) fun t22 S hE h22=>?_))))))))))))
   replace H:=H.call hE
   refine zNt O (zN ?_)
   rcases t22 with _|_
   ·replace h22:=bF h22
    refine zr O (zR (zj O (zN (zh (vd (zv (zv (vd (zv (zP O ?_))))))))))
    exact k _ _ H.qx ⟨nofun,fun h=>absurd (by
     have hm:=List.mem_of_getElem? hx
     rw [hxs] at hm
     rcases List.mem_append.1 hm with hm | hm
     ·exact h.1 x hm
     ·obtain rfl:=List.mem_singleton.1 hm;exact h.2.1) h22⟩
   ·replace h22:=bT h22
    refine zn O (zt (vc (ze (zL (zAd O O (zj O (zN ?_)))))))
    refine ⟨_,_,?lt,?le,(i+1),O,H,(by omega),(mem_take_succ hx hp h22),O⟩
    case lt=>omega
    case le=>exact Env.qle ⟨O,O,O,O,⟨⟩⟩
end
section
open Go
structure CallV (P:Program) (v:Value) (vs:List Value) (S:St) (K:Value→St→Prop):Prop where
 h:∃ (f:FuncId) (fn:Func) (fs cs:Array Value),v=.func (.func f) fs cs∧P.funcs[f]? = some fn∧fn.body.isSome=true∧(fn.name == "runtime.NumGoroutine")=false∧Calls1 P f (fs++vs.toArray++cs) S K
theorem W_callV {P:Program} {E:Env} {S:St} {K:Value→St→Prop} {x:Operand} {args:List Operand} {v:Value} {vs:List Value} (hx:E.ev x=some v) (hv:E.evs args=some vs) (h:CallV P v vs S K):(SOp.callv x args).W P E S K:=by
 obtain ⟨f,fn,fs,cs,rfl,h1,h2,h3,h4⟩:=h.h
 exact W_callv hx hv h1 h2 h3 h4
inductive FnM (S:St):List Nat→List Rule→Value→Prop
 | nil:FnM S [] [] (.func (.func 170) #[] #[])
 | cons {bs:List Nat} {rs:List Rule} {v:Value} {b2 b3:Nat} (r:Rule) (h2:S b2=some ⟨Cs r.row 162,true⟩) (h3:S b3=some ⟨Cs [v] 179,true⟩) (h:FnM S bs rs v):FnM S (b2::b3::bs) (r::rs) (.func (.func 215) #[] #[ptr b2 0,ptr b3 0])
theorem FnM.mono {S S':St} {bs:List Nat} {rs:List Rule} {v:Value} (h:FnM S bs rs v) (hE:Ext [] S S'):FnM S' bs rs v:=by
 induction h with
 | nil=>exact .nil
 | cons r h2 h3 _ ih=>exact .cons r (hE.get h2) (hE.get h3) ih
theorem FnM.ne {S:St} {bs:List Nat} {rs:List Rule} {v:Value} (h:FnM S bs rs v) {n:Nat} (hn:S n=none):n∉bs:=by
 induction h with
 | nil=>simp
 | cons r h2 h3 _ ih=>
  simp only [List.mem_cons,not_or]
  exact ⟨(by rintro rfl;rw [hn] at h2;cases h2),(by rintro rfl;rw [hn] at h3;cases h3),ih⟩
theorem FnM.qy {S S':St} {bs:List Nat} {rs:List Rule} {v:Value} {n:Nat} (h:FnM S bs rs v) (hE:Ext [n] S S') (hn:n∉bs):FnM S' bs rs v:=by
 induction h with
 | nil=>exact .nil
 | cons r h2 h3 _ ih=>
  simp only [List.mem_cons,not_or] at hn
  exact .cons r (hE.ext _ _ (by simpa using Ne.symm hn.1) h2) (hE.ext _ _ (by simpa using Ne.symm hn.2.1) h3) (ih hn.2.2)
theorem FnM.nin {S:St} {bs:List Nat} {n b2 b3:Nat} {e:Ent} (h:n∉bs) (h2:S b2=none) (h3:S b3=none) (hn:S n=some e):n∉b2::b3::bs:=by
 simp only [List.mem_cons,not_or]
 exact ⟨(by rintro rfl;rw [hn] at h2;cases h2),(by rintro rfl;rw [hn] at h3;cases h3),h⟩
theorem ct214 {l b:Nat} {J:Nat→St→Prop} {a:Option Addr} {cap:Nat} {rs:List Rule} {S0:St} {K:Value→St→Prop} (hl:rs.length≤1099511627776)
    (hb:∀ k S,J k S→S b=some ⟨Cs [.slice a rs.length cap] 23,true⟩) (hs:∀ k S,J k S→Sl S 7 a (z5 rs))
    (hy:∀ k x S,J (k+1) S→rs[k]? = some x→Yields Tryz.prog l [int k,x.v] S fun v S'=>(v=.bool true∧J k S')∨(v=.bool false∧K (resVal []) S'))
    (hz:∀ S,J 0 S→K (resVal []) S) (h0:J rs.length S0):Calls1 Tryz.prog 214 #[.func (.yield l) #[] #[],ptr b 0] S0 K:=by
  refine calls1_slim (sf:=s214) Tryz.func214 k214 (of_decide_eq_true rfl) ?_
  show wpS Tryz.prog c214 (Env.of [.func (.yield l) #[] #[],ptr b 0]) S0 _
  refine zB ?_
  refine zL ?_
  refine za (zF rfl (cell_of (hb _ _ h0) rfl) ?_)
  refine za (W_lenL rfl ?_)
  refine za (W_sub rfl rfl (by omega) (by omega) ?_)
  refine za (vB rfl ?_)
  refine ve ?_
  refine ze ?_
  refine zE ?_
  refine vg (fun E S m_=>∃ k:Nat,E=Env.lst [(0,.func (.yield l) #[] #[]),(1,ptr b 0),(3,int ((k:Int)-1))]∧J k S∧k≤rs.length∧m_=k) ?_ ?_
  · refine ⟨_,_,?le,rs.length,rfl,h0,Nat.le_refl _,rfl⟩
    case le=>exact Env.qle ⟨rfl,rfl,rfl,trivial⟩
  rintro _ S mm ⟨k,rfl,hJ,hk,hmm⟩
  refine zB ?_
  refine zB ?_
  refine zL ?_
  refine za (vB rfl ?_)
  refine za (W_geq rfl rfl fun t8 h8=>?_)
  refine ve ?_
  refine ze ?_
  rcases t8 with _|_
  · replace h8:=bF h8
    refine zn rfl ?_
    refine vf ?_
    refine zM ?_
    refine zM ?_
    refine vn ?_
    obtain rfl:k=0:=by omega
    exact ⟨trivial,_,zU,hz _ hJ⟩
  · replace h8:=bT h8
    obtain ⟨k,rfl⟩:∃ j,k=j+1:=⟨k-1,by omega⟩
    obtain ⟨x,hx⟩:∃ x,rs[k]? = some x:=⟨rs[k]'(by omega),by simp⟩
    obtain ⟨b1,off,rfl,hc⟩:=(hs _ _ hJ).row k _ (ruleRows_at hx)
    refine zr rfl ?_
    refine zt ?_
    refine ze ?_
    refine zB ?_
    refine zE ?_
    refine zB ?_
    refine zL ?_
    refine za (vB rfl ?_)
    refine za (vB rfl ?_)
    refine za (zF rfl (cell_of (hb _ _ hJ) rfl) ?_)
    refine za (vB rfl ?_)
    refine za (vl rfl rfl (by omega) (by omega) ?_)
    rw [show (((k+1:Nat):Int)-1).toNat=k by omega]
    refine za (zV rfl hc ?_)
    have hy1:=hy _ _ _ hJ hx
    rw [show ((k:Nat):Int)=((k+1:Nat):Int)-1 by omega] at hy1
    refine za (W_yield rfl rfl (hy1.mono fun v S' q=>?_))
    rcases q with ⟨rfl,hJ'⟩ | ⟨rfl,hK⟩
    · refine za (W_not rfl ?_)
      refine ve ?_
      refine ze ?_
      refine zn rfl ?_
      refine zt ?_
      refine vc ?_
      refine ze ?_
      refine zL ?_
      refine za (vB rfl ?_)
      refine za (W_sub rfl rfl (by omega) (by omega) ?_)
      refine za (vB rfl ?_)
      refine ve ?_
      refine ze ?_
      rw [show ((k+1:Nat):Int)-1-1=(k:Int)-1 by omega]
      refine ⟨_,k,?lt,?le,k,rfl,hJ',by omega,rfl⟩
      case le=>exact Env.qle ⟨rfl,rfl,rfl,trivial⟩
      case lt=>omega
    · refine za (W_not rfl ?_)
      refine ve ?_
      refine ze ?_
      refine zr rfl ?_
      refine zh (vd (zv (zv (vd ?_))))
      exact ⟨trivial,_,zU,hK⟩
end
end Go.Proofs.YtnccejlibbgpkaaGreatDoor
