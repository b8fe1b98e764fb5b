/-
  The law FnExactBoxOut answers true at every input that its row allows, at every start that lays its variables: part 4 of 7.
-/
import GoSem.Step
import Derived.Conc.Token
import Derived.AtR
import Derived.Conc.Own2
import Derived.Conc.CrowdComm
import Derived.Conc.CrowdTrace
import Derived.Conc.Fork
import Derived.Conc.CrowdStepC
import Derived.Below
import Derived.Laws.Append
import Derived.Test.YtnccejlibbgpkaaGreatDoorChecked
import Derived.Test.YtnccejlibbgpkaaGreatDoorProg
import Derived.MapKept
import Derived.Conc.EventLaws
import Derived.Test.YtnccejlibbgpkaaGreatDoorWBc
set_option linter.unusedSimpArgs false
set_option linter.unusedVariables false
set_option linter.unusedSectionVars false
namespace Go.Proofs.YtnccejlibbgpkaaGreatDoor
set_option maxHeartbeats 1000000
section
variable {S0:St} {K:Value→St→Prop}
variable {e f:End} {a:Option Addr} {r:Rule} {v:Value}
theorem ct170  (k:∀  S',Ext [] S0 S'→K (.bool true) S') :
  zC 170 #[e.v,f.v] S0 K:=by
 refine zGh (sf:=s170) Tryz.func170 fun H=>zR (zBx H O O fun b2 S hb2 hE H=>zBx H O O fun b3 S hb3 hE H=>zj O (vA (zj O (zN (zh (zP O ?_))))))
 exact k _ H.qx
theorem ct215 {b2 b3:Nat} {m:Bool} (h2:S0 b2=some ⟨Cs r.row 162,true⟩) (h3:S0 b3=some ⟨Cs [v] 179,true⟩) (hin:∀ S,Ext [] S0 S→∀ K:Value→St→Prop,(∀ (t:Bool) S',Ext [] S S'→t=m→K (.bool t) S')→CallV Tryz.prog v [e.v,f.v] S K) (k:∀ (t:Bool) S',Ext [] S0 S'→(t=if FitsP r e f then r.al else m)→K (.bool t) S') :
  zC 215 #[e.v,f.v,ptr b2 0,ptr b3 0] S0 K:=by
 refine zGh (sf:=s215) Tryz.func215 fun H=>zR (zBx H O O fun b4 S hb4 hE H=>zBx H O O fun b5 S hb5 hE H=>zj O (zN (vz (vt O (zL1 H O .h1 O (vt O (za (zF O (cell_of (H.qx.get h2) O) (vt O (za (zF O (cell_of (H.qx.get h2) O) (zCl O (ct70  fun t13 S hE h13=>?_)))))))))))))
 replace H:=H.call hE
 refine zj O ?_
 rcases t13 with _|_
 ·replace h13:=bF h13
  refine zJ O (zJ O (zJ O (zJ O (zJ O (zJ O (zJ O (vp O O O O (zj O (zJ O (zJ O (zJ O (zJ O (zJ O (zJ O (zJ O (vp O O O O (zN (zn O (zt (ze (zR (za (zF O (cell_of (H.qx.get h3) O) (zLn (vs:=[_,_]) H O .h1 O (zLn (vs:=[_,_]) H O .h O (za (W_callV O O (hin _ H.qx _ fun t37 S hE h37=>?_))))))))))))))))))))))))))))
  replace H:=H.call hE
  refine zj O (zN (zh (zP O ?_)))
  exact k _ _ H.qx (by rw [if_neg (by unfold FitsP;intro h;first | exact h13 h.1 | exact h21 h.2.1 | exact h30 h.2.2)];exact h37)
 ·replace h13:=bT h13
  refine zi O (zy O (zi O (vh H O .h O (zi O (zy O (zi O (zF O (cell_of (H.qx.get h2) O) (zi O (zy O (zi O (zF O (cell_of (H.qx.get h2) O) (zi O (zT O (ct70  fun t21 S hE h21=>?_))))))))))))))
  replace H:=H.call hE
  refine vp O O O O (zj O ?_)
  rcases t21 with _|_
  ·replace h21:=bF h21
   refine zJ O (zJ O (zJ O (zJ O (zJ O (zJ O (zJ O (vp O O O O (zN (zn O (zt (ze (zR (za (zF O (cell_of (H.qx.get h3) O) (zLn (vs:=[_,_]) H O .h1 O (zLn (vs:=[_,_]) H O .h O (za (W_callV O O (hin _ H.qx _ fun t37 S hE h37=>?_)))))))))))))))))))
   replace H:=H.call hE
   refine zj O (zN (zh (zP O ?_)))
   exact k _ _ H.qx (by rw [if_neg (by unfold FitsP;intro h;first | exact h13 h.1 | exact h21 h.2.1 | exact h30 h.2.2)];exact h37)
  ·replace h21:=bT h21
   refine zi O (zy O (zi O (vh H O .h O (zi O (zy O (zi O (zF O (cell_of (H.qx.get h2) O) (zi O (zy O (zi O (zF O (cell_of (H.qx.get h2) O) (zi O (zT O (ct70  fun t30 S hE h30=>?_))))))))))))))
   replace H:=H.call hE
   refine vp O O O O (zN ?_)
   rcases t30 with _|_
   ·replace h30:=bF h30
    refine zn O (zt (ze (zR (za (zF O (cell_of (H.qx.get h3) O) (zLn (vs:=[_,_]) H O .h1 O (zLn (vs:=[_,_]) H O .h O (za (W_callV O O (hin _ H.qx _ fun t37 S hE h37=>?_))))))))))
    replace H:=H.call hE
    refine zj O (zN (zh (zP O ?_)))
    exact k _ _ H.qx (by rw [if_neg (by unfold FitsP;intro h;first | exact h13 h.1 | exact h21 h.2.1 | exact h30 h.2.2)];exact h37)
   ·replace h30:=bT h30
    refine zr O (zR (vt O (za (zF O (cell_of (H.qx.get h2) O) (zj O (zN (zh (zv (zP O ?_)))))))))
    exact k _ _ H.qx (by rw [if_pos (show FitsP r e f from ⟨h13,h21,h30⟩)])
theorem FnM.call:∀ (rs:List Rule) (bs:List Nat) (v:Value) (S:St),FnM S bs rs v→∀ K:Value→St→Prop,(∀ (t:Bool) S',Ext [] S S'→t=mayR rs e f→K (.bool t) S')→CallV Tryz.prog v [e.v,f.v] S K:=by
 intro rs
 induction rs with
 | nil=>
  intro bs v S h K k
  cases h
  exact ⟨_,_,_,_,rfl,Tryz.func170,rfl,rfl,ct170 fun S' hE=>k true S' hE rfl⟩
 | cons r rs ih=>
  intro bs v S h K k
  cases h with
  | cons _ h2 h3 h=>
   exact ⟨_,_,_,_,rfl,Tryz.func215,rfl,rfl,ct215 h2 h3 (fun S1 hE K k=>ih _ _ _ (h.mono hE) K k) fun t S' hE ht=>k t S' hE ht⟩
theorem ct171 {n c:Nat}  (k:∀ b S',Ext [] S0 S'→(S0 b=none)→(S' b=some ⟨Cs [.slice a n c] 23,true⟩)→K (.func (.func 214) #[] #[ptr b 0]) S') :
  zC 171 #[.slice a n c] S0 K:=by
 refine zGh (sf:=s171) Tryz.func171 fun H=>zR (zBx H O O fun b1 S hb1 hE H=>zj O (vA (za (W_mkFunc O O (zj O (zN (zh (zP O ?_))))))))
 exact k _ _ H.qx (H.new1 .h) (H.get .h)
theorem ct172 (hv:v.cells=#[v]) (k:∀ b2 b3 S',Ext [] S0 S'→(S0 b2=none)→(S0 b3=none)→(S' b2=some ⟨Cs r.row 162,true⟩)→(S' b3=some ⟨Cs [v] 179,true⟩)→K (.func (.func 215) #[] #[ptr b2 0,ptr b3 0]) S') :
  zC 172 #[r.v,v] S0 K:=by
 refine zGh (sf:=s172) Tryz.func172 fun H=>zR (zBx H O O fun b2 S hb2 hE H=>zBx (vs:=[v]) H O hv fun b3 S hb3 hE H=>zj O (vA (za (W_mkFunc O O (zj O (zN (zh (zP O ?_))))))))
 exact k _ _ _ H.qx (H.new1 .h1) (H.new1 .h) (H.get .h1) (H.get .h)
theorem ct87 {cap:Nat} {rs:List Rule} (hs:Sl S0 7 a (z5 rs)) (hl:rs.length≤1099511627776) (k:∀ (t:Bool) S',Ext [] S0 S'→(t=true↔e.inn∧f.out∧mayR rs e f=true)→K (.bool t) S') :
  zC 87 #[.slice a rs.length cap,e.v,f.v] S0 K:=by
 refine calls1_x (sf:=s87) Tryz.func87 (by kernel_rfl) (of_decide_eq_true O) ?_
 show wpX Tryz.prog c87 (Env.of [.slice a rs.length cap,e.v,f.v]) S0 [] _
 have H:=Loc.start [] S0
 have hq:=hs
 refine wpX_seq (wpX_slim (zL (zBx H O O fun b4 S hb4 hE H=>?_)))
 have hq_b4:=hq.ne hb4
 replace hq:=hq.mono hE
 refine zBx H O O fun b5 S hb5 hE H=>?_
 have hq_b5:=hq.ne hb5
 replace hq:=hq.mono hE
 refine zj O (ve (thnX_norm (wpX_seq (wpX_slim (zL (zAl H O fun b7 S hb7 hE H=>?_))))))
 have hq_b7:=hq.ne hb7
 replace hq:=hq.mono hE
 refine zSs H O O O .h O fun S hE H=>?_
 replace hq:=hq.qy hE hq_b7
 refine ve (thnX_norm (wpX_seq (wpX_seq (wpX_slim (zL (zj O (zCl O (ct171  fun b11 S hE hb11 ho11=>?_))))))))
 have hq_b11:=hq.ne hb11
 replace H:=H.adopt hE hb11 ho11
 replace hq:=hq.mono hE
 refine ve (thnX_norm (wpX_block (wpX_range O Tryz.func214 O O fun d11 l11 lr11 hd11 hl11 hro11=>?_)))
 have hq_d11:=hq.ne hd11
 replace hq:=hq.mono (Ext.put_new hd11 (.deferred (some [])))
 have hq_l11:=hq.ne hl11
 replace hq:=hq.mono (Ext.put_new hl11 (lp lr11 .ready none))
 replace H:=(H.alloc hd11 (.deferred (some []))).alloc hl11 (lp lr11 .ready none)
 refine ct214 (l:=l11) (b:=b11) (a:=a) (cap:=cap) (rs:=rs) hl (J:=fun k_ S=>(∃ (v:Value) (bs:List Nat),Loc [] S0 S [(b7,Cs [v] 179),(b5,Cs f.row 31),(b4,Cs e.row 31),(l11,lp lr11 .ready none),(d11,.deferred (some [])),(b11,Cs [.slice a rs.length cap] 23)]∧(Sl S 7 a (z5 rs))∧(FnM S bs (rs.drop k_) v)∧(v.cells=#[v])∧(k_≤rs.length)∧(∀ b off,a=some ⟨b,off,none⟩→b≠b7)∧(∀ b off,a=some ⟨b,off,none⟩→b≠b5)∧(∀ b off,a=some ⟨b,off,none⟩→b≠b4)∧(∀ b off,a=some ⟨b,off,none⟩→b≠l11)∧(∀ b off,a=some ⟨b,off,none⟩→b≠d11)∧(∀ b off,a=some ⟨b,off,none⟩→b≠b11)∧(b7∉bs)∧(b5∉bs)∧(b4∉bs)∧(l11∉bs)∧(d11∉bs)∧(b11∉bs))) ?_ ?_ ?_ ?_ ?_
 ·rintro k_ S ⟨v,bs,H,hq,hf,hfc,hkl,hq_b7,hq_b5,hq_b4,hq_l11,hq_d11,hq_b11,hf_b7,hf_b5,hf_b4,hf_l11,hf_d11,hf_b11⟩
  exact H.get .h5
 ·rintro k_ S ⟨v,bs,H,hq,hf,hfc,hkl,hq_b7,hq_b5,hq_b4,hq_l11,hq_d11,hq_b11,hf_b7,hf_b5,hf_b4,hf_l11,hf_d11,hf_b11⟩
  exact hq
 ·rintro k_ x_ S ⟨v,bs,H,hq,hf,hfc,hkl,hq_b7,hq_b5,hq_b4,hq_l11,hq_d11,hq_b11,hf_b7,hf_b5,hf_b4,hf_l11,hf_d11,hf_b11⟩ hx_
  refine hro11.h [int k_,x_.v] S _ O ?_ (H.get .h3)
  refine zL (zAl H O fun b9 S hb9 hE H=>?_)
  have hq_b9:=hq.ne hb9
  replace hq:=hq.mono hE
  have hf_b9:=hf.ne hb9
  replace hf:=hf.mono hE
  refine zSs H O O O .h O fun S hE H=>?_
  replace hq:=hq.qy hE hq_b9
  replace hf:=hf.qy hE hf_b9
  refine ve (⟨O,H.get .h4,?_⟩)
  obtain ⟨hE,H⟩:=H.putE (b:=l11) (o':=lp lr11 .busy none) .h4
  replace hq:=hq.qy hE hq_l11
  replace hf:=hf.qy hE hf_l11
  refine zE (zL (zLn (vs:=[_,_,_,_,_,_,_]) H O .h O (zL1 H O .h1 O (zCl O (ct172 hfc fun x16 y16 S hE hx16 hy16 hxo16 hyo16=>?_)))))
  have hf16_b9:=FnM.nin hf_b9 hx16 hy16 (H.get .h)
  have hf16_b7:=FnM.nin hf_b7 hx16 hy16 (H.get .h1)
  have hf16_b5:=FnM.nin hf_b5 hx16 hy16 (H.get .h2)
  have hf16_b4:=FnM.nin hf_b4 hx16 hy16 (H.get .h3)
  have hf16_l11:=FnM.nin hf_l11 hx16 hy16 (H.get .h4)
  have hf16_d11:=FnM.nin hf_d11 hx16 hy16 (H.get .h5)
  have hf16_b11:=FnM.nin hf_b11 hx16 hy16 (H.get .h6)
  have hf16:=FnM.cons x_ hxo16 hyo16 (hf.mono hE)
  replace H:=H.call hE
  replace hq:=hq.mono hE
  refine zSs H O O O .h1 O fun S hE H=>?_
  replace hq:=hq.qy hE hq_b7
  replace hf16:=hf16.qy hE hf16_b7
  refine ve (vc (⟨H.get .h4,?_⟩))
  obtain ⟨hE,H⟩:=H.putE (b:=l11) (o':=lp lr11 .ready none) .h4
  replace hq:=hq.qy hE hq_l11
  replace hf16:=hf16.qy hE hf16_l11
  refine .inl ⟨O,?_⟩
  replace H:=H.front .h6
  replace H:=H.front .h6
  replace H:=H.front .h6
  replace H:=H.front .h6
  replace H:=H.front .h6
  replace H:=H.front .h6
  refine ⟨_,_,(H.takeL 6),hq,?_,O,(by omega),hq_b7,hq_b5,hq_b4,hq_l11,hq_d11,hq_b11,hf16_b7,hf16_b5,hf16_b4,hf16_l11,hf16_d11,hf16_b11⟩
  rw [List.drop_eq_getElem_cons (by omega),show rs[k_]=x_ from (List.getElem?_eq_some_iff.1 hx_).2]
  exact hf16
 ·rintro  S ⟨v,bs,H,hq,hf,hfc,hkl,hq_b7,hq_b5,hq_b4,hq_l11,hq_d11,hq_b11,hf_b7,hf_b5,hf_b4,hf_l11,hf_d11,hf_b11⟩ 
  refine .inl ⟨H.get .h3,?_⟩
  obtain ⟨hE,H⟩:=H.putE (b:=l11) (o':=lp lr11 .exhausted none) .h3
  replace hf:=hf.qy hE hf_l11
  refine blkX_norm (thnX_norm (wpX_slim (zR (zLn (vs:=[_,_]) H O .h2 O (zCl O (ct67  fun t18 S hE h18=>?_))))))
  replace H:=H.call hE
  replace hf:=hf.mono hE
  refine zj O ?_
  rcases t18 with _|_
  ·replace h18:=bF h18
   refine zJ O (zJ O (vp O O O O (zj O (zJ O (zJ O (zJ O (zJ O (vp O O O O (zj O (zN (zh (⟨trivial,H.get .h4,?_⟩))))))))))))
   obtain ⟨hE,H⟩:=H.putE (b:=d11) (o':=.deferred none) .h4
   refine ⟨_,(zW O zU),?_⟩
   exact k _ _ H.qx (by first | exact ⟨fun h=>⟨h18,h21,h27.1 h⟩,fun h=>h27.2 h.2.2⟩ | exact ⟨nofun,fun h=>absurd h.1 h18⟩ | exact ⟨nofun,fun h=>absurd h.2.1 h21⟩ | exact ⟨nofun,fun h=>absurd h.2.2 h27⟩ | exact ⟨fun _=>⟨h18,h21,h27⟩,fun _=>rfl⟩)
  ·replace h18:=bT h18
   refine zi O (W_loadN (vs:=[_,_]) H O .h1 O (zi O (zT O (ct146  fun t21 S hE h21=>?_))))
   replace H:=H.call hE
   replace hf:=hf.mono hE
   refine vp O O O O (zj O ?_)
   rcases t21 with _|_
   ·replace h21:=bF h21
    refine zJ O (zJ O (zJ O (zJ O (vp O O O O (zj O (zN (zh (⟨trivial,H.get .h4,?_⟩))))))))
    obtain ⟨hE,H⟩:=H.putE (b:=d11) (o':=.deferred none) .h4
    refine ⟨_,(zW O zU),?_⟩
    exact k _ _ H.qx (by first | exact ⟨fun h=>⟨h18,h21,h27.1 h⟩,fun h=>h27.2 h.2.2⟩ | exact ⟨nofun,fun h=>absurd h.1 h18⟩ | exact ⟨nofun,fun h=>absurd h.2.1 h21⟩ | exact ⟨nofun,fun h=>absurd h.2.2 h27⟩ | exact ⟨fun _=>⟨h18,h21,h27⟩,fun _=>rfl⟩)
   ·replace h21:=bT h21
    refine zi O (vh H O .h O (zi O (W_loadN (vs:=[_,_]) H O .h2 O (zi O (W_loadN (vs:=[_,_]) H O .h1 O (zi O (W_callV O O (hf.call _ _ _ _ _ fun t27 S hE h27=>?_))))))))
    replace H:=H.call hE
    replace h27:t27=true↔mayR rs e f=true:=by rw [h27];exact Iff.rfl
    refine vp O O O O (zj O (zN (zh (⟨trivial,H.get .h4,?_⟩))))
    obtain ⟨hE,H⟩:=H.putE (b:=d11) (o':=.deferred none) .h4
    refine ⟨_,(zW O zU),?_⟩
    exact k _ _ H.qx (by first | exact ⟨fun h=>⟨h18,h21,h27.1 h⟩,fun h=>h27.2 h.2.2⟩ | exact ⟨nofun,fun h=>absurd h.1 h18⟩ | exact ⟨nofun,fun h=>absurd h.2.1 h21⟩ | exact ⟨nofun,fun h=>absurd h.2.2 h27⟩ | exact ⟨fun _=>⟨h18,h21,h27⟩,fun _=>rfl⟩)
 ·skip
  replace H:=H.front .h2
  replace H:=H.front .h2
  replace H:=H.front .h2
  replace H:=H.front .h5
  replace H:=H.front .h5
  replace H:=H.front .h5
  exact ⟨(.func (.func 170) #[] #[]),[],H,hq,(by rw [List.drop_length];exact .nil),rfl,(Nat.le_refl _),hq_b7,hq_b5,hq_b4,hq_l11,hq_d11,hq_b11,(by simp),(by simp),(by simp),(by simp),(by simp),(by simp)⟩
end
section
variable {S0:St} {K:Value→St→Prop}
variable {e:End} {q:Int} {es:List End} {cap:Nat} {a:Option Addr}
theorem ct141 {r0 r1 c0 c1:Nat} {es0 es1:Array MapEntry} {kv0:List (End × Int)} {kv1:List (Int × End)} (hr0:S0 r0=some ⟨.map es0 c0,true⟩) (hr1:S0 r1=some ⟨.map es1 c1,true⟩) (hne:r0≠r1) (hk0:kvs es0=kv0.map fun p=>(p.1.v,int p.2)) (hk1:kvs es1=kv1.map fun p=>(int p.1,p.2.v)) (k:∀ (es0' es1':Array MapEntry) (c0' c1':Nat) S',Ext [r0,r1] S0 S'→S' r0=some ⟨.map es0' c0',true⟩→S' r1=some ⟨.map es1' c1',true⟩→(kvs es0'=(addM kv0 e q).map fun p=>(p.1.v,int p.2))→(kvs es1'=(addM kv1 q e).map fun p=>(int p.1,p.2.v))→K (.tuple #[]) S') :
  zC 141 #[.agg #[.map (some r0),.map (some r1)],e.v,int q] S0 K:=by
 refine zGo (sf:=s141) Tryz.func141 ?_
 have H:=Loc.start2 hr0 hr1 hne
 refine zR (zBx H O O fun b3 S hb3 hE H=>zBx H O O fun b4 S hb4 hE H=>zN (vz (vt O (zL1 H O .h1 O (zLn (vs:=[_,_]) H O .h O ?_)))))
 obtain ⟨t14,ht14⟩:∃ t,(findM kv0 e 0).isSome=t:=⟨_,rfl⟩
 refine za (W_lookE_ tryzPT O O (H.get .h2) hk0 ?_)
 simp only [ht14,cond_true]
 have h14:t14=true↔(findM kv0 e 0).isSome=true:=by rw [ht14]
 refine zj O (zEx O O (zEx O O (zj O (zj O (vA (zj O (zNt O (zN ?_))))))))
 rcases t14 with _|_
 ·replace h14:=bF h14
  refine zr O (zL (vt O (zL1 H O .h1 O (zLn (vs:=[_,_]) H O .h O (zj O (za (W_updE_ tryzPT H O O O hk0 (by simpa using h14) .h2 fun S hE H=>vA (vt O (zL1 H O .h1 O (zj O ?_))))))))))
  obtain ⟨t27,ht27⟩:∃ t,(findM kv1 q 0).isSome=t:=⟨_,rfl⟩
  refine za (W_lookI_ tryzPT O O (H.get .h3) hk1 ?_)
  simp only [ht27,cond_true]
  have h27:t27=true↔(findM kv1 q 0).isSome=true:=by rw [ht27]
  refine zj O (zEx O O (zEx O O (zAl H O fun b8 S hb8 hE H=>zSs H O O O .h O fun S hE H=>zj O (vA (zj O (zNt O (zN ?_)))))))
  rcases t27 with _|_
  ·replace h27:=bF h27
   refine zr O (zL (vt O (zL1 H O .h2 O (zj O (zLn (vs:=[_,_]) H O .h1 O (za (W_updI_ tryzPT H O O O hk1 (by simpa using h27) .h4 fun S hE H=>ve (⟨trivial,_,zU,?_⟩))))))))
   exact k _ _ _ _ _ H.qx (H.get .h3) (H.get .h4) (by rw [kvs_push,hk0,addM_no (by simpa using h14)];simp) (by rw [kvs_push,hk1,addM_no (by simpa using h27)];simp)
  ·replace h27:=bT h27
   refine zn O (zt (⟨trivial,_,zU,?_⟩))
   exact k _ _ _ _ _ H.qx (H.get .h3) (H.get .h4) (by rw [kvs_push,hk0,addM_no (by simpa using h14)];simp) (by rw [hk1,addM_yes h27])
 ·replace h14:=bT h14
  refine zn O (zt (ze (zR (vt O (zL1 H O .h1 O (zj O ?_))))))
  obtain ⟨t27,ht27⟩:∃ t,(findM kv1 q 0).isSome=t:=⟨_,rfl⟩
  refine za (W_lookI_ tryzPT O O (H.get .h3) hk1 ?_)
  simp only [ht27,cond_true]
  have h27:t27=true↔(findM kv1 q 0).isSome=true:=by rw [ht27]
  refine zj O (zEx O O (zEx O O (zAl H O fun b8 S hb8 hE H=>zSs H O O O .h O fun S hE H=>zj O (vA (zj O (zNt O (zN ?_)))))))
  rcases t27 with _|_
  ·replace h27:=bF h27
   refine zr O (zL (vt O (zL1 H O .h2 O (zj O (zLn (vs:=[_,_]) H O .h1 O (za (W_updI_ tryzPT H O O O hk1 (by simpa using h27) .h4 fun S hE H=>ve (⟨trivial,_,zU,?_⟩))))))))
   exact k _ _ _ _ _ H.qx (H.get .h3) (H.get .h4) (by rw [hk0,addM_yes h14]) (by rw [kvs_push,hk1,addM_no (by simpa using h27)];simp)
  ·replace h27:=bT h27
   refine zn O (zt (⟨trivial,_,zU,?_⟩))
   exact k _ _ _ _ _ H.qx (H.get .h3) (H.get .h4) (by rw [hk0,addM_yes h14]) (by rw [hk1,addM_yes h27])
theorem ct61 (hs:Sl S0 2 a (zS es)) (hcp:es.length≤cap) (hl:es.length≤1099511627776) (k:∀ (r0 r1 c0 c1:Nat) (es0 es1:Array MapEntry) (kv0:List (End × Int)) (kv1:List (Int × End)) S',Ext [] S0 S'→(S' r0=some ⟨.map es0 c0,true⟩)→(S' r1=some ⟨.map es1 c1,true⟩)→(kvs es0=kv0.map fun p=>(p.1.v,int p.2))→(kvs es1=kv1.map fun p=>(int p.1,p.2.v))→(Maps es es.length kv0 kv1)→K (.agg #[.map (some r0),.map (some r1)]) S') :
  zC 61 #[.agg #[.slice a es.length cap]] S0 K:=by
 refine zGh (sf:=s61) Tryz.func61 fun H=>zR (zBx H O O fun b1 S hb1 hE H=>zAl H O fun b2 S hb2 hE H=>vA (za (W_mkMap H fun r6 S hr6 hE H=>za (W_mkMap H fun r7 S hr7 hE H=>za (vL (cs:=[_,_]) O O (zAl H O fun b3 S hb3 hE H=>zSs H O O O .h O fun S hE H=>zN (vz (vt O (zL1 H O .h4 O (zLl O (zj O (zN (zE ?_)))))))))))))
 refine vg (fun E S m_=>∃ (i:Nat) (es6:Array MapEntry) (c6:Nat) (es7:Array MapEntry) (c7:Nat) (kv0:List (End × Int)) (kv1:List (Int × End)),E=Env.lst [(1,ptr b1 0),(2,ptr b2 0),(3,ptr b3 0),(10,.slice a es.length cap),(11,int es.length),(12,int i)]∧Loc [] S0 S [(b3,Cs [.map (some r6),.map (some r7)] 101),(r7,.map es7 c7),(r6,.map es6 c6),(b2,Cs [.map none,.map none] 101),(b1,Cs [.slice a es.length cap] 26)]∧(i≤es.length)∧(r6≠r7)∧(kvs es6=kv0.map fun p=>(p.1.v,int p.2))∧(kvs es7=kv1.map fun p=>(int p.1,p.2.v))∧(Maps es i kv0 kv1)∧m_=es.length-i) ?_ ?_
 ·skip
  refine ⟨_,_,?le,0,#[],0,#[],0,[],[],O,H,(by omega),(by rintro rfl;exact absurd H.nodup (by simp)),O,O,(.nil es),O⟩
  case le=>exact Env.qle ⟨O,O,O,O,O,O,⟨⟩⟩
 ·skip
  rintro _ S _ ⟨i,es6,c6,es7,c7,kv0,kv1,rfl,H,hi,hne,hk0,hk1,hM,rfl⟩
  refine zR (za (vq O O fun t13 h13=>zN (zB ?_)))
  rcases t13 with _|_
  ·replace h13:=bF h13
   refine zn O (vf (zM (zM (vn (ze (zR (zLn (vs:=[_,_]) H O .h O (zSs H O O O .h3 O fun S hE H=>zN (zh (⟨trivial,_,(z0 (ws:=[_,_]) H O .h3 O zU),?_⟩))))))))))
   obtain rfl:i=es.length:=by omega
   exact k _ _ _ _ _ _ _ _ _ H.qx (H.get .h2) (H.get .h1) hk0 hk1 hM
  ·replace h13:=bT h13
   obtain ⟨x,hx⟩:∃ x,es[i]? = some x:=⟨es[i]'(by omega),by simp⟩
   obtain ⟨b,off,rfl,hc⟩  :=hs.row i _ (endRows_at hx)
   refine zr O (zt (ze (zB (zE (zR (zj O (zIa O O (za (zV (vs:=[_,_]) O (H.qx.cells hc) (zAl H O fun b5 S hb5 hE H=>zj O (zSs H O O O .h O fun S hE H=>vA (zLn (vs:=[_,_]) H O .h1 O (zLn (vs:=[_,_]) H O .h O (zj O (zAd O O (zCl O (ct141 (H.get .h3) (H.get .h2) hne hk0 hk1 fun e021 e121 k021 k121 S hE ho021 ho121 hk021 hk121=>?_)))))))))))))))))
   replace H:=H.callX2 hE .h3 .h2 ho021 ho121 hne
   replace hk0:=hk021
   replace hk1:=hk121
   replace hM:=hM.step hx
   refine zN (zL (vt O (zL1 H O .h1 O (zj O (zAd O O (zLn (vs:=[_,_]) H O .h O ?_))))))
   obtain ⟨j26,hf26,hj26⟩:=hM.put hx
   refine za (W_updI2_ tryzPT H O O O hk1 hf26 hj26 .h2 fun S hE H=>ve (vc (ze (zL (zAd O O (zj O (zN ?_)))))))
   refine ⟨_,_,?lt,?le,(i+1),_,_,_,_,_,_,O,(H.sub (.cons _ (.cons_cons _ (.cons_cons _ (.cons_cons _ (.cons_cons _ (.cons_cons _ .slnil))))))),(by omega),hne,hk0,(kvs_same hk1 hj26),hM,O⟩
   case lt=>omega
   case le=>exact Env.qle ⟨O,O,O,O,O,O,⟨⟩⟩
theorem ct16 (hs:Sl S0 2 a (zS es)) (hcp:es.length≤cap) (hl:es.length≤1099511627776) (k:∀  S',Ext [] S0 S'→K (int (portE es e)) S') :
  zC 16 #[.agg #[.slice a es.length cap],e.v] S0 K:=by
 refine zGh (sf:=s16) Tryz.func16 fun H=>zR (zBx H O O fun b2 S hb2 hE H=>zBx H O O fun b3 S hb3 hE H=>zj O (zN (zB (z9 [] (vk 0 O O (fun S' hS'=>zG fun K hK=>zV O (zK (hS' O) (by simp) (H.cells (vs:=[_]) .h1 O)) hK) (vk 3 O O (fun S' hS'=>zG fun K hK=>zV O (zK (hS' O) (by simp) (H.cells (vs:=[_,_]) .h O)) hK) (zA 1 (by kernel_rfl) O O (zu (zT O (ct61 (hs.mono H.qx) hcp (by omega) fun r06 r16 c06 c16 e06 e16 kv06 kv16 S hE hr06 hr16 hk06 hk16 hM6=>?_))))))))))
 replace H:=H.call hE
 refine ⟨fun _=>hE.up.ext,zA 2 (by kernel_rfl) O O (zu (W_part Tryz.underlying101 O O agg98 O O (⟨fun _=>fun _ _ _ h=>h,zA 4 (by kernel_rfl) O O (zu (W_lookE_ tryzPT (ok:=false) O O hr06 hk06 ?_))⟩)))⟩
 simp only [cond_false,hM6.port]
 refine ⟨fun _=>fun _ _ _ h=>h,vJ 5 O O O (zY (ze (zh (zP O ?_))))⟩
 exact k _ H.qx
theorem ct25 (hs:Sl S0 2 a (zS es)) (hcp:es.length≤cap) (hl:es.length≤1099511627776) (k:∀ (e:End) (t:Bool) S',Ext [] S0 S'→(t=true→endP es q=some e)→(t=false→endP es q=none∧e=⟨0,0⟩)→K (.tuple #[e.v,.bool t]) S') :
  zC 25 #[.agg #[.slice a es.length cap],int q] S0 K:=by
 refine zGh (sf:=s25) Tryz.func25 fun H=>zR (zBx H O O fun b2 S hb2 hE H=>zAl H O fun b4 S hb4 hE H=>zj O (vA (zLn (vs:=[_]) H O .h1 O (zCl O (ct61 (hs.mono H.qx) hcp (by omega) fun r010 r110 c010 c110 e010 e110 kv010 kv110 S hE hr010 hr110 hk010 hk110 hM10=>?_)))))
 replace H:=H.call hE
 refine za (W_part Tryz.underlying101 O O agg99 O O (zj O (za (W_lookI_ tryzPT O O hr110 hk110 ?_))))
 obtain ⟨e13,he13⟩:∃ e,(((findM kv110 q 0).map (·.2)).getD (⟨0,0⟩:End))=e:=⟨_,rfl⟩
 simp only [he13]
 refine zj O (zEx O O (zEx O O (zAl H O fun b6 S hb6 hE H=>zSs H O O O .h O fun S hE H=>zj O (vA (zLn (vs:=[_,_]) H O .h O (zj O (zSs H O O O .h1 O fun S hE H=>zj O (zN (zh (⟨trivial,_,(z0 (ws:=[_,_]) H O .h1 O (zW O zU)),?_⟩))))))))))
 have hth:=hM10.theEnd q
 refine k e13 (findM kv110 q 0).isSome _ H.qx ?_ ?_
 ·intro ht
  rw [← hth]
  rcases hf:findM kv110 q 0 with _ | ⟨j,w⟩
  ·rw [hf] at ht;cases ht
  ·rw [hf] at he13;rw [← he13];rfl
 ·intro ht
  rw [← hth]
  rcases hf:findM kv110 q 0 with _ | ⟨j,w⟩
  ·rw [hf] at he13;exact ⟨rfl,he13.symm⟩
  ·rw [hf] at ht;cases ht
end
section
variable {S0:St} {K:Value→St→Prop}
variable {l:Bs} {es:List End} {cap:Nat} {a:Option Addr}
theorem ct212 (hs:Sl S0 2 a (zS es)) (hcp:es.length≤cap) (hl:es.length≤1099511627776) (k:∀ (a1:Option Addr) (c1:Nat) S',Ext [] S0 S'→(Sl S' 2 a1 (zS es))→(es.length≤c1)→(Org S0 none a1)→K (.slice a1 es.length c1) S') :
  zC 212 #[.slice a es.length cap] S0 K:=by
 refine zGh (sf:=s212) Tryz.func212 fun H=>zR (zj O (zN (vz (zj O (za (W_sliceNil Tryz.underlying24 O fun t4 h4=>zN ?_))))))
 rcases t4 with _|_
 ·replace h4:=bF h4
  refine zn O (zt (ze (zR (za (z_ (cs:=[]) H O O fun b5 S hb5 hE H=>zj O (za (W_appendZ (new:=(zS es).flatten) H O O .h (Src.sl (hs.mono H.qx) endRows_two (by simp)) endRows_one (endRows_flat_len es) (by decide) (by decide) (by omega) O fun b7 cap7 cs7 S hb7 H hE hn7 hcl7 hct7=>zj O (zN (zh (zP O ?_))))))))))
  rw [show (0+es.length)=es.length by omega]
  exact k _ _ _ H.qx (vC (H.get .h) rfl (by simpa using hct7) endRows_two) (by simpa using hn7) (.new (H.new1 .h))
 ·replace h4:=bT h4
  refine zr O (zR (zj O (zN (zh (zv (zP O ?_))))))
  subst h4
  obtain rfl:es=[]:=by
   cases es with
   | nil=>rfl
   | cons e es=>obtain ⟨b,off,e1,_⟩:=hs.row 0 e.row rfl;cases e1
  exact k none 0 _ H.qx (Sl.nil 2) (Nat.le_refl _) (.same _ _)
theorem ct158 {n c:Nat} (hn:n≤c) (k:∀  S',Ext [] S0 S'→K (.slice a n n) S') :
  zC 158 #[.slice a n c] S0 K:=by
 refine zGh (sf:=s158) Tryz.func158 fun H=>zR (zj O (vA (zj O (zj O (zLl O (zj O (zLl O (za (W_clip O O O hn (zj O (zN (zh (zP O ?_)))))))))))))
 exact k _ H.qx
theorem ct154 (hs:Sl S0 2 a (zS es)) (hcp:es.length≤cap) (hl:es.length≤1099511627776) (k:∀ (a1:Option Addr) S',Ext [] S0 S'→(Sl S' 2 a1 (zS es))→(Org S0 none a1)→K (.agg #[.slice a1 es.length es.length]) S') :
  zC 154 #[.agg #[.slice a es.length cap]] S0 K:=by
 refine zGh (sf:=s154) Tryz.func154 fun H=>zR (zBx H O O fun b1 S hb1 hE H=>zAl H O fun b2 S hb2 hE H=>vA (vt O (zL1 H O .h1 O (zCl O (ct212 (hs.mono H.qx) hcp (by omega) fun a5 c5 S hE hs5 hc5 ho5=>?_)))))
 have hs5_b2:=ho5.ne nofun (H.get .h)
 replace ho5:=ho5.back H.qx
 replace H:=H.call hE
 refine zCl O (ct158 hc5 fun S hE =>?_)
 replace H:=H.call hE
 replace hs5:=hs5.mono hE
 refine za (vL (cs:=[_]) O O (zSs H O O O .h O fun S hE H=>?_))
 replace hs5:=hs5.qy hE hs5_b2
 refine zN (zh (⟨trivial,_,(z0 (ws:=[_]) H O .h O zU),?_⟩))
 exact k _ _ H.qx hs5 ho5
theorem Org.any {S:St} {a1:Option Addr} (h:Org S none a1):Org S a a1:=by
 rcases h with rfl | h
 ·exact .inr nofun
 ·exact .inr h
theorem ct68 {e:End} (hs:Sl S0 2 a (zS es)) (hcp:es.length≤cap) (hl:es.length≤6) (k:∀ (a1:Option Addr) (cap1:Nat) S',Ext [] S0 S'→(Sl S' 2 a1 (zS (putE es e)))→((putE es e).length≤cap1)→(Org S0 a a1)→K (.tuple #[.agg #[.slice a1 (putE es e).length cap1],int (putP es e)]) S') :
  zC 68 #[.agg #[.slice a es.length cap],e.v] S0 K:=by
 refine zGh (sf:=s68) Tryz.func68 fun H=>zR (zBx H O O fun b2 S hb2 hE H=>zBx H O O fun b3 S hb3 hE H=>zAl H O fun b4 S hb4 hE H=>zj O (vA (zLn (vs:=[_]) H O .h2 O (zCl O (ct154 (hs.mono H.qx) hcp (by omega) fun a9 S hE hs9 ho9=>?_)))))
 have hs9_b4:=ho9.ne nofun (H.get .h)
 replace ho9:=ho9.back H.qx
 replace H:=H.call hE
 refine zAl H O fun b6 S hb6 hE H=>?_
 have hs9_b6:=hs9.ne hb6
 replace hs9:=hs9.mono hE
 refine zSs H O O O .h O fun S hE H=>?_
 replace hs9:=hs9.qy hE hs9_b6
 refine zN (vz (zLn (vs:=[_]) H O .h3 O (zLn (vs:=[_,_]) H O .h2 O (zCl O (ct16 (hs.mono H.qx) hcp (by omega) fun S hE =>?_)))))
 replace H:=H.call hE
 replace hs9:=hs9.mono hE
 refine zj O (vA (zj O (za (W_neI O O fun t14 h14=>zj O ?_))))
 rcases t14 with _|_
 ·replace h14:=bF h14
  have hm:e∉es:=fun hm=>by unfold portE at h14;rw [if_pos hm] at h14;omega
  refine zi O (zy O (zi O (vh H O .h3 O (zi O (W_lenL O (zi O (W_geq O O fun t19 h19=>vp O O O O (zN ?_))))))))
  rcases t19 with _|_
  ·replace h19:=bF h19
   refine zn O (zt (ze (zR (vt O (zL1 H O .h O (zLn (vs:=[_,_]) H O .h2 O (za (z_ (cs:=[_,_]) H O O fun b26 S hb26 hE H=>?_))))))))
   replace hs9:=hs9.mono hE
   refine za (W_appendNew (old:=(zS es).flatten) H O O (by omega) (Src.sl hs9 endRows_two (by simp)).2 (endRows_flat_len es) (Src.own H .h O) O (by decide) (by omega) O fun b27 cap27 cs27 S hb27 H hE hn27 hcl27 hct27=>zCl O (ct158 (by omega) fun S hE =>?_))
   replace H:=H.call hE
   refine vt O (zSs H O O O .h2 O fun S hE H=>zN (zB (z9 [b4] (vk 0 O O (fun S' hS'=>zG fun K hK=>zV O (zK (hS' O) (nin1 (by rintro rfl;exact absurd H.nodup (by simp))) (H.cells (vs:=[_]) .h2 O)) hK) (zLf 1 O O O (vk 2 O O (fun S' hS'=>zG fun K hK=>zF O (zH (hS' O) (nin1 (by rintro rfl;exact absurd H.nodup (by simp))) (H.cell .h5 O)) hK) (vO 3 O O (fun _ _ hK=>W_lenL O hK) (vO 4 O O (fun _ _ hK=>W_add O O (by omega) (by omega) hK) (zA 5 (by kernel_rfl) O O (zu (zSt H O O O .h3 O fun S hE H=>⟨fun _=>hE.ext,vJ 6 O O O (zY (ze (zh (⟨trivial,_,(z0 (ws:=[_]) H O .h3 O (zW O zU)),?_⟩))))⟩)))))))))))
   obtain ⟨p1,p2⟩:=putE_new hm (show ¬ 6≤es.length by omega)
   rw [p1,p2] at k
   rw [show (es.length+1)=(es++[e]).length by simp]
   exact k _ _ _ H.qx (vC (H.get .h) rfl (by simpa [zS] using hct27) endRows_two) (Nat.le_refl _) (.new (H.new1 .h))
  ·replace h19:=bT h19
   refine zr O (zR (zLn (vs:=[_]) H O .h O (zj O (zSs H O O O .h1 O fun S hE H=>?_))))
   replace hs9:=hs9.qy hE hs9_b4
   refine zj O (zN (zh (zv (⟨trivial,_,(z0 (ws:=[_]) H O .h1 O (zW O zU)),?_⟩))))
   (obtain ⟨p1,p2⟩:=putE_full hm (show 6≤es.length by omega);rw [p1,p2] at k;rw [show portE es e=0 by unfold portE;exact if_neg hm];exact k _ _ _ H.qx hs9 (Nat.le_refl _) ho9.any)
 ·replace h14:=bT h14
  have hm:e∈es:=Classical.byContradiction fun hn=>by unfold portE at h14;rw [if_neg hn] at h14;exact h14 rfl
  obtain ⟨p1,p2⟩:=putE_mem hm
  refine zJ O (zJ O (zJ O (zJ O (vp O O O O (zN (zr O (zR (zLn (vs:=[_]) H O .h O (zj O (zSs H O O O .h1 O fun S hE H=>?_))))))))))
  replace hs9:=hs9.qy hE hs9_b4
  refine zj O (zN (zh (zv (⟨trivial,_,(z0 (ws:=[_]) H O .h1 O (zW O zU)),?_⟩))))
  (rw [p1,p2] at k;exact k _ _ _ H.qx hs9 (Nat.le_refl _) ho9.any)
theorem ct203 (hG:Glob S0) (hs:Sl S0 2 a (zS es)) (hcp:es.length≤cap) (hl:es.length≤6) (hll:l.length≤18) (k:∀ (a1:Option Addr) (cap1:Nat) S',Ext [] S0 S'→(Sl S' 2 a1 (zS (vE es l).1))→((vE es l).1.length≤cap1)→(Org S0 a a1)→K (.tuple #[.agg #[.slice a1 (vE es l).1.length cap1],str (vE es l).2]) S') :
  zC 203 #[.agg #[.slice a es.length cap],str l] S0 K:=by
 refine zGh (sf:=s203) Tryz.func203 fun H=>?_
 have hq:=hs
 refine zR (zBx H O O fun b2 S hb2 hE H=>?_)
 replace hq:=hq.mono hE
 refine zAl H O fun b4 S hb4 hE H=>?_
 have hq_b4:=hq.ne hb4
 replace hq:=hq.mono hE
 refine zj O (vA (zj O (zCl O (ct211 (hG.mono H.qx) (by omega) fun t12 S hE h12=>?_))))
 replace H:=H.call hE
 replace hq:=hq.mono hE
 refine zj O (zEx O O (zEx O O (zAl H O fun b6 S hb6 hE H=>?_)))
 have hq_b6:=hq.ne hb6
 replace hq:=hq.mono hE
 refine zSs H O O O .h O fun S hE H=>?_
 replace hq:=hq.qy hE hq_b6
 refine zj O (zN (vz (zj O (zNt O (zN ?_)))))
 rcases t12 with _|_
 ·replace h12:=bF h12
  refine zr O (zR (zLn (vs:=[_]) H O .h2 O (zCl O (ct154 hq hcp (by omega) fun a18 S hE hs18 ho18=>?_))))
  have hs18_b4:=ho18.ne nofun (H.get .h1)
  replace ho18:=ho18.back H.qx
  replace H:=H.call hE
  refine zj O (zSs H O O O .h1 O fun S hE H=>?_)
  replace hs18:=hs18.qy hE hs18_b4
  refine zj O (zN (zh (zv (⟨trivial,_,(z0 (ws:=[_]) H O .h1 O (zW O zU)),?_⟩))))
  (rw [lineOut_none (by rcases hs0:says l with _ | x;rfl;exact absurd ⟨x,hs0⟩ h12)] at k;exact k _ _ _ H.qx hs18 (Nat.le_refl _) ho18.any)
 ·replace h12:=bT h12
  obtain ⟨x12,hx12⟩:=h12
  have hgd:(says l).getD ⟨0,0⟩=x12:=by rw [hx12];rfl
  simp only [hgd] at *
  refine zn O (zt (ze (zR (zLn (vs:=[_]) H O .h2 O (zLn (vs:=[_,_]) H O .h O (zCl O (ct68 hq hcp (by omega) fun a23 cap23 S hE hs23 hc23 ho23=>?_)))))))
  have hs23_b4:=ho23.ne hq_b4 (H.get .h1)
  replace ho23:=ho23.back H.qx
  replace H:=H.call hE
  refine zj O (zEx O O (zEx O O (zAl H O fun b8 S hb8 hE H=>?_)))
  have hs23_b8:=hs23.ne hb8
  replace hs23:=hs23.mono hE
  refine zSs H O O O .h O fun S hE H=>?_
  replace hs23:=hs23.qy hE hs23_b8
  refine zj O (zN (vz (zj O (za (W_eqI O O fun t27 h27=>zN ?_)))))
  rcases t27 with _|_
  ·replace h27:=bF h27
   refine zn O (zt (ze (zB (z9 [b4] (vk 0 O O (fun S' hS'=>zG fun K hK=>zV O (zK (hS' O) (nin1 (by rintro rfl;exact absurd H.nodup (by simp))) (H.cells (vs:=[_]) .h O)) hK) (vJ 1 O O O (vO 2 O O (fun _ _ hK=>vL (cs:=[_,_]) O O hK) (zA 3 (by kernel_rfl) O O (zu (zT O (ct184 (e:=⟨50,putP es x12⟩) (hG.mono H.qx) fun S hE =>?_)))))))))))
   replace H:=H.call hE
   replace hs23:=hs23.mono hE
   refine ⟨fun _=>hE.up.ext,zA 4 (by kernel_rfl) O O (zu (zSt H O O O .h2 O fun S hE H=>?_))⟩
   replace hs23:=hs23.qy hE hs23_b4
   refine zLd (vJ 5 O O O (zY (ze (zh (⟨trivial,_,(z0 (ws:=[_]) H O .h2 O (zW O zU)),?_⟩)))))
   (rw [lineOut_port hx12 h27] at k;exact k _ _ _ H.qx hs23 hc23 ho23)
  ·replace h27:=bT h27
   refine zr O (zR (zLn (vs:=[_]) H O .h O (zSs H O O O .h2 O fun S hE H=>?_)))
   replace hs23:=hs23.qy hE hs23_b4
   refine zj O (zN (zh (zv (⟨trivial,_,(z0 (ws:=[_]) H O .h2 O (zW O zU)),?_⟩))))
   (rw [lineOut_full hx12 h27] at k;exact k _ _ _ H.qx hs23 hc23 ho23)
theorem ct98 (hG:Glob S0) (hs:Sl S0 2 a (zS es)) (hcp:es.length≤cap) (hl:es.length≤1099511627776) (hll:l.length≤18) (k:∀  S',Ext [] S0 S'→K (str (lineIn es l)) S') :
  zC 98 #[.agg #[.slice a es.length cap],str l] S0 K:=by
 refine zGh (sf:=s98) Tryz.func98 fun H=>zR (zBx H O O fun b2 S hb2 hE H=>zj O (zN (vz (zj O (zCl O (ct183 (hG.mono H.qx) (by omega) fun t11 S hE h11=>?_))))))
 replace H:=H.call hE
 refine zj O (zEx O O (zEx O O (zj O (zj O (vA (zj O (zN ?_)))))))
 rcases t11 with _|_
 ·replace h11:=bF h11
  refine zn O (zt (ze (zR (zj O (zj O (zN (zh (zP O ?_))))))))
  (rw [lineIn_none (by rcases hs0:boxP l with _ | x;rfl;exact absurd ⟨x,hs0⟩ h11)] at k;exact k _ H.qx)
 ·replace h11:=bT h11
  obtain ⟨x11,hx11⟩:=h11
  have hgd:(boxP l).getD 0=x11:=by rw [hx11];rfl
  simp only [hgd] at *
  refine zr O (zR (zLn (vs:=[_]) H O .h O (zj O (zCl O (ct25 (hs.mono H.qx) hcp (by omega) fun e18 t18 S hE hy18 hn18=>?_)))))
  replace H:=H.call hE
  have h18:t18=true↔t18=true:=Iff.rfl
  refine zj O (zEx O O (zEx O O (zAl H O fun b7 S hb7 hE H=>zSs H O O O .h O fun S hE H=>zj O (vA (zj O (zN ?_))))))
  rcases t18 with _|_
  ·replace h18:=bF h18
   refine zn O (zt (ze (zR (zj O (zj O (zN (zh (zP O ?_))))))))
   (rw [lineIn_no hx11 (hn18 rfl).1] at k;exact k _ H.qx)
  ·replace h18:=bT h18
   refine zr O (zR (zLn (vs:=[_,_]) H O .h O (zCl O (ct184 (hG.mono H.qx) fun S hE =>?_))))
   replace H:=H.call hE
   refine zj O (zN (zh (zv (zP O ?_))))
   (rw [lineIn_yes hx11 (hy18 rfl)] at k;exact k _ H.qx)
end
section
variable {S0:St} {K:Value→St→Prop}
variable {l:Bs} {cs:List Value} {b bb cap:Nat} {v:Value}
theorem ct223 (ho:S0 b=some ⟨Cs [.pointer none,v] 213,true⟩) (k:∀ S',Ext [b] S0 S'→S' b=some ⟨Cs [ptr b 0,v] 213,true⟩→K (.tuple #[]) S') :
  zC 223 #[ptr b 0] S0 K:=by
 refine zGo (sf:=s223) Tryz.func223 ?_
 have H:=Loc.start1 ho
 refine zR (zj O (za (vv O (vt O (zL1 H O .h O (za (W_ptrNil Tryz.underlying211 O (zN (zr O (zL (zj O (zj O (za (W_toUnsafe_ tryzPT O (H.get .h) O (za (W_noEscape_ tryzPT O (za (W_fromUnsafe_ tryzPT O (H.get .h) O (za (vv O (vt O (zSs H O O O .h O fun S hE H=>ve (⟨trivial,_,zU,?_⟩)))))))))))))))))))))))
 exact k _ H.qx (H.get .h)
theorem ct223b (ho:S0 b=some ⟨Cs [ptr b 0,v] 213,true⟩) (k:∀  S',Ext [] S0 S'→K (.tuple #[]) S') :
  zC 223 #[ptr b 0] S0 K:=by
 refine zGh (sf:=s223) Tryz.func223 fun H=>zR (zj O (za (vv O (vt O (za (zF O (cell_of (H.qx.get ho) O) (za (W_ptrNil Tryz.underlying211 O (zN (zn O (zR (zj O (za (vv O (vt O (za (zF O (cell_of (H.qx.get ho) O) (zj O (za (W_ptrEqB O O (zN (zn O (zt (⟨trivial,_,zU,?_⟩))))))))))))))))))))))))
 exact k _ H.qx
theorem ct204 (ho:S0 b=some ⟨Cs [.pointer none,.slice none 0 0] 213,true⟩) (hl0:0<l.length) (hl:l.length≤1099511627776) (k:∀ (bb' cap':Nat) (cs':List Value) S',Ext [b] S0 S'→S0 bb'=none→S' b=some ⟨Cs [ptr b 0,sl bb' 0 l.length cap'] 213,true⟩→S' bb'=some ⟨Cs cs' 5,true⟩→cs'.length=cap'*1→l.length≤cap'→cs'.take (l.length*1)=l.map byt→K (.tuple #[int l.length,.nilIface]) S') :
  zC 204 #[ptr b 0,str l] S0 K:=by
 refine zGo (sf:=s204) Tryz.func204 ?_
 have H:=Loc.start1 ho
 refine zR (zj O (zj O (vA (zj O (zCl O (ct223 (H.get .h) fun S hE ho7=>?_))))))
 replace H:=H.callX hE .h ho7
 refine vA (zj O (zj O (za (vv O (vt O (zL1 H O .h O (zj O (za (W_appendNew (old:=[]) (n:=0) (cap:=0) H O O (by omega) O O Src.str (by simp) (by decide) (by omega) O fun b14 cap14 cs14 S hb14 H hE hn14 hcl14 hct14=>?_)))))))))
 rw [Nat.zero_add] at hn14 hct14
 rw [List.nil_append] at hct14
 refine za (vv O (vt O (zSs H O O O .h1 O fun S hE H=>vA (zj O (za (vG O (zj O (zj O (zN (zh (⟨trivial,_,(zW O (zW O zU)),k _ _ _ _ H.qx ((H.fresh _ _ (Has.mem .h)).resolve_right (by intro hm;obtain rfl:=List.mem_singleton.1 hm;exact absurd H.nodup (by simp))) ?_ (H.get .h) hcl14 hn14 hct14⟩)))))))))))
 have hg:=H.get .h1
 rw [show 0+l.length=l.length by omega] at hg
 exact hg
theorem ct204b {n:Nat} (ho:S0 b=some ⟨Cs [ptr b 0,sl bb 0 n cap] 213,true⟩) (hob:S0 bb=some ⟨Cs cs 5,true⟩) (hne:b≠bb) (hcl:cs.length=cap*1) (hn:n≤cap) (hl:n+l.length≤1099511627776) (k:∀ (bb' cap':Nat) (cs':List Value) S',Ext [b,bb] S0 S'→(bb'=bb∨S0 bb'=none)→S' b=some ⟨Cs [ptr b 0,sl bb' 0 (n+l.length) cap'] 213,true⟩→S' bb'=some ⟨Cs cs' 5,true⟩→cs'.length=cap'*1→(n+l.length)≤cap'→cs'.take ((n+l.length)*1)=cs.take (n*1)++l.map byt→K (.tuple #[int l.length,.nilIface]) S') :
  zC 204 #[ptr b 0,str l] S0 K:=by
 refine zGo (sf:=s204) Tryz.func204 ?_
 have H:=Loc.start2 ho hob hne
 refine zR (zj O (zj O (vA (zj O (zCl O (ct223b (H.get .h) fun S hE =>?_))))))
 replace H:=H.call hE
 refine vA (zj O (zj O (za (vv O (vt O (zL1 H O .h O (zj O (za (W_append H O O .h1 hcl hn Src.str (by simp [oneCell]) (by simp) (by decide) (by omega) O fun b14 cap14 cs14 S hb14 H hE hn14 hcl14 hct14=>za (vv O (vt O (zSs H O O O .h1 O fun S hE H=>vA (zj O (za (vG O (zj O (zj O (zN (zh (⟨trivial,_,(zW O (zW O zU)),k _ _ _ _ H.qx ?_ (H.get .h1) (H.get .h) hcl14 hn14 hct14⟩))))))))))))))))))))
 exact ((H.fresh _ _ (Has.mem .h)).symm.imp_left (by
  intro hm
  rcases List.mem_cons.1 hm with e | hm
  ·exact absurd H.nodup (by subst e;simp)
  ·simpa using hm))
theorem ct205 (ho:S0 b=some ⟨Cs [.pointer none,.slice none 0 0] 213,true⟩) (k:∀  S',Ext [] S0 S'→K (str []) S') :
  zC 205 #[ptr b 0] S0 K:=by
 refine zGh (sf:=s205) Tryz.func205 fun H=>zR (zj O (zN (zB (z9 [] (vJ 0 O O O (vO 1 O O (fun _ _ hK=>vv O hK) (zLf 2 O O O (vk 3 O O (fun S' hS'=>zG fun K hK=>zF O (zH (hS' O) (by simp) (cell_of (H.qx.get ho) O)) hK) (vJ 5 O O O (vO 6 O O (fun _ _ hK=>vv O hK) (zLf 7 O O O (vk 8 O O (fun S' hS'=>zG fun K hK=>zF O (zH (hS' O) (by simp) (cell_of (H.qx.get ho) O)) hK) (vO 9 O O (fun _ _ hK=>W_lenL O hK) (zA 4 (by kernel_rfl) O O (zu (W_sliceData0 O (⟨fun _=>fun _ _ _ h=>h,zA 10 (by kernel_rfl) O O (zu (W_unsafeStr0 O O (⟨fun _=>fun _ _ _ h=>h,vJ 11 O O O (zY (ze (zh (zP O ?_))))⟩)))⟩)))))))))))))))))
 exact k _ H.qx
theorem ct205b (ho:S0 b=some ⟨Cs [ptr b 0,sl bb 0 l.length cap] 213,true⟩) (hob:S0 bb=some ⟨Cs cs 5,true⟩) (hne:b≠bb) (hc0:cap≠0) (hl0:0<l.length) (hl:l.length≤1099527356416) (hct:cs.take l.length=l.map byt) (k:∀ S',Ext [bb] S0 S'→S' b=some ⟨Cs [ptr b 0,sl bb 0 l.length cap] 213,true⟩→K (str l) S') :
  zC 205 #[ptr b 0] S0 K:=by
 refine zGo (sf:=s205) Tryz.func205 ?_
 have H:=Loc.start1 hob
 have hob2:=ho
 refine zR (zj O (zN (zB (z9 [bb] (vJ 0 O O O (vO 1 O O (fun _ _ hK=>vv O hK) (zLf 2 O O O (vk 3 O O (fun S' hS'=>zG fun K hK=>zF O (zH (hS' O) (nin1 hne) (cell_of ho O)) hK) (vJ 5 O O O (vO 6 O O (fun _ _ hK=>vv O hK) (zLf 7 O O O (vk 8 O O (fun S' hS'=>zG fun K hK=>zF O (zH (hS' O) (nin1 hne) (cell_of ho O)) hK) (vO 9 O O (fun _ _ hK=>W_lenL O hK) (zA 4 (by kernel_rfl) O O (zu (W_sliceData O hc0 (⟨fun _=>fun _ _ _ h=>h,zA 10 (by kernel_rfl) O O (zu (W_unsafeStr_ tryzPT H O O hl0 hl hct .h fun S hE H=>zLd (vJ 11 O O O (zY (ze (zh (zP O ?_)))))))⟩)))))))))))))))))
 exact k _ H.qx (H.qx.ext _ _ (nin1 hne) ho)
theorem ct131 {a:Option Addr} {es:List End} (hG:Glob S0) (hs:Sl S0 2 a (zS es)) (hcp:es.length≤cap) (hl:es.length≤6) (hll:l.length≤1048576) (hsh:∀ x∈(zD l).1,x.length≤18) (k:∀ (a1:Option Addr) (cap1:Nat) S',Ext [] S0 S'→(Sl S' 2 a1 (zS (vr es l).1))→((vr es l).1.length≤cap1)→(Org S0 a a1)→((vr es l).2.length≤1099527356416)→K (.tuple #[.agg #[.slice a1 (vr es l).1.length cap1],str (vr es l).2]) S') :
  zC 131 #[.agg #[.slice a es.length cap],str l] S0 K:=by
 refine calls1_x (sf:=s131) Tryz.func131 (by kernel_rfl) (of_decide_eq_true O) ?_
 show wpX Tryz.prog c131 (Env.of [.agg #[.slice a es.length cap],str l]) S0 [] _
 have H:=Loc.start [] S0
 refine wpX_seq (wpX_slim (zL (zBx H O O fun b2 S hb2 hE H=>zAl H O fun b4 S hb4 hE H=>zj O (ve (thnX_norm (wpX_seq (wpX_slim (zL (zLn (vs:=[_]) H O .h1 O (zCl O (ct154 (hs.mono H.qx) hcp (by omega) fun a12 S hE hs12 ho12=>?_)))))))))))
 have hs12_b4:=ho12.ne nofun (H.get .h)
 have hs12_b2:=ho12.ne nofun (H.get .h1)
 replace ho12:=ho12.back H.qx
 replace H:=H.call hE
 have hnl:(zD l).1.length≤l.length:=strLines_len l
 refine zAl H O fun b6 S hb6 hE H=>?_
 have hs12_b6:=hs12.ne hb6
 replace hs12:=hs12.mono hE
 refine zSs H O O O .h O fun S hE H=>?_
 replace hs12:=hs12.qy hE hs12_b6
 refine ve (thnX_norm (wpX_seq (wpX_slim (zL (zAl H O fun b7 S hb7 hE H=>?_)))))
 have hs12_b7:=hs12.ne hb7
 replace hs12:=hs12.mono hE
 refine ve (thnX_norm (wpX_seq (wpX_seq (wpX_slim (zL (zj O (zCl O (ct96  fun b14 S hE hb14 ho14=>?_))))))))
 have hs12_b14:=hs12.ne hb14
 replace H:=H.adopt hE hb14 ho14
 replace hs12:=hs12.mono hE
 refine ve (thnX_norm (wpX_block (wpX_range O Tryz.func179 O O fun d14 l14 lr14 hd14 hl14 hro14=>?_)))
 have hs12_d14:=hs12.ne hd14
 replace hs12:=hs12.mono (Ext.put_new hd14 (.deferred (some [])))
 have hs12_l14:=hs12.ne hl14
 replace hs12:=hs12.mono (Ext.put_new hl14 (lp lr14 .ready none))
 replace H:=(H.alloc hd14 (.deferred (some []))).alloc hl14 (lp lr14 .ready none)
 refine ct179 (l:=l14) (b:=b14) (s:=l) (J:=fun r_ S=>(∃ (ls:List Bs) (a1:Option Addr) (cap1:Nat) (es1:List End) (tx:Bs),Loc [] S0 S [(b7,Cs [.pointer none,.slice none 0 0] 213),(b6,Cs [.slice a1 es1.length cap1] 26),(b4,Cs [.slice none 0 0] 26),(b2,Cs [.slice a es.length cap] 26),(l14,lp lr14 .ready none),(d14,.deferred (some [])),(b14,Cs [str r_] 9)]∧(zD l=(ls++(zD r_).1,(zD r_).2))∧(r_.length+ls.length≤l.length)∧(linesOut es ls=(es1,tx))∧(Sl S 2 a1 (zS es1))∧(es1.length≤cap1)∧(Org S0 a a1)∧(es1.length≤6)∧(tx.length≤ls.length*40)∧(tx=[])∧(∀ b off,a1=some ⟨b,off,none⟩→b≠b7)∧(∀ b off,a1=some ⟨b,off,none⟩→b≠b6)∧(∀ b off,a1=some ⟨b,off,none⟩→b≠b4)∧(∀ b off,a1=some ⟨b,off,none⟩→b≠b2)∧(∀ b off,a1=some ⟨b,off,none⟩→b≠l14)∧(∀ b off,a1=some ⟨b,off,none⟩→b≠d14)∧(∀ b off,a1=some ⟨b,off,none⟩→b≠b14))∨(∃ (ls:List Bs) (a1:Option Addr) (cap1:Nat) (es1:List End) (tx:Bs) (bb:Nat) (capb:Nat) (csb:List Value),Loc [] S0 S [(b7,Cs [ptr b7 0,sl bb 0 tx.length capb] 213),(bb,Cs csb 5),(b6,Cs [.slice a1 es1.length cap1] 26),(b4,Cs [.slice none 0 0] 26),(b2,Cs [.slice a es.length cap] 26),(l14,lp lr14 .ready none),(d14,.deferred (some [])),(b14,Cs [str r_] 9)]∧(zD l=(ls++(zD r_).1,(zD r_).2))∧(r_.length+ls.length≤l.length)∧(linesOut es ls=(es1,tx))∧(Sl S 2 a1 (zS es1))∧(es1.length≤cap1)∧(Org S0 a a1)∧(es1.length≤6)∧(tx.length≤ls.length*40)∧(tx.length≤capb)∧(csb.length=capb*1)∧(csb.take (tx.length*1)=tx.map byt)∧(0<tx.length)∧(∀ b off,a1=some ⟨b,off,none⟩→b≠b7)∧(∀ b off,a1=some ⟨b,off,none⟩→b≠b6)∧(∀ b off,a1=some ⟨b,off,none⟩→b≠b4)∧(∀ b off,a1=some ⟨b,off,none⟩→b≠b2)∧(∀ b off,a1=some ⟨b,off,none⟩→b≠l14)∧(∀ b off,a1=some ⟨b,off,none⟩→b≠d14)∧(∀ b off,a1=some ⟨b,off,none⟩→b≠b14)∧(∀ b off,a1=some ⟨b,off,none⟩→b≠bb))) ?_ ?_ ?_ ?_ ?_ ?_
 ·rintro r_ S (⟨ls,a1,cap1,es1,tx,H,hs,hrl,hlo,hq,hcp1,ho1,hl1,htl,htx,hq_b7,hq_b6,hq_b4,hq_b2,hq_l14,hq_d14,hq_b14⟩ | ⟨ls,a1,cap1,es1,tx,bb,capb,csb,H,hs,hrl,hlo,hq,hcp1,ho1,hl1,htl,hbn,hbc,hbt,htx,hq_b7,hq_b6,hq_b4,hq_b2,hq_l14,hq_d14,hq_b14,hq_bb⟩)
  ·skip
   exact H.get .h6
  ·skip
   exact H.get .h7
 ·rintro r_ S (⟨ls,a1,cap1,es1,tx,H,hs,hrl,hlo,hq,hcp1,ho1,hl1,htl,htx,hq_b7,hq_b6,hq_b4,hq_b2,hq_l14,hq_d14,hq_b14⟩ | ⟨ls,a1,cap1,es1,tx,bb,capb,csb,H,hs,hrl,hlo,hq,hcp1,ho1,hl1,htl,hbn,hbc,hbt,htx,hq_b7,hq_b6,hq_b4,hq_b2,hq_l14,hq_d14,hq_b14,hq_bb⟩)
  ·skip
   omega
  ·skip
   omega
 ·rintro r_ S S2 (⟨ls,a1,cap1,es1,tx,H,hs,hrl,hlo,hq,hcp1,ho1,hl1,htl,htx,hq_b7,hq_b6,hq_b4,hq_b2,hq_l14,hq_d14,hq_b14⟩ | ⟨ls,a1,cap1,es1,tx,bb,capb,csb,H,hs,hrl,hlo,hq,hcp1,ho1,hl1,htl,hbn,hbc,hbt,htx,hq_b7,hq_b6,hq_b4,hq_b2,hq_l14,hq_d14,hq_b14,hq_bb⟩) hE
  ·skip
   exact .inl ⟨ls,a1,cap1,es1,tx,H.call hE,hs,hrl,hlo,(hq.mono hE),hcp1,ho1,hl1,htl,htx,hq_b7,hq_b6,hq_b4,hq_b2,hq_l14,hq_d14,hq_b14⟩
  ·skip
   exact .inr ⟨ls,a1,cap1,es1,tx,bb,capb,csb,H.call hE,hs,hrl,hlo,(hq.mono hE),hcp1,ho1,hl1,htl,hbn,hbc,hbt,htx,hq_b7,hq_b6,hq_b4,hq_b2,hq_l14,hq_d14,hq_b14,hq_bb⟩
 ·rintro r_ x_ r2_ S (⟨ls,a1,cap1,es1,tx,H,hs,hrl,hlo,hq,hcp1,ho1,hl1,htl,htx,hq_b7,hq_b6,hq_b4,hq_b2,hq_l14,hq_d14,hq_b14⟩ | ⟨ls,a1,cap1,es1,tx,bb,capb,csb,H,hs,hrl,hlo,hq,hcp1,ho1,hl1,htl,hbn,hbc,hbt,htx,hq_b7,hq_b6,hq_b4,hq_b2,hq_l14,hq_d14,hq_b14,hq_bb⟩) hrx hx59
  ·skip
   have hln:=congrArg List.length hrx
   simp only [List.length_append,List.length_cons] at hln
   have hxs:x_.length≤18:=hsh _ (by rw [hs];simp only;rw [hrx];simp only [zD];rw [spl_cons hx59];simp)
   have hno:=linesOut_snoc es ls x_
   rw [hlo] at hno
   have hol:=lineOut_snd_len es1 x_
   refine hro14.h [str x_] S _ O ?_ (H.get .h4)
   refine zL (zj O (ve (⟨O,H.get .h4,?_⟩)))
   obtain ⟨hE,H⟩:=H.putE (b:=l14) (o':=lp lr14 .busy none) .h4
   replace hq:=hq.qy hE hq_l14
   refine zE (zR (zLn (vs:=[_]) H O .h1 O (zj O (zCl O (ct203 (hG.mono H.qx) hq hcp1 hl1 (by omega) fun a19 cap19 S hE hs19 hc19 ho19=>?_)))))
   have hs19_b4:=ho19.ne hq_b4 (H.get .h2)
   have hs19_b14:=ho19.ne hq_b14 (H.get .h6)
   have hs19_l14:=ho19.ne hq_l14 (H.get .h4)
   have hs19_d14:=ho19.ne hq_d14 (H.get .h5)
   have hs19_b2:=ho19.ne hq_b2 (H.get .h3)
   have hs19_b6:=ho19.ne hq_b6 (H.get .h1)
   have hs19_b7:=ho19.ne hq_b7 (H.get .h)
   replace ho19:=ho1.trans (ho19.back H.qx)
   replace H:=H.call hE
   refine zj O (zEx O O (zEx O O (zAl H O fun b9 S hb9 hE H=>?_)))
   have hs19_b9:=hs19.ne hb9
   replace hs19:=hs19.mono hE
   refine zSs H O O O .h O fun S hE H=>?_
   replace hs19:=hs19.qy hE hs19_b9
   refine zj O (vA (zLn (vs:=[_]) H O .h O (zSs H O O O .h2 O fun S hE H=>?_)))
   replace hs19:=hs19.qy hE hs19_b6
   refine zN (zL (zj O (za (W_catS O O (by have:=lineOut_snd_len es1 x_;simp;omega) (zCl O (ct204 (H.get .h1) (by simp) (by simp;omega) fun b25 cap25 cs25 S hE hb25 ho25 hob25 hbc25 hbn25 hbt25=>?_))))))
   have hs19_b25:=hs19.ne hb25
   replace hs19:=hs19.qy hE hs19_b7
   replace H:=H.callXnew hE .h1 ho25 hb25 hob25
   refine ve (vc (⟨H.get .h6,?_⟩))
   obtain ⟨hE,H⟩:=H.putE (b:=l14) (o':=lp lr14 .ready none) .h6
   replace hs19:=hs19.qy hE hs19_l14
   refine .inl ⟨O,H.get .h8,fun S hE ho=>?_⟩
   replace H:=H.callX hE .h8 ho
   replace hs19:=hs19.qy hE hs19_b14
   skip
   replace H:=H.front .h8
   replace H:=H.front .h8
   replace H:=H.front .h8
   replace H:=H.front .h8
   replace H:=H.front .h8
   replace H:=H.front .h8
   replace H:=H.front .h6
   replace H:=H.front .h8
   refine .inr ⟨(ls++[x_]),_,_,_,((vE es1 x_).2++[59]),b25,cap25,cs25,(H.takeL 8),(lines_next hs hrx hx59),(by simp only [List.length_append,List.length_cons,List.length_nil];omega),(by rw [hno,htx];simp),hs19,hc19,ho19,(lineOut_len6 x_ hl1),(by simp only [List.length_append,List.length_cons,List.length_nil];omega),hbn25,hbc25,hbt25,(by simp),hs19_b7,hs19_b6,hs19_b4,hs19_b2,hs19_l14,hs19_d14,hs19_b14,hs19_b25⟩
  ·skip
   have hln:=congrArg List.length hrx
   simp only [List.length_append,List.length_cons] at hln
   have hxs:x_.length≤18:=hsh _ (by rw [hs];simp only;rw [hrx];simp only [zD];rw [spl_cons hx59];simp)
   have hno:=linesOut_snoc es ls x_
   rw [hlo] at hno
   have hol:=lineOut_snd_len es1 x_
   refine hro14.h [str x_] S _ O ?_ (H.get .h5)
   refine zL (zj O (ve (⟨O,H.get .h5,?_⟩)))
   obtain ⟨hE,H⟩:=H.putE (b:=l14) (o':=lp lr14 .busy none) .h5
   replace hq:=hq.qy hE hq_l14
   refine zE (zR (zLn (vs:=[_]) H O .h2 O (zj O (zCl O (ct203 (hG.mono H.qx) hq hcp1 hl1 (by omega) fun a19 cap19 S hE hs19 hc19 ho19=>?_)))))
   have hs19_b4:=ho19.ne hq_b4 (H.get .h3)
   have hs19_b14:=ho19.ne hq_b14 (H.get .h7)
   have hs19_l14:=ho19.ne hq_l14 (H.get .h5)
   have hs19_d14:=ho19.ne hq_d14 (H.get .h6)
   have hs19_bb:=ho19.ne hq_bb (H.get .h1)
   have hs19_b2:=ho19.ne hq_b2 (H.get .h4)
   have hs19_b6:=ho19.ne hq_b6 (H.get .h2)
   have hs19_b7:=ho19.ne hq_b7 (H.get .h)
   replace ho19:=ho1.trans (ho19.back H.qx)
   replace H:=H.call hE
   refine zj O (zEx O O (zEx O O (zAl H O fun b9 S hb9 hE H=>?_)))
   have hs19_b9:=hs19.ne hb9
   replace hs19:=hs19.mono hE
   refine zSs H O O O .h O fun S hE H=>?_
   replace hs19:=hs19.qy hE hs19_b9
   refine zj O (vA (zLn (vs:=[_]) H O .h O (zSs H O O O .h3 O fun S hE H=>?_)))
   replace hs19:=hs19.qy hE hs19_b6
   refine zN (zL (zj O (za (W_catS O O (by have:=lineOut_snd_len es1 x_;simp;omega) (zCl O (ct204b (H.get .h1) (H.get .h2) (by rintro rfl;exact absurd H.nodup (by simp)) hbc hbn (by simp;omega) fun b25 cap25 cs25 S hE hb25 ho25 hob25 hbc25 hbn25 hbt25=>?_))))))
   have hs19_b25:=hs19.ne2 hs19_bb hb25
   replace hs19:=hs19.monoX2 hE hs19_b7 hs19_bb
   replace H:=H.callB hE .h1 .h2 (by rintro rfl;exact absurd H.nodup (by simp)) ho25 hb25 hob25
   refine ve (vc (⟨H.get .h6,?_⟩))
   obtain ⟨hE,H⟩:=H.putE (b:=l14) (o':=lp lr14 .ready none) .h6
   replace hs19:=hs19.qy hE hs19_l14
   refine .inl ⟨O,H.get .h8,fun S hE ho=>?_⟩
   replace H:=H.callX hE .h8 ho
   replace hs19:=hs19.qy hE hs19_b14
   have e25:tx.length+((vE es1 x_).2++[59]).length=(tx++((vE es1 x_).2++[59])).length:=by simp
   rw [e25] at H
   replace H:=H.front .h8
   replace H:=H.front .h8
   replace H:=H.front .h8
   replace H:=H.front .h8
   replace H:=H.front .h8
   replace H:=H.front .h8
   replace H:=H.front .h6
   replace H:=H.front .h8
   refine .inr ⟨(ls++[x_]),_,_,_,(tx++((vE es1 x_).2++[59])),b25,cap25,cs25,(H.takeL 8),(lines_next hs hrx hx59),(by simp only [List.length_append,List.length_cons,List.length_nil];omega),(by rw [hno];simp),hs19,hc19,ho19,(lineOut_len6 x_ hl1),(by simp only [List.length_append,List.length_cons,List.length_nil];omega),?_,hbc25,?_,(by simp only [List.length_append,List.length_cons,List.length_nil];omega),hs19_b7,hs19_b6,hs19_b4,hs19_b2,hs19_l14,hs19_d14,hs19_b14,hs19_b25⟩
   ·have:=hbn25;simpa using this
   ·rw [List.length_append,hbt25,hbt,← List.map_append]
 ·rintro r_ S (⟨ls,a1,cap1,es1,tx,H,hs,hrl,hlo,hq,hcp1,ho1,hl1,htl,htx,hq_b7,hq_b6,hq_b4,hq_b2,hq_l14,hq_d14,hq_b14⟩ | ⟨ls,a1,cap1,es1,tx,bb,capb,csb,H,hs,hrl,hlo,hq,hcp1,ho1,hl1,htl,hbn,hbc,hbt,htx,hq_b7,hq_b6,hq_b4,hq_b2,hq_l14,hq_d14,hq_b14,hq_bb⟩) hz59
  ·skip
   refine .inl ⟨H.get .h4,?_⟩
   obtain ⟨hE,H⟩:=H.putE (b:=l14) (o':=lp lr14 .exhausted none) .h4
   replace hq:=hq.qy hE hq_l14
   have hse:=lines_end hs hz59
   have hst:vr es l=(es1,tx):=by unfold vr;rw [hse];exact hlo
   refine blkX_norm (thnX_norm (wpX_slim (zB (z9 [b4] (vk 0 O O (fun S' hS'=>zG fun K hK=>zV O (zK (hS' O) (nin1 (by rintro rfl;exact absurd H.nodup (by simp))) (H.cells (vs:=[_]) .h1 O)) hK) (zA 1 (by kernel_rfl) O O (zu (zT O (ct205 (H.get .h) fun S hE =>?_)))))))))
   replace H:=H.call hE
   replace hq:=hq.mono hE
   refine ⟨fun _=>hE.up.ext,zA 2 (by kernel_rfl) O O (zu (zSt H O O O .h2 O fun S hE H=>?_))⟩
   replace hq:=hq.qy hE hq_b4
   refine zLd (vJ 3 O O O (zY (ze (zh (⟨trivial,H.get .h5,?_⟩)))))
   obtain ⟨hE,H⟩:=H.putE (b:=d14) (o':=.deferred none) .h5
   replace hq:=hq.qy hE hq_d14
   refine ⟨_,(z0 (ws:=[_]) H O .h2 O (zW O zU)),?_⟩
   rw [hst] at k
   try subst htx
   exact k _ _ _ H.qx hq hcp1 ho1 (by show List.length _≤_;first | omega | (simp only [List.length_nil];omega))
  ·skip
   refine .inl ⟨H.get .h5,?_⟩
   obtain ⟨hE,H⟩:=H.putE (b:=l14) (o':=lp lr14 .exhausted none) .h5
   replace hq:=hq.qy hE hq_l14
   have hse:=lines_end hs hz59
   have hst:vr es l=(es1,tx):=by unfold vr;rw [hse];exact hlo
   refine blkX_norm (thnX_norm (wpX_slim (zB (z9 [b4,bb] (vk 0 O O (fun S' hS'=>zG fun K hK=>zV O (zK (hS' O) (nin2 (by rintro rfl;exact absurd H.nodup (by simp)) (by rintro rfl;exact absurd H.nodup (by simp))) (H.cells (vs:=[_]) .h2 O)) hK) (zA 1 (by kernel_rfl) O O (zu (zT O (ct205b (l:=tx) (H.get .h) (H.get .h1) (by rintro rfl;exact absurd H.nodup (by simp)) (by omega) htx (by omega) (by simpa using hbt) fun S hE ho27=>?_)))))))))
   have hE27:=hE
   replace hq:=hq.qy hE hq_bb
   replace H:=H.callDrop hE .h1
   refine ⟨fun _=>(hE.mono (by simp)).ext,zA 2 (by kernel_rfl) O O (zu (zSt H O O O .h2 O fun S hE H=>?_))⟩
   replace hq:=hq.qy hE hq_b4
   refine zLd (vJ 3 O O O (zY (ze (zh (⟨trivial,H.get .h5,?_⟩)))))
   obtain ⟨hE,H⟩:=H.putE (b:=d14) (o':=.deferred none) .h5
   replace hq:=hq.qy hE hq_d14
   refine ⟨_,(z0 (ws:=[_]) H O .h2 O (zW O zU)),?_⟩
   rw [hst] at k
   try subst htx
   exact k _ _ _ H.qx hq hcp1 ho1 (by show List.length _≤_;first | omega | (simp only [List.length_nil];omega))
 ·skip
  replace H:=H.front .h2
  replace H:=H.front .h2
  replace H:=H.front .h2
  replace H:=H.front .h6
  replace H:=H.front .h6
  replace H:=H.front .h6
  replace H:=H.front .h6
  exact .inl ⟨[],a12,es.length,es,[],H,(by simp),(by simp),rfl,hs12,(Nat.le_refl _),ho12.any,hl,(by simp),rfl,hs12_b7,hs12_b6,hs12_b4,hs12_b2,hs12_l14,hs12_d14,hs12_b14⟩
end
section
variable {S0:St} {K:Value→St→Prop}
variable {l:Bs} {e:End} {es:List End} {cap:Nat} {a:Option Addr}
theorem ct210 (hs:Sl S0 2 a (zS es)) (hcp:es.length≤cap) (hl:es.length≤1099511627776) (k:∀ (r:Int) S',Ext [] S0 S'→(0≤r↔e∈es)→K (int r) S') :
  zC 210 #[.slice a es.length cap,e.v] S0 K:=by
 refine zGh (sf:=s210) Tryz.func210 fun H=>zR (zBx H O O fun b3 S hb3 hE H=>zj O (zN (vz (zj O (zLl O (zj O (zN (zE ?_))))))))
 refine vg (fun E S m_=>∃ (i:Nat),E=Env.lst [(0,.slice a es.length cap),(3,ptr b3 0),(7,int es.length),(8,int i)]∧Loc [] S0 S [(b3,Cs e.row 31)]∧(i≤es.length)∧(e∉es.take i)∧m_=es.length-i) ?_ ?_
 ·skip
  refine ⟨_,_,?le,0,O,H,(by omega),(by simp),O⟩
  case le=>exact Env.qle ⟨O,O,O,O,⟨⟩⟩
 ·skip
  rintro _ S _ ⟨i,rfl,H,hi,hn,rfl⟩
  refine zR (za (vq O O fun t9 h9=>zN (zB ?_)))
  rcases t9 with _|_
  ·replace h9:=bF h9
   refine zn O (vf (zM (zM (vn (ze (zR (zj O (zN (zh (zP O ?_))))))))))
   rw [show i=es.length by omega,List.take_length] at hn
   exact k (-1) _ H.qx ⟨fun h=>by omega,fun h=>absurd h hn⟩
  ·replace h9:=bT h9
   obtain ⟨x,hx⟩:∃ x,es[i]? = some x:=⟨es[i]'(by omega),by simp⟩
   obtain ⟨b,off,rfl,hc⟩  :=hs.row i _ (endRows_at hx)
   refine zr O (zt (ze (zB (zE (zR (zj O (zj O (zN (zB (z9 [] (vk 0 O O (fun S' hS'=>zG fun K hK=>zV O (zK (hS' O) (by simp) (H.cells (vs:=[_,_]) .h O)) hK) (vJ 1 O O O (vJ 2 O O O (vO 3 O O (fun _ _ hK=>vl O O (by omega) (by omega) hK) (vk 4 O O (fun S' hS'=>zG fun K hK=>zV (vs:=[_,_]) O (zK (hS' O) (by simp) (H.qx.cells hc)) hK) (zCm 5 O O (fun S' _=>zG fun K hK=>W_eqE O O hK) fun t16 h16=>zY (ze ?_)))))))))))))))))
   rcases t16 with _|_
   ·replace h16:=bF h16
    refine zn O (zt (vc (ze (zL (zAd O O (zj O (zN ?_)))))))
    refine ⟨_,_,?lt,?le,(i+1),O,H,(by omega),(not_mem_take_succ hx hn (fun e1=>h16 (by rw [e1];exact ⟨rfl,rfl⟩))),O⟩
    case lt=>omega
    case le=>exact Env.qle ⟨O,O,O,O,⟨⟩⟩
   ·replace h16:=bT h16
    refine zr O (zR (zj O (zj O (zN (zh (vd (zv (zv (vd (zv (zP O ?_)))))))))))
    exact k _ _ H.qx ⟨fun _=>by rw [show e=x from End.ext' h16];exact List.mem_of_getElem? hx,fun _=>by omega⟩
theorem ct145 (hs:Sl S0 2 a (zS es)) (hcp:es.length≤cap) (hl:es.length≤1099511627776) (k:∀ (t:Bool) S',Ext [] S0 S'→(t=true↔e∈es)→K (.bool t) S') :
  zC 145 #[.slice a es.length cap,e.v] S0 K:=by
 refine zGh (sf:=s145) Tryz.func145 fun H=>zR (zBx H O O fun b3 S hb3 hE H=>zj O (vA (zj O (zLn (vs:=[_,_]) H O .h O (zCl O (ct210 (hs.mono H.qx) hcp (by omega) fun r7 S hE h7=>?_))))))
 replace H:=H.call hE
 refine za (W_geq O O fun t8 h8=>zj O (zN (zh (zP O ?_))))
 exact k _ _ H.qx (h8.trans h7)
theorem ct63 (hs:Sl S0 2 a (zS es)) (hcp:es.length≤cap) (hl:es.length≤1099511627776) (k:∀ (t:Bool) S',Ext [] S0 S'→(t=true↔TabP es)→K (.bool t) S') :
  zC 63 #[.agg #[.slice a es.length cap]] S0 K:=by
 refine zGh (sf:=s63) Tryz.func63 fun H=>zR (zBx H O O fun b1 S hb1 hE H=>zj O (zN (vz (vt O (zL1 H O .h O (zLl O (zj O (zN (zE ?_)))))))))
 refine vg (fun E S m_=>∃ (i:Nat),E=Env.lst [(1,ptr b1 0),(6,.slice a es.length cap),(7,int es.length),(8,int i)]∧Loc [] S0 S [(b1,Cs [.slice a es.length cap] 26)]∧(i≤es.length)∧(∀ e∈es.take i,e.inn)∧((es.take i).Nodup)∧m_=es.length-i) ?_ ?_
 ·skip
  refine ⟨_,_,?le,0,O,H,(by omega),(by simp),(by simp),O⟩
  case le=>exact Env.qle ⟨O,O,O,O,⟨⟩⟩
 ·skip
  rintro _ S _ ⟨i,rfl,H,hi,hp,hnd,rfl⟩
  refine zR (za (vq O O fun t9 h9=>zN (zB ?_)))
  rcases t9 with _|_
  ·replace h9:=bF h9
   refine zn O (vf (zM (zM (vn (ze (zR (vt O (zL1 H O .h O (zLl O (za (W_leq O O fun t28 h28=>zj O (zN (zh (zP O ?_))))))))))))))
   rw [show i=es.length by omega,List.take_length] at hp hnd
   exact k _ _ H.qx (h28.trans ⟨fun h=>TabP_of (by omega) hp hnd,fun h=>by have:=h.1;omega⟩)
  ·replace h9:=bT h9
   obtain ⟨x,hx⟩:∃ x,es[i]? = some x:=⟨es[i]'(by omega),by simp⟩
   obtain ⟨b,off,rfl,hc⟩  :=hs.row i _ (endRows_at hx)
   refine zr O (zt (ze (zB (zE (zR (zj O (zIa O O (za (zV (vs:=[_,_]) O (H.qx.cells hc) (zAl H O fun b4 S hb4 hE H=>zj O (zSs H O O O .h O fun S hE H=>zN (zB (z9 [] (vk 0 O O (fun S' hS'=>zG fun K hK=>zV O (zK (hS' O) (by simp) (H.cells (vs:=[_,_]) .h O)) hK) (zA 1 (by kernel_rfl) O O (zu (zT O (ct67  fun t14 S hE h14=>?_))))))))))))))))))
   replace H:=H.call hE
   refine ⟨fun _=>hE.up.ext,vO 2 O O (fun _ _ hK=>W_not O hK) (vJ 3 O O O ?_)⟩
   rcases t14 with _|_
   ·replace h14:=bF h14
    refine vk 4 O O (fun S' _=>vo O (by decide)) (vk 5 O O (fun S' _=>vo O (by decide)) (vk 6 O O (fun S' _=>vo O (by decide)) (vk 7 O O (fun S' _=>vo O (by decide)) (vk 8 O O (fun S' _=>vo O (by decide)) (zA 9 (by kernel_rfl) O O (step_no O (by decide) (⟨fun _=>fun _ _ _ h=>h,vO 10 O O (fun _ _ hK=>W_pick O O O O hK) (zY (ze (zr O (zR (zj O (zN (zh (vd (zv (zv (vd (zv (zP O ?_)))))))))))))⟩)))))))
    exact k _ _ H.qx ⟨nofun,fun h=>absurd h (TabP_no1 hx h14)⟩
   ·replace h14:=bT h14
    refine vk 4 O O (fun S' _=>vi O fun K hK=>zy O hK) (vk 5 O O (fun S' hS'=>vi O fun K hK=>zF O (zH (hS' O) (by simp) (H.cell .h1 O)) hK) (vk 6 O O (fun S' _=>vi O fun K hK=>vB O hK) (vk 7 O O (fun S' _=>vi O fun K hK=>W_slTake (l:=es) O O (by omega) (by omega) hcp hK) (vk 8 O O (fun S' hS'=>vi O fun K hK=>zV O (zK (hS' O) (by simp) (H.cells (vs:=[_,_]) .h O)) hK) (zA 9 (by kernel_rfl) O O (step_yes O (zT O (ct145 (es:=es.take i) ((hs.mono H.qx).takeE i) (by simp;omega) (by simp;omega) fun t22 S hE h22=>?_))))))))
    replace H:=H.call hE
    refine zLd (vO 10 O O (fun _ _ hK=>W_pick O O O O hK) (zY (ze ?_)))
    rcases t22 with _|_
    ·replace h22:=bF h22
     refine zn O (zt (vc (ze (zL (zAd O O (zj O (zN ?_)))))))
     refine ⟨_,_,?lt,?le,(i+1),O,(H.sub (.cons _ (.cons_cons _ .slnil))),(by omega),(mem_take_succ hx hp h14),(by
      rw [vF hx]
      exact List.nodup_append.2 ⟨hnd,by simp,fun a ha b hb=>by obtain rfl:=List.mem_singleton.1 hb;rintro rfl;exact h22 ha⟩),rfl⟩
     case lt=>omega
     case le=>exact Env.qle ⟨O,O,O,O,⟨⟩⟩
    ·replace h22:=bT h22
     refine zr O (zR (zj O (zN (zh (vd (zv (zv (vd (zv (zP O ?_))))))))))
     exact k _ _ H.qx ⟨nofun,fun h=>by
      have hn:=h.2.2
      rw [← List.take_append_drop (i+1) es,vF hx] at hn
      have:=(List.nodup_append.1 (List.nodup_append.1 hn).1).2.2 x h22 x (by simp)
      exact (this rfl).elim⟩
theorem ct148 (hG:Glob S0) (hs:Sl S0 2 a (zS es)) (hcp:es.length≤cap) (hl:es.length≤1099511627776) (hll:l.length≤1048576) (hsh:∀ x∈(zD l).1,x.length≤18) (k:∀ (t:Bool) S',Ext [] S0 S'→(t=true↔knowsP es l)→K (.bool t) S') :
  zC 148 #[.agg #[.slice a es.length cap],str l] S0 K:=by
 refine calls1_x (sf:=s148) Tryz.func148 (by kernel_rfl) (of_decide_eq_true O) ?_
 show wpX Tryz.prog c148 (Env.of [.agg #[.slice a es.length cap],str l]) S0 [] _
 have H:=Loc.start [] S0
 have hq:=hs
 refine wpX_seq (wpX_slim (zL (zBx H O O fun b2 S hb2 hE H=>?_)))
 have hq_b2:=hq.ne hb2
 replace hq:=hq.mono hE
 refine zAl H O fun b4 S hb4 hE H=>?_
 have hq_b4:=hq.ne hb4
 replace hq:=hq.mono hE
 refine ve (thnX_norm (wpX_seq (wpX_seq (wpX_slim (zL (zj O (zCl O (ct96  fun b9 S hE hb9 ho9=>?_))))))))
 have hq_b9:=hq.ne hb9
 replace H:=H.adopt hE hb9 ho9
 replace hq:=hq.mono hE
 refine ve (thnX_norm (wpX_block (wpX_range O Tryz.func179 O O fun d9 l9 lr9 hd9 hl9 hro9=>?_)))
 have hq_d9:=hq.ne hd9
 replace hq:=hq.mono (Ext.put_new hd9 (.deferred (some [])))
 have hq_l9:=hq.ne hl9
 replace hq:=hq.mono (Ext.put_new hl9 (lp lr9 .ready none))
 replace H:=(H.alloc hd9 (.deferred (some []))).alloc hl9 (lp lr9 .ready none)
 refine ct179 (l:=l9) (b:=b9) (s:=l) (J:=fun r_ S=>(∃ (ls:List Bs),Loc [] S0 S [(b4,Cs [.bool false] 4),(b2,Cs [.slice a es.length cap] 26),(l9,lp lr9 .ready none),(d9,.deferred (some [])),(b9,Cs [str r_] 9)]∧(zD l=(ls++(zD r_).1,(zD r_).2))∧(r_.length≤l.length)∧((linesOut es ls).1=es)∧(Sl S 2 a (zS es))∧(∀ b off,a=some ⟨b,off,none⟩→b≠b4)∧(∀ b off,a=some ⟨b,off,none⟩→b≠b2)∧(∀ b off,a=some ⟨b,off,none⟩→b≠l9)∧(∀ b off,a=some ⟨b,off,none⟩→b≠d9)∧(∀ b off,a=some ⟨b,off,none⟩→b≠b9))) ?_ ?_ ?_ ?_ ?_ ?_
 ·rintro r_ S ⟨ls,H,hs,hrl,hlo,hq,hq_b4,hq_b2,hq_l9,hq_d9,hq_b9⟩
  exact H.get .h4
 ·rintro r_ S ⟨ls,H,hs,hrl,hlo,hq,hq_b4,hq_b2,hq_l9,hq_d9,hq_b9⟩
  omega
 ·rintro r_ S S2 ⟨ls,H,hs,hrl,hlo,hq,hq_b4,hq_b2,hq_l9,hq_d9,hq_b9⟩ hE
  exact ⟨ls,H.call hE,hs,hrl,hlo,(hq.mono hE),hq_b4,hq_b2,hq_l9,hq_d9,hq_b9⟩
 ·rintro r_ x_ r2_ S ⟨ls,H,hs,hrl,hlo,hq,hq_b4,hq_b2,hq_l9,hq_d9,hq_b9⟩ hrx hx59
  have hln:=congrArg List.length hrx
  simp only [List.length_append,List.length_cons] at hln
  have hsx:=lines_next hs hrx hx59
  have hxs:x_.length≤18:=hsh _ (by rw [hsx];simp)
  refine hro9.h [str x_] S _ O ?_ (H.get .h2)
  refine zL (zj O (ve (⟨O,H.get .h2,?_⟩)))
  obtain ⟨hE,H⟩:=H.putE (b:=l9) (o':=lp lr9 .busy none) .h2
  replace hq:=hq.qy hE hq_l9
  refine zE (zR (zj O (zCl O (ct211 (hG.mono H.qx) (by omega) fun t13 S hE h13=>?_))))
  replace H:=H.call hE
  replace hq:=hq.mono hE
  refine zj O (zEx O O (zEx O O (zAl H O fun b6 S hb6 hE H=>?_)))
  have hq_b6:=hq.ne hb6
  replace hq:=hq.mono hE
  refine zSs H O O O .h O fun S hE H=>?_
  replace hq:=hq.qy hE hq_b6
  refine zj O (vA (zj O (zj O ?_)))
  rcases t13 with _|_
  ·replace h13:=bF h13
   refine zJ O (zJ O (zJ O (zJ O (vp O O O O (zj O (zJ O (zJ O (zJ O (zJ O (vp O O O O (zN (zn O (zt (vc (⟨H.get .h3,?_⟩)))))))))))))))
   obtain ⟨hE,H⟩:=H.putE (b:=l9) (o':=lp lr9 .ready none) .h3
   replace hq:=hq.qy hE hq_l9
   refine .inl ⟨O,H.get .h5,fun S hE ho=>?_⟩
   replace H:=H.callX hE .h5 ho
   replace hq:=hq.qy hE hq_b9
   replace H:=H.front .h5
   replace H:=H.front .h5
   replace H:=H.front .h5
   replace H:=H.front .h5
   replace H:=H.front .h5
   refine ⟨(ls++[x_]),(H.takeL 5),hsx,(by omega),(by rw [linesOut_app,hlo];exact lineOut_stay (.inl (by rcases hs0:says x_ with _ | x;rfl;exact absurd ⟨x,hs0⟩ h13))),hq,hq_b4,hq_b2,hq_l9,hq_d9,hq_b9⟩
  ·replace h13:=bT h13
   obtain ⟨x13,hx13⟩:=h13
   have hgd:(says x_).getD ⟨0,0⟩=x13:=by rw [hx13];rfl
   refine zi O (W_loadN (vs:=[_]) H O .h2 O (zi O (W_loadN (vs:=[_,_]) H O .h O (zi O (zT O (ct16 hq hcp (by omega) fun S hE =>?_))))))
   replace H:=H.call hE
   replace hq:=hq.mono hE
   refine zi O (W_eqI O O fun t21 h21=>vp O O O O (zj O ?_))
   rcases t21 with _|_
   ·replace h21:=bF h21
    refine zJ O (zJ O (zJ O (zJ O (vp O O O O (zN (zn O (zt (vc (⟨H.get .h3,?_⟩)))))))))
    obtain ⟨hE,H⟩:=H.putE (b:=l9) (o':=lp lr9 .ready none) .h3
    replace hq:=hq.qy hE hq_l9
    refine .inl ⟨O,H.get .h5,fun S hE ho=>?_⟩
    replace H:=H.callX hE .h5 ho
    replace hq:=hq.qy hE hq_b9
    replace H:=H.front .h5
    replace H:=H.front .h5
    replace H:=H.front .h5
    replace H:=H.front .h5
    replace H:=H.front .h5
    refine ⟨(ls++[x_]),(H.takeL 5),hsx,(by omega),(by rw [linesOut_app,hlo];exact lineOut_stay (.inr ⟨x13,hx13,by rw [← hgd];omega⟩)),hq,hq_b4,hq_b2,hq_l9,hq_d9,hq_b9⟩
   ·replace h21:=bT h21
    refine zi O (zy O (zi O (vh H O .h2 O (zi O (W_lenL O (zi O (vq O O fun t27 h27=>vp O O O O (zN ?_))))))))
    rcases t27 with _|_
    ·replace h27:=bF h27
     refine zn O (zt (vc (⟨H.get .h3,?_⟩)))
     obtain ⟨hE,H⟩:=H.putE (b:=l9) (o':=lp lr9 .ready none) .h3
     replace hq:=hq.qy hE hq_l9
     refine .inl ⟨O,H.get .h5,fun S hE ho=>?_⟩
     replace H:=H.callX hE .h5 ho
     replace hq:=hq.qy hE hq_b9
     replace H:=H.front .h5
     replace H:=H.front .h5
     replace H:=H.front .h5
     replace H:=H.front .h5
     replace H:=H.front .h5
     refine ⟨(ls++[x_]),(H.takeL 5),hsx,(by omega),(by rw [linesOut_app,hlo];exact lineOut_stay (.inr ⟨x13,hx13,by rw [← hgd];omega⟩)),hq,hq_b4,hq_b2,hq_l9,hq_d9,hq_b9⟩
    ·replace h27:=bT h27
     refine zr O (zR (zSs H O O O .h1 O fun S hE H=>zN (zh (vd (⟨H.get .h3,?_⟩)))))
     obtain ⟨hE,H⟩:=H.putE (b:=l9) (o':=lp lr9 .done (some .ret)) .h3
     refine .inr ⟨O,.inr ⟨H.get .h3,?_⟩⟩
     obtain ⟨hE,H⟩:=H.putE (b:=l9) (o':=lp lr9 .exhausted (some .ret)) .h3
     refine (blkX_ret (thnX_ret (⟨trivial,H.get .h4,?_⟩)))
     obtain ⟨hE,H⟩:=H.putE (b:=d9) (o':=.deferred none) .h4
     refine ⟨_,(res_cell1 H O .h1 O zU),?_⟩
     exact k _ _ H.qx ⟨nofun,fun h=>absurd h (knows_no (a:=ls) (x:=x_) (b:=(zD r2_).1) (by rw [hsx];simp) hlo hx13 (by rw [← hgd];omega) (by omega))⟩
 ·rintro r_ S ⟨ls,H,hs,hrl,hlo,hq,hq_b4,hq_b2,hq_l9,hq_d9,hq_b9⟩ hz59
  refine .inl ⟨H.get .h2,?_⟩
  obtain ⟨hE,H⟩:=H.putE (b:=l9) (o':=lp lr9 .exhausted none) .h2
  have hse:=lines_end hs hz59
  refine blkX_norm (thnX_norm (wpX_slim (zR (zSs H O O O .h O fun S hE H=>zN (zh (⟨trivial,H.get .h3,?_⟩))))))
  obtain ⟨hE,H⟩:=H.putE (b:=d9) (o':=.deferred none) .h3
  refine ⟨_,(res_cell1 H O .h O zU),?_⟩
  exact k _ _ H.qx ⟨fun _=>knows_yes (by rw [hse];exact hlo),fun _=>rfl⟩
 ·skip
  replace H:=H.front .h2
  replace H:=H.front .h2
  replace H:=H.front .h2
  replace H:=H.front .h4
  replace H:=H.front .h4
  exact ⟨[],H,(by simp),(Nat.le_refl _),rfl,hq,hq_b4,hq_b2,hq_l9,hq_d9,hq_b9⟩
theorem ct149 {m:Bs} (hG:Glob S0) (hs:Sl S0 2 a (zS es)) (hcp:es.length≤cap) (hl:es.length≤1099511627776) (hll:l.length≤1099511627776) (hmm:m.length≤1099511627776) (hsh:∀ x∈(zD l).1,x.length≤18) (k:∀ (t:Bool) S',Ext [] S0 S'→(t=true↔nearP es l m)→K (.bool t) S') :
  zC 149 #[.agg #[.slice a es.length cap],str l,str m] S0 K:=by
 refine zGh (sf:=s149) Tryz.func149 fun H=>zR (zBx H O O fun b3 S hb3 hE H=>zj O (vA (zj O (zCl O (ct35 (by omega) fun b15 cap15 S hE hb15 hO15=>?_)))))
 obtain ⟨cs15,ho15,hn15,hcl15,hct15,_⟩:=hO15
 replace H:=H.adopt hE hb15 ho15
 have hal:=lines_le l
 have hnl:(zD l).1.length≤l.length:=strLines_len l
 refine zj O (zEx O O (zEx O O (zj O (zj O (vA (zj O (zCl O (ct35 (by omega) fun b20 cap20 S hE hb20 hO20=>?_))))))))
 obtain ⟨cs20,ho20,hn20,hcl20,hct20,_⟩:=hO20
 replace H:=H.adopt hE hb20 ho20
 have hbl:=lines_le m
 refine zj O (zEx O O (zEx O O (zj O (zj O (zN (vz (zj O (zLl O (zj O (zLl O (za (W_neI O O fun t27 h27=>zj O ?_))))))))))))
 rcases t27 with _|_
 ·replace h27:=bF h27
  refine zi O (vB O (zi O (W_neS O O fun t30 h30=>vp O O O O (zj O ?_))))
  rcases t30 with _|_
  ·replace h30:=bF h30
   refine zi O (vB O (zi O (vG O (zi O (W_gtr O O fun t35 h35=>vp O O O O (zN ?_))))))
   rcases t35 with _|_
   ·replace h35:=bF h35
    refine zn O (zt (ze (vz (zj O (zLl O (zj O (zN (zE ?_))))))))
    refine vg (fun E S m_=>∃ (i:Nat),E=Env.lst [(2,str m),(3,ptr b3 0),(7,sl b15 0 (zD l).1.length cap15),(9,sl b20 0 (zD m).1.length cap20),(37,sl b15 0 (zD l).1.length cap15),(38,int (zD l).1.length),(39,int i)]∧Loc [] S0 S [(b20,Cs cs20 9),(b15,Cs cs15 9),(b3,Cs [.slice a es.length cap] 26)]∧(i≤(zD l).1.length)∧(∀ (j:Nat) (u v:Bs),j<i→(zD l).1[j]? = some u→(zD m).1[j]? = some v→v=u∨v=lineIn es u)∧m_=(zD l).1.length-i) ?_ ?_
    ·skip
     refine ⟨_,_,?le,0,O,H,(by omega),(fun _ _ _ h=>absurd h (by omega)),O⟩
     case le=>exact Env.qle ⟨O,O,O,O,O,O,O,⟨⟩⟩
    ·skip
     rintro _ S _ ⟨i,rfl,H,hi,hp,rfl⟩
     refine zR (za (vq O O fun t40 h40=>zN (zB ?_)))
     rcases t40 with _|_
     ·replace h40:=bF h40
      refine zn O (vf (zM (zM (vn (ze (zR (zj O (zN (zh (zP O ?_))))))))))
      exact k _ _ H.qx ⟨fun _=>⟨by omega,Classical.not_not.1 h30,by omega,fun j u v hu hv=>hp j u v (by have:=(List.getElem?_eq_some_iff.1 hu).1;omega) hu hv⟩,fun _=>rfl⟩
     ·replace h40:=bT h40
      have hlen:(zD l).1.length=(zD m).1.length:=by omega
      obtain ⟨x,hx⟩:∃ x,(zD l).1[i]? = some x:=⟨(zD l).1[i]'(by omega),by simp⟩
      obtain ⟨y,hy⟩:∃ y,(zD m).1[i]? = some y:=⟨(zD m).1[i]'(by omega),by simp⟩
      have hx15:=str_at hct15 hx
      have hy20:=str_at hct20 hy
      refine zr O (zt (ze (zB (zE (zR (zj O (zIa O O (za (zF O (H.cell .h1 hx15) (zj O (zj O (zN (zB (z9 [] (vJ 0 O O O (vJ 1 O O O (vO 2 O O (fun _ _ hK=>vl O O (by omega) (by omega) hK) (vk 3 O O (fun S' hS'=>zG fun K hK=>zF O (zH (hS' O) (by simp) (H.cell .h hy20)) hK) (vJ 4 O O O (zCm 5 O O (fun S' _=>zG fun K hK=>W_neSd O O hK) fun t49 h49=>vJ 6 O O O ?_))))))))))))))))))))
      rcases t49 with _|_
      ·replace h49:=bF h49
       refine vk 7 O O (fun S' _=>vo O (by decide)) (vk 8 O O (fun S' _=>vo O (by decide)) (vk 9 O O (fun S' _=>vo O (by decide)) (vk 10 O O (fun S' _=>vo O (by decide)) (vk 11 O O (fun S' _=>vo O (by decide)) (vk 12 O O (fun S' _=>vo O (by decide)) (zA 13 (by kernel_rfl) O O (step_no O (by decide) (⟨fun _=>fun _ _ _ h=>h,vk 14 O O (fun S' _=>vo O (by decide)) (vO 15 O O (fun _ _ hK=>W_pick O O O O hK) (zY (ze (zn O (zt (vc (ze (zL (zAd O O (zj O (zN ?_)))))))))))⟩))))))))
       refine ⟨_,_,?lt,?le,(i+1),O,H,(by omega),(fun j u v hj hu hv=>by
        by_cases hji:j<i
        ·exact hp j u v hji hu hv
        ·obtain rfl:j=i:=by omega
         rw [hx] at hu;rw [hy] at hv;cases hu;cases hv
         first | exact .inl (Classical.not_not.1 h49) | exact .inr (Classical.not_not.1 h58)),rfl⟩
       case lt=>omega
       case le=>exact Env.qle ⟨O,O,O,O,O,O,O,⟨⟩⟩
      ·replace h49:=bT h49
       refine vk 7 O O (fun S' _=>vi O fun K hK=>vB O hK) (vk 8 O O (fun S' _=>vi O fun K hK=>vB O hK) (vk 9 O O (fun S' _=>vi O fun K hK=>vl O O (by omega) (by omega) hK) (vk 10 O O (fun S' hS'=>vi O fun K hK=>zF O (zH (hS' O) (by simp) (H.cell .h hy20)) hK) (vk 11 O O (fun S' hS'=>vi O fun K hK=>zV O (zK (hS' O) (by simp) (H.cells (vs:=[_]) .h2 O)) hK) (vk 12 O O (fun S' _=>vi O fun K hK=>vB O hK) (zA 13 (by kernel_rfl) O O (step_yes O (zT O (ct98 (hG.mono H.qx) (hs.mono H.qx) hcp (by omega) (hsh x (List.mem_of_getElem? hx)) fun S hE =>?_)))))))))
       replace H:=H.call hE
       refine ⟨fun _=>hE.up.ext,zCm 14 O O (fun S' _=>vi O fun K hK=>W_neSd O O hK) fun t58 h58=>vO 15 O O (fun _ _ hK=>W_pick O O O O hK) (zY (ze ?_))⟩
       rcases t58 with _|_
       ·replace h58:=bF h58
        refine zn O (zt (vc (ze (zL (zAd O O (zj O (zN ?_)))))))
        refine ⟨_,_,?lt,?le,(i+1),O,H,(by omega),(fun j u v hj hu hv=>by
         by_cases hji:j<i
         ·exact hp j u v hji hu hv
         ·obtain rfl:j=i:=by omega
          rw [hx] at hu;rw [hy] at hv;cases hu;cases hv
          first | exact .inl (Classical.not_not.1 h49) | exact .inr (Classical.not_not.1 h58)),rfl⟩
        case lt=>omega
        case le=>exact Env.qle ⟨O,O,O,O,O,O,O,⟨⟩⟩
       ·replace h58:=bT h58
        refine zr O (zR (zj O (zN (zh (vd (zv (zv (vd (zv (zP O ?_))))))))))
        exact k _ _ H.qx ⟨nofun,fun h=>by rcases h.2.2.2 i x y hx hy with h | h;exact absurd h h49;exact absurd h h58⟩
   ·replace h35:=bT h35
    refine zr O (zR (zj O (zN (zh (zv (zP O ?_))))))
    exact k _ _ H.qx ⟨nofun,fun h=>by have:=h.2.2.1;omega⟩
  ·replace h30:=bT h30
   refine zJ O (zJ O (zJ O (vp O O O O (zN (zr O (zR (zj O (zN (zh (zv (zP O ?_)))))))))))
   exact k _ _ H.qx ⟨nofun,fun h=>absurd h.2.1 h30⟩
 ·replace h27:=bT h27
  refine zJ O (zJ O (vp O O O O (zj O (zJ O (zJ O (zJ O (vp O O O O (zN (zr O (zR (zj O (zN (zh (zv (zP O ?_)))))))))))))))
  exact k _ _ H.qx ⟨nofun,fun h=>by have:=h.1;omega⟩
end
section
variable {S0:St} {K:Value→St→Prop}
variable {rs:List Rule} {cap:Nat} {a:Option Addr} {x:Rule}
theorem ct144  (k:∀ (t:Bool) S',Ext [] S0 S'→(t=true↔RuleP x)→K (.bool t) S') :
  zC 144 #[x.v] S0 K:=by
 refine zGh (sf:=s144) Tryz.func144 fun H=>zR (zBx H O O fun b1 S hb1 hE H=>zj O (vA (vt O (zL1 H O .h O (zCl O (ct156  fun t5 S hE h5=>?_))))))
 replace H:=H.call hE
 refine zj O ?_
 rcases t5 with _|_
 ·replace h5:=bF h5
  refine zJ O (zJ O (zJ O (vp O O O O (zj O (zJ O (zJ O (zJ O (zJ O (zJ O (vp O O O O (zj O (zJ O (zJ O (zJ O (vp O O O O (zj O (zJ O (zJ O (zJ O (vp O O O O (zj O (zJ O (zJ O (zJ O (zJ O (zJ O (vp O O O O (zj O ?_))))))))))))))))))))))))))))
  refine zJ O (zJ O (zJ O (vp O O O O (zj O (zJ O (zJ O (zJ O (vp O O O O (zj O (zJ O (zJ O (zJ O (zJ O (zJ O (vp O O O O (zj O (zN (zh (zP O ?_)))))))))))))))))))
  exact k _ _ H.qx (by unfold RuleP;first | (rw [h50];omega) | (simp;omega) | (simp_all;omega))
 ·replace h5:=bT h5
  refine zi O (zy O (zi O (vh H O .h O (zi O (zT O (ct156  fun t9 S hE h9=>?_))))))
  replace H:=H.call hE
  refine vp O O O O (zj O ?_)
  rcases t9 with _|_
  ·replace h9:=bF h9
   refine zJ O (zJ O (zJ O (zJ O (zJ O (vp O O O O (zj O (zJ O (zJ O (zJ O (vp O O O O (zj O (zJ O (zJ O (zJ O (vp O O O O (zj O (zJ O (zJ O (zJ O (zJ O (zJ O (vp O O O O (zj O (zJ O (zJ O (zJ O (vp O O O O (zj O ?_))))))))))))))))))))))))))))
   refine zJ O (zJ O (zJ O (vp O O O O (zj O (zJ O (zJ O (zJ O (zJ O (zJ O (vp O O O O (zj O (zN (zh (zP O ?_))))))))))))))
   exact k _ _ H.qx (by unfold RuleP;first | (rw [h50];omega) | (simp;omega) | (simp_all;omega))
  ·replace h9:=bT h9
   refine zi O (zy O (zi O (vh H O .h O (zi O (zy O (zi O (vh H O .h O (zi O (W_leq O O fun t16 h16=>vp O O O O (zj O ?_))))))))))
   rcases t16 with _|_
   ·replace h16:=bF h16
    refine zJ O (zJ O (zJ O (vp O O O O (zj O (zJ O (zJ O (zJ O (vp O O O O (zj O (zJ O (zJ O (zJ O (zJ O (zJ O (vp O O O O (zj O (zJ O (zJ O (zJ O (vp O O O O (zj O (zJ O (zJ O (zJ O (vp O O O O (zj O (zJ O (zJ O ?_))))))))))))))))))))))))))))
    refine zJ O (zJ O (zJ O (vp O O O O (zj O (zN (zh (zP O ?_)))))))
    exact k _ _ H.qx (by unfold RuleP;first | (rw [h50];omega) | (simp;omega) | (simp_all;omega))
   ·replace h16:=bT h16
    refine zi O (zy O (zi O (vh H O .h O (zi O (zT O (ct173  fun t21 S hE h21=>?_))))))
    replace H:=H.call hE
    refine vp O O O O (zj O ?_)
    rcases t21 with _|_
    ·replace h21:=bF h21
     refine zJ O (zJ O (zJ O (vp O O O O (zj O (zJ O (zJ O (zJ O (zJ O (zJ O (vp O O O O (zj O (zJ O (zJ O (zJ O (vp O O O O (zj O (zJ O (zJ O (zJ O (vp O O O O (zj O (zJ O (zJ O (zJ O (zJ O (zJ O (vp O O O O (zj O ?_))))))))))))))))))))))))))))
     refine zN (zh (zP O ?_))
     exact k _ _ H.qx (by unfold RuleP;first | (rw [h50];omega) | (simp;omega) | (simp_all;omega))
    ·replace h21:=bT h21
     refine zi O (zy O (zi O (vh H O .h O (zi O (zT O (ct173  fun t26 S hE h26=>?_))))))
     replace H:=H.call hE
     refine vp O O O O (zj O ?_)
     rcases t26 with _|_
     ·replace h26:=bF h26
      refine zJ O (zJ O (zJ O (zJ O (zJ O (vp O O O O (zj O (zJ O (zJ O (zJ O (vp O O O O (zj O (zJ O (zJ O (zJ O (vp O O O O (zj O (zJ O (zJ O (zJ O (zJ O (zJ O (vp O O O O (zj O (zN (zh (zP O ?_))))))))))))))))))))))))))
      exact k _ _ H.qx (by unfold RuleP;first | (rw [h50];omega) | (simp;omega) | (simp_all;omega))
     ·replace h26:=bT h26
      refine zi O (zy O (zi O (vh H O .h O (zi O (zy O (zi O (vh H O .h O (zi O (W_leq O O fun t33 h33=>vp O O O O (zj O ?_))))))))))
      rcases t33 with _|_
      ·replace h33:=bF h33
       refine zJ O (zJ O (zJ O (vp O O O O (zj O (zJ O (zJ O (zJ O (vp O O O O (zj O (zJ O (zJ O (zJ O (zJ O (zJ O (vp O O O O (zj O (zN (zh (zP O ?_)))))))))))))))))))
       exact k _ _ H.qx (by unfold RuleP;first | (rw [h50];omega) | (simp;omega) | (simp_all;omega))
      ·replace h33:=bT h33
       refine zi O (zy O (zi O (vh H O .h O (zi O (zT O (ct157  fun t38 S hE h38=>?_))))))
       replace H:=H.call hE
       refine vp O O O O (zj O ?_)
       rcases t38 with _|_
       ·replace h38:=bF h38
        refine zJ O (zJ O (zJ O (vp O O O O (zj O (zJ O (zJ O (zJ O (zJ O (zJ O (vp O O O O (zj O (zN (zh (zP O ?_))))))))))))))
        exact k _ _ H.qx (by unfold RuleP;first | (rw [h50];omega) | (simp;omega) | (simp_all;omega))
       ·replace h38:=bT h38
        refine zi O (zy O (zi O (vh H O .h O (zi O (zT O (ct157  fun t43 S hE h43=>?_))))))
        replace H:=H.call hE
        refine vp O O O O (zj O ?_)
        rcases t43 with _|_
        ·replace h43:=bF h43
         refine zJ O (zJ O (zJ O (zJ O (zJ O (vp O O O O (zj O (zN (zh (zP O ?_)))))))))
         exact k _ _ H.qx (by unfold RuleP;first | (rw [h50];omega) | (simp;omega) | (simp_all;omega))
        ·replace h43:=bT h43
         refine zi O (zy O (zi O (vh H O .h O (zi O (zy O (zi O (vh H O .h O (zi O (W_leq O O fun t50 h50=>vp O O O O (zj O (zN (zh (zP O ?_)))))))))))))
         exact k _ _ H.qx (by unfold RuleP;first | (rw [h50];omega) | (simp;omega) | (simp_all;omega))
theorem ct143  (k:∀ (t:Bool) S',Ext [] S0 S'→(t=true↔¬ RuleP x)→K (.bool t) S') :
  zC 143 #[x.v] S0 K:=by
 refine zGh (sf:=s143) Tryz.func143 fun H=>zR (zBx H O O fun b1 S hb1 hE H=>zj O (vA (zLn (vs:=[_,_,_,_,_,_,_]) H O .h O (zCl O (ct144  fun t4 S hE h4=>?_)))))
 replace H:=H.call hE
 refine zNt O (zj O (zN (zh (zP O ?_))))
 exact k _ _ H.qx (by cases t4<;>simp_all)
theorem ct209 (hs:Sl S0 7 a (z5 rs)) (hl:rs.length≤1099511627776) (k:∀ (r:Int) S',Ext [] S0 S'→(0≤r↔∃ x∈rs,¬ RuleP x)→K (int r) S') :
  zC 209 #[.slice a rs.length cap,.func (.func 143) #[] #[]] S0 K:=by
 refine zGh (sf:=s209) Tryz.func209 fun H=>zR (zj O (zN (vz (zj O (zLl O (zj O (zN (zE ?_))))))))
 refine vg (fun E S m_=>∃ (i:Nat),E=Env.lst [(0,.slice a rs.length cap),(1,.func (.func 143) #[] #[]),(7,int rs.length),(8,int i)]∧Loc [] S0 S []∧(i≤rs.length)∧(∀ r∈rs.take i,RuleP r)∧m_=rs.length-i) ?_ ?_
 ·skip
  refine ⟨_,_,?le,0,O,H,(by omega),(by simp),O⟩
  case le=>exact Env.qle ⟨O,O,O,O,⟨⟩⟩
 ·skip
  rintro _ S _ ⟨i,rfl,H,hi,hp,rfl⟩
  refine zR (za (vq O O fun t9 h9=>zN (zB ?_)))
  rcases t9 with _|_
  ·replace h9:=bF h9
   refine zn O (vf (zM (zM (vn (ze (zR (zj O (zN (zh (zP O ?_))))))))))
   rw [show i=rs.length by omega,List.take_length] at hp
   exact k (-1) _ H.qx ⟨fun h=>by omega,fun ⟨x,h1,h2⟩=>absurd (hp x h1) h2⟩
  ·replace h9:=bT h9
   obtain ⟨x,hx⟩:∃ x,rs[i]? = some x:=⟨rs[i]'(by omega),by simp⟩
   obtain ⟨b,off,rfl,hc⟩:=hs.row i _ (ruleRows_at hx)
   refine zr O (zt (ze (zB (zE (zR (zj O (zj O (vA (zj O (zj O (zj O (zIa O O (za (zV (vs:=[_,_,_,_,_,_,_]) O (H.qx.cells hc) (za (W_callV O O ⟨_,_,_,_,O,Tryz.func143,O,O,ct143 (x:=x) fun t16 S hE h16=>?_⟩))))))))))))))))
   replace H:=H.call hE
   refine zN ?_
   rcases t16 with _|_
   ·replace h16:=bF h16
    refine zn O (zt (vc (ze (zL (zAd O O (zj O (zN ?_)))))))
    refine ⟨_,_,?lt,?le,(i+1),O,H,(by omega),(mem_take_succ hx hp (Classical.not_not.1 h16)),O⟩
    case lt=>omega
    case le=>exact Env.qle ⟨O,O,O,O,⟨⟩⟩
   ·replace h16:=bT h16
    refine zr O (zR (zj O (zj O (zN (zh (vd (zv (zv (vd (zv (zP O ?_)))))))))))
    exact k _ _ H.qx ⟨fun _=>⟨x,List.mem_of_getElem? hx,h16⟩,fun _=>by omega⟩
theorem ct142 (hs:Sl S0 7 a (z5 rs)) (hl:rs.length≤1099511627776) (k:∀ (t:Bool) S',Ext [] S0 S'→(t=true↔∃ x∈rs,¬ RuleP x)→K (.bool t) S') :
  zC 142 #[.slice a rs.length cap,.func (.func 143) #[] #[]] S0 K:=by
 refine zGh (sf:=s142) Tryz.func142 fun H=>zR (zj O (vA (zj O (zj O (zCl O (ct209 (hs.mono H.qx) (by omega) fun r7 S hE h7=>?_))))))
 replace H:=H.call hE
 refine za (W_geq O O fun t8 h8=>zj O (zN (zh (zP O ?_))))
 exact k _ _ H.qx (h8.trans h7)
theorem ct62 (hs:Sl S0 7 a (z5 rs)) (hl:rs.length≤1099511627776) (k:∀ (t:Bool) S',Ext [] S0 S'→(t=true↔RulesP rs)→K (.bool t) S') :
  zC 62 #[.slice a rs.length cap] S0 K:=by
 refine zGh (sf:=s62) Tryz.func62 fun H=>zR (zj O (vA (zj O (zLl O (za (W_leq O O fun t5 h5=>zj O ?_))))))
 rcases t5 with _|_
 ·replace h5:=bF h5
  refine zJ O (zJ O (zJ O (vp O O O O (zj O (zN (zh (zP O ?_)))))))
  first | exact k _ _ H.qx ⟨nofun,fun h=>absurd h.1 (by omega)⟩ | exact k _ _ H.qx (by
    cases t8 with
    | true=>exact ⟨nofun,fun h=>by obtain ⟨r,hr,hn⟩:=h8.1 rfl;exact absurd (h.2 r hr) hn⟩
    | false=>exact ⟨fun _=>⟨by omega,fun r hr=>Classical.byContradiction fun hn=>absurd (h8.2 ⟨r,hr,hn⟩) nofun⟩,fun _=>rfl⟩)
 ·replace h5:=bT h5
  refine zi O (vB O (zi O (zT O (ct142 (hs.mono H.qx) (by omega) fun t8 S hE h8=>?_))))
  replace H:=H.call hE
  refine zi O (W_not O (vp O O O O (zj O (zN (zh (zP O ?_))))))
  first | exact k _ _ H.qx ⟨nofun,fun h=>absurd h.1 (by omega)⟩ | exact k _ _ H.qx (by
    cases t8 with
    | true=>exact ⟨nofun,fun h=>by obtain ⟨r,hr,hn⟩:=h8.1 rfl;exact absurd (h.2 r hr) hn⟩
    | false=>exact ⟨fun _=>⟨by omega,fun r hr=>Classical.byContradiction fun hn=>absurd (h8.2 ⟨r,hr,hn⟩) nofun⟩,fun _=>rfl⟩)
theorem ct99 {l m:Bs} (hl:l.length≤1099511627776) (hm:m.length≤1099511627776) (k:∀ b cap S',Ext [] S0 S'→(S0 b=none)→(OwnB S' b 195 5 cap (spanRows (spansO l m)))→K (sl b 0 (spansO l m).length cap) S') :
  zC 99 #[str l,str m] S0 K:=by
 refine zGh (sf:=s99) Tryz.func99 fun H=>zR (zj O (vA (zj O (zCl O (ct35 (by omega) fun b17 cap17 S hE hb17 hO17=>?_)))))
 obtain ⟨cs17,ho17,hn17,hcl17,hct17,_⟩:=hO17
 replace H:=H.adopt hE hb17 ho17
 have hal:lsum (zD l).1+(zD l).2.length=l.length:=lsum_lines 59 l
 have hnl:(zD l).1.length≤l.length:=strLines_len l
 refine zj O (zEx O O (zEx O O (zj O (zj O (vA (zj O (zCl O (ct35 (by omega) fun b22 cap22 S hE hb22 hO22=>?_))))))))
 obtain ⟨cs22,ho22,hn22,hcl22,hct22,_⟩:=hO22
 replace H:=H.adopt hE hb22 ho22
 have hbl:lsum (zD m).1+(zD m).2.length=m.length:=lsum_lines 59 m
 have hnm:(zD m).1.length≤m.length:=strLines_len m
 refine zj O (zEx O O (zEx O O (zj O (zj O (vA (zj O (zLl O (zj O (zLl O (za (W_min2 O O ?_)))))))))))
 obtain ⟨n,hn0⟩:∃ n:Nat,n=min (zD l).1.length (zD m).1.length:=⟨_,rfl⟩
 rw [show min ((zD l).1.length:Int) ((zD m).1.length:Int)=(n:Int) by omega]
 refine zj O (vA (zj O (za (W_mkSlice H O O (Nat.zero_le _) (by omega) (by omega) fun b31 cs31 S hb31 H hE hcl31=>zj O (vA (zj O (zj O (zN (vz (zj O (zj O (zN (zE ?_)))))))))))))
 refine vg (fun E S m_=>∃ (i:Nat) (b10:Nat) (cap10:Nat) (cs10:List Value),E=Env.lst [(5,sl b17 0 (zD l).1.length cap17),(7,sl b22 0 (zD m).1.length cap22),(10,sl b10 0 i cap10),(11,int (lsum ((zD l).1.take i))),(12,int (lsum ((zD m).1.take i))),(32,int n),(33,int i)]∧Loc [] S0 S [(b10,Cs cs10 195),(b22,Cs cs22 9),(b17,Cs cs17 9)]∧(i≤n)∧(i≤cap10)∧(cs10.length=cap10*5)∧(cs10.take (i*5)=(spanRows (pairs ((zD l).1.take i) ((zD m).1.take i))).flatten)∧m_=n-i) ?_ ?_
 ·skip
  refine ⟨_,_,?le,0,b31,n,cs31,O,H,(by omega),(by omega),hcl31,(by simp [pairs,pairsF]),O⟩
  case le=>exact Env.qle ⟨O,O,O,O,O,O,O,⟨⟩⟩
 ·skip
  rintro _ S _ ⟨i,b10,cap10,cs10,rfl,H,hi1,hn,hcl,hct,rfl⟩
  refine zR (za (vq O O fun t34 h34=>zN (zB ?_)))
  rcases t34 with _|_
  ·replace h34:=bF h34
   refine zn O (vf (zM (zM (vn (ze (zR (zj O (zj O (zN (zh (zP O ?_)))))))))))
   have hin:i=n:=by omega
   rw [hin] at hct hn ⊢
   rw [pairs_min hn0] at hct
   have hpl:(spansO l m).length=n:=by rw [hn0];exact pairsF_len 0 0 _ _
   rw [← hpl] at hct hn ⊢
   exact k _ _ _ H.qx (H.new1 .h) ⟨_,H.get .h,by simpa using hn,hcl,by simpa [spansO] using hct,spanRows_five⟩
  ·replace h34:=bT h34
   obtain ⟨x,hx⟩:∃ x,(zD l).1[i]? = some x:=⟨(zD l).1[i]'(by omega),by simp⟩
   obtain ⟨y,hy⟩:∃ y,(zD m).1[i]? = some y:=⟨(zD m).1[i]'(by omega),by simp⟩
   have hx17:=str_at hct17 hx
   have hy22:=str_at hct22 hy
   have hx1:=lsum_take hx
   have hy1:=lsum_take hy
   have hx2:=lsum_take_le (zD l).1 (i+1)
   have hy2:=lsum_take_le (zD m).1 (i+1)
   have hpt:=pairs_take hx hy
   refine zr O (zt (ze (zB (zE (zR (zj O (zj O (zN (zB (z9 [] (vJ 0 O O O (vJ 1 O O O (vJ 2 O O O (vJ 3 O O O (vO 4 O O (fun _ _ hK=>vl O O (by omega) (by omega) hK) (vk 5 O O (fun S' hS'=>zG fun K hK=>zF O (zH (hS' O) (by simp) (H.cell .h2 hx17)) hK) (vO 6 O O (fun _ _ hK=>vG O hK) (vO 7 O O (fun _ _ hK=>W_add O O (by omega) (by omega) hK) (vO 8 O O (fun _ _ hK=>W_add O O (by omega) (by omega) hK) (vJ 9 O O O (vJ 10 O O O (vJ 11 O O O (vJ 12 O O O (vO 13 O O (fun _ _ hK=>vl O O (by omega) (by omega) hK) (vk 14 O O (fun S' hS'=>zG fun K hK=>zF O (zH (hS' O) (by simp) (H.cell .h1 hy22)) hK) (vO 15 O O (fun _ _ hK=>vG O hK) (vO 16 O O (fun _ _ hK=>W_add O O (by omega) (by omega) hK) (vO 17 O O (fun _ _ hK=>W_add O O (by omega) (by omega) hK) ?_))))))))))))))))))))))))))))
   refine vJ 18 O O O (vJ 19 O O O (vO 20 O O (fun _ _ hK=>vl O O (by omega) (by omega) hK) (vk 21 O O (fun S' hS'=>zG fun K hK=>zF O (zH (hS' O) (by simp) (H.cell .h2 hx17)) hK) (vJ 22 O O O (vJ 23 O O O (vO 24 O O (fun _ _ hK=>vl O O (by omega) (by omega) hK) (vk 25 O O (fun S' hS'=>zG fun K hK=>zF O (zH (hS' O) (by simp) (H.cell .h1 hy22)) hK) (zCm 26 O O (fun S' _=>zG fun K hK=>W_eqSd O O hK) fun t62 h62=>?_))))))))
   obtain rfl:t62=decide (y=x):=by rw [Bool.eq_iff_iff,h62,decide_eq_true_iff];exact eq_comm
   refine vO 27 O O (fun _ _ hK=>vL (cs:=[_,_,_,_,_]) O O hK) (zA 28 (by kernel_rfl) O O (zu (W_alloc H O fun b14 S hb14 hE H=>⟨fun _=>hE.up.ext,zA 29 (by kernel_rfl) O O (zu (zSt H O O O .h O fun S hE H=>zLd (zY (ze (zB (z9 [] (zLf 0 O O O (vk 1 O O (fun S' hS'=>zG fun K hK=>zF O (zH (hS' O) (by simp) (H.cell .h O)) hK) (zLf 2 O O O (vk 3 O O (fun S' hS'=>zG fun K hK=>zF O (zH (hS' O) (by simp) (H.cell .h O)) hK) (vJ 4 O O O (vJ 5 O O O (zY (ze (zL (zj O (zLn (vs:=[_,_,_,_,_]) H O .h O (za (z_ (cs:=[_,_,_,_,_]) H O O fun b70 S hb70 hE H=>za (W_append H O O .h2 hcl hn (Src.own H .h O) (by simp [oneCell]) O (by decide) (by omega) O fun b71 cap71 cs71 S hb71 H hE hn71 hcl71 hct71=>zj O (ve (vc (ze (zL ?_))))))))))))))))))))))))⟩)))
   refine zAd O O (zj O (zN ?_))
   refine ⟨_,_,?lt,?le,(i+1),b71,cap71,cs71,O,(H.sub (.cons_cons _ (.cons _ (.cons _ (.cons_cons _ (.cons_cons _ .slnil)))))),(by omega),hn71,hcl71,(hct71.trans (by rw [hct,hpt];simp only [spanRows,List.map_append,List.flatten_append,List.map_cons,List.map_nil,List.flatten_cons,List.flatten_nil,List.append_nil])),O⟩
   case lt=>omega
   case le=>exact Env.qle ⟨rfl,rfl,rfl,(by show some (int ((lsum ((zD l).1.take i):Nat)+(x.length:Nat)+1))=_;rw [hx1];congr 2),(by show some (int ((lsum ((zD m).1.take i):Nat)+(y.length:Nat)+1))=_;rw [hy1];congr 2),rfl,rfl,trivial⟩
end
section
variable {S0:St} {K:Value→St→Prop}
variable {q:Int} {sp:List Span} {b1 b2 c i:Nat} {a:Option Addr} {x:Span}
theorem ct185 {n:Nat} {v:Value} {p:Nat→Prop} (hn:n≤1099511627776) (hf:∀ (i:Nat) S,i<n→Ext [] S0 S→∀ K:Value→St→Prop,(∀ (t:Bool) S',Ext [] S S'→(t=true↔p i)→K (.bool t) S')→CallV Tryz.prog v [int i] S K) (hm:∀ i j:Nat,i≤j→j<n→p i→p j) (k:∀ (r:Nat) S',Ext [] S0 S'→(r≤n)→(∀ i:Nat,i<r→¬ p i)→(∀ i:Nat,r≤i→i<n→p i)→K (int r) S') :
  zC 185 #[int n,v] S0 K:=by
 refine zGh (sf:=s185) Tryz.func185 fun H=>zR (zj O (vA (zj O (zj O (zj O (zN (zB (zE ?_))))))))
 refine vg (fun E S m_=>∃ (i:Nat) (j:Nat),E=Env.lst [(1,v),(5,int i),(6,int j)]∧Loc [] S0 S []∧(i≤j)∧(j≤n)∧(∀ k:Nat,k<i→¬ p k)∧(∀ k:Nat,j≤k→k<n→p k)∧m_=j-i) ?_ ?_
 ·skip
  refine ⟨_,_,?le,0,n,O,H,(by omega),(by omega),(fun k h=>absurd h (by omega)),(fun k h1 h2=>absurd h2 (by omega)),O⟩
  case le=>exact Env.qle ⟨O,O,O,⟨⟩⟩
 ·skip
  rintro _ S _ ⟨i,j,rfl,H,hij,hjn,h1,h2,rfl⟩
  refine vz (zj O (zj O (za (vq O O fun t11 h11=>zN ?_))))
  rcases t11 with _|_
  ·replace h11:=bF h11
   refine zn O (vf (zM (zM (vn (ze (zR (zj O (zj O (zN (zh (zP O ?_)))))))))))
   obtain rfl:i=j:=by omega
   exact k i _ H.qx hjn h1 h2
  ·replace h11:=bT h11
   refine zr O (zt (ze (zE (zR (zj O (zj O (zAd O O (za (W_conv (m:=((i+j:Nat):Int)) O (by rw [wrapu64_in (by omega) (by omega)];simp) (za (W_shrU (j:=1) (m:=2) O O (by decide) (by decide) (za (W_conv (m:=(((i+j) / 2:Nat):Int)) O (wrap64_in (by omega) (by omega)) (zj O (vA (zj O (zj O (za (W_callV O O (hf _ _ (by omega) H.qx _ fun t20 S hE h20=>?_))))))))))))))))))))
   replace H:=H.call hE
   refine zNt O (zN ?_)
   rcases t20 with _|_
   ·replace h20:=bF h20
    refine zr O (zL (zj O (zAd O O (zj O (ve (vc (ze ?_)))))))
    refine ⟨_,_,?lt,?le,((i+j) / 2+1),j,O,H,(by omega),(by omega),(fun k hk hp=>h20 (hm k _ (by omega) (by omega) hp)),h2,O⟩
    case lt=>omega
    case le=>exact Env.qle ⟨O,O,O,⟨⟩⟩
   ·replace h20:=bT h20
    refine zn O (zL (zj O (zj O (ve (vc (ze ?_))))))
    refine ⟨_,_,?lt,?le,i,((i+j) / 2),O,H,(by omega),(by omega),h1,(fun k hk1 hk2=>hm _ k hk1 hk2 h20),O⟩
    case lt=>omega
    case le=>exact Env.qle ⟨O,O,O,⟨⟩⟩
theorem ct206 (h1:S0 b1=some ⟨Cs [.slice a sp.length c] 124,true⟩) (h2:S0 b2=some ⟨Cs [int q] 3,true⟩) (hs:Sl S0 5 a (spanRows sp)) (hx:sp[i]? = some x) (k:∀ (t:Bool) S',Ext [] S0 S'→(t=true↔q<x.t)→K (.bool t) S') :
  zC 206 #[int i,ptr b1 0,ptr b2 0] S0 K:=by
 refine zGh (sf:=s206) Tryz.func206 fun H=>?_
 have hi:=(List.getElem?_eq_some_iff.1 hx).1
 obtain ⟨b,off,rfl,hc⟩:=hs.row i _ (spanRows_at hx)
 refine zR (zj O (zN (zB (z9 [] (vk 0 O O (fun S' hS'=>zG fun K hK=>zF O (zH (hS' O) (by simp) (cell_of (H.qx.get h1) O)) hK) (vJ 1 O O O (vO 2 O O (fun _ _ hK=>vl O O (by omega) (by omega) hK) (zLf 3 O O O (vk 4 O O (fun S' hS'=>zG fun K hK=>zF O (zH (hS' O) (by simp) (vw (i:=1) (H.qx.cells hc) O)) hK) (vk 5 O O (fun S' hS'=>zG fun K hK=>zF O (zH (hS' O) (by simp) (cell_of (H.qx.get h2) O)) hK) (zCm 6 O O (fun S' _=>zG fun K hK=>W_bin O O O hK) fun t11 h11=>vJ 7 O O O (zY (ze (zh (zP O ?_)))))))))))))))
 exact k _ _ H.qx (h11.trans Iff.rfl)
theorem ct186 (h1:S0 b1=some ⟨Cs [.slice a sp.length c] 124,true⟩) (h2:S0 b2=some ⟨Cs [int q] 3,true⟩) (hs:Sl S0 5 a (spanRows sp)) (hx:sp[i]? = some x) (k:∀ (t:Bool) S',Ext [] S0 S'→(t=true↔q<x.ot)→K (.bool t) S') :
  zC 186 #[int i,ptr b1 0,ptr b2 0] S0 K:=by
 refine zGh (sf:=s186) Tryz.func186 fun H=>?_
 have hi:=(List.getElem?_eq_some_iff.1 hx).1
 obtain ⟨b,off,rfl,hc⟩:=hs.row i _ (spanRows_at hx)
 refine zR (zj O (zN (zB (z9 [] (vk 0 O O (fun S' hS'=>zG fun K hK=>zF O (zH (hS' O) (by simp) (cell_of (H.qx.get h1) O)) hK) (vJ 1 O O O (vO 2 O O (fun _ _ hK=>vl O O (by omega) (by omega) hK) (zLf 3 O O O (vk 4 O O (fun S' hS'=>zG fun K hK=>zF O (zH (hS' O) (by simp) (vw (i:=3) (H.qx.cells hc) O)) hK) (vk 5 O O (fun S' hS'=>zG fun K hK=>zF O (zH (hS' O) (by simp) (cell_of (H.qx.get h2) O)) hK) (zCm 6 O O (fun S' _=>zG fun K hK=>W_bin O O O hK) fun t11 h11=>vJ 7 O O O (zY (ze (zh (zP O ?_)))))))))))))))
 exact k _ _ H.qx (h11.trans Iff.rfl)
theorem ct132 (hs:Sl S0 5 a (spanRows sp)) (hl:sp.length≤1099511627776) (hsm:SpM sp) (k:∀  S',Ext [] S0 S'→K (int (outD 0 sp q)) S') :
  zC 132 #[.slice a sp.length c,int q] S0 K:=by
 refine zGh (sf:=s132) Tryz.func132 fun H=>zR (zBx H O O fun b2 S hb2 hE H=>zBx H O O fun b3 S hb3 hE H=>zj O (vA (zL1 H O .h1 O (zLl O (za (W_mkFunc O O ?_))))))
 refine za (zT O (ct185 (p:=fun i=>∀ x,sp[i]? = some x→q<x.t) (by omega) (fun i S1 hi hE1 K k=>⟨_,_,_,_,O,Tryz.func206,O,O,ct206 (sp:=sp) (hE1.get (H.get .h1)) (hE1.get (H.get .h)) ((hs.mono H.qx).mono hE1) (List.getElem?_eq_getElem hi) fun t S2 hE2 ht=>k t S2 hE2 (ht.trans ⟨fun h x hx=>by rw [List.getElem?_eq_getElem hi] at hx;cases hx;exact h,fun h=>h _ (List.getElem?_eq_getElem hi)⟩)⟩) (fun i j hij hj hp y hy=>by
  obtain ⟨x,hx⟩:∃ x,sp[i]? = some x:=⟨sp[i]'(by omega),by simp⟩
  have h1:=hp x hx
  have h2:=hsm i j x y hx hy hij
  omega) fun r9 S hE hr9 hlo9 hhi9=>?_))
 replace H:=H.call hE
 have hlo:∀ i x,i<r9→sp[i]? = some x→¬ q<x.t:=fun i x hi hx hq=>hlo9 i hi fun y hy=>by rw [hx] at hy;cases hy;exact hq
 refine zj O (zN (zB (zE (zR (zj O (zL1 H O .h1 O (zLl O (za (vq O O fun t14 h14=>zj O (zN ?_))))))))))
 rcases t14 with _|_
 ·replace h14:=bF h14
  refine zn O (zR (zj O (za (W_gtr O O fun t22 h22=>zj O (zN ?_)))))
  rcases t22 with _|_
  ·replace h22:=bF h22
   refine zn O (zt (vc (ze (zR (zj O (zN (zh (zP O ?_))))))))
   rw [outD_none (by omega)] at k
   exact k _ H.qx
  ·replace h22:=bT h22
   obtain ⟨x,hx⟩:∃ x,sp[r9-1]? = some x:=⟨sp[r9-1]'(by omega),by simp⟩
   obtain ⟨b,off,rfl,hc⟩:=hs.row (r9-1) _ (spanRows_at hx)
   have e1:((r9:Int)-1).toNat=r9-1:=by omega
   refine zr O (zR (zL1 H O .h1 O (zj O (zSb O O (zIa O O (vt O (za (zF O (vw (i:=3) (H.qx.cells (by rw [e1];exact hc)) O) (zj O (zN (zh (vd (zv (zP O ?_))))))))))))))
   rw [outD_last hlo (by omega) (by omega) hx] at k
   exact k _ H.qx
 ·replace h14:=bT h14
  obtain ⟨x,hx⟩:∃ x,sp[r9]? = some x:=⟨sp[r9]'(by omega),by simp⟩
  obtain ⟨b,off,rfl,hc⟩:=hs.row r9 _ (spanRows_at hx)
  have hqx:=hhi9 r9 (Nat.le_refl _) (by omega) x hx
  refine zr O (zR (zL1 H O .h1 O (zj O (zIa O O (vt O (za (zF O (vw (i:=2) (H.qx.cells hc) O) (zj O (zN (zh (vd (zv (zP O ?_)))))))))))))
  rw [outD_at hlo hx hqx] at k
  exact k _ H.qx
theorem ct100 (hs:Sl S0 5 a (spanRows sp)) (hl:sp.length≤1099511627776) (hq:-1099511627776≤q∧q≤1099511627776) (hb:∀ x∈sp,(0≤x.f∧x.f≤4398046511104)∧(0≤x.oa∧x.oa≤4398046511104)) (hsm:SpM sp) (k:∀  S',Ext [] S0 S'→K (int (backD 0 sp q)) S') :
  zC 100 #[.slice a sp.length c,int q] S0 K:=by
 refine zGh (sf:=s100) Tryz.func100 fun H=>zR (zBx H O O fun b2 S hb2 hE H=>zBx H O O fun b3 S hb3 hE H=>zj O (vA (zL1 H O .h1 O (zLl O (za (W_mkFunc O O ?_))))))
 refine za (zT O (ct185 (p:=fun i=>∀ x,sp[i]? = some x→q<x.ot) (by omega) (fun i S1 hi hE1 K k=>⟨_,_,_,_,O,Tryz.func186,O,O,ct186 (sp:=sp) (hE1.get (H.get .h1)) (hE1.get (H.get .h)) ((hs.mono H.qx).mono hE1) (List.getElem?_eq_getElem hi) fun t S2 hE2 ht=>k t S2 hE2 (ht.trans ⟨fun h x hx=>by rw [List.getElem?_eq_getElem hi] at hx;cases hx;exact h,fun h=>h _ (List.getElem?_eq_getElem hi)⟩)⟩) (fun i j hij hj hp y hy=>by
  obtain ⟨x,hx⟩:∃ x,sp[i]? = some x:=⟨sp[i]'(by omega),by simp⟩
  have h1:=hp x hx
  have h2:=hsm i j x y hx hy hij
  omega) fun r9 S hE hr9 hlo9 hhi9=>?_))
 replace H:=H.call hE
 have hlo:∀ i x,i<r9→sp[i]? = some x→¬ q<x.ot:=fun i x hi hx hq=>hlo9 i hi fun y hy=>by rw [hx] at hy;cases hy;exact hq
 refine zj O (zN (zB (zE (zB (z9 [] (vJ 0 O O O (vk 1 O O (fun S' hS'=>zG fun K hK=>zF O (zH (hS' O) (by simp) (H.cell .h1 O)) hK) (vO 2 O O (fun _ _ hK=>W_lenL O hK) (zCm 3 O O (fun S' _=>zG fun K hK=>W_bin O O O hK) fun t14 h14=>vJ 4 O O O ?_)))))))))
 rcases t14 with _|_
 ·replace h14:=bF h14
  refine vk 5 O O (fun S' _=>vo O (by decide)) (vk 6 O O (fun S' _=>vo O (by decide)) (vk 7 O O (fun S' _=>vo O (by decide)) (vk 8 O O (fun S' _=>vo O (by decide)) (vk 9 O O (fun S' _=>vo O (by decide)) (vO 10 O O (fun _ _ hK=>W_pick O O O O hK) (vJ 11 O O O (vk 12 O O (fun S' _=>vo O (by decide)) (vk 13 O O (fun S' _=>vo O (by decide)) (vk 14 O O (fun S' _=>vo O (by decide)) (vk 15 O O (fun S' _=>vo O (by decide)) (vk 16 O O (fun S' _=>vo O (by decide)) (vk 17 O O (fun S' _=>vo O (by decide)) (vk 18 O O (fun S' _=>vo O (by decide)) (vO 19 O O (fun _ _ hK=>W_pick O O O O hK) (vJ 20 O O O (zY (ze (zn O (zR (zj O (zL1 H O .h1 O (zLl O (za (vq O O fun t48 h48=>zj O (zN ?_)))))))))))))))))))))))))
  rcases t48 with _|_
  ·replace h48:=bF h48
   refine zn O (zR (zj O (za (W_gtr O O fun t56 h56=>zj O (zN ?_)))))
   rcases t56 with _|_
   ·replace h56:=bF h56
    refine zn O (zt (vc (ze (zR (zj O (zN (zh (zP O ?_))))))))
    rw [backD_none (by omega)] at k
    exact k _ H.qx
   ·replace h56:=bT h56
    obtain ⟨x,hx⟩:∃ x,sp[r9-1]? = some x:=⟨sp[r9-1]'(by omega),by simp⟩
    obtain ⟨b,off,rfl,hc⟩:=hs.row (r9-1) _ (spanRows_at hx)
    have e1:((r9:Int)-1).toNat=r9-1:=by omega
    refine zr O (zR (zL1 H O .h1 O (zj O (zSb O O (zIa O O (vt O (za (zF O (vw (i:=1) (H.qx.cells (by rw [e1];exact hc)) O) (zj O (zN (zh (vd (zv (zP O ?_))))))))))))))
    rw [backD_last hlo (by omega) (by omega) hx] at k
    exact k _ H.qx
  ·replace h48:=bT h48
   exact absurd h48 (by omega)
 ·replace h14:=bT h14
  obtain ⟨⟨xf,xt,xoa,xot,xpl⟩,hx⟩:∃ x,sp[r9]? = some x:=⟨sp[r9]'(by omega),by simp⟩
  obtain ⟨b,off,rfl,hc⟩:=hs.row r9 _ (spanRows_at hx)
  have hqx:=hhi9 r9 (Nat.le_refl _) (by omega) _ hx
  have hpl:xpl=true↔xpl=true:=Iff.rfl
  have hbx:=hb _ (List.mem_of_getElem? hx)
  simp only at hqx hbx
  refine vk 5 O O (fun S' hS'=>vi O fun K hK=>zF O (zH (hS' O) (by simp) (H.cell .h1 O)) hK) (vk 6 O O (fun S' _=>vi O fun K hK=>vB O hK) (vk 7 O O (fun S' _=>vi O fun K hK=>vl O O (by omega) (by omega) hK) (vk 8 O O (fun S' _=>vi O fun K hK=>zy O hK) (vk 9 O O (fun S' hS'=>vi O fun K hK=>zF O (zH (hS' O) (by simp) (vw (i:=4) (v:=.bool xpl) (H.qx.cells hc) O)) hK) (vO 10 O O (fun _ _ hK=>W_pick O O O O hK) (vJ 11 O O O ?_))))))
  rcases xpl with _|_
  ·replace hpl:=bF hpl
   refine vk 12 O O (fun S' _=>vo O (by decide)) (vk 13 O O (fun S' _=>vo O (by decide)) (vk 14 O O (fun S' _=>vo O (by decide)) (vk 15 O O (fun S' _=>vo O (by decide)) (vk 16 O O (fun S' _=>vo O (by decide)) (vk 17 O O (fun S' _=>vo O (by decide)) (vk 18 O O (fun S' _=>vo O (by decide)) (vO 19 O O (fun _ _ hK=>W_pick O O O O hK) (vJ 20 O O O (zY (ze (zn O (zR (zj O (zL1 H O .h1 O (zLl O (za (vq O O fun t48 h48=>zj O (zN ?_))))))))))))))))))
   rcases t48 with _|_
   ·replace h48:=bF h48
    exact absurd (by omega) h48
   ·replace h48:=bT h48
    refine zr O (zR (zL1 H O .h1 O (zj O (zIa O O (vt O (za (zF O (vw (i:=0) (v:=int xf) (H.qx.cells hc) O) (zj O (zN (zh (vd (zv (zP O ?_)))))))))))))
    rw [backD_at hlo hx hqx,if_neg (by first | exact fun h=>h29 h.2 | (intro h;exact absurd h.1 (by simp)))] at k
    exact k _ H.qx
  ·replace hpl:=bT hpl
   refine vk 12 O O (fun S' hS'=>vi O fun K hK=>zF O (zH (hS' O) (by simp) (H.cell .h O)) hK) (vk 13 O O (fun S' hS'=>vi O fun K hK=>zF O (zH (hS' O) (by simp) (H.cell .h1 O)) hK) (vk 14 O O (fun S' _=>vi O fun K hK=>vB O hK) (vk 15 O O (fun S' _=>vi O fun K hK=>vl O O (by omega) (by omega) hK) (vk 16 O O (fun S' _=>vi O fun K hK=>zy O hK) (vk 17 O O (fun S' hS'=>vi O fun K hK=>zF O (zH (hS' O) (by simp) (vw (i:=2) (v:=int xoa) (H.qx.cells hc) O)) hK) (zCm 18 O O (fun S' _=>vi O fun K hK=>W_bin O O O hK) fun t29 h29=>vO 19 O O (fun _ _ hK=>W_pick O O O O hK) (vJ 20 O O O (zY (ze ?_)))))))))
   rcases t29 with _|_
   ·replace h29:=bF h29
    refine zn O (zR (zj O (zL1 H O .h1 O (zLl O (za (vq O O fun t48 h48=>zj O (zN ?_)))))))
    rcases t48 with _|_
    ·replace h48:=bF h48
     exact absurd (by omega) h48
    ·replace h48:=bT h48
     refine zr O (zR (zL1 H O .h1 O (zj O (zIa O O (vt O (za (zF O (vw (i:=0) (v:=int xf) (H.qx.cells hc) O) (zj O (zN (zh (vd (zv (zP O ?_)))))))))))))
     rw [backD_at hlo hx hqx,if_neg (by first | exact fun h=>h29 h.2 | (intro h;exact absurd h.1 (by simp)))] at k
     exact k _ H.qx
   ·replace h29:=bT h29
    refine zr O (zB (z9 [] (vk 0 O O (fun S' hS'=>zG fun K hK=>zF O (zH (hS' O) (by simp) (H.cell .h1 O)) hK) (vJ 1 O O O (vO 2 O O (fun _ _ hK=>vl O O (by omega) (by omega) hK) (zLf 3 O O O (vk 4 O O (fun S' hS'=>zG fun K hK=>zF O (zH (hS' O) (by simp) (vw (i:=0) (v:=int xf) (H.qx.cells hc) O)) hK) (vk 5 O O (fun S' hS'=>zG fun K hK=>zF O (zH (hS' O) (by simp) (H.cell .h O)) hK) (vO 6 O O (fun _ _ hK=>W_add O O (by omega) (by omega) hK) (vk 7 O O (fun S' hS'=>zG fun K hK=>zF O (zH (hS' O) (by simp) (H.cell .h1 O)) hK) (vJ 8 O O O (vO 9 O O (fun _ _ hK=>vl O O (by omega) (by omega) hK) (zLf 10 O O O (vk 11 O O (fun S' hS'=>zG fun K hK=>zF O (zH (hS' O) (by simp) (vw (i:=2) (v:=int xoa) (H.qx.cells hc) O)) hK) (vO 12 O O (fun _ _ hK=>W_sub O O (by omega) (by omega) hK) (vJ 13 O O O (zY (ze (zh (vd (zv (zP O ?_))))))))))))))))))))))
    rw [backD_at hlo hx hqx,if_pos ⟨rfl,h29⟩] at k
    exact k _ H.qx
theorem ct38 {l m:Bs} (hl:l.length≤1099511627776) (hm:m.length≤1099511627776) (hq:-1099511627776≤q∧q≤1099511627776) (k:∀  S',Ext [] S0 S'→K (int (backD 0 (spansO l m) q)) S') :
  zC 38 #[str l,str m,int q] S0 K:=by
 refine zGh (sf:=s38) Tryz.func38 fun H=>zR (zj O (vA (zj O (zj O (zCl O (ct99 (by omega) (by omega) fun b9 cap9 S hE hb9 hO9=>?_))))))
 replace H:=H.call hE
 refine zj O (zCl O (ct100 hO9.sl (by have:=spansO_len l m;omega) hq (spansO_ok (by omega) (by omega)) (SpM_spansO l m) fun S hE =>?_))
 replace H:=H.call hE
 refine zj O (zN (zh (zP O ?_)))
 exact k _ H.qx
end
section
open Go
def encB (n:Nat):List UInt8:=(Utf8.encode (n:Int)).data.toList
theorem enc_all:(List.range 256).all (fun n=>decide (encB n=[59])==decide (n=59))=true:=by decide +kernel
theorem enc_t1 (n:Nat) (hn:n<256):(decide (encB n=[59])==decide (n=59))=true:=List.all_eq_true.1 enc_all n (List.mem_range.2 hn)
theorem enc_t2 (n:Nat) (hn:n<256):encB n=[59]↔n=59:=by
 have h:=enc_t1 n hn
 by_cases h1:encB n=[59]<;>by_cases h2:n=59<;>simp_all
theorem enc_c (c:UInt8):encB c.toNat=[59]↔c.toNat=59:=by
 have hlt:c.toNat<256:=c.toNat_lt
 generalize c.toNat=n at hlt ⊢
 exact enc_t2 n hlt
theorem ba_back (b:ByteArray) (l:List UInt8) (h:l=b.data.toList):(⟨l.toArray⟩:ByteArray)=b:=by subst h;rw [Array.toArray_toList]
theorem encB_eq (n:Nat):(⟨(encB n).toArray⟩:ByteArray)=Utf8.encode (n:Int):=ba_back _ _ (encB.eq_1 n)
theorem W_runeStr {P:Program} {E:Env} {S:St} {K:Value→St→Prop} {src dst ty:TypeId} {kd:IntKind} {x:Operand} {c:UInt8} (hs:P.underlying src=some (.int kd)) (hd:P.underlying dst=some .string) (hx:E.ev x=some (.int .i32 c.toNat)) (k:∀ l:List UInt8,(l=[59]↔c.toNat=59)→K (.string ⟨l.toArray⟩) S):(SOp.raw (.convert src dst x) ty).W P E S K:=by
 have h2:=k (encB c.toNat) (enc_c c)
 rw [encB_eq] at h2
 refine .mk fun ρ hρ=>?_
 have h1:=hρ x (by simp [Op.operands]) _ hx
 simp only [execOp,h1,convert,zw,zO hs,zO hd,Conv.intToString,zz,UponS]
 exact h2
end
section
open Go
theorem W_send {P:Program} {E:Env} {S:St} {K:Value→St→Prop} {ty:TypeId} {x y:Operand} {c:Nat} {v:Value} {vs:List Value} (hx:E.ev x=some (.chan (some c))) (hy:E.ev y=some v) (hg:S.g=.sends c (v::vs)) (k:K undef {S with g:=.sends c vs}):(SOp.raw (.send x y) ty).W P E S K:=
 .comm fun ρ hρ=>⟨c,v,vs,hρ x (by simp [Op.operands]) _ hx,hρ y (by simp [Op.operands]) _ hy,hg,k⟩
theorem Loc.sent {X:List Nat} {S0 S:St} {L:List (Nat × Obj)} (H:Loc X S0 S L) (g:Gh):Loc X {S0 with g:=g} {S with g:=g} L:=
 ⟨⟨rfl,H.g.keep,H.g.ro,H.g.new⟩,H.ext,H.own,H.fresh,H.nodup⟩
theorem Loc.quiet {X:List Nat} {S0 S:St} {L:List (Nat × Obj)} (H:Loc X S0 S L) {g:Gh} (hg:S0.g=g):Loc X {S0 with g:=g} S L:=
 ⟨⟨H.g.eq.trans hg,H.g.keep,H.g.ro,H.g.new⟩,H.ext,H.own,H.fresh,H.nodup⟩
theorem Glob.ne {S:St} (h:Glob S) {b:Nat} (hb:S b=none):b∉[1,2,4]:=by
 obtain ⟨t,a,e1⟩:=h.e1
 obtain ⟨t2,a2,e2⟩:=h.e2
 have e4:=h.p2
 intro hm
 simp only [List.mem_cons,List.not_mem_nil,or_false] at hm
 rcases hm with rfl | rfl | rfl
 ·simp [St.cell?,hb] at e1
 ·simp [St.cell?,hb] at e2
 ·simp [St.cell?,hb] at e4
theorem Glob.qy {S S':St} (h:Glob S) {n:Nat} (he:Ext [n] S S') (hn:n∉[1,2,4]):Glob S':=by
 simp only [List.mem_cons,List.not_mem_nil,or_false,not_or] at hn
 obtain ⟨t,a,e1⟩:=h.e1
 obtain ⟨t2,a2,e2⟩:=h.e2
 exact ⟨zH he.ext (by simp;omega) h.p2,zH he.ext (by simp;omega) h.p3,⟨t,a,zH he.ext (by simp;omega) e1⟩,⟨t2,a2,zH he.ext (by simp;omega) e2⟩⟩
theorem Sl.sent {S:St} {k:Nat} {a:Option Addr} {rows:List (List Value)} (h:Sl S k a rows) (g:Gh):Sl {S with g:=g} k a rows:=⟨h.row,h.base⟩
theorem cutS_len (s:Seg) (far:Bs):∀ n a,far.length-a≤n→(cutS s far a).length≤n:=by
 intro n
 induction n with
 | zero=>intro a h;rw [cutS_end (by omega)];simp
 | succ n ih=>
  intro a h
  by_cases h1:a<far.length
  ·rw [cutS_step h1]
   have:=ih (a+12) (by omega)
   simp;omega
  ·rw [cutS_end h1];simp
theorem cutO_len (s:Seg) (far:Bs) (a:Nat):(cutO s far a).length≤far.length+1:=by
 unfold cutO
 split
 ·have:=cutS_len s far far.length a (by omega);omega
 ·simp
theorem says_len {l:Bs} {e:End} (h:says l=some e):8≤l.length:=by
 unfold says at h
 obtain ⟨x,hx,_⟩:=Option.bind_eq_some_iff.1 h
 unfold said at hx
 split at hx
 ·rename_i hp
  have h1:=rd_spec hx
  have h2:=hp.length_le
  have h3:l.drop 5=eTxt x.a x.p:=h1.2
  have h4:=congrArg List.length h3
  have h5:=dig_pos x.a.toNat
  have h6:=dig_pos x.p.toNat
  have h7:PORT.length=5:=rfl
  unfold eTxt at h4
  simp at h4
  omega
 ·cases hx
theorem putP_bd {es:List End} {e:End} (h:es.length≤6):0≤putP es e∧putP es e≤506:=by
 unfold putP portE
 split
 ·rename_i hm;have:=List.idxOf_lt_length_of_mem hm;omega
 ·split<;>omega
theorem line_len {p:Int} (h:0≤p∧p≤9999):(⟨50,p⟩:End).line.length≤12:=by
 unfold End.line
 split
 ·have h1:(dig p.toNat).length≤4:=dig_le4 (by omega)
  have h2:dig (50:Int).toNat=[53,48]:=by decide +kernel
  unfold End.txt eTxt
  simp only [List.length_append,h2]
  have:PORT.length=5:=rfl
  simp;omega
 ·simp
theorem lineOut_grow {es:List End} {l:Bs} (h:es.length≤6):2*((vE es l).2.length+1)≤3*(l.length+1):=by
 unfold vE
 split
 ·show 2*(l.length+1)≤3*(l.length+1);omega
 ·rename_i e he
  have h1:=says_len he
  simp only
  split
  ·have:NONE.length=4:=rfl
   omega
  ·have:=line_len (p:=putP es e) (by have:=putP_bd (e:=e) h;omega)
   omega
theorem linesOut_grow {es:List End} (ls:List Bs) (h:es.length≤6):2*(linesOut es ls).2.length≤3*lsum ls:=by
 induction ls generalizing es with
 | nil=>simp [linesOut]
 | cons l ls ih=>
  have h1:=lineOut_grow (l:=l) h
  have h2:=ih (lineOut_len6 l h)
  simp only [linesOut,List.length_append,List.length_cons,List.length_nil,lsum,List.map_cons,List.sum_cons] at h2 ⊢
  omega
theorem streamO_grow {es:List End} {l:Bs} (h:es.length≤6) (hl:l.length≤120):(vr es l).2.length≤180:=by
 have h1:=linesOut_grow (es:=es) (zD l).1 h
 have h2:=lsum_lines 59 l
 unfold vr
 simp only [zD] at *
 omega
theorem pairsF_pl (a b:Nat) (ls ms:List Bs):∀ x∈pairsF a b ls ms,x.pl=true→x.t-x.f=x.ot-x.oa:=by
 induction ls generalizing a b ms with
 | nil=>simp [pairsF]
 | cons l ls ih=>
  cases ms with
  | nil=>simp [pairsF]
  | cons m ms=>
   intro x hx hp
   simp only [pairsF,List.mem_cons] at hx
   rcases hx with rfl | hx
   ·simp only [decide_eq_true_eq] at hp
    subst hp
    simp only;omega
   ·exact ih _ _ _ x hx hp
theorem backD_bd {B:Int}:∀ {sp:List Span} {n a:Int},(0≤n∧n≤B)→(∀ x∈sp,(0≤x.f∧x.f≤x.t∧x.t≤B)∧(x.pl=true→x.t-x.f=x.ot-x.oa))→0≤backD n sp a∧backD n sp a≤B:=by
 intro sp
 induction sp with
 | nil=>intro n a h _;exact h
 | cons x sp ih=>
  intro n a h hx
  have h1:=hx x (by simp)
  simp only [backD]
  split
  ·exact ih (by omega) fun y hy=>hx y (by simp [hy])
  ·split
   ·rename_i h2;have:=h1.2 h2.1;omega
   ·omega
theorem backO_bd (l m:Bs) (a:Int):0≤backD 0 (spansO l m) a∧backD 0 (spansO l m) a≤l.length:=
 backD_bd (by omega) fun x hx=>⟨by have:=spansO_bd l m x hx;omega,pairsF_pl 0 0 _ _ x hx⟩
open Classical in
noncomputable def addedS (l:Bs) (s:Seg):Bs:=if StrP (grown l s) then grown l s else l
theorem addedS_ok {l:Bs} {s:Seg} (h:StrP l):StrP (addedS l s):=by
 unfold addedS;split
 ·assumption
 ·exact h
theorem knownC_eq (c:Conn) (s:Seg):vI c s={c with kn:=addedS c.kn s}:=by
 unfold vI addedS;split<;>rfl
theorem StrP.lines {l:Bs} (h:StrP l):∀ y∈(zD l).1,y.length≤18:=fun y hy=>by have:=(h.1 y hy).2;omega
theorem StrP_nil:StrP []:=⟨by simp [zD,spl],⟨by simp [zD,spl],by simp [zD,spl]⟩,by simp⟩
theorem setl_one {cs:List Value} {p:Nat} {v:Value} (h:p<cs.length):setl cs p [v]=cs.set p v:=by
 unfold setl
 apply List.ext_getElem?
 intro q
 simp only [List.length_cons,List.length_nil,List.append_assoc]
 rw [List.getElem?_append,List.getElem?_set]
 have hl:(cs.take p).length=p:=by simp;omega
 by_cases h1:q<p
 ·rw [if_pos (by omega),List.getElem?_take,if_pos h1,if_neg (by omega)]
 ·rw [if_neg (by omega),hl]
  by_cases h2:p=q
  ·subst h2
   simp [h]
  ·rw [if_neg h2,List.getElem?_append,if_neg (by simp;omega),List.getElem?_drop]
   congr 1
   simp;omega
theorem row_cell {k i j:Nat} {cs:List Value} {rows:List (List Value)} {r:List Value} {v:Value} (h:cs.take (rows.length*k)=rows.flatten) (hk:∀ r∈rows,r.length=k) (hr:rows[i]? = some r) (hj:j<k):(setl cs (i*k+j) [v]).take (rows.length*k)=(rows.set i (r.set j v)).flatten:=by
 have hi:=(List.getElem?_eq_some_iff.1 hr).1
 have hrl:=hk r (List.mem_of_getElem? hr)
 have hle:i*k+k≤rows.length*k:=by
  have:=Nat.mul_le_mul_right k (show i+1≤rows.length by omega)
  rw [Nat.add_mul] at this;omega
 have hcl:rows.length*k≤cs.length:=by
  have:=congrArg List.length h
  rw [List.length_take,flat_len hk] at this;omega
 have hsub:subl cs (i*k) k=some r:=by have:=row_sub h hk hr;rwa [Nat.zero_add] at this
 have hsb:i*k+k≤cs.length∧(cs.drop (i*k)).take k=r:=by
  unfold subl at hsub
  split at hsub
  ·exact ⟨by assumption,Option.some.inj hsub⟩
  ·cases hsub
 have e:setl cs (i*k+j) [v]=setl cs (i*k) (r.set j v):=by
  rw [setl_one (by omega)]
  unfold setl
  apply List.ext_getElem?
  intro q
  have hl:(cs.take (i*k)).length=i*k:=by simp;omega
  simp only [List.append_assoc,List.length_set,hrl]
  rw [List.getElem?_append,List.getElem?_set,hl]
  by_cases h1:q<i*k
  ·rw [if_neg (by omega),if_pos h1,List.getElem?_take,if_pos h1]
  ·rw [if_neg h1,List.getElem?_append,List.length_set,hrl]
   by_cases h2:q-i*k<k
   ·rw [if_pos h2,List.getElem?_set]
    by_cases h3:i*k+j=q
    ·rw [if_pos h3,if_pos (by omega),if_pos (by omega),if_pos (by omega)]
    ·rw [if_neg h3,if_neg (by omega),← hsb.2,List.getElem?_take,if_pos h2,List.getElem?_drop]
     congr 1;omega
   ·rw [if_neg h2,if_neg (by omega),List.getElem?_drop]
    congr 1;omega
 rw [e]
 have h9:=row_setl (r:=r.set j v) h hk (by rw [List.length_set];exact hrl) hi
 rw [Nat.zero_add,List.length_set] at h9
 exact h9
end
section
variable {S0:St} {K:Value→St→Prop}
variable {l:Bs} {s:Seg}
theorem wrapi32_in {n:Int} (h0:0≤n) (h1:n≤255):IntKind.i32.wrap n=n:=by
 simp only [IntKind.wrap,IntKind.signed,IntKind.bits,Bool.true_and]
 have e:n.emod (2 ^ 32)=n:=Int.emod_eq_of_lt h0 (by omega)
 (simp only [show n % 2 ^ 32=n from e];simp;omega)
theorem ct31 (hl:s.dt.length≤1099511627776) (k:∀ (t:Bool) S',Ext [] S0 S'→(t=true↔SegP s)→K (.bool t) S') :
  zC 31 #[s.v] S0 K:=by
 refine zGh (sf:=s31) Tryz.func31 fun H=>zR (zBx H O O fun b1 S hb1 hE H=>zj O (zN (vz (vt O (zL1 H O .h O (za (W_strBytes H O fun b7 cap7 S hc7 hb7 hE H=>zLl O (zj O (zN (zE ?_))))))))))
 refine vg (fun E S m_=>∃ (i:Nat),E=Env.lst [(1,ptr b1 0),(7,sl b7 0 s.dt.length cap7),(8,int s.dt.length),(9,int i)]∧Loc [] S0 S [(b7,BytesO s.dt cap7 5),(b1,Cs s.row 33)]∧(i≤s.dt.length)∧(∀ c∈s.dt.take i,SegB c)∧m_=s.dt.length-i) ?_ ?_
 ·skip
  refine ⟨_,_,?le,0,O,H,(by omega),(by simp),O⟩
  case le=>exact Env.qle ⟨O,O,O,O,⟨⟩⟩
 ·skip
  rintro _ S _ ⟨i,rfl,H,hi,hp,rfl⟩
  refine zR (za (vq O O fun t10 h10=>zN (zB ?_)))
  rcases t10 with _|_
  ·replace h10:=bF h10
   refine zn O (vf (zM (zM (vn (ze (zR (vt O (zLn (vs:=[_,_]) H O .h1 O (zCl O (ct89  fun t25 S hE h25=>?_))))))))))
   replace H:=H.call hE
   refine zj O ?_
   rcases t25 with _|_
   ·replace h25:=bF h25
    refine zJ O (zJ O (zJ O (vp O O O O (zj O (zJ O (zJ O (zJ O (vp O O O O (zj O (zJ O (zJ O (zJ O (vp O O O O (zj O (zJ O (zJ O (zJ O (zJ O (vp O O O O (zj O (zN (zh (zP O ?_)))))))))))))))))))))))
    (rw [show i=s.dt.length by omega,List.take_length] at hp;exact k _ _ H.qx (by unfold SegP;first | (rw [h45];exact ⟨fun h=>⟨h25,h29,h34,h39,by omega,hp⟩,fun h=>by have:=h.2.2.2.2.1;omega⟩) | exact ⟨nofun,fun h=>absurd h.1 h25⟩ | exact ⟨nofun,fun h=>absurd h.2.1 h29⟩ | exact ⟨nofun,fun h=>absurd h.2.2.1 h34⟩ | exact ⟨nofun,fun h=>absurd h.2.2.2.1 h39⟩))
   ·replace h25:=bT h25
    refine zi O (zy O (zi O (W_loadN (vs:=[_,_]) H O .h1 O (zi O (zT O (ct89  fun t29 S hE h29=>?_))))))
    replace H:=H.call hE
    refine vp O O O O (zj O ?_)
    rcases t29 with _|_
    ·replace h29:=bF h29
     refine zJ O (zJ O (zJ O (vp O O O O (zj O (zJ O (zJ O (zJ O (vp O O O O (zj O (zJ O (zJ O (zJ O (zJ O (vp O O O O (zj O (zN (zh (zP O ?_))))))))))))))))))
     (rw [show i=s.dt.length by omega,List.take_length] at hp;exact k _ _ H.qx (by unfold SegP;first | (rw [h45];exact ⟨fun h=>⟨h25,h29,h34,h39,by omega,hp⟩,fun h=>by have:=h.2.2.2.2.1;omega⟩) | exact ⟨nofun,fun h=>absurd h.1 h25⟩ | exact ⟨nofun,fun h=>absurd h.2.1 h29⟩ | exact ⟨nofun,fun h=>absurd h.2.2.1 h34⟩ | exact ⟨nofun,fun h=>absurd h.2.2.2.1 h39⟩))
    ·replace h29:=bT h29
     refine zi O (zy O (zi O (vh H O .h1 O (zi O (zT O (ct70  fun t34 S hE h34=>?_))))))
     replace H:=H.call hE
     refine vp O O O O (zj O ?_)
     rcases t34 with _|_
     ·replace h34:=bF h34
      refine zJ O (zJ O (zJ O (vp O O O O (zj O (zJ O (zJ O (zJ O (zJ O (vp O O O O (zj O (zN (zh (zP O ?_)))))))))))))
      (rw [show i=s.dt.length by omega,List.take_length] at hp;exact k _ _ H.qx (by unfold SegP;first | (rw [h45];exact ⟨fun h=>⟨h25,h29,h34,h39,by omega,hp⟩,fun h=>by have:=h.2.2.2.2.1;omega⟩) | exact ⟨nofun,fun h=>absurd h.1 h25⟩ | exact ⟨nofun,fun h=>absurd h.2.1 h29⟩ | exact ⟨nofun,fun h=>absurd h.2.2.1 h34⟩ | exact ⟨nofun,fun h=>absurd h.2.2.2.1 h39⟩))
     ·replace h34:=bT h34
      refine zi O (zy O (zi O (vh H O .h1 O (zi O (zT O (ct70  fun t39 S hE h39=>?_))))))
      replace H:=H.call hE
      refine vp O O O O (zj O ?_)
      rcases t39 with _|_
      ·replace h39:=bF h39
       refine zJ O (zJ O (zJ O (zJ O (vp O O O O (zj O (zN (zh (zP O ?_))))))))
       (rw [show i=s.dt.length by omega,List.take_length] at hp;exact k _ _ H.qx (by unfold SegP;first | (rw [h45];exact ⟨fun h=>⟨h25,h29,h34,h39,by omega,hp⟩,fun h=>by have:=h.2.2.2.2.1;omega⟩) | exact ⟨nofun,fun h=>absurd h.1 h25⟩ | exact ⟨nofun,fun h=>absurd h.2.1 h29⟩ | exact ⟨nofun,fun h=>absurd h.2.2.1 h34⟩ | exact ⟨nofun,fun h=>absurd h.2.2.2.1 h39⟩))
      ·replace h39:=bT h39
       refine zi O (zy O (zi O (vh H O .h1 O (zi O (vG O (zi O (W_leq O O fun t45 h45=>vp O O O O (zj O (zN (zh (zP O ?_)))))))))))
       (rw [show i=s.dt.length by omega,List.take_length] at hp;exact k _ _ H.qx (by unfold SegP;first | (rw [h45];exact ⟨fun h=>⟨h25,h29,h34,h39,by omega,hp⟩,fun h=>by have:=h.2.2.2.2.1;omega⟩) | exact ⟨nofun,fun h=>absurd h.1 h25⟩ | exact ⟨nofun,fun h=>absurd h.2.1 h29⟩ | exact ⟨nofun,fun h=>absurd h.2.2.1 h34⟩ | exact ⟨nofun,fun h=>absurd h.2.2.2.1 h39⟩))
  ·replace h10:=bT h10
   obtain ⟨c,hc⟩:∃ c,s.dt[i]? = some c:=⟨s.dt[i]'(by omega),by simp⟩
   have hc256:c.toNat<256:=c.toNat_lt
   refine zr O (zt (ze (zB (zE (zR (zIa O O (za (zF O (H.byteAt .h hc) (zj O (vA (zj O (zCl O (ct88  fun t14 S hE h14=>?_)))))))))))))
   replace H:=H.call hE
   refine zNt O (zj O ?_)
   rcases t14 with _|_
   ·replace h14:=bF h14
    refine zi O (vB O (zi O (W_conv (m:=(c.toNat:Int)) O (wrapi32_in (by omega) (by omega)) (zi O (W_runeStr Tryz.underlying21 Tryz.underlying9 O fun l19 hl0=>?_)))))
    have hl19:l19=[59]↔c=59:=hl0.trans ⟨fun h=>UInt8.toNat_inj.1 h,fun h=>by rw [h];rfl⟩
    refine zi O (W_neS O O fun t20 h20=>vp O O O O (zN ?_))
    rcases t20 with _|_
    ·replace h20:=bF h20
     refine zn O (zt (vc (ze (zL (zAd O O (zj O (zN ?_)))))))
     refine ⟨_,_,?lt,?le,(i+1),O,H,(by omega),(mem_take_succ hc hp (by first | exact .inl h14 | exact .inr (hl19.1 (Classical.not_not.1 h20)))),O⟩
     case lt=>omega
     case le=>exact Env.qle ⟨O,O,O,O,⟨⟩⟩
    ·replace h20:=bT h20
     refine zr O (zR (zj O (zN (zh (vd (zv (zv (vd (zv (zP O ?_))))))))))
     exact k _ _ H.qx ⟨nofun,fun h=>by rcases h.2.2.2.2.2 c (List.mem_of_getElem? hc) with h | h;exact absurd h h14;exact absurd (hl19.2 h) h20⟩
   ·replace h14:=bT h14
    refine zJ O (zJ O (zJ O (zJ O (vp O O O O (zN (zn O (zt (vc (ze (zL (zAd O O (zj O (zN ?_)))))))))))))
    refine ⟨_,_,?lt,?le,(i+1),O,H,(by omega),(mem_take_succ hc hp (by first | exact .inl h14 | exact .inr (hl19.1 (Classical.not_not.1 h20)))),O⟩
    case lt=>omega
    case le=>exact Env.qle ⟨O,O,O,O,⟨⟩⟩
theorem ct21 (hl:l.length≤524288) (hd:s.dt.length≤1048576) (hsq:-1099511627776≤s.sq∧s.sq≤1099511627776) (k:∀  S',Ext [] S0 S'→K (str (grown l s)) S') :
  zC 21 #[str l,s.v] S0 K:=by
 refine zGh (sf:=s21) Tryz.func21 fun H=>zR (zBx H O O fun b3 S hb3 hE H=>zj O (zN (vz (vt O (zL1 H O .h O (zj O (za (vG O (zCl O (ct70  fun t9 S hE h9=>?_))))))))))
 replace H:=H.call hE
 refine zNt O (zj O ?_)
 rcases t9 with _|_
 ·replace h9:=bF h9
  refine zJ O (zJ O (zJ O (zJ O (zJ O (zJ O (zJ O (zJ O (zJ O (vp O O O O (zN (zr O (zR (zj O (zj O (zN (zh (zv (zP O ?_))))))))))))))))))
  have e:grown l s=l:=by unfold grown;rw [if_pos (by omega)]
  rw [e] at k
  exact k _ H.qx
 ·replace h9:=bT h9
  refine zi O (zy O (zi O (vh H O .h O (zi O (zy O (zi O (vh H O .h O (zi O (vG O (zi O (W_add O O (by omega) (by omega) (zi O (vB O (zi O (vG O (zi O (W_leq O O fun t20 h20=>vp O O O O (zN ?_))))))))))))))))))
  rcases t20 with _|_
  ·replace h20:=bF h20
   refine zn O (zt (ze (zR (zj O (vt O (zL1 H O .h O (zj O (za (vG O (vt O (zL1 H O .h O (zSb O O (za (W_slSlo O O (by omega) (by omega) (za (W_catS O O (by simp;omega) (zCl O (ct71 (by simp;omega) fun S hE =>?_))))))))))))))))))
   replace H:=H.call hE
   refine zj O (zN (zh (zP O ?_)))
   have e:grown l s=l++s.dt.drop ((l.length:Int)-s.sq).toNat:=by unfold grown;rw [if_neg (by omega)]
   rw [e] at k
   exact k _ H.qx
  ·replace h20:=bT h20
   refine zr O (zR (zj O (zj O (zN (zh (zv (zP O ?_)))))))
   have e:grown l s=l:=by unfold grown;rw [if_pos (by omega)]
   rw [e] at k
   exact k _ H.qx
theorem ct130 (hl:l.length≤524288) (hd:s.dt.length≤1048576) (hsq:-1099511627776≤s.sq∧s.sq≤1099511627776) (k:∀  S',Ext [] S0 S'→K (str (addedS l s)) S') :
  zC 130 #[str l,s.v] S0 K:=by
 refine zGh (sf:=s130) Tryz.func130 fun H=>zR (zBx H O O fun b3 S hb3 hE H=>zj O (zN (vz (zj O (zLn (vs:=[_,_,_,_,_,_,_]) H O .h O (zCl O (ct21 (by omega) (by omega) (by omega) fun S hE =>?_)))))))
 replace H:=H.call hE
 refine zj O (vA (zj O (zCl O (ct147 (by have:=grown_len l s;omega) fun t10 S hE h10=>?_))))
 replace H:=H.call hE
 refine zN ?_
 rcases t10 with _|_
 ·replace h10:=bF h10
  refine zn O (zt (ze (zR (zj O (zj O (zN (zh (zP O ?_))))))))
  (rw [show addedS l s=l from if_neg h10] at k;exact k _ H.qx)
 ·replace h10:=bT h10
  refine zr O (zR (zj O (zj O (zN (zh (zv (zP O ?_)))))))
  (rw [show addedS l s=grown l s from if_pos h10] at k;exact k _ H.qx)
theorem ct207 {q:Nat} (hl:l.length≤1099511627776) (hq:q≤1099511627776) (k:∀ b S',Ext [] S0 S'→(S0 b=none)→(Sl S' 7 (some ⟨b,0,none⟩) (segRows (cutO s l q)))→K (sl b 0 (cutO s l q).length (cutO s l q).length) S') :
  zC 207 #[s.v,str l,int q] S0 K:=by
 refine zGh (sf:=s207) Tryz.func207 fun H=>zR (zBx H O O fun b3 S hb3 hE H=>zj O (vA (za (z_ (cs:=[]) H O O fun b8 S hb8 hE H=>zj O (zN (zB (zE ?_)))))))
 refine vg (fun E S m_=>∃ (a:Nat) (out:List Seg) (b7:Nat) (cap7:Nat) (cs7:List Value) (q1:Int) (d1:Bs),E=Env.lst [(1,str l),(2,int a),(3,ptr b3 0),(7,sl b7 0 out.length cap7)]∧Loc [] S0 S [(b7,Cs cs7 33),(b3,Cs ({s with sq:=q1,dt:=d1}:Seg).row 33)]∧(out.length≤cap7)∧(cs7.length=cap7*7)∧(cs7.take (out.length*7)=(segRows out).flatten)∧(out++cutS s l a=cutS s l q)∧(out.length≤a)∧(a≤1099511627776+l.length)∧m_=l.length-a) ?_ ?_
 ·skip
  refine ⟨_,_,?le,q,[],b8,0,[],s.sq,s.dt,O,H,(by simp),(by simp),(by simp),(by simp),(by simp),(by omega),O⟩
  case le=>exact Env.qle ⟨O,O,O,O,⟨⟩⟩
 ·skip
  rintro _ S _ ⟨a,out,b7,cap7,cs7,q1,d1,rfl,H,hn,hcl,hct,hc,hol,ha,rfl⟩
  refine vz (zj O (zj O (za (vG O (za (vq O O fun t12 h12=>zN ?_))))))
  rcases t12 with _|_
  ·replace h12:=bF h12
   refine zn O (vf (zM (zM (vn (ze (vz (zj O (zLl O (za (W_eqI O O fun t32 h32=>zN ?_))))))))))
   rcases t32 with _|_
   ·replace h32:=bF h32
    refine zn O (zt (ze (zR (zj O (zj O (zLl O (zj O (zLl O (za (W_clip O O O (by omega) (zj O (zN (zh (zP O ?_))))))))))))))
    have he:cutS s l a=[]:=cutS_end (by omega)
    rw [he,List.append_nil] at hc
    have hq2:q<l.length:=Classical.byContradiction fun h=>by rw [cutS_end h] at hc;rw [hc] at h32;exact h32 rfl
    have hco:cutO s l q=out:=by unfold cutO;rw [if_pos hq2,hc]
    rw [hco] at k
    exact k _ _ H.qx (H.new1 .h) (vC (H.get .h) rfl (by simpa using hct) segRows_seven)
   ·replace h32:=bT h32
    refine zr O (zR (zj O (za (vG O (vt O (zSs H O O O .h1 O fun S hE H=>vt O (zSs H O O O .h1 O fun S hE H=>zN (zL (zj O (zLn (vs:=[_,_,_,_,_,_,_]) H O .h1 O (za (z_ (cs:=[_,_,_,_,_,_,_]) H O O fun b39 S hb39 hE H=>za (W_append H O O .h1 hcl hn (Src.own H .h O) (by simp [oneCell,setl]) O (by decide) (by omega) O fun b40 cap40 cs40 S hb40 H hE hn40 hcl40 hct40=>zj O (vA (zj O (zj O (zLl O (zj O (zLl O (za (W_clip O O O (by omega) (zj O (zN (zh (zP O ?_)))))))))))))))))))))))))
    have he:cutS s l a=[]:=cutS_end (by omega)
    rw [he,List.append_nil] at hc
    have ho:out=[]:=List.eq_nil_of_length_eq_zero (by omega)
    have hq2:¬ q<l.length:=fun h=>by rw [ho,cutS_step h] at hc;cases hc
    have hco:cutO s l q=[{s with sq:=l.length,dt:=[]}]:=by unfold cutO;rw [if_neg hq2]
    rw [hco] at k
    subst ho
    exact k _ _ H.qx (H.new1 .h) (vC (H.get .h) rfl (by simpa using hct40) segRows_seven)
  ·replace h12:=bT h12
   refine zr O (zt (ze (zE (zR (zj O (vt O (zSs H O O O .h1 O fun S hE H=>vA (zj O (zj O (zj O (zAd O O (zj O (za (vG O (za (W_min2 O O (za (W_slS O O O (by omega) (by omega) (by omega) (vt O (zSs H O O O .h1 O fun S hE H=>vA (zj O (zLn (vs:=[_,_,_,_,_,_,_]) H O .h1 O (za (z_ (cs:=[_,_,_,_,_,_,_]) H O O fun b26 S hb26 hE H=>za (W_append H O O .h1 hcl hn (Src.own H .h O) (by simp [oneCell,setl]) O (by decide) (by omega) O fun b27 cap27 cs27 S hb27 H hE hn27 hcl27 hct27=>zj O (zN (zL (zj O (zAd O O ?_)))))))))))))))))))))))))))))
   refine zj O (ve (vc (ze ?_)))
   have hd12:(l.drop (a:Int).toNat).take ((min ((a:Int)+12) (l.length:Int)).toNat-(a:Int).toNat)=(l.drop a).take 12:=by
    rw [show (a:Int).toNat=a by omega]
    by_cases h:a+12≤l.length
    ·rw [show (min ((a:Int)+12) (l.length:Int)).toNat-a=12 by omega]
    ·rw [List.take_of_length_le (by simp;omega),List.take_of_length_le (by simp;omega)]
   have hcs:=cutS_step (s:=s) (show a<l.length by omega)
   refine ⟨_,_,?lt,?le,(a+12),(out++[{s with sq:=a,dt:=(l.drop a).take 12}]),b27,cap27,cs27,(a:Int),((l.drop (a:Int).toNat).take ((min ((a:Int)+12) (l.length:Int)).toNat-(a:Int).toNat)),O,(H.sub (.cons_cons _ (.cons _ (.cons_cons _ .slnil)))),(by simpa using hn27),hcl27,?_,(by rw [List.append_assoc,← hc,hcs];rfl),(by simp;omega),(by omega),O⟩
   case lt=>omega
   case le=>exact Env.qle ⟨rfl,rfl,rfl,(by rw [List.length_append];rfl),trivial⟩
   rw [List.length_append]
   refine hct27.trans ?_
   rw [hct]
   simp only [segRows,List.map_append,List.flatten_append,List.map_cons,List.map_nil,List.flatten_cons,List.flatten_nil,List.append_nil]
   rw [← hd12]
end
section
variable {S0:St} {K:Value→St→Prop}
variable {b:Box} {x:Conn} {e f:End} {b1 b2 c c1 c2 c3 cap n:Nat} {a a1 a2 a3:Option Addr}
theorem ct151 (k1:S0 b1=some ⟨Cs e.row 31,true⟩) (k2:S0 b2=some ⟨Cs f.row 31,true⟩) (k:∀ (t:Bool) S',Ext [] S0 S'→(t=true↔x.i=e∧x.o=f)→K (.bool t) S') :
  zC 151 #[x.v,ptr b1 0,ptr b2 0] S0 K:=by
 refine zGh (sf:=s151) Tryz.func151 fun H=>zR (zBx H O O fun b3 S hb3 hE H=>zj O (vA (vt O (zLn (vs:=[_,_]) H O .h O (za (zV (vs:=[_,_]) O (cells_own (H.qx.get k1) O) (za (W_eqEv O O fun t8 h8=>zj O ?_))))))))
 rcases t8 with _|_
 ·replace h8:=bF h8
  refine zJ O (zJ O (zJ O (zJ O (vp O O O O (zj O (zN (zh (zP O ?_))))))))
  exact k _ _ H.qx ⟨nofun,fun h=>absurd (by rw [h.1];exact ⟨rfl,rfl⟩) h8⟩
 ·replace h8:=bT h8
  refine zi O (zy O (zi O (W_loadN (vs:=[_,_]) H O .h O (zi O (zV (vs:=[_,_]) O (cells_own (H.qx.get k2) O) (zi O (W_eqEv O O fun t13 h13=>vp O O O O (zj O (zN (zh (zP O ?_)))))))))))
  exact k _ _ H.qx ⟨fun h=>⟨End.ext' h8,End.ext' (h13.1 h)⟩,fun h=>h13.2 (by rw [h.2];exact ⟨rfl,rfl⟩)⟩
theorem ct150 {cs:List Conn} (hs:Sl S0 7 a (zX cs)) (hl:cs.length≤1099511627776) (k1:S0 b1=some ⟨Cs e.row 31,true⟩) (k2:S0 b2=some ⟨Cs f.row 31,true⟩) (k:∀  S',Ext [] S0 S'→K (int (vK cs e f)) S') :
  zC 150 #[.slice a cs.length cap,.func (.func 151) #[] #[ptr b1 0,ptr b2 0]] S0 K:=by
 refine zGh (sf:=s150) Tryz.func150 fun H=>zR (zj O (zN (vz (zj O (zLl O (zj O (zN (zE ?_))))))))
 refine vg (fun E S m_=>∃ (i:Nat),E=Env.lst [(0,.slice a cs.length cap),(1,.func (.func 151) #[] #[ptr b1 0,ptr b2 0]),(7,int cs.length),(8,int i)]∧Loc [] S0 S []∧(i≤cs.length)∧(FoundAt cs i e f)∧m_=cs.length-i) ?_ ?_
 ·skip
  refine ⟨_,_,?le,0,O,H,(by omega),(FoundAt.zero cs e f),O⟩
  case le=>exact Env.qle ⟨O,O,O,O,⟨⟩⟩
 ·skip
  rintro _ S _ ⟨i,rfl,H,hi,hm,rfl⟩
  refine zR (za (vq O O fun t9 h9=>zN (zB ?_)))
  rcases t9 with _|_
  ·replace h9:=bF h9
   refine zn O (vf (zM (zM (vn (ze (zR (zj O (zN (zh (zP O ?_))))))))))
   rw [hm.no (by omega)] at k
   exact k _ H.qx
  ·replace h9:=bT h9
   obtain ⟨x,hx⟩:∃ x,cs[i]? = some x:=⟨cs[i]'(by omega),by simp⟩
   obtain ⟨b,off,rfl,hc⟩:=hs.row i _ (vH hx)
   refine zr O (zt (ze (zB (zE (zR (zj O (zj O (vA (zj O (zj O (zj O (zIa O O (za (zV (vs:=[_,_,_,_,_,_,_]) O (H.qx.cells hc) (za (W_callV O O ⟨_,_,_,_,O,Tryz.func151,O,O,ct151 (x:=x) (H.qx.get k1) (H.qx.get k2) fun t16 S hE h16=>?_⟩))))))))))))))))
   replace H:=H.call hE
   refine zN ?_
   rcases t16 with _|_
   ·replace h16:=bF h16
    refine zn O (zt (vc (ze (zL (zAd O O (zj O (zN ?_)))))))
    refine ⟨_,_,?lt,?le,(i+1),O,H,(by omega),(hm.succ hx h16),O⟩
    case lt=>omega
    case le=>exact Env.qle ⟨O,O,O,O,⟨⟩⟩
   ·replace h16:=bT h16
    refine zr O (zR (zj O (zj O (zN (zh (vd (zv (zv (vd (zv (zP O ?_)))))))))))
    rw [hm.hit hx h16] at k
    exact k _ H.qx
theorem ct65 (h3:Sl S0 7 a3 (zX b.cs)) (hl3:b.cs.length≤1099511627776) (k:∀  S',Ext [] S0 S'→K (int (vK b.cs e f)) S') :
  zC 65 #[.agg #[.slice a1 b.rs.length c1,.slice a2 b.es.length c2,.slice a3 b.cs.length c3],e.v,f.v] S0 K:=by
 refine zGh (sf:=s65) Tryz.func65 fun H=>zR (zBx H O O fun b3 S hb3 hE H=>zBx H O O fun b4 S hb4 hE H=>zBx H O O fun b5 S hb5 hE H=>zj O (vA (vt O (zL1 H O .h2 O (za (W_mkFunc O O (zCl O (ct150 (h3.mono H.qx) hl3 (H.get .h1) (H.get .h) fun S hE =>?_))))))))
 replace H:=H.call hE
 refine zj O (zN (zh (zP O ?_)))
 exact k _ H.qx
theorem ct153 {rs:List Rule} (hs:Sl S0 7 a (z5 rs)) (hl:rs.length≤1048576) (k:∀ (a1:Option Addr) (c1:Nat) S',Ext [] S0 S'→(Sl S' 7 a1 (z5 rs))→(rs.length≤c1)→(Org S0 none a1)→K (.slice a1 rs.length c1) S') :
  zC 153 #[.slice a rs.length cap] S0 K:=by
 refine zGh (sf:=s153) Tryz.func153 fun H=>zR (zj O (zN (vz (zj O (za (W_sliceNil Tryz.underlying23 O fun t4 h4=>zN ?_))))))
 rcases t4 with _|_
 ·replace h4:=bF h4
  refine zn O (zt (ze (zR (za (z_ (cs:=[]) H O O fun b5 S hb5 hE H=>zj O (za (W_appendZ (new:=(z5 rs).flatten) H O O .h (Src.sl (hs.mono H.qx) vN (by simp)) ruleRows_one (ruleRows_flat rs) (by decide) (by decide) (by omega) O fun b7 cap7 cs7 S hb7 H hE hn7 hcl7 hct7=>zj O (zN (zh (zP O ?_))))))))))
  rw [show (0+rs.length)=rs.length by omega]
  exact k _ _ _ H.qx (vC (H.get .h) rfl (by simpa using hct7) vN) (by simpa using hn7) (.new (H.new1 .h))
 ·replace h4:=bT h4
  refine zr O (zR (zj O (zN (zh (zv (zP O ?_))))))
  subst h4
  obtain rfl:rs=[]:=by
   cases rs with
   | nil=>rfl
   | cons e es=>obtain ⟨b,off,e1,_⟩:=hs.row 0 e.row rfl;cases e1
  exact k none 0 _ H.qx (Sl.nil 7) (Nat.le_refl _) (.same _ _)
theorem ct152 (hn:n≤c) (k:∀  S',Ext [] S0 S'→K (.slice a n n) S') :
  zC 152 #[.slice a n c] S0 K:=by
 refine zGh (sf:=s152) Tryz.func152 fun H=>zR (zj O (vA (zj O (zj O (zLl O (zj O (zLl O (za (W_clip O O O hn (zj O (zN (zh (zP O ?_)))))))))))))
 exact k _ H.qx
theorem ct155 {rs:List Conn} (hs:Sl S0 7 a (zX rs)) (hl:rs.length≤1048576) (k:∀ (a1:Option Addr) (c1:Nat) S',Ext [] S0 S'→(OwnO S0 S' a1 49 7 c1 (zX rs))→K (.slice a1 rs.length c1) S') :
  zC 155 #[.slice a rs.length cap] S0 K:=by
 refine zGh (sf:=s155) Tryz.func155 fun H=>zR (zj O (zN (vz (zj O (za (W_sliceNil Tryz.underlying27 O fun t4 h4=>zN ?_))))))
 rcases t4 with _|_
 ·replace h4:=bF h4
  refine zn O (zt (ze (zR (za (z_ (cs:=[]) H O O fun b5 S hb5 hE H=>zj O (za (W_appendZ (new:=(zX rs).flatten) H O O .h (Src.sl (hs.mono H.qx) zZ (by simp)) connRows_one (connRows_flat rs) (by decide) (by decide) (by omega) O fun b7 cap7 cs7 S hb7 H hE hn7 hcl7 hct7=>zj O (zN (zh (zP O ?_))))))))))
  rw [show (0+rs.length)=rs.length by omega]
  exact k _ _ _ H.qx (.inr ⟨_,rfl,H.new1 .h,_,H.get .h,by simpa using hn7,hcl7,by simpa using hct7,zZ⟩)
 ·replace h4:=bT h4
  refine zr O (zR (zj O (zN (zh (zv (zP O ?_))))))
  subst h4
  obtain rfl:rs=[]:=by
   cases rs with
   | nil=>rfl
   | cons e es=>obtain ⟨b,off,e1,_⟩:=hs.row 0 e.row rfl;cases e1
  exact k none 0 _ H.qx .nil
theorem ct129 (hn:n≤c) (k:∀  S',Ext [] S0 S'→K (.slice a n n) S') :
  zC 129 #[.slice a n c] S0 K:=by
 refine zGh (sf:=s129) Tryz.func129 fun H=>zR (zj O (vA (zj O (zj O (zLl O (zj O (zLl O (za (W_clip O O O hn (zj O (zN (zh (zP O ?_)))))))))))))
 exact k _ H.qx
theorem ct64 {es:List End} (hG:Glob S0) (hT:TabP es) (hs:Sl S0 2 a (zS es)) (hcp:es.length≤cap) (hz:x.kn.length≤1048576∧x.he.length≤1048576∧x.ne.length≤1048576) (k:∀ (t:Bool) S',Ext [] S0 S'→(t=true↔ConnP es x)→K (.bool t) S') :
  zC 64 #[x.v,.agg #[.slice a es.length cap]] S0 K:=by
 refine zGh (sf:=s64) Tryz.func64 fun H=>?_
 have hl:es.length≤6:=hT.1
 refine zR (zBx H O O fun b2 S hb2 hE H=>zBx H O O fun b3 S hb3 hE H=>zj O (vA (zLn (vs:=[_]) H O .h O (vt O (zLn (vs:=[_,_]) H O .h1 O (zCl O (ct16 (hs.mono H.qx) hcp (by omega) fun S hE =>?_)))))))
 replace H:=H.call hE
 refine za (W_neI O O fun t9 h9=>zj O ?_)
 rcases t9 with _|_
 ·replace h9:=bF h9
  have hm:x.i∉es:=fun hm=>by unfold portE at h9;rw [if_pos hm] at h9;omega
  refine zJ O (zJ O (zJ O (vp O O O O (zj O (zJ O (zJ O (zJ O (zJ O (vp O O O O (zj O (zJ O (zJ O (zJ O (vp O O O O (zj O (zJ O (zJ O (zJ O (vp O O O O (zj O (zJ O (zJ O (zJ O (zJ O (vp O O O O (zj O (zJ O (zJ O ?_))))))))))))))))))))))))))))
  refine zJ O (zJ O (zJ O (zJ O (vp O O O O (zj O (zN (zh (zP O ?_))))))))
  exact k _ _ H.qx ⟨nofun,fun h=>by obtain ⟨p1,p2,p3,p4,p5,p6,p7,p8⟩:=h;first | exact absurd p4 hm | exact absurd p2 h13 | exact absurd p3 h19 | exact absurd p5 h24 | exact absurd p6 h29 | exact absurd p7 h35⟩
 ·replace h9:=bT h9
  have hm:x.i∈es:=Classical.byContradiction fun hn=>by unfold portE at h9;rw [if_neg hn] at h9;exact h9 rfl
  refine zi O (zy O (zi O (W_loadN (vs:=[_,_]) H O .h1 O (zi O (zT O (ct146  fun t13 S hE h13=>?_))))))
  replace H:=H.call hE
  refine vp O O O O (zj O ?_)
  rcases t13 with _|_
  ·replace h13:=bF h13
   refine zJ O (zJ O (zJ O (zJ O (vp O O O O (zj O (zJ O (zJ O (zJ O (vp O O O O (zj O (zJ O (zJ O (zJ O (vp O O O O (zj O (zJ O (zJ O (zJ O (zJ O (vp O O O O (zj O (zJ O (zJ O (zJ O (zJ O (zJ O (zJ O (vp O O O O ?_))))))))))))))))))))))))))))
   refine zj O (zN (zh (zP O ?_)))
   exact k _ _ H.qx ⟨nofun,fun h=>by obtain ⟨p1,p2,p3,p4,p5,p6,p7,p8⟩:=h;first | exact absurd p4 hm | exact absurd p2 h13 | exact absurd p3 h19 | exact absurd p5 h24 | exact absurd p6 h29 | exact absurd p7 h35⟩
  ·replace h13:=bT h13
   refine zi O (zy O (zi O (zy O (zi O (vh H O .h1 O (zi O (W_eqI O O fun t19 h19=>vp O O O O (zj O ?_))))))))
   rcases t19 with _|_
   ·replace h19:=bF h19
    refine zJ O (zJ O (zJ O (vp O O O O (zj O (zJ O (zJ O (zJ O (vp O O O O (zj O (zJ O (zJ O (zJ O (zJ O (vp O O O O (zj O (zJ O (zJ O (zJ O (zJ O (zJ O (zJ O (vp O O O O (zj O (zN (zh (zP O ?_))))))))))))))))))))))))))
    exact k _ _ H.qx ⟨nofun,fun h=>by obtain ⟨p1,p2,p3,p4,p5,p6,p7,p8⟩:=h;first | exact absurd p4 hm | exact absurd p2 h13 | exact absurd p3 h19 | exact absurd p5 h24 | exact absurd p6 h29 | exact absurd p7 h35⟩
   ·replace h19:=bT h19
    refine zi O (zy O (zi O (vh H O .h1 O (zi O (zT O (ct147 (by omega) fun t24 S hE h24=>?_))))))
    replace H:=H.call hE
    refine vp O O O O (zj O ?_)
    rcases t24 with _|_
    ·replace h24:=bF h24
     refine zJ O (zJ O (zJ O (vp O O O O (zj O (zJ O (zJ O (zJ O (zJ O (vp O O O O (zj O (zJ O (zJ O (zJ O (zJ O (zJ O (zJ O (vp O O O O (zj O (zN (zh (zP O ?_)))))))))))))))))))))
     exact k _ _ H.qx ⟨nofun,fun h=>by obtain ⟨p1,p2,p3,p4,p5,p6,p7,p8⟩:=h;first | exact absurd p4 hm | exact absurd p2 h13 | exact absurd p3 h19 | exact absurd p5 h24 | exact absurd p6 h29 | exact absurd p7 h35⟩
    ·replace h24:=bT h24
     refine zi O (zy O (zi O (vh H O .h1 O (zi O (zT O (ct147 (by omega) fun t29 S hE h29=>?_))))))
     replace H:=H.call hE
     refine vp O O O O (zj O ?_)
     rcases t29 with _|_
     ·replace h29:=bF h29
      refine zJ O (zJ O (zJ O (zJ O (vp O O O O (zj O (zJ O (zJ O (zJ O (zJ O (zJ O (zJ O (vp O O O O (zj O (zN (zh (zP O ?_))))))))))))))))
      exact k _ _ H.qx ⟨nofun,fun h=>by obtain ⟨p1,p2,p3,p4,p5,p6,p7,p8⟩:=h;first | exact absurd p4 hm | exact absurd p2 h13 | exact absurd p3 h19 | exact absurd p5 h24 | exact absurd p6 h29 | exact absurd p7 h35⟩
     ·replace h29:=bT h29
      refine zi O (W_loadN (vs:=[_]) H O .h O (zi O (zy O (zi O (vh H O .h1 O (zi O (zT O (ct148 (hG.mono H.qx) (hs.mono H.qx) hcp (by omega) (by omega) (fun y hy=>by have:=(h24.1 y hy).2;omega) fun t35 S hE h35=>?_))))))))
      replace H:=H.call hE
      refine vp O O O O (zj O ?_)
      rcases t35 with _|_
      ·replace h35:=bF h35
       refine zJ O (zJ O (zJ O (zJ O (zJ O (zJ O (vp O O O O (zj O (zN (zh (zP O ?_))))))))))
       exact k _ _ H.qx ⟨nofun,fun h=>by obtain ⟨p1,p2,p3,p4,p5,p6,p7,p8⟩:=h;first | exact absurd p4 hm | exact absurd p2 h13 | exact absurd p3 h19 | exact absurd p5 h24 | exact absurd p6 h29 | exact absurd p7 h35⟩
      ·replace h35:=bT h35
       refine zi O (W_loadN (vs:=[_]) H O .h O (zi O (zy O (zi O (vh H O .h1 O (zi O (zy O (zi O (vh H O .h1 O (zi O (zT O (ct149 (hG.mono H.qx) (hs.mono H.qx) hcp (by omega) (by omega) (by omega) (fun y hy=>by have:=(h29.1 y hy).2;omega) fun t43 S hE h43=>?_))))))))))))
       replace H:=H.call hE
       refine vp O O O O (zj O (zN (zh (zP O ?_))))
       exact k _ _ H.qx (h43.trans ⟨fun h=>⟨hT.2.1 _ hm,h13,h19,hm,h24,h29,h35,h⟩,fun h=>h.2.2.2.2.2.2.2⟩)
theorem ct17 (hG:Glob S0) (h1:Sl S0 7 a1 (z5 b.rs)) (h2:Sl S0 2 a2 (zS b.es)) (h3:Sl S0 7 a3 (zX b.cs)) (hc2:b.es.length≤c2) (hc3:b.cs.length≤c3) (hz:BoxZ b) (k:∀ (t:Bool) S',Ext [] S0 S'→(t=true↔BoxP b)→K (.bool t) S') :
  zC 17 #[.agg #[.slice a1 b.rs.length c1,.slice a2 b.es.length c2,.slice a3 b.cs.length c3]] S0 K:=by
 refine zGh (sf:=s17) Tryz.func17 fun H=>?_
 obtain ⟨z1,z2,z3,hzz⟩:=hz
 refine zR (zBx H O O fun b1 S hb1 hE H=>zj O (zN (vz (vt O (zL1 H O .h O (zCl O (ct62 (h1.mono H.qx) (by omega) fun t7 S hE h7=>?_)))))))
 replace H:=H.call hE
 refine zNt O (zj O ?_)
 rcases t7 with _|_
 ·replace h7:=bF h7
  refine zJ O (zJ O (zJ O (zJ O (vp O O O O (zj O (zJ O (zJ O (zJ O (zJ O (vp O O O O (zN (zr O (zR (zj O (zN (zh (zv (zP O ?_))))))))))))))))))
  exact k _ _ H.qx ⟨nofun,fun h=>absurd h.2.1 h7⟩
 ·replace h7:=bT h7
  refine zi O (zy O (zi O (W_loadN (vs:=[_]) H O .h O (zi O (zT O (ct63 (h2.mono H.qx) hc2 (by omega) fun t12 S hE h12=>?_))))))
  replace H:=H.call hE
  refine zi O (W_not O (vp O O O O (zj O ?_)))
  rcases t12 with _|_
  ·replace h12:=bF h12
   refine zJ O (zJ O (zJ O (zJ O (vp O O O O (zN (zr O (zR (zj O (zN (zh (zv (zP O ?_))))))))))))
   exact k _ _ H.qx ⟨nofun,fun h=>absurd h.1 h12⟩
  ·replace h12:=bT h12
   refine zi O (zy O (zi O (vh H O .h O (zi O (W_lenL O (zi O (W_gtr O O fun t19 h19=>vp O O O O (zN ?_))))))))
   rcases t19 with _|_
   ·replace h19:=bF h19
    refine zn O (zt (ze (vz (vt O (zL1 H O .h O (zLl O (zj O (zN (zE ?_)))))))))
    refine vg (fun E S m_=>∃ (i:Nat),E=Env.lst [(1,ptr b1 0),(22,.slice a3 b.cs.length c3),(23,int b.cs.length),(24,int i)]∧Loc [] S0 S [(b1,Cs [.slice a1 b.rs.length c1,.slice a2 b.es.length c2,.slice a3 b.cs.length c3] 29)]∧(i≤b.cs.length)∧(RulesP b.rs)∧(TabP b.es)∧(b.cs.length≤3)∧(∀ (j:Nat) (x:Conn),j<i→b.cs[j]? = some x→ConnP b.es x∧vK (b.cs.take j) x.i x.o<0)∧m_=b.cs.length-i) ?_ ?_
    ·skip
     refine ⟨_,_,?le,0,O,H,(by omega),h7,h12,(by omega),(fun j x hj=>absurd hj (by omega)),O⟩
     case le=>exact Env.qle ⟨O,O,O,O,⟨⟩⟩
    ·skip
     rintro _ S _ ⟨i,rfl,H,hi,hR,hT,hn3,hp,rfl⟩
     refine zR (za (vq O O fun t25 h25=>zN (zB ?_)))
     rcases t25 with _|_
     ·replace h25:=bF h25
      refine zn O (vf (zM (zM (vn (ze (zR (zj O (zN (zh (zP O ?_))))))))))
      exact k _ _ H.qx ⟨fun _=>⟨hT,hR,hn3,fun j x hx=>hp j x (by have:=(List.getElem?_eq_some_iff.1 hx).1;omega) hx⟩,fun _=>rfl⟩
     ·replace h25:=bT h25
      obtain ⟨x,hx⟩:∃ x,b.cs[i]? = some x:=⟨b.cs[i]'(by omega),by simp⟩
      obtain ⟨p,off,rfl,hc⟩:=h3.row i _ (vH hx)
      refine zr O (zt (ze (zB (zE (zR (zj O (zIa O O (za (zV (vs:=[_,_,_,_,_,_,_]) O (H.qx.cells hc) (zAl H O fun b4 S hb4 hE H=>zj O (zSs H O O O .h O fun S hE H=>vA (zLn (vs:=[_,_,_,_,_,_,_]) H O .h O (vt O (zLn (vs:=[_]) H O .h1 O (zCl O (ct64 (hG.mono H.qx) hT (h2.mono H.qx) hc2 (hzz x (List.mem_of_getElem? hx)) fun t32 S hE h32=>?_))))))))))))))))
      replace H:=H.call hE
      refine zNt O (zj O ?_)
      rcases t32 with _|_
      ·replace h32:=bF h32
       refine zJ O (zJ O (zJ O (zJ O (zJ O (zJ O (zJ O (zJ O (vp O O O O (zN (zr O (zR (zj O (zN (zh (vd (zv (zv (vd (zv (zP O ?_))))))))))))))))))))
       exact k _ _ H.qx ⟨nofun,fun h=>absurd (h.2.2.2 i x hx).1 h32⟩
      ·replace h32:=bT h32
       refine zi O (W_loadN (vs:=[_,_,_]) H O .h1 O (zi O (zy O (zi O (W_loadN (vs:=[_,_]) H O .h O (zi O (zy O (zi O (W_loadN (vs:=[_,_]) H O .h O (zi O (zT O (ct65 (h3.mono H.qx) (by omega) fun S hE =>?_))))))))))))
       replace H:=H.call hE
       refine zi O (vB O (zi O (W_neI O O fun t42 h42=>vp O O O O (zN ?_))))
       rcases t42 with _|_
       ·replace h42:=bF h42
        refine zn O (zt (vc (ze (zL (zAd O O (zj O (zN ?_)))))))
        refine ⟨_,_,?lt,?le,(i+1),O,(H.sub (.cons _ (.cons_cons _ .slnil))),(by omega),hR,hT,hn3,(fun j y hj hy=>by
         by_cases hji:j<i
         ·exact hp j y hji hy
         ·obtain rfl:j=i:=by omega
          rw [hx] at hy;cases hy
          exact ⟨h32,(BoxP_conn hx).1 (Classical.not_not.1 h42)⟩),rfl⟩
        case lt=>omega
        case le=>exact Env.qle ⟨O,O,O,O,⟨⟩⟩
       ·replace h42:=bT h42
        refine zr O (zR (zj O (zN (zh (vd (zv (zv (vd (zv (zP O ?_))))))))))
        exact k _ _ H.qx ⟨nofun,fun h=>absurd ((BoxP_conn hx).2 (h.2.2.2 i x hx).2) h42⟩
   ·replace h19:=bT h19
    refine zr O (zR (zj O (zN (zh (zv (zP O ?_))))))
    exact k _ _ H.qx ⟨nofun,fun h=>absurd h.2.2.1 (by omega)⟩
theorem ct66 (h1:Sl S0 7 a1 (z5 b.rs)) (h2:Sl S0 2 a2 (zS b.es)) (h3:Sl S0 7 a3 (zX b.cs)) (hc2:b.es.length≤c2) (hz:BoxZ b) (k:∀ (x1 x2 x3:Option Addr) (d3:Nat) S',Ext [] S0 S'→(Sl S' 7 x1 (z5 b.rs))→(Sl S' 2 x2 (zS b.es))→(OwnO S0 S' x3 49 7 d3 (zX b.cs))→(Org S0 none x1)→(Org S0 none x2)→(OffB x1 x3)→(OffB x2 x3)→(OffS x1 x2)→K (.agg #[.slice x1 b.rs.length b.rs.length,.slice x2 b.es.length b.es.length,.slice x3 b.cs.length b.cs.length]) S') :
  zC 66 #[.agg #[.slice a1 b.rs.length c1,.slice a2 b.es.length c2,.slice a3 b.cs.length c3]] S0 K:=by
 refine zGh (sf:=s66) Tryz.func66 fun H=>?_
 obtain ⟨z1,z2,z3,hzz⟩:=hz
 refine zR (zBx H O O fun b1 S hb1 hE H=>zAl H O fun b2 S hb2 hE H=>zN (zB (z9 [b2] (zLf 0 O O O (vk 1 O O (fun S' hS'=>zG fun K hK=>zF O (zH (hS' O) (nin1 (by rintro rfl;exact absurd H.nodup (by simp))) (H.cell .h1 O)) hK) (zLf 4 O O O (vk 5 O O (fun S' hS'=>zG fun K hK=>zV O (zK (hS' O) (nin1 (by rintro rfl;exact absurd H.nodup (by simp))) (H.cells (vs:=[_]) .h1 O)) hK) (zLf 7 O O O (vk 8 O O (fun S' hS'=>zG fun K hK=>zF O (zH (hS' O) (nin1 (by rintro rfl;exact absurd H.nodup (by simp))) (H.cell .h1 O)) hK) (zA 2 (by kernel_rfl) O O (zu (zT O (ct153 (h1.mono H.qx) (by omega) fun a5 c5 S hE hs5 hc5 ho5=>?_)))))))))))))
 have hs5_b2:=ho5.ne nofun (H.get .h)
 replace ho5:=ho5.back H.qx
 replace H:=H.call hE
 refine ⟨fun _=>hE.up.ext,zA 3 (by kernel_rfl) O O (zu (zT O (ct152 hc5 fun S hE =>?_)))⟩
 replace H:=H.call hE
 replace hs5:=hs5.mono hE
 refine ⟨fun _=>hE.up.ext,zA 6 (by kernel_rfl) O O (zu (zT O (ct154 (h2.mono H.qx) hc2 (by omega) fun a9 S hE hs9 ho9=>?_)))⟩
 have hs9_b2:=ho9.ne nofun (H.get .h)
 have os9:OffS a5 a9:=.new hs5 ho9
 replace ho9:=ho9.back H.qx
 replace H:=H.call hE
 replace hs5:=hs5.mono hE
 refine ⟨fun _=>hE.up.ext,zA 9 (by kernel_rfl) O O (zu (zT O (ct155 (h3.mono H.qx) (by omega) fun a12 c12 S hE hO12=>?_)))⟩
 have hO12_b2:=hO12.off (H.get .h)
 have of5:=offB_of hO12 hs5
 have of9:=offB_of hO12 hs9
 replace hO12:=hO12.back H.qx
 replace H:=H.call hE
 replace hs5:=hs5.mono hE
 replace hs9:=hs9.mono hE
 refine zLd (zA 10 (by kernel_rfl) O O (zu (zT O (ct129 (by simpa using hO12.cap) fun S hE =>?_))))
 replace H:=H.call hE
 replace hs5:=hs5.mono hE
 replace hs9:=hs9.mono hE
 replace hO12:=hO12.mono hE
 refine zLd (vO 11 O O (fun _ _ hK=>vL (cs:=[_,_,_]) O O hK) (zA 12 (by kernel_rfl) O O (zu (zSt H O O O .h O fun S hE H=>?_))))
 replace hs5:=hs5.qy hE hs5_b2
 replace hs9:=hs9.qy hE hs9_b2
 replace hO12:=hO12.qy hE hO12_b2
 refine zLd (zY (ze (zh (⟨trivial,_,(z0 (ws:=[_,_,_]) H O .h O zU),?_⟩))))
 exact k _ _ _ _ _ H.qx hs5 hs9 hO12 ho5 ho9 of5 of9 os9
theorem ct133 {s:Seg} {l:Bs} {q:Int} (hS:SegP s) (hl:l.length≤240) (hq:0≤q∧q≤1099511627776) (k:∀ b S',Ext [] S0 S'→(S0 b=none)→(Sl S' 7 (some ⟨b,0,none⟩) (segRows (cutO s l q.toNat)))→K (sl b 0 (cutO s l q.toNat).length (cutO s l q.toNat).length) S') :
  zC 133 #[s.v,str l,int q] S0 K:=by
 refine zGh (sf:=s133) Tryz.func133 fun H=>?_
 have hsz:=hS.2.2.2.2.1
 obtain ⟨n,rfl⟩:∃ n:Nat,q=n:=⟨q.toNat,by omega⟩
 refine zR (zBx H O O fun b3 S hb3 hE H=>zj O (zN (vz (zLn (vs:=[_,_,_,_,_,_,_]) H O .h O (zCl O (ct31 (by omega) fun t8 S hE h8=>?_))))))
 replace H:=H.call hE
 refine zNt O (zj O ?_)
 rcases t8 with _|_
 ·replace h8:=bF h8
  exact absurd hS h8
 ·replace h8:=bT h8
  refine zi O (vB O (zi O (vG O (zi O (W_gtr O O fun t13 h13=>vp O O O O (zj O ?_))))))
  rcases t13 with _|_
  ·replace h13:=bF h13
   refine zi O (vB O (zi O (vq O O fun t17 h17=>vp O O O O (zN ?_))))
   rcases t17 with _|_
   ·replace h17:=bF h17
    refine zn O (zt (ze (zR (zLn (vs:=[_,_,_,_,_,_,_]) H O .h O (zj O (zj O (zCl O (ct207 (by omega) (by omega) fun b22 S hE hb22 hs22=>?_))))))))
    replace hb22:=H.qx.isNone hb22
    replace H:=H.call hE
    refine zj O (zN (zh (zP O ?_)))
    exact k _ _ H.qx hb22 hs22
   ·replace h17:=bT h17
    exact absurd h17 (by omega)
  ·replace h13:=bT h13
   exact absurd h13 (by omega)
end
section
variable {S0:St} {K:Value→St→Prop}
variable {b:Box} {bx c n1 n2 n3:Nat} {x1 x2:Option Addr} {s:Seg}
theorem ct55 {m:Nat} {csm:List Value} (hG:Glob S0) (hB:BoxP b) (hg:S0.g=.sends c ((boxOutP b s).2.map Seg.v)) (hdt:s.dt.length≤1048576) (hbx:S0 bx=some ⟨Cs [.slice x1 b.rs.length n1,.slice x2 b.es.length n2,sl m 0 b.cs.length n3] 29,true⟩) (h1:Sl S0 7 x1 (z5 b.rs)) (h2:Sl S0 2 x2 (zS b.es)) (hn2:b.es.length≤n2) (hn3:b.cs.length≤n3) (hm:S0 m=some ⟨Cs csm 49,true⟩) (hcm:b.cs.length*7≤csm.length) (hctm:csm.take (b.cs.length*7)=(zX b.cs).flatten) (hne:bx≠m) (h3n:n3=b.cs.length) (qG_bx:bx∉[1,2,4]) (qG_m:m∉[1,2,4]) (q1_bx:∀ b off,x1=some ⟨b,off,none⟩→b≠bx) (q1_m:∀ b off,x1=some ⟨b,off,none⟩→b≠m) (q2_bx:∀ b off,x2=some ⟨b,off,none⟩→b≠bx) (q2_m:∀ b off,x2=some ⟨b,off,none⟩→b≠m) (k:∀ (x2' x3':Option Addr) (d2 d3:Nat) S',Ext [bx,m] {S0 with g:=.sends c []} S'→S' bx=some ⟨Cs [.slice x1 b.rs.length n1,.slice x2' (boxOutP b s).1.es.length d2,.slice x3' (boxOutP b s).1.cs.length d3] 29,true⟩→Sl S' 7 x1 (z5 b.rs)→Sl S' 2 x2' (zS (boxOutP b s).1.es)→(boxOutP b s).1.es.length≤d2→Sl S' 7 x3' (zX (boxOutP b s).1.cs)→(boxOutP b s).1.cs.length≤d3→Org S0 x2 x2'→Org S0 (some ⟨m,0,none⟩) x3'→OffS x2' x3'→K (.tuple #[]) S') :
  zC 55 #[ptr bx 0,s.v,.chan (some c)] S0 K:=by
 refine zGo (sf:=s55) Tryz.func55 ?_
 have H:=Loc.start2 hbx hm hne
 have q1:=h1
 have q2:=h2
 have qG:=hG
 obtain ⟨hz1,hz2,hz3,hz4⟩:=hB.small
 have hnot:=fun h=>(boxOutP_not (b:=b) (s:=s) h).1 hB
 refine zR (zBx H O O fun b4 S hb4 hE H=>?_)
 have q1_b4:=q1.ne hb4
 replace q1:=q1.mono hE
 have q2_b4:=q2.ne hb4
 replace q2:=q2.mono hE
 have qG_b4:=qG.ne hb4
 replace qG:=qG.mono hE
 refine zN (zB (zB (z9 [] (vk 0 O O (fun S' hS'=>zG fun K hK=>zV O (zK (hS' O) (by simp) (H.cells (vs:=[_,_,_,_,_,_,_]) .h O)) hK) (zA 1 (by kernel_rfl) O O (zu (zT O (ct31 (by omega) fun t17 S hE h17=>?_))))))))
 replace H:=H.call hE
 replace q1:=q1.mono hE
 replace q2:=q2.mono hE
 replace qG:=qG.mono hE
 refine ⟨fun _=>hE.up.ext,vO 2 O O (fun _ _ hK=>W_not O hK) (vJ 3 O O O ?_)⟩
 rcases t17 with _|_
 ·replace h17:=bF h17
  refine vk 4 O O (fun S' _=>vo O (by decide)) (vk 5 O O (fun S' _=>vo O (by decide)) (vk 6 O O (fun S' _=>vo O (by decide)) (vk 7 O O (fun S' _=>vo O (by decide)) (vk 8 O O (fun S' _=>vo O (by decide)) (vk 9 O O (fun S' _=>vo O (by decide)) (vk 10 O O (fun S' _=>vo O (by decide)) (vk 11 O O (fun S' _=>vo O (by decide)) (zA 12 (by kernel_rfl) O O (step_no O (by decide) (⟨fun _=>fun _ _ _ h=>h,vk 13 O O (fun S' _=>vo O (by decide)) (vO 14 O O (fun _ _ hK=>W_pick O O O O hK) (zY (ze (zr O (zh (zv (⟨trivial,_,zU,?_⟩)))))))⟩))))))))))
  have hr:=hnot (fun h=>h17 h.2.1)
  rw [hr] at hg k
  replace H:=H.quiet (by exact hg)
  exact k x2 (some ⟨m,0,none⟩) n2 n3 S H.qx (H.get .h1) q1 q2 hn2 (vC (H.get .h2) rfl (by simpa using hctm) zZ) hn3 (.same _ _) (.same _ _) (.at q2_m)
 ·replace h17:=bT h17
  refine vk 4 O O (fun S' _=>vi O fun K hK=>vB O hK) (vk 5 O O (fun S' _=>vi O fun K hK=>vv O hK) (vk 6 O O (fun S' _=>vi O fun K hK=>zy O hK) (vk 7 O O (fun S' hS'=>vi O fun K hK=>zF O (zH (hS' O) (by simp) (H.cell .h1 O)) hK) (vk 8 O O (fun S' _=>vi O fun K hK=>zy O hK) (vk 9 O O (fun S' hS'=>vi O fun K hK=>zV O (zK (hS' O) (by simp) (H.cells (vs:=[_,_]) .h O)) hK) (vk 10 O O (fun S' _=>vi O fun K hK=>zy O hK) (vk 11 O O (fun S' hS'=>vi O fun K hK=>zV O (zK (hS' O) (by simp) (H.cells (vs:=[_,_]) .h O)) hK) (zA 12 (by kernel_rfl) O O (step_yes O (zT O (ct87 q1 (by omega) fun t28 S hE h28=>?_)))))))))))
  replace H:=H.call hE
  replace q1:=q1.mono hE
  replace q2:=q2.mono hE
  replace qG:=qG.mono hE
  refine zLd (vk 13 O O (fun S' _=>vi O fun K hK=>W_not O hK) (vO 14 O O (fun _ _ hK=>W_pick O O O O hK) (zY (ze ?_))))
  rcases t28 with _|_
  ·replace h28:=bF h28
   refine zr O (zh (zv (⟨trivial,_,zU,?_⟩)))
   have hr:=hnot (fun h=>h28 h.2.2)
   rw [hr] at hg k
   replace H:=H.quiet (by exact hg)
   exact k x2 (some ⟨m,0,none⟩) n2 n3 S H.qx (H.get .h1) q1 q2 hn2 (vC (H.get .h2) rfl (by simpa using hctm) zZ) hn3 (.same _ _) (.same _ _) (.at q2_m)
  ·replace h28:=bT h28
   refine zn O (zt (ze (zR (vt O (zLn (vs:=[_,_]) H O .h O (zAl H O fun b6 S hb6 hE H=>?_))))))
   have q1_b6:=q1.ne hb6
   replace q1:=q1.mono hE
   have q2_b6:=q2.ne hb6
   replace q2:=q2.mono hE
   have qG_b6:=qG.ne hb6
   replace qG:=qG.mono hE
   refine zSs H O O O .h O fun S hE H=>?_
   replace q1:=q1.qy hE q1_b6
   replace q2:=q2.qy hE q2_b6
   replace qG:=qG.qy hE qG_b6
   refine zN ?_
   refine wpS_cut (fun E S=>∃ (b7:Nat) (a39:Option Addr) (cap39:Nat),E=Env.lst [(0,ptr bx 0),(2,.chan (some c)),(4,ptr b4 0),(6,ptr b6 0),(7,ptr b7 0),(8,int (putP b.es s.s))]∧Loc [bx,m] S0 S [(b7,Cs [.slice a39 (putE b.es s.s).length cap39] 26),(b6,Cs s.s.row 31),(b4,Cs s.row 33),(bx,Cs [.slice x1 b.rs.length n1,.slice x2 b.es.length n2,sl m 0 b.cs.length n3] 29),(m,Cs csm 49)]∧((putE b.es s.s).length≤cap39)∧(Org S0 x2 a39)∧(Sl S 7 x1 (z5 b.rs))∧(Sl S 2 x2 (zS b.es))∧(Sl S 2 a39 (zS (putE b.es s.s)))∧(∀ b off,x1=some ⟨b,off,none⟩→b≠b7)∧(∀ b off,x1=some ⟨b,off,none⟩→b≠b6)∧(∀ b off,x1=some ⟨b,off,none⟩→b≠b4)∧(∀ b off,x1=some ⟨b,off,none⟩→b≠bx)∧(∀ b off,x1=some ⟨b,off,none⟩→b≠m)∧(∀ b off,x2=some ⟨b,off,none⟩→b≠b7)∧(∀ b off,x2=some ⟨b,off,none⟩→b≠b6)∧(∀ b off,x2=some ⟨b,off,none⟩→b≠b4)∧(∀ b off,x2=some ⟨b,off,none⟩→b≠bx)∧(∀ b off,x2=some ⟨b,off,none⟩→b≠m)∧(∀ b off,a39=some ⟨b,off,none⟩→b≠b7)∧(∀ b off,a39=some ⟨b,off,none⟩→b≠b6)∧(∀ b off,a39=some ⟨b,off,none⟩→b≠b4)∧(∀ b off,a39=some ⟨b,off,none⟩→b≠bx)∧(∀ b off,a39=some ⟨b,off,none⟩→b≠m)∧(Glob S)∧(b7∉[1,2,4])∧(b6∉[1,2,4])∧(b4∉[1,2,4])∧(bx∉[1,2,4])∧(m∉[1,2,4])) ?_ ?_
   ·skip
    refine z9 [] (vJ 0 O O O (vO 1 O O (fun _ _ hK=>vv O hK) (zLf 2 O O O (vk 3 O O (fun S' hS'=>zG fun K hK=>zV O (zK (hS' O) (by simp) (H.cells (vs:=[_]) .h2 O)) hK) (vk 4 O O (fun S' hS'=>zG fun K hK=>zV O (zK (hS' O) (by simp) (H.cells (vs:=[_,_]) .h O)) hK) (wpD_two 5 9 (by kernel_rfl) O O O O ?_ ?_))))))
    ·skip
     refine zu (zT O (ct68 q2 hn2 (by omega) fun a39 cap39 S hE hs39 hc39 ho39=>?_))
     have hs39_b6:=ho39.ne q2_b6 (H.get .h)
     have hs39_bx:=ho39.ne q2_bx (H.get .h2)
     have hs39_b4:=ho39.ne q2_b4 (H.get .h1)
     have hs39_m:=ho39.ne q2_m (H.get .h3)
     have hO39:Org S0 x2 a39:=ho39.backX H.qx
     replace H:=H.call hE
     replace q1:=q1.mono hE
     replace q2:=q2.mono hE
     replace qG:=qG.mono hE
     refine zLd (vJ 6 O O O (vO 7 O O (fun _ _ hK=>vj O O hK) (vO 8 O O (fun _ _ hK=>vj O O hK) (zA 9 (by kernel_rfl) O O (zu (W_alloc H O fun b7 S hb7 hE H=>?_))))))
     have q1_b7:=q1.ne hb7
     replace q1:=q1.mono hE
     have q2_b7:=q2.ne hb7
     replace q2:=q2.mono hE
     have qG_b7:=qG.ne hb7
     replace qG:=qG.mono hE
     have hs39_b7:=hs39.ne hb7
     replace hs39:=hs39.mono hE
     refine ⟨fun _=>hE.up.ext,zA 10 (by kernel_rfl) O O (zu (zSt H O O O .h O fun S hE H=>?_))⟩
     replace q1:=q1.qy hE q1_b7
     replace q2:=q2.qy hE q2_b7
     replace qG:=qG.qy hE qG_b7
     replace hs39:=hs39.qy hE hs39_b7
     refine zLd (vJ 11 O O O (zY (ze ?_)))
     replace H:=H.front .h4
     replace H:=H.front .h4
     replace H:=H.front .h4
     replace H:=H.front .h4
     replace H:=H.front .h4
     refine ⟨_,?le,b7,a39,cap39,O,H,hc39,hO39,q1,q2,hs39,q1_b7,q1_b6,q1_b4,q1_bx,q1_m,q2_b7,q2_b6,q2_b4,q2_bx,q2_m,hs39_b7,hs39_b6,hs39_b4,hs39_bx,hs39_m,qG,qG_b7,qG_b6,qG_b4,qG_bx,qG_m⟩
     case le=>exact Env.qle ⟨O,O,O,O,O,O,⟨⟩⟩
    ·skip
     refine zu (W_alloc H O fun b7 S hb7 hE H=>?_)
     have q1_b7:=q1.ne hb7
     replace q1:=q1.mono hE
     have q2_b7:=q2.ne hb7
     replace q2:=q2.mono hE
     have qG_b7:=qG.ne hb7
     replace qG:=qG.mono hE
     refine ⟨fun _=>hE.up.ext,zA 5 (by kernel_rfl) O O (zu (zT O (ct68 q2 hn2 (by omega) fun a39 cap39 S hE hs39 hc39 ho39=>?_)))⟩
     have hs39_b6:=ho39.ne q2_b6 (H.get .h1)
     have hs39_m:=ho39.ne q2_m (H.get .h4)
     have hs39_bx:=ho39.ne q2_bx (H.get .h3)
     have hs39_b4:=ho39.ne q2_b4 (H.get .h2)
     have hs39_b7:=ho39.ne q2_b7 (H.get .h)
     have hO39:Org S0 x2 a39:=ho39.backX H.qx
     replace H:=H.call hE
     replace q1:=q1.mono hE
     replace q2:=q2.mono hE
     replace qG:=qG.mono hE
     refine zLd (vJ 6 O O O (vO 7 O O (fun _ _ hK=>vj O O hK) (vO 8 O O (fun _ _ hK=>vj O O hK) (zA 10 (by kernel_rfl) O O (zu (zSt H O O O .h O fun S hE H=>?_))))))
     replace q1:=q1.qy hE q1_b7
     replace q2:=q2.qy hE q2_b7
     replace qG:=qG.qy hE qG_b7
     replace hs39:=hs39.qy hE hs39_b7
     refine zLd (vJ 11 O O O (zY (ze ?_)))
     replace H:=H.front .h4
     replace H:=H.front .h4
     replace H:=H.front .h4
     replace H:=H.front .h4
     replace H:=H.front .h4
     refine ⟨_,?le,b7,a39,cap39,O,H,hc39,hO39,q1,q2,hs39,q1_b7,q1_b6,q1_b4,q1_bx,q1_m,q2_b7,q2_b6,q2_b4,q2_bx,q2_m,hs39_b7,hs39_b6,hs39_b4,hs39_bx,hs39_m,qG,qG_b7,qG_b6,qG_b4,qG_bx,qG_m⟩
     case le=>exact Env.qle ⟨O,O,O,O,O,O,⟨⟩⟩
   ·skip
    rintro _ S ⟨b7,a39,cap39,rfl,H,hc39,hO39,q1,q2,hs39,q1_b7,q1_b6,q1_b4,q1_bx,q1_m,q2_b7,q2_b6,q2_b4,q2_bx,q2_m,hs39_b7,hs39_b6,hs39_b4,hs39_bx,hs39_m,qG,qG_b7,qG_b6,qG_b4,qG_bx,qG_m⟩
    refine vz (zj O (za (W_eqI O O fun t43 h43=>zN ?_)))
    rcases t43 with _|_
    ·replace h43:=bF h43
     refine zn O (zt (ze (zR (zj O (zLn (vs:=[_]) H O .h O (za (vv O (vt O (zSs H O O O .h3 O fun S hE H=>?_)))))))))
     replace q1:=q1.qy hE q1_bx
     replace hs39:=hs39.qy hE hs39_bx
     replace qG:=qG.qy hE qG_bx
     refine vA (zj O (za (vL (cs:=[_,_]) O O (vt O (zSs H O O O .h2 O fun S hE H=>?_)))))
     replace q1:=q1.qy hE q1_b4
     replace hs39:=hs39.qy hE hs39_b4
     replace qG:=qG.qy hE qG_b4
     refine zN (vz (vt O (vt O (zL1 H O .h2 O (za (W_neI O O fun t54 h54=>zN ?_))))))
     rcases t54 with _|_
     ·replace h54:=bF h54
      have hyes:BoxP b∧SegP s∧s.s.inn∧s.d.out∧mayR b.rs s.s s.d=true:=⟨hB,h17,h28⟩
      have hr:=boxOutP_ctl hyes h43 (Classical.not_not.1 h54)
      have hpp:=putP_bd (e:=s.s) hz2
      have hpe:(putE b.es s.s).length≤6:=by
       unfold putE;split
       ·omega
       ·simp;omega
      have hpp1:1≤putP b.es s.s:=by omega
      refine zn O (zt (ze (zB (z9 [] (vJ 0 O O O (vO 1 O O (fun _ _ hK=>vv O hK) (vk 2 O O (fun S' hS'=>zG fun K hK=>zV O (zK (hS' O) (by simp) (H.cells (vs:=[_,_,_]) .h3 O)) hK) (vk 3 O O (fun S' hS'=>zG fun K hK=>zV O (zK (hS' O) (by simp) (H.cells (vs:=[_,_]) .h1 O)) hK) (zLf 4 O O O (vk 5 O O (fun S' hS'=>zG fun K hK=>zV O (zK (hS' O) (by simp) (H.cells (vs:=[_,_]) .h2 O)) hK) (zA 6 (by kernel_rfl) O O (zu (zT O (ct65 (b:=⟨b.rs,(putE b.es s.s),b.cs⟩) (vC (H.get .h4) O (by simpa using hctm) zZ) (by show b.cs.length≤_;omega) fun S hE =>?_))))))))))))))
      replace H:=H.call hE
      have e63:vK (⟨b.rs,(putE b.es s.s),b.cs⟩:Box).cs s.s s.d=vK b.cs s.s s.d:=rfl
      rw [e63]
      replace q1:=q1.mono hE
      replace hs39:=hs39.mono hE
      replace qG:=qG.mono hE
      refine zLd (vJ 7 O O O (zY (ze ?_)))
      refine wpS_cut (fun E S=>∃ (mb:Nat) (csb:List Value) (cs1:List Conn) (kk:Nat) (x:Conn) (d3:Nat),E=Env.lst [(0,ptr bx 0),(2,.chan (some c)),(4,ptr b4 0),(6,ptr b6 0),(9,int kk)]∧Loc [bx,m] S0 S [(mb,Cs csb 49),(b6,Cs s.s.row 31),(b4,Cs ({s with s:=⟨50,putP b.es s.s⟩}:Seg).row 33),(bx,Cs [.slice x1 b.rs.length n1,.slice a39 (putE b.es s.s).length cap39,sl mb 0 cs1.length d3] 29)]∧(Org S0 x2 a39)∧(Org S0 (some ⟨m,0,none⟩) (some ⟨mb,0,none⟩))∧(vM b.cs s.s s.d=(cs1,(kk:Int)))∧(cs1[kk]? = some x)∧(cs1.length*7≤csb.length)∧(csb.take (cs1.length*7)=(zX cs1).flatten)∧(cs1.length≤d3)∧(StrP x.kn∧x.he.length≤120∧x.ne.length≤240)∧(Sl S 7 x1 (z5 b.rs))∧(Sl S 2 a39 (zS (putE b.es s.s)))∧(∀ b off,x1=some ⟨b,off,none⟩→b≠mb)∧(∀ b off,x1=some ⟨b,off,none⟩→b≠b6)∧(∀ b off,x1=some ⟨b,off,none⟩→b≠b4)∧(∀ b off,x1=some ⟨b,off,none⟩→b≠bx)∧(∀ b off,a39=some ⟨b,off,none⟩→b≠mb)∧(∀ b off,a39=some ⟨b,off,none⟩→b≠b6)∧(∀ b off,a39=some ⟨b,off,none⟩→b≠b4)∧(∀ b off,a39=some ⟨b,off,none⟩→b≠bx)∧(Glob S)∧(mb∉[1,2,4])∧(b6∉[1,2,4])∧(b4∉[1,2,4])∧(bx∉[1,2,4])) ?_ ?_
      ·skip
       refine zR (zj O (za (vq O O fun t65 h65=>zN ?_)))
       rcases t65 with _|_
       ·replace h65:=bF h65
        refine zn O (zt (ze ?_))
        obtain ⟨x0,hx0⟩:∃ x0,b.cs[(vK b.cs s.s s.d).toNat]? = some x0:=⟨b.cs[(vK b.cs s.s s.d).toNat]'(by have:=findC_bd b.cs s.s s.d;omega),by simp⟩
        replace H:=H.front .h3
        replace H:=H.front .h3
        replace H:=H.front .h3
        replace H:=H.front .h4
        refine ⟨_,?le,m,csm,b.cs,(vK b.cs s.s s.d).toNat,x0,n3,O,(H.takeL 4),hO39,(.same _ _),(by rw [placeC_old (by omega)];congr 1;omega),hx0,hcm,hctm,hn3,(by have h1:=(hB.2.2.2 _ _ hx0).1;have h2:=hz4 x0 (List.mem_of_getElem? hx0);exact ⟨h1.2.2.2.2.1,h2.2.1,h2.2.2⟩),q1,hs39,q1_m,q1_b6,q1_b4,q1_bx,hs39_m,hs39_b6,hs39_b4,hs39_bx,qG,qG_m,qG_b6,qG_b4,qG_bx⟩
        case le=>exact Env.qle ⟨rfl,rfl,rfl,rfl,(by show some (int (vK b.cs s.s s.d))=_;congr 2;omega),trivial⟩
       ·replace h65:=bT h65
        refine zr O (vz (zj O (za (vv O (vt O (zL1 H O .h3 O (zLl O (za (W_geq O O fun t71 h71=>zN ?_)))))))))
        rcases t71 with _|_
        ·replace h71:=bF h71
         refine zn O (zt (ze (zR (zj O (za (vv O (vt O (zL1 H O .h3 O (zLl O (zj O (zN (z9 [] (vJ 0 O O O (vJ 1 O O O (vO 2 O O (fun _ _ hK=>vv O hK) (zLf 3 O O O (vk 4 O O (fun S' hS'=>zG fun K hK=>zF O (zH (hS' O) (by simp) (H.cell .h3 O)) hK) (vk 5 O O (fun S' hS'=>zG fun K hK=>zV O (zK (hS' O) (by simp) (H.cells (vs:=[_,_]) .h1 O)) hK) (zLf 6 O O O (vk 7 O O (fun S' hS'=>zG fun K hK=>zV O (zK (hS' O) (by simp) (H.cells (vs:=[_,_]) .h2 O)) hK) (vO 8 O O (fun _ _ hK=>vL (cs:=[_,_,_,_,_,_,_]) O O hK) (zA 9 (by kernel_rfl) O O (zu (z_ (cs:=[_,_,_,_,_,_,_]) H O O fun b86 S hb86 hE H=>?_))))))))))))))))))))))))
         replace q1:=q1.mono hE
         replace hs39:=hs39.mono hE
         replace qG:=qG.mono hE
         refine ⟨fun _=>hE.up.ext,zA 10 (by kernel_rfl) O O (zu (W_appendNew (old:=(zX b.cs).flatten) H O O (by omega) (Src.sl (vC (H.get .h5) O (by simpa using hctm) zZ) zZ (by simp)).2 (connRows_flat b.cs) (Src.own H .h O) O (by decide) (by omega) O fun b87 cap87 cs87 S hb87 H hE hn87 hcl87 hct87=>?_))⟩
         have hN87:S0 b87=none:=(H.fresh _ _ (Has.mem .h)).resolve_right (by intro hm;simp only [List.mem_cons,List.not_mem_nil,or_false] at hm;rcases hm with rfl | rfl<;>exact absurd H.nodup (by simp))
         have q1_b87:=q1.ne hb87
         replace q1:=q1.mono hE
         have hs39_b87:=hs39.ne hb87
         replace hs39:=hs39.mono hE
         have qG_b87:=qG.ne hb87
         replace qG:=qG.mono hE
         refine zLd (zA 11 (by kernel_rfl) O O (zu (zT O (ct129 hn87 fun S hE =>?_))))
         replace H:=H.call hE
         replace q1:=q1.mono hE
         replace hs39:=hs39.mono hE
         replace qG:=qG.mono hE
         refine zLd (vO 12 O O (fun _ _ hK=>vv O hK) (zLf 13 O O O (zA 14 (by kernel_rfl) O O (zu (zSt H O O O .h5 O fun S hE H=>?_)))))
         replace q1:=q1.qy hE q1_bx
         replace hs39:=hs39.qy hE hs39_bx
         replace qG:=qG.qy hE qG_bx
         refine zLd (zY (ze ?_))
         have e87:b.cs.length+1=(b.cs++[(⟨s.s,s.d,[],[],[]⟩:Conn)]).length:=by simp
         rw [e87] at H
         replace H:=H.front .h5
         replace H:=H.front .h5
         replace H:=H.front .h5
         replace H:=H.front .h3
         refine ⟨_,?le,b87,cs87,(b.cs++[Conn.mk s.s s.d [] [] []]),b.cs.length,(Conn.mk s.s s.d [] [] []),(b.cs++[Conn.mk s.s s.d [] [] []]).length,O,(H.takeL 4),hO39,(.new hN87),(placeC_new (by omega) (by omega)),(by simp),(by rw [hcl87];have h9:=Nat.mul_le_mul_right 7 hn87;simpa using h9),(by simpa [zX] using hct87),(by simp),⟨StrP_nil,by simp,by simp⟩,q1,hs39,q1_b87,q1_b6,q1_b4,q1_bx,hs39_b87,hs39_b6,hs39_b4,hs39_bx,qG,qG_b87,qG_b6,qG_b4,qG_bx⟩
         case le=>exact Env.qle ⟨O,O,O,O,O,⟨⟩⟩
        ·replace h71:=bT h71
         refine zr O (zh (zv (zv (⟨trivial,_,zU,?_⟩))))
         have hfull:=placeC_full (cs:=b.cs) (e:=s.s) (f:=s.d) (by omega) (by omega)
         have hr2:=ctlO_no (b:={b with es:=(putE b.es s.s)}) (s:=s) (port:=putP b.es s.s) (by show (vM b.cs s.s s.d).2<0;rw [hfull];simp)
         simp only [hfull] at hr2
         rw [hr2] at hr
         rw [hr] at hg k
         replace H:=H.quiet (by exact hg)
         exact k a39 (some ⟨m,0,none⟩) cap39 n3 S H.qx (H.get .h3) q1 hs39 hc39 (vC (H.get .h4) rfl (by simpa using hctm) zZ) hn3 hO39 (.same _ _) (.at hs39_m)
      ·skip
       rintro _ S ⟨mb,csb,cs1,kk,x,d3,rfl,H,hO39,hO3,hpl,hx,hcb,hct,hd3,hxz,q1,hs39,q1_mb,q1_b6,q1_b4,q1_bx,hs39_mb,hs39_b6,hs39_b4,hs39_bx,qG,qG_mb,qG_b6,qG_b4,qG_bx⟩
       have hxk1:=hxz.1.2.2
       have hxz2:=hxz.2.1
       have hxz3:=hxz.2.2
       have hkl:=(List.getElem?_eq_some_iff.1 hx).1
       have hbd:(0+kk*7+4)+1≤csb.length:=by have:=Nat.mul_le_mul_right 7 (show kk+1≤cs1.length by omega);omega
       refine zR (zj O (za (vv O (vt O (zL1 H O .h3 O (zj O (zIa O O (zj O (zN (zB (z9 [] (vJ 0 O O O (vJ 1 O O O (vO 2 O O (fun _ _ hK=>vv O hK) (zLf 3 O O O (vk 4 O O (fun S' hS'=>zG fun K hK=>zF O (zH (hS' O) (by simp) (vw (i:=4) (v:=str x.kn) (cells_own (H.get .h) (row_sub (by simpa using hct) zZ (vH hx))) O)) hK) (vk 5 O O (fun S' hS'=>zG fun K hK=>zV O (zK (hS' O) (by simp) (H.cells (vs:=[_,_,_,_,_,_,_]) .h2 O)) hK) (zA 6 (by kernel_rfl) O O (zu (zT O (ct130 (s:=({s with s:=⟨50,putP b.es s.s⟩}:Seg)) (by omega) hdt (by have h9:=h17.2.2.1;show -1099511627776≤s.sq∧s.sq≤1099511627776;omega) fun S hE =>?_)))))))))))))))))))))
       replace H:=H.call hE
       have e103:addedS x.kn ({s with s:=⟨50,putP b.es s.s⟩}:Seg)=addedS x.kn s:=rfl
       rw [e103]
       replace q1:=q1.mono hE
       replace hs39:=hs39.mono hE
       replace qG:=qG.mono hE
       refine zLd (vO 7 O O (fun _ _ hK=>vv O hK) (zLf 8 O O O (zA 9 (by kernel_rfl) O O (zu (W_store H O O O O O (by decide) .h hbd O fun S hE H=>?_)))))
       obtain ⟨xk,hxk⟩:∃ y:Conn,y={x with kn:=addedS x.kn s}:=⟨_,rfl⟩
       have hxe:xk=vI x s:=by rw [hxk,knownC_eq]
       have hct2:(setl csb (0+kk*7+4) [str (addedS x.kn s)]).take ((cs1.set kk xk).length*7)=(zX (cs1.set kk xk)).flatten:=by
        have h9:=row_cell (j:=4) (v:=str (addedS x.kn s)) (k:=7) (rows:=zX cs1) (by simpa using hct) zZ (vH hx) (by decide)
        rw [hxk]
        simpa [zX,List.map_set] using h9
       have hx2:(cs1.set kk xk)[kk]? = some xk:=by simp [hkl]
       have hxs:StrP xk.kn:=by rw [hxk];exact addedS_ok hxz.1
       have hxl:xk.kn.length≤120:=hxs.2.2
       have hxh:xk.he=x.he∧xk.ne=x.ne:=by rw [hxk];exact ⟨rfl,rfl⟩
       have hxh1:=congrArg List.length hxh.1
       have hxh2:=congrArg List.length hxh.2
       have hfl:=streamO_grow (es:=(putE b.es s.s)) hpe hxl
       have hbk:=backO_bd xk.he xk.ne s.ak
       have hat:=outO_bd xk.kn (vr (putE b.es s.s) xk.kn).2 s.sq
       have hS2:SegP ({s with s:=⟨50,putP b.es s.s⟩,ak:=backD 0 (spansO xk.he xk.ne) s.ak}:Seg):=⟨⟨.inr (.inr rfl),by show 1≤putP b.es s.s∧putP b.es s.s≤999;omega⟩,h17.2.1,h17.2.2.1,by show 0≤backD 0 (spansO xk.he xk.ne) s.ak∧backD 0 (spansO xk.he xk.ne) s.ak≤240;omega,h17.2.2.2.2⟩
       have hr2:=ctlO_yes (b:={b with es:=(putE b.es s.s)}) (s:=s) (port:=putP b.es s.s) (c0:=x) (c:=xk) (by show ¬ (vM b.cs s.s s.d).2<0;rw [hpl];simp) (by show (vM b.cs s.s s.d).1[(vM b.cs s.s s.d).2.toNat]? = some x;rw [hpl];exact hx) hxe
       simp only [hpl,Int.toNat_natCast] at hr2
       rw [hr2] at hr
       replace q1:=q1.qy hE q1_mb
       replace hs39:=hs39.qy hE hs39_mb
       replace qG:=qG.qy hE qG_mb
       refine zLd (zY (ze ?_))
       refine wpS_cut (fun E S=>∃ (b11:Nat) (a115:Option Addr) (cap115:Nat),E=Env.lst [(0,ptr bx 0),(2,.chan (some c)),(4,ptr b4 0),(10,ptr mb (0+kk*7)),(11,ptr b11 0),(12,str (vr (putE b.es s.s) xk.kn).2)]∧Loc [bx,m] S0 S [(b11,Cs [.slice a115 (vr (putE b.es s.s) xk.kn).1.length cap115] 26),(mb,Cs (setl csb (0+kk*7+4) [str (addedS x.kn s)]) 49),(b4,Cs ({s with s:=⟨50,putP b.es s.s⟩}:Seg).row 33),(bx,Cs [.slice x1 b.rs.length n1,.slice a39 (putE b.es s.s).length cap39,sl mb 0 cs1.length d3] 29)]∧((vr (putE b.es s.s) xk.kn).1.length≤cap115)∧(Org S0 x2 a115)∧(Org S0 (some ⟨m,0,none⟩) (some ⟨mb,0,none⟩))∧(Sl S 7 x1 (z5 b.rs))∧(Sl S 2 a115 (zS (vr (putE b.es s.s) xk.kn).1))∧(∀ b off,x1=some ⟨b,off,none⟩→b≠b11)∧(∀ b off,x1=some ⟨b,off,none⟩→b≠mb)∧(∀ b off,x1=some ⟨b,off,none⟩→b≠b4)∧(∀ b off,x1=some ⟨b,off,none⟩→b≠bx)∧(∀ b off,a115=some ⟨b,off,none⟩→b≠b11)∧(∀ b off,a115=some ⟨b,off,none⟩→b≠mb)∧(∀ b off,a115=some ⟨b,off,none⟩→b≠b4)∧(∀ b off,a115=some ⟨b,off,none⟩→b≠bx)∧(Glob S)∧(b11∉[1,2,4])∧(mb∉[1,2,4])∧(b4∉[1,2,4])∧(bx∉[1,2,4])) ?_ ?_
       ·skip
        refine z9 [] (vJ 0 O O O (vO 1 O O (fun _ _ hK=>vv O hK) (zLf 2 O O O (vk 3 O O (fun S' hS'=>zG fun K hK=>zV O (zK (hS' O) (by simp) (H.cells (vs:=[_]) .h3 O)) hK) (vJ 4 O O O (vO 5 O O (fun _ _ hK=>vv O hK) (zLf 6 O O O (vk 7 O O (fun S' hS'=>zG fun K hK=>zF O (zH (hS' O) (by simp) (vw (i:=4) (v:=str xk.kn) (cells_own (H.get .h) (row_sub (by simpa using hct2) zZ (vH hx2))) O)) hK) (wpD_two 8 12 (by kernel_rfl) O O O O ?_ ?_)))))))))
        ·skip
         refine zu (zT O (ct131 qG hs39 hc39 hpe (by omega) hxs.lines fun a115 cap115 S hE hs115 hc115 ho115 htl115=>?_))
         have hs115_mb:=ho115.ne hs39_mb (H.get .h)
         have hs115_bx:=ho115.ne hs39_bx (H.get .h3)
         have hs115_b4:=ho115.ne hs39_b4 (H.get .h2)
         have hO115:Org S0 x2 a115:=hO39.trans (ho115.backX H.qx)
         replace H:=H.call hE
         replace q1:=q1.mono hE
         replace qG:=qG.mono hE
         refine zLd (vJ 9 O O O (vO 10 O O (fun _ _ hK=>vj O O hK) (vO 11 O O (fun _ _ hK=>vj O O hK) (zA 12 (by kernel_rfl) O O (zu (W_alloc H O fun b11 S hb11 hE H=>?_))))))
         have q1_b11:=q1.ne hb11
         replace q1:=q1.mono hE
         have qG_b11:=qG.ne hb11
         replace qG:=qG.mono hE
         have hs115_b11:=hs115.ne hb11
         replace hs115:=hs115.mono hE
         refine ⟨fun _=>hE.up.ext,zA 13 (by kernel_rfl) O O (zu (zSt H O O O .h O fun S hE H=>?_))⟩
         replace q1:=q1.qy hE q1_b11
         replace qG:=qG.qy hE qG_b11
         replace hs115:=hs115.qy hE hs115_b11
         refine zLd (vJ 14 O O O (zY (ze ?_)))
         replace H:=H.front .h4
         replace H:=H.front .h4
         replace H:=H.front .h3
         replace H:=H.front .h3
         refine ⟨_,?le,b11,a115,cap115,O,(H.takeL 4),hc115,hO115,hO3,q1,hs115,q1_b11,q1_mb,q1_b4,q1_bx,hs115_b11,hs115_mb,hs115_b4,hs115_bx,qG,qG_b11,qG_mb,qG_b4,qG_bx⟩
         case le=>exact Env.qle ⟨O,O,O,O,O,O,⟨⟩⟩
        ·skip
         refine zu (W_alloc H O fun b11 S hb11 hE H=>?_)
         have q1_b11:=q1.ne hb11
         replace q1:=q1.mono hE
         have hs39_b11:=hs39.ne hb11
         replace hs39:=hs39.mono hE
         have qG_b11:=qG.ne hb11
         replace qG:=qG.mono hE
         refine ⟨fun _=>hE.up.ext,zA 8 (by kernel_rfl) O O (zu (zT O (ct131 qG hs39 hc39 hpe (by omega) hxs.lines fun a115 cap115 S hE hs115 hc115 ho115 htl115=>?_)))⟩
         have hs115_bx:=ho115.ne hs39_bx (H.get .h4)
         have hs115_b11:=ho115.ne hs39_b11 (H.get .h)
         have hs115_b4:=ho115.ne hs39_b4 (H.get .h3)
         have hs115_mb:=ho115.ne hs39_mb (H.get .h1)
         have hO115:Org S0 x2 a115:=hO39.trans (ho115.backX H.qx)
         replace H:=H.call hE
         replace q1:=q1.mono hE
         replace qG:=qG.mono hE
         refine zLd (vJ 9 O O O (vO 10 O O (fun _ _ hK=>vj O O hK) (vO 11 O O (fun _ _ hK=>vj O O hK) (zA 13 (by kernel_rfl) O O (zu (zSt H O O O .h O fun S hE H=>?_))))))
         replace q1:=q1.qy hE q1_b11
         replace qG:=qG.qy hE qG_b11
         replace hs115:=hs115.qy hE hs115_b11
         refine zLd (vJ 14 O O O (zY (ze ?_)))
         replace H:=H.front .h4
         replace H:=H.front .h4
         replace H:=H.front .h3
         replace H:=H.front .h3
         refine ⟨_,?le,b11,a115,cap115,O,(H.takeL 4),hc115,hO115,hO3,q1,hs115,q1_b11,q1_mb,q1_b4,q1_bx,hs115_b11,hs115_mb,hs115_b4,hs115_bx,qG,qG_b11,qG_mb,qG_b4,qG_bx⟩
         case le=>exact Env.qle ⟨O,O,O,O,O,O,⟨⟩⟩
       ·skip
        rintro _ S ⟨b11,a115,cap115,rfl,H,hc115,hO115,hO3,q1,hs115,q1_b11,q1_mb,q1_b4,q1_bx,hs115_b11,hs115_mb,hs115_b4,hs115_bx,qG,qG_b11,qG_mb,qG_b4,qG_bx⟩
        refine zR (zj O (zLn (vs:=[_]) H O .h O (za (vv O (vt O (zSs H O O O .h3 O fun S hE H=>?_))))))
        replace q1:=q1.qy hE q1_bx
        replace hs115:=hs115.qy hE hs115_bx
        refine zN (zB (z9 [] (vJ 0 O O O (vO 1 O O (fun _ _ hK=>vv O hK) (zLf 2 O O O (vk 3 O O (fun S' hS'=>zG fun K hK=>zF O (zH (hS' O) (by simp) (vw (i:=4) (v:=str xk.kn) (cells_own (H.get .h1) (row_sub (by simpa using hct2) zZ (vH hx2))) O)) hK) (vJ 4 O O O (zLf 6 O O O (vk 7 O O (fun S' hS'=>zG fun K hK=>zF O (zH (hS' O) (by simp) (H.cell .h2 O)) hK) (zA 5 (by kernel_rfl) O O (zu (zT O (ct99 (by omega) (by omega) fun b127 cap127 S hE hb127 hO127=>?_)))))))))))))
        replace H:=H.call hE
        replace q1:=q1.mono hE
        replace hs115:=hs115.mono hE
        refine ⟨fun _=>hE.up.ext,zA 8 (by kernel_rfl) O O (zu (zT O (ct132 hO127.sl (by have:=spansO_len xk.kn (vr (putE b.es s.s) xk.kn).2;omega) (SpM_spansO _ _) fun S hE =>?_)))⟩
        replace H:=H.call hE
        replace q1:=q1.mono hE
        replace hs115:=hs115.mono hE
        refine zLd (vJ 9 O O O (zY (ze (zB (z9 [] (vJ 0 O O O (vO 1 O O (fun _ _ hK=>vv O hK) (zLf 2 O O O (vk 3 O O (fun S' hS'=>zG fun K hK=>zF O (zH (hS' O) (by simp) (vw (i:=5) (v:=str xk.he) (cells_own (H.get .h1) (row_sub (by simpa using hct2) zZ (vH hx2))) O)) hK) (vJ 4 O O O (vO 5 O O (fun _ _ hK=>vv O hK) (zLf 6 O O O (vk 7 O O (fun S' hS'=>zG fun K hK=>zF O (zH (hS' O) (by simp) (vw (i:=6) (v:=str xk.ne) (cells_own (H.get .h1) (row_sub (by simpa using hct2) zZ (vH hx2))) O)) hK) (zLf 8 O O O (vk 9 O O (fun S' hS'=>zG fun K hK=>zF O (zH (hS' O) (by simp) (H.cell .h2 O)) hK) (zA 10 (by kernel_rfl) O O (zu (zT O (ct38 (by omega) (by omega) (by have h9:=h17.2.2.2.1;show -1099511627776≤s.ak∧s.ak≤1099511627776;omega) fun S hE =>?_)))))))))))))))))))
        replace H:=H.call hE
        replace q1:=q1.mono hE
        replace hs115:=hs115.mono hE
        refine zLd (zLf 11 O O O (zA 12 (by kernel_rfl) O O (zu (zSt H O O O .h2 O fun S hE H=>?_))))
        replace q1:=q1.qy hE q1_b4
        replace hs115:=hs115.qy hE hs115_b4
        refine zLd (zY (ze (zR (zLn (vs:=[_,_,_,_,_,_,_]) H O .h2 O (zj O (zj O (zCl O (ct133 (s:=({s with s:=⟨50,putP b.es s.s⟩,ak:=backD 0 (spansO xk.he xk.ne) s.ak}:Seg)) hS2 (by omega) ⟨hat.1,Int.le_trans hat.2 (by omega)⟩ fun b146 S hE hb146 hs146=>?_))))))))
        have hs146_b11:∀ b off,(some ⟨b146,0,none⟩:Option Addr)=some ⟨b,off,none⟩→b≠b11:=by
         rintro _ _ e rfl;cases e;exact absurd (H.get .h) (by rw [hb146];nofun)
        have hs146_mb:∀ b off,(some ⟨b146,0,none⟩:Option Addr)=some ⟨b,off,none⟩→b≠mb:=by
         rintro _ _ e rfl;cases e;exact absurd (H.get .h1) (by rw [hb146];nofun)
        have hs146_b4:∀ b off,(some ⟨b146,0,none⟩:Option Addr)=some ⟨b,off,none⟩→b≠b4:=by
         rintro _ _ e rfl;cases e;exact absurd (H.get .h2) (by rw [hb146];nofun)
        have hs146_bx:∀ b off,(some ⟨b146,0,none⟩:Option Addr)=some ⟨b,off,none⟩→b≠bx:=by
         rintro _ _ e rfl;cases e;exact absurd (H.get .h3) (by rw [hb146];nofun)
        replace H:=H.call hE
        obtain ⟨L2,hL2⟩:∃ L2,L2=cutO ({s with s:=⟨50,putP b.es s.s⟩,ak:=backD 0 (spansO xk.he xk.ne) s.ak}:Seg) (vr (putE b.es s.s) xk.kn).2 (outD 0 (spansO xk.kn (vr (putE b.es s.s) xk.kn).2) s.sq).toNat:=⟨_,rfl⟩
        have hL2b:L2.length≤1000:=by rw [hL2];have:=cutO_len ({s with s:=⟨50,putP b.es s.s⟩,ak:=backD 0 (spansO xk.he xk.ne) s.ak}:Seg) (vr (putE b.es s.s) xk.kn).2 (outD 0 (spansO xk.kn (vr (putE b.es s.s) xk.kn).2) s.sq).toNat;omega
        rw [← hL2] at hs146 hr ⊢
        replace q1:=q1.mono hE
        replace hs115:=hs115.mono hE
        refine zLl O (zj O (zN (zE ?_)))
        refine vg (fun E S m_=>∃ (i:Nat),E=Env.lst [(2,.chan (some c)),(146,sl b146 0 L2.length L2.length),(147,int L2.length),(148,int i)]∧Loc [bx,m] {S0 with g:=.sends c ((L2.drop i).map Seg.v)} S [(bx,Cs [.slice x1 b.rs.length n1,.slice a115 (vr (putE b.es s.s) xk.kn).1.length cap115,sl mb 0 cs1.length d3] 29),(mb,Cs (setl csb (0+kk*7+4) [str (addedS x.kn s)]) 49)]∧(i≤L2.length)∧(Sl S 7 (some ⟨b146,0,none⟩) (segRows L2))∧(Sl S 7 x1 (z5 b.rs))∧(Sl S 2 a115 (zS (vr (putE b.es s.s) xk.kn).1))∧m_=L2.length-i) ?_ ?_
        ·skip
         replace H:=H.quiet (show S0.g=.sends c ((L2.drop 0).map Seg.v) by rw [hg,hr];rfl)
         replace H:=H.front .h1
         replace H:=H.front .h3
         refine ⟨_,_,?le,0,O,(H.takeL 2),(by omega),hs146,q1,hs115,O⟩
         case le=>exact Env.qle ⟨O,O,O,O,⟨⟩⟩
        ·skip
         rintro _ S _ ⟨i,rfl,H,hi,hs146,q1,hs115,rfl⟩
         refine zR (za (vq O O fun t149 h149=>zN (zB ?_)))
         rcases t149 with _|_
         ·replace h149:=bF h149
          refine zn O (vf (zM (zM (vn (⟨trivial,_,zU,?_⟩)))))
          rw [show i=L2.length by omega,List.drop_length] at H
          rw [hr] at k
          exact k a115 _ cap115 d3 _ H.qx (by have:=H.get .h;rw [List.length_set];exact this) q1 hs115 hc115 (vC (H.get .h1) rfl (by simpa using hct2) zZ) (by rw [List.length_set];exact hd3) hO115 hO3 (.at hs115_mb)
         ·replace h149:=bT h149
          obtain ⟨y,hy⟩:∃ y,L2[i]? = some y:=⟨L2[i]'(by omega),by simp⟩
          obtain ⟨p,off,he,hcy⟩:=hs146.row i _ (segRows_at hy)
          cases he
          refine zr O (zt (ze (zB (zE (zR (zIa O O (za (zV (vs:=[_,_,_,_,_,_,_]) O (by have:=hcy;exact this) (zAl H O fun b15 S hb15 hE H=>?_)))))))))
          have hs146_b15:=hs146.ne hb15
          replace hs146:=hs146.mono hE
          have q1_b15:=q1.ne hb15
          replace q1:=q1.mono hE
          have hs115_b15:=hs115.ne hb15
          replace hs115:=hs115.mono hE
          refine zSs H O O O .h O fun S hE H=>?_
          replace hs146:=hs146.qy hE hs146_b15
          replace q1:=q1.qy hE q1_b15
          replace hs115:=hs115.qy hE hs115_b15
          refine zN (zL (zj O (zLn (vs:=[_,_,_,_,_,_,_]) H O .h O (za (W_send (vs:=(L2.drop (i+1)).map Seg.v) O O (by rw [H.g.eq];show Gh.sends _ _=_;rw [List.drop_eq_getElem_cons (by omega),show L2[i]=y from (List.getElem?_eq_some_iff.1 hy).2];rfl) ?_)))))
          replace H:=H.sent (.sends c ((L2.drop (i+1)).map Seg.v))
          replace q1:=q1.sent (.sends c ((L2.drop (i+1)).map Seg.v))
          replace hs115:=hs115.sent (.sends c ((L2.drop (i+1)).map Seg.v))
          replace hs146:=hs146.sent (.sends c ((L2.drop (i+1)).map Seg.v))
          refine ve (vc (ze (zL (zAd O O (zj O (zN ?_))))))
          replace H:=H.front .h2
          replace H:=H.front .h2
          refine ⟨_,_,?lt,?le,(i+1),O,(H.takeL 2),(by omega),hs146,q1,hs115,O⟩
          case lt=>omega
          case le=>exact Env.qle ⟨O,O,O,O,⟨⟩⟩
     ·replace h54:=bT h54
      have hyes:BoxP b∧SegP s∧s.s.inn∧s.d.out∧mayR b.rs s.s s.d=true:=⟨hB,h17,h28⟩
      have hr:=boxOutP_one hyes h43 h54
      refine zr O (zR (zj O (zLn (vs:=[_,_,_,_,_,_,_]) H O .h2 O (za (W_send (vs:=[]) O O (by rw [H.g.eq,hg,hr];rfl) ?_)))))
      replace H:=H.sent (.sends c [])
      replace q1:=q1.sent (.sends c [])
      replace hs39:=hs39.sent (.sends c [])
      refine zN (zh (zv (⟨trivial,_,zU,?_⟩)))
      rw [hr] at k
      exact k a39 (some ⟨m,0,none⟩) cap39 n3 _ H.qx (H.get .h3) q1 hs39 hc39 (vC (H.get .h4) rfl (by simpa using hctm) zZ) hn3 hO39 (.same _ _) (.at hs39_m)
    ·replace h43:=bT h43
     refine zr O (zh (zv (⟨trivial,_,zU,?_⟩)))
     have hyes:BoxP b∧SegP s∧s.s.inn∧s.d.out∧mayR b.rs s.s s.d=true:=⟨hB,h17,h28⟩
     have hr:=boxOutP_full hyes h43
     rw [hr] at hg k
     replace H:=H.quiet (by exact hg)
     exact k x2 (some ⟨m,0,none⟩) n2 n3 S H.qx (H.get .h3) q1 q2 hn2 (vC (H.get .h4) rfl (by simpa using hctm) zZ) hn3 (.same _ _) (.same _ _) (.at q2_m)
theorem ct55n (hG:Glob S0) (hB:BoxP b) (hg:S0.g=.sends c ((boxOutP b s).2.map Seg.v)) (hdt:s.dt.length≤1048576) (hbx:S0 bx=some ⟨Cs [.slice x1 b.rs.length n1,.slice x2 b.es.length n2,.slice none b.cs.length n3] 29,true⟩) (h1:Sl S0 7 x1 (z5 b.rs)) (h2:Sl S0 2 x2 (zS b.es)) (hn2:b.es.length≤n2) (hn3:b.cs.length≤n3) (hcs0:b.cs=[]) (h3n:n3=0) (qG_bx:bx∉[1,2,4]) (q1_bx:∀ b off,x1=some ⟨b,off,none⟩→b≠bx) (q2_bx:∀ b off,x2=some ⟨b,off,none⟩→b≠bx) (k:∀ (x2' x3':Option Addr) (d2 d3:Nat) S',Ext [bx] {S0 with g:=.sends c []} S'→S' bx=some ⟨Cs [.slice x1 b.rs.length n1,.slice x2' (boxOutP b s).1.es.length d2,.slice x3' (boxOutP b s).1.cs.length d3] 29,true⟩→Sl S' 7 x1 (z5 b.rs)→Sl S' 2 x2' (zS (boxOutP b s).1.es)→(boxOutP b s).1.es.length≤d2→Sl S' 7 x3' (zX (boxOutP b s).1.cs)→(boxOutP b s).1.cs.length≤d3→Org S0 x2 x2'→Org S0 none x3'→OffS x2' x3'→K (.tuple #[]) S') :
  zC 55 #[ptr bx 0,s.v,.chan (some c)] S0 K:=by
 refine zGo (sf:=s55) Tryz.func55 ?_
 have H:=Loc.start1 hbx
 have q1:=h1
 have q2:=h2
 have qG:=hG
 obtain ⟨hz1,hz2,hz3,hz4⟩:=hB.small
 have hnot:=fun h=>(boxOutP_not (b:=b) (s:=s) h).1 hB
 refine zR (zBx H O O fun b4 S hb4 hE H=>?_)
 have q1_b4:=q1.ne hb4
 replace q1:=q1.mono hE
 have q2_b4:=q2.ne hb4
 replace q2:=q2.mono hE
 have qG_b4:=qG.ne hb4
 replace qG:=qG.mono hE
 refine zN (zB (zB (z9 [] (vk 0 O O (fun S' hS'=>zG fun K hK=>zV O (zK (hS' O) (by simp) (H.cells (vs:=[_,_,_,_,_,_,_]) .h O)) hK) (zA 1 (by kernel_rfl) O O (zu (zT O (ct31 (by omega) fun t17 S hE h17=>?_))))))))
 replace H:=H.call hE
 replace q1:=q1.mono hE
 replace q2:=q2.mono hE
 replace qG:=qG.mono hE
 refine ⟨fun _=>hE.up.ext,vO 2 O O (fun _ _ hK=>W_not O hK) (vJ 3 O O O ?_)⟩
 rcases t17 with _|_
 ·replace h17:=bF h17
  refine vk 4 O O (fun S' _=>vo O (by decide)) (vk 5 O O (fun S' _=>vo O (by decide)) (vk 6 O O (fun S' _=>vo O (by decide)) (vk 7 O O (fun S' _=>vo O (by decide)) (vk 8 O O (fun S' _=>vo O (by decide)) (vk 9 O O (fun S' _=>vo O (by decide)) (vk 10 O O (fun S' _=>vo O (by decide)) (vk 11 O O (fun S' _=>vo O (by decide)) (zA 12 (by kernel_rfl) O O (step_no O (by decide) (⟨fun _=>fun _ _ _ h=>h,vk 13 O O (fun S' _=>vo O (by decide)) (vO 14 O O (fun _ _ hK=>W_pick O O O O hK) (zY (ze (zr O (zh (zv (⟨trivial,_,zU,?_⟩)))))))⟩))))))))))
  have hr:=hnot (fun h=>h17 h.2.1)
  rw [hr] at hg k
  replace H:=H.quiet (by exact hg)
  exact k x2 none n2 n3 S H.qx (H.get .h1) q1 q2 hn2 (by rw [hcs0];exact Sl.nil 7) hn3 (.same _ _) (.same _ _) .nil
 ·replace h17:=bT h17
  refine vk 4 O O (fun S' _=>vi O fun K hK=>vB O hK) (vk 5 O O (fun S' _=>vi O fun K hK=>vv O hK) (vk 6 O O (fun S' _=>vi O fun K hK=>zy O hK) (vk 7 O O (fun S' hS'=>vi O fun K hK=>zF O (zH (hS' O) (by simp) (H.cell .h1 O)) hK) (vk 8 O O (fun S' _=>vi O fun K hK=>zy O hK) (vk 9 O O (fun S' hS'=>vi O fun K hK=>zV O (zK (hS' O) (by simp) (H.cells (vs:=[_,_]) .h O)) hK) (vk 10 O O (fun S' _=>vi O fun K hK=>zy O hK) (vk 11 O O (fun S' hS'=>vi O fun K hK=>zV O (zK (hS' O) (by simp) (H.cells (vs:=[_,_]) .h O)) hK) (zA 12 (by kernel_rfl) O O (step_yes O (zT O (ct87 q1 (by omega) fun t28 S hE h28=>?_)))))))))))
  replace H:=H.call hE
  replace q1:=q1.mono hE
  replace q2:=q2.mono hE
  replace qG:=qG.mono hE
  refine zLd (vk 13 O O (fun S' _=>vi O fun K hK=>W_not O hK) (vO 14 O O (fun _ _ hK=>W_pick O O O O hK) (zY (ze ?_))))
  rcases t28 with _|_
  ·replace h28:=bF h28
   refine zr O (zh (zv (⟨trivial,_,zU,?_⟩)))
   have hr:=hnot (fun h=>h28 h.2.2)
   rw [hr] at hg k
   replace H:=H.quiet (by exact hg)
   exact k x2 none n2 n3 S H.qx (H.get .h1) q1 q2 hn2 (by rw [hcs0];exact Sl.nil 7) hn3 (.same _ _) (.same _ _) .nil
  ·replace h28:=bT h28
   refine zn O (zt (ze (zR (vt O (zLn (vs:=[_,_]) H O .h O (zAl H O fun b6 S hb6 hE H=>?_))))))
   have q1_b6:=q1.ne hb6
   replace q1:=q1.mono hE
   have q2_b6:=q2.ne hb6
   replace q2:=q2.mono hE
   have qG_b6:=qG.ne hb6
   replace qG:=qG.mono hE
   refine zSs H O O O .h O fun S hE H=>?_
   replace q1:=q1.qy hE q1_b6
   replace q2:=q2.qy hE q2_b6
   replace qG:=qG.qy hE qG_b6
   refine zN ?_
   refine wpS_cut (fun E S=>∃ (b7:Nat) (a39:Option Addr) (cap39:Nat),E=Env.lst [(0,ptr bx 0),(2,.chan (some c)),(4,ptr b4 0),(6,ptr b6 0),(7,ptr b7 0),(8,int (putP b.es s.s))]∧Loc [bx] S0 S [(b7,Cs [.slice a39 (putE b.es s.s).length cap39] 26),(b6,Cs s.s.row 31),(b4,Cs s.row 33),(bx,Cs [.slice x1 b.rs.length n1,.slice x2 b.es.length n2,.slice none b.cs.length n3] 29)]∧((putE b.es s.s).length≤cap39)∧(Org S0 x2 a39)∧(Sl S 7 x1 (z5 b.rs))∧(Sl S 2 x2 (zS b.es))∧(Sl S 2 a39 (zS (putE b.es s.s)))∧(∀ b off,x1=some ⟨b,off,none⟩→b≠b7)∧(∀ b off,x1=some ⟨b,off,none⟩→b≠b6)∧(∀ b off,x1=some ⟨b,off,none⟩→b≠b4)∧(∀ b off,x1=some ⟨b,off,none⟩→b≠bx)∧(∀ b off,x2=some ⟨b,off,none⟩→b≠b7)∧(∀ b off,x2=some ⟨b,off,none⟩→b≠b6)∧(∀ b off,x2=some ⟨b,off,none⟩→b≠b4)∧(∀ b off,x2=some ⟨b,off,none⟩→b≠bx)∧(∀ b off,a39=some ⟨b,off,none⟩→b≠b7)∧(∀ b off,a39=some ⟨b,off,none⟩→b≠b6)∧(∀ b off,a39=some ⟨b,off,none⟩→b≠b4)∧(∀ b off,a39=some ⟨b,off,none⟩→b≠bx)∧(Glob S)∧(b7∉[1,2,4])∧(b6∉[1,2,4])∧(b4∉[1,2,4])∧(bx∉[1,2,4])) ?_ ?_
   ·skip
    refine z9 [] (vJ 0 O O O (vO 1 O O (fun _ _ hK=>vv O hK) (zLf 2 O O O (vk 3 O O (fun S' hS'=>zG fun K hK=>zV O (zK (hS' O) (by simp) (H.cells (vs:=[_]) .h2 O)) hK) (vk 4 O O (fun S' hS'=>zG fun K hK=>zV O (zK (hS' O) (by simp) (H.cells (vs:=[_,_]) .h O)) hK) (wpD_two 5 9 (by kernel_rfl) O O O O ?_ ?_))))))
    ·skip
     refine zu (zT O (ct68 q2 hn2 (by omega) fun a39 cap39 S hE hs39 hc39 ho39=>?_))
     have hs39_b6:=ho39.ne q2_b6 (H.get .h)
     have hs39_bx:=ho39.ne q2_bx (H.get .h2)
     have hs39_b4:=ho39.ne q2_b4 (H.get .h1)
     have hO39:Org S0 x2 a39:=ho39.backX H.qx
     replace H:=H.call hE
     replace q1:=q1.mono hE
     replace q2:=q2.mono hE
     replace qG:=qG.mono hE
     refine zLd (vJ 6 O O O (vO 7 O O (fun _ _ hK=>vj O O hK) (vO 8 O O (fun _ _ hK=>vj O O hK) (zA 9 (by kernel_rfl) O O (zu (W_alloc H O fun b7 S hb7 hE H=>?_))))))
     have q1_b7:=q1.ne hb7
     replace q1:=q1.mono hE
     have q2_b7:=q2.ne hb7
     replace q2:=q2.mono hE
     have qG_b7:=qG.ne hb7
     replace qG:=qG.mono hE
     have hs39_b7:=hs39.ne hb7
     replace hs39:=hs39.mono hE
     refine ⟨fun _=>hE.up.ext,zA 10 (by kernel_rfl) O O (zu (zSt H O O O .h O fun S hE H=>?_))⟩
     replace q1:=q1.qy hE q1_b7
     replace q2:=q2.qy hE q2_b7
     replace qG:=qG.qy hE qG_b7
     replace hs39:=hs39.qy hE hs39_b7
     refine zLd (vJ 11 O O O (zY (ze ?_)))
     replace H:=H.front .h3
     replace H:=H.front .h3
     replace H:=H.front .h3
     replace H:=H.front .h3
     refine ⟨_,?le,b7,a39,cap39,O,H,hc39,hO39,q1,q2,hs39,q1_b7,q1_b6,q1_b4,q1_bx,q2_b7,q2_b6,q2_b4,q2_bx,hs39_b7,hs39_b6,hs39_b4,hs39_bx,qG,qG_b7,qG_b6,qG_b4,qG_bx⟩
     case le=>exact Env.qle ⟨O,O,O,O,O,O,⟨⟩⟩
    ·skip
     refine zu (W_alloc H O fun b7 S hb7 hE H=>?_)
     have q1_b7:=q1.ne hb7
     replace q1:=q1.mono hE
     have q2_b7:=q2.ne hb7
     replace q2:=q2.mono hE
     have qG_b7:=qG.ne hb7
     replace qG:=qG.mono hE
     refine ⟨fun _=>hE.up.ext,zA 5 (by kernel_rfl) O O (zu (zT O (ct68 q2 hn2 (by omega) fun a39 cap39 S hE hs39 hc39 ho39=>?_)))⟩
     have hs39_b6:=ho39.ne q2_b6 (H.get .h1)
     have hs39_bx:=ho39.ne q2_bx (H.get .h3)
     have hs39_b4:=ho39.ne q2_b4 (H.get .h2)
     have hs39_b7:=ho39.ne q2_b7 (H.get .h)
     have hO39:Org S0 x2 a39:=ho39.backX H.qx
     replace H:=H.call hE
     replace q1:=q1.mono hE
     replace q2:=q2.mono hE
     replace qG:=qG.mono hE
     refine zLd (vJ 6 O O O (vO 7 O O (fun _ _ hK=>vj O O hK) (vO 8 O O (fun _ _ hK=>vj O O hK) (zA 10 (by kernel_rfl) O O (zu (zSt H O O O .h O fun S hE H=>?_))))))
     replace q1:=q1.qy hE q1_b7
     replace q2:=q2.qy hE q2_b7
     replace qG:=qG.qy hE qG_b7
     replace hs39:=hs39.qy hE hs39_b7
     refine zLd (vJ 11 O O O (zY (ze ?_)))
     replace H:=H.front .h3
     replace H:=H.front .h3
     replace H:=H.front .h3
     replace H:=H.front .h3
     refine ⟨_,?le,b7,a39,cap39,O,H,hc39,hO39,q1,q2,hs39,q1_b7,q1_b6,q1_b4,q1_bx,q2_b7,q2_b6,q2_b4,q2_bx,hs39_b7,hs39_b6,hs39_b4,hs39_bx,qG,qG_b7,qG_b6,qG_b4,qG_bx⟩
     case le=>exact Env.qle ⟨O,O,O,O,O,O,⟨⟩⟩
   ·skip
    rintro _ S ⟨b7,a39,cap39,rfl,H,hc39,hO39,q1,q2,hs39,q1_b7,q1_b6,q1_b4,q1_bx,q2_b7,q2_b6,q2_b4,q2_bx,hs39_b7,hs39_b6,hs39_b4,hs39_bx,qG,qG_b7,qG_b6,qG_b4,qG_bx⟩
    refine vz (zj O (za (W_eqI O O fun t43 h43=>zN ?_)))
    rcases t43 with _|_
    ·replace h43:=bF h43
     refine zn O (zt (ze (zR (zj O (zLn (vs:=[_]) H O .h O (za (vv O (vt O (zSs H O O O .h3 O fun S hE H=>?_)))))))))
     replace q1:=q1.qy hE q1_bx
     replace hs39:=hs39.qy hE hs39_bx
     replace qG:=qG.qy hE qG_bx
     refine vA (zj O (za (vL (cs:=[_,_]) O O (vt O (zSs H O O O .h2 O fun S hE H=>?_)))))
     replace q1:=q1.qy hE q1_b4
     replace hs39:=hs39.qy hE hs39_b4
     replace qG:=qG.qy hE qG_b4
     refine zN (vz (vt O (vt O (zL1 H O .h2 O (za (W_neI O O fun t54 h54=>zN ?_))))))
     rcases t54 with _|_
     ·replace h54:=bF h54
      have hyes:BoxP b∧SegP s∧s.s.inn∧s.d.out∧mayR b.rs s.s s.d=true:=⟨hB,h17,h28⟩
      have hr:=boxOutP_ctl hyes h43 (Classical.not_not.1 h54)
      have hpp:=putP_bd (e:=s.s) hz2
      have hpe:(putE b.es s.s).length≤6:=by
       unfold putE;split
       ·omega
       ·simp;omega
      have hpp1:1≤putP b.es s.s:=by omega
      refine zn O (zt (ze (zB (z9 [] (vJ 0 O O O (vO 1 O O (fun _ _ hK=>vv O hK) (vk 2 O O (fun S' hS'=>zG fun K hK=>zV O (zK (hS' O) (by simp) (H.cells (vs:=[_,_,_]) .h3 O)) hK) (vk 3 O O (fun S' hS'=>zG fun K hK=>zV O (zK (hS' O) (by simp) (H.cells (vs:=[_,_]) .h1 O)) hK) (zLf 4 O O O (vk 5 O O (fun S' hS'=>zG fun K hK=>zV O (zK (hS' O) (by simp) (H.cells (vs:=[_,_]) .h2 O)) hK) (zA 6 (by kernel_rfl) O O (zu (zT O (ct65 (b:=⟨b.rs,(putE b.es s.s),b.cs⟩) (by rw [hcs0];exact Sl.nil 7) (by show b.cs.length≤_;omega) fun S hE =>?_))))))))))))))
      replace H:=H.call hE
      have e63:vK (⟨b.rs,(putE b.es s.s),b.cs⟩:Box).cs s.s s.d=vK b.cs s.s s.d:=rfl
      rw [e63]
      replace q1:=q1.mono hE
      replace hs39:=hs39.mono hE
      replace qG:=qG.mono hE
      refine zLd (vJ 7 O O O (zY (ze ?_)))
      refine wpS_cut (fun E S=>∃ (mb:Nat) (csb:List Value) (cs1:List Conn) (kk:Nat) (x:Conn) (d3:Nat),E=Env.lst [(0,ptr bx 0),(2,.chan (some c)),(4,ptr b4 0),(6,ptr b6 0),(9,int kk)]∧Loc [bx] S0 S [(mb,Cs csb 49),(b6,Cs s.s.row 31),(b4,Cs ({s with s:=⟨50,putP b.es s.s⟩}:Seg).row 33),(bx,Cs [.slice x1 b.rs.length n1,.slice a39 (putE b.es s.s).length cap39,sl mb 0 cs1.length d3] 29)]∧(Org S0 x2 a39)∧(Org S0 none (some ⟨mb,0,none⟩))∧(vM b.cs s.s s.d=(cs1,(kk:Int)))∧(cs1[kk]? = some x)∧(cs1.length*7≤csb.length)∧(csb.take (cs1.length*7)=(zX cs1).flatten)∧(cs1.length≤d3)∧(StrP x.kn∧x.he.length≤120∧x.ne.length≤240)∧(Sl S 7 x1 (z5 b.rs))∧(Sl S 2 a39 (zS (putE b.es s.s)))∧(∀ b off,x1=some ⟨b,off,none⟩→b≠mb)∧(∀ b off,x1=some ⟨b,off,none⟩→b≠b6)∧(∀ b off,x1=some ⟨b,off,none⟩→b≠b4)∧(∀ b off,x1=some ⟨b,off,none⟩→b≠bx)∧(∀ b off,a39=some ⟨b,off,none⟩→b≠mb)∧(∀ b off,a39=some ⟨b,off,none⟩→b≠b6)∧(∀ b off,a39=some ⟨b,off,none⟩→b≠b4)∧(∀ b off,a39=some ⟨b,off,none⟩→b≠bx)∧(Glob S)∧(mb∉[1,2,4])∧(b6∉[1,2,4])∧(b4∉[1,2,4])∧(bx∉[1,2,4])) ?_ ?_
      ·skip
       refine zR (zj O (za (vq O O fun t65 h65=>zN ?_)))
       rcases t65 with _|_
       ·replace h65:=bF h65
        exact absurd (show vK b.cs s.s s.d<0 by rw [hcs0];simp [vK]) h65
       ·replace h65:=bT h65
        refine zr O (vz (zj O (za (vv O (vt O (zL1 H O .h3 O (zLl O (za (W_geq O O fun t71 h71=>zN ?_)))))))))
        rcases t71 with _|_
        ·replace h71:=bF h71
         refine zn O (zt (ze (zR (zj O (za (vv O (vt O (zL1 H O .h3 O (zLl O (zj O (zN (z9 [] (vJ 0 O O O (vJ 1 O O O (vO 2 O O (fun _ _ hK=>vv O hK) (zLf 3 O O O (vk 4 O O (fun S' hS'=>zG fun K hK=>zF O (zH (hS' O) (by simp) (H.cell .h3 O)) hK) (vk 5 O O (fun S' hS'=>zG fun K hK=>zV O (zK (hS' O) (by simp) (H.cells (vs:=[_,_]) .h1 O)) hK) (zLf 6 O O O (vk 7 O O (fun S' hS'=>zG fun K hK=>zV O (zK (hS' O) (by simp) (H.cells (vs:=[_,_]) .h2 O)) hK) (vO 8 O O (fun _ _ hK=>vL (cs:=[_,_,_,_,_,_,_]) O O hK) (zA 9 (by kernel_rfl) O O (zu (z_ (cs:=[_,_,_,_,_,_,_]) H O O fun b86 S hb86 hE H=>?_))))))))))))))))))))))))
         replace q1:=q1.mono hE
         replace hs39:=hs39.mono hE
         replace qG:=qG.mono hE
         refine ⟨fun _=>hE.up.ext,zA 10 (by kernel_rfl) O O (zu (W_appendNew (old:=(zX b.cs).flatten) H O O (by omega) (Src.sl (by rw [hcs0];exact Sl.nil 7) zZ (by simp)).2 (connRows_flat b.cs) (Src.own H .h O) O (by decide) (by omega) O fun b87 cap87 cs87 S hb87 H hE hn87 hcl87 hct87=>?_))⟩
         have hN87:S0 b87=none:=(H.fresh _ _ (Has.mem .h)).resolve_right (by intro hm;simp only [List.mem_cons,List.not_mem_nil,or_false] at hm;subst hm;exact absurd H.nodup (by simp))
         have q1_b87:=q1.ne hb87
         replace q1:=q1.mono hE
         have hs39_b87:=hs39.ne hb87
         replace hs39:=hs39.mono hE
         have qG_b87:=qG.ne hb87
         replace qG:=qG.mono hE
         refine zLd (zA 11 (by kernel_rfl) O O (zu (zT O (ct129 hn87 fun S hE =>?_))))
         replace H:=H.call hE
         replace q1:=q1.mono hE
         replace hs39:=hs39.mono hE
         replace qG:=qG.mono hE
         refine zLd (vO 12 O O (fun _ _ hK=>vv O hK) (zLf 13 O O O (zA 14 (by kernel_rfl) O O (zu (zSt H O O O .h5 O fun S hE H=>?_)))))
         replace q1:=q1.qy hE q1_bx
         replace hs39:=hs39.qy hE hs39_bx
         replace qG:=qG.qy hE qG_bx
         refine zLd (zY (ze ?_))
         have e87:b.cs.length+1=(b.cs++[(⟨s.s,s.d,[],[],[]⟩:Conn)]).length:=by simp
         rw [e87] at H
         replace H:=H.front .h5
         replace H:=H.front .h5
         replace H:=H.front .h5
         replace H:=H.front .h3
         refine ⟨_,?le,b87,cs87,(b.cs++[Conn.mk s.s s.d [] [] []]),b.cs.length,(Conn.mk s.s s.d [] [] []),(b.cs++[Conn.mk s.s s.d [] [] []]).length,O,(H.takeL 4),hO39,(.new hN87),(placeC_new (by omega) (by omega)),(by simp),(by rw [hcl87];have h9:=Nat.mul_le_mul_right 7 hn87;simpa using h9),(by simpa [zX] using hct87),(by simp),⟨StrP_nil,by simp,by simp⟩,q1,hs39,q1_b87,q1_b6,q1_b4,q1_bx,hs39_b87,hs39_b6,hs39_b4,hs39_bx,qG,qG_b87,qG_b6,qG_b4,qG_bx⟩
         case le=>exact Env.qle ⟨O,O,O,O,O,⟨⟩⟩
        ·replace h71:=bT h71
         refine zr O (zh (zv (zv (⟨trivial,_,zU,?_⟩))))
         have hfull:=placeC_full (cs:=b.cs) (e:=s.s) (f:=s.d) (by omega) (by omega)
         have hr2:=ctlO_no (b:={b with es:=(putE b.es s.s)}) (s:=s) (port:=putP b.es s.s) (by show (vM b.cs s.s s.d).2<0;rw [hfull];simp)
         simp only [hfull] at hr2
         rw [hr2] at hr
         rw [hr] at hg k
         replace H:=H.quiet (by exact hg)
         exact k a39 none cap39 n3 S H.qx (H.get .h3) q1 hs39 hc39 (by rw [hcs0];exact Sl.nil 7) hn3 hO39 (.same _ _) .nil
      ·skip
       rintro _ S ⟨mb,csb,cs1,kk,x,d3,rfl,H,hO39,hO3,hpl,hx,hcb,hct,hd3,hxz,q1,hs39,q1_mb,q1_b6,q1_b4,q1_bx,hs39_mb,hs39_b6,hs39_b4,hs39_bx,qG,qG_mb,qG_b6,qG_b4,qG_bx⟩
       have hxk1:=hxz.1.2.2
       have hxz2:=hxz.2.1
       have hxz3:=hxz.2.2
       have hkl:=(List.getElem?_eq_some_iff.1 hx).1
       have hbd:(0+kk*7+4)+1≤csb.length:=by have:=Nat.mul_le_mul_right 7 (show kk+1≤cs1.length by omega);omega
       refine zR (zj O (za (vv O (vt O (zL1 H O .h3 O (zj O (zIa O O (zj O (zN (zB (z9 [] (vJ 0 O O O (vJ 1 O O O (vO 2 O O (fun _ _ hK=>vv O hK) (zLf 3 O O O (vk 4 O O (fun S' hS'=>zG fun K hK=>zF O (zH (hS' O) (by simp) (vw (i:=4) (v:=str x.kn) (cells_own (H.get .h) (row_sub (by simpa using hct) zZ (vH hx))) O)) hK) (vk 5 O O (fun S' hS'=>zG fun K hK=>zV O (zK (hS' O) (by simp) (H.cells (vs:=[_,_,_,_,_,_,_]) .h2 O)) hK) (zA 6 (by kernel_rfl) O O (zu (zT O (ct130 (s:=({s with s:=⟨50,putP b.es s.s⟩}:Seg)) (by omega) hdt (by have h9:=h17.2.2.1;show -1099511627776≤s.sq∧s.sq≤1099511627776;omega) fun S hE =>?_)))))))))))))))))))))
       replace H:=H.call hE
       have e103:addedS x.kn ({s with s:=⟨50,putP b.es s.s⟩}:Seg)=addedS x.kn s:=rfl
       rw [e103]
       replace q1:=q1.mono hE
       replace hs39:=hs39.mono hE
       replace qG:=qG.mono hE
       refine zLd (vO 7 O O (fun _ _ hK=>vv O hK) (zLf 8 O O O (zA 9 (by kernel_rfl) O O (zu (W_store H O O O O O (by decide) .h hbd O fun S hE H=>?_)))))
       obtain ⟨xk,hxk⟩:∃ y:Conn,y={x with kn:=addedS x.kn s}:=⟨_,rfl⟩
       have hxe:xk=vI x s:=by rw [hxk,knownC_eq]
       have hct2:(setl csb (0+kk*7+4) [str (addedS x.kn s)]).take ((cs1.set kk xk).length*7)=(zX (cs1.set kk xk)).flatten:=by
        have h9:=row_cell (j:=4) (v:=str (addedS x.kn s)) (k:=7) (rows:=zX cs1) (by simpa using hct) zZ (vH hx) (by decide)
        rw [hxk]
        simpa [zX,List.map_set] using h9
       have hx2:(cs1.set kk xk)[kk]? = some xk:=by simp [hkl]
       have hxs:StrP xk.kn:=by rw [hxk];exact addedS_ok hxz.1
       have hxl:xk.kn.length≤120:=hxs.2.2
       have hxh:xk.he=x.he∧xk.ne=x.ne:=by rw [hxk];exact ⟨rfl,rfl⟩
       have hxh1:=congrArg List.length hxh.1
       have hxh2:=congrArg List.length hxh.2
       have hfl:=streamO_grow (es:=(putE b.es s.s)) hpe hxl
       have hbk:=backO_bd xk.he xk.ne s.ak
       have hat:=outO_bd xk.kn (vr (putE b.es s.s) xk.kn).2 s.sq
       have hS2:SegP ({s with s:=⟨50,putP b.es s.s⟩,ak:=backD 0 (spansO xk.he xk.ne) s.ak}:Seg):=⟨⟨.inr (.inr rfl),by show 1≤putP b.es s.s∧putP b.es s.s≤999;omega⟩,h17.2.1,h17.2.2.1,by show 0≤backD 0 (spansO xk.he xk.ne) s.ak∧backD 0 (spansO xk.he xk.ne) s.ak≤240;omega,h17.2.2.2.2⟩
       have hr2:=ctlO_yes (b:={b with es:=(putE b.es s.s)}) (s:=s) (port:=putP b.es s.s) (c0:=x) (c:=xk) (by show ¬ (vM b.cs s.s s.d).2<0;rw [hpl];simp) (by show (vM b.cs s.s s.d).1[(vM b.cs s.s s.d).2.toNat]? = some x;rw [hpl];exact hx) hxe
       simp only [hpl,Int.toNat_natCast] at hr2
       rw [hr2] at hr
       replace q1:=q1.qy hE q1_mb
       replace hs39:=hs39.qy hE hs39_mb
       replace qG:=qG.qy hE qG_mb
       refine zLd (zY (ze ?_))
       refine wpS_cut (fun E S=>∃ (b11:Nat) (a115:Option Addr) (cap115:Nat),E=Env.lst [(0,ptr bx 0),(2,.chan (some c)),(4,ptr b4 0),(10,ptr mb (0+kk*7)),(11,ptr b11 0),(12,str (vr (putE b.es s.s) xk.kn).2)]∧Loc [bx] S0 S [(b11,Cs [.slice a115 (vr (putE b.es s.s) xk.kn).1.length cap115] 26),(mb,Cs (setl csb (0+kk*7+4) [str (addedS x.kn s)]) 49),(b4,Cs ({s with s:=⟨50,putP b.es s.s⟩}:Seg).row 33),(bx,Cs [.slice x1 b.rs.length n1,.slice a39 (putE b.es s.s).length cap39,sl mb 0 cs1.length d3] 29)]∧((vr (putE b.es s.s) xk.kn).1.length≤cap115)∧(Org S0 x2 a115)∧(Org S0 none (some ⟨mb,0,none⟩))∧(Sl S 7 x1 (z5 b.rs))∧(Sl S 2 a115 (zS (vr (putE b.es s.s) xk.kn).1))∧(∀ b off,x1=some ⟨b,off,none⟩→b≠b11)∧(∀ b off,x1=some ⟨b,off,none⟩→b≠mb)∧(∀ b off,x1=some ⟨b,off,none⟩→b≠b4)∧(∀ b off,x1=some ⟨b,off,none⟩→b≠bx)∧(∀ b off,a115=some ⟨b,off,none⟩→b≠b11)∧(∀ b off,a115=some ⟨b,off,none⟩→b≠mb)∧(∀ b off,a115=some ⟨b,off,none⟩→b≠b4)∧(∀ b off,a115=some ⟨b,off,none⟩→b≠bx)∧(Glob S)∧(b11∉[1,2,4])∧(mb∉[1,2,4])∧(b4∉[1,2,4])∧(bx∉[1,2,4])) ?_ ?_
       ·skip
        refine z9 [] (vJ 0 O O O (vO 1 O O (fun _ _ hK=>vv O hK) (zLf 2 O O O (vk 3 O O (fun S' hS'=>zG fun K hK=>zV O (zK (hS' O) (by simp) (H.cells (vs:=[_]) .h3 O)) hK) (vJ 4 O O O (vO 5 O O (fun _ _ hK=>vv O hK) (zLf 6 O O O (vk 7 O O (fun S' hS'=>zG fun K hK=>zF O (zH (hS' O) (by simp) (vw (i:=4) (v:=str xk.kn) (cells_own (H.get .h) (row_sub (by simpa using hct2) zZ (vH hx2))) O)) hK) (wpD_two 8 12 (by kernel_rfl) O O O O ?_ ?_)))))))))
        ·skip
         refine zu (zT O (ct131 qG hs39 hc39 hpe (by omega) hxs.lines fun a115 cap115 S hE hs115 hc115 ho115 htl115=>?_))
         have hs115_mb:=ho115.ne hs39_mb (H.get .h)
         have hs115_bx:=ho115.ne hs39_bx (H.get .h3)
         have hs115_b4:=ho115.ne hs39_b4 (H.get .h2)
         have hO115:Org S0 x2 a115:=hO39.trans (ho115.backX H.qx)
         replace H:=H.call hE
         replace q1:=q1.mono hE
         replace qG:=qG.mono hE
         refine zLd (vJ 9 O O O (vO 10 O O (fun _ _ hK=>vj O O hK) (vO 11 O O (fun _ _ hK=>vj O O hK) (zA 12 (by kernel_rfl) O O (zu (W_alloc H O fun b11 S hb11 hE H=>?_))))))
         have q1_b11:=q1.ne hb11
         replace q1:=q1.mono hE
         have qG_b11:=qG.ne hb11
         replace qG:=qG.mono hE
         have hs115_b11:=hs115.ne hb11
         replace hs115:=hs115.mono hE
         refine ⟨fun _=>hE.up.ext,zA 13 (by kernel_rfl) O O (zu (zSt H O O O .h O fun S hE H=>?_))⟩
         replace q1:=q1.qy hE q1_b11
         replace qG:=qG.qy hE qG_b11
         replace hs115:=hs115.qy hE hs115_b11
         refine zLd (vJ 14 O O O (zY (ze ?_)))
         replace H:=H.front .h4
         replace H:=H.front .h4
         replace H:=H.front .h3
         replace H:=H.front .h3
         refine ⟨_,?le,b11,a115,cap115,O,(H.takeL 4),hc115,hO115,hO3,q1,hs115,q1_b11,q1_mb,q1_b4,q1_bx,hs115_b11,hs115_mb,hs115_b4,hs115_bx,qG,qG_b11,qG_mb,qG_b4,qG_bx⟩
         case le=>exact Env.qle ⟨O,O,O,O,O,O,⟨⟩⟩
        ·skip
         refine zu (W_alloc H O fun b11 S hb11 hE H=>?_)
         have q1_b11:=q1.ne hb11
         replace q1:=q1.mono hE
         have hs39_b11:=hs39.ne hb11
         replace hs39:=hs39.mono hE
         have qG_b11:=qG.ne hb11
         replace qG:=qG.mono hE
         refine ⟨fun _=>hE.up.ext,zA 8 (by kernel_rfl) O O (zu (zT O (ct131 qG hs39 hc39 hpe (by omega) hxs.lines fun a115 cap115 S hE hs115 hc115 ho115 htl115=>?_)))⟩
         have hs115_bx:=ho115.ne hs39_bx (H.get .h4)
         have hs115_b11:=ho115.ne hs39_b11 (H.get .h)
         have hs115_b4:=ho115.ne hs39_b4 (H.get .h3)
         have hs115_mb:=ho115.ne hs39_mb (H.get .h1)
         have hO115:Org S0 x2 a115:=hO39.trans (ho115.backX H.qx)
         replace H:=H.call hE
         replace q1:=q1.mono hE
         replace qG:=qG.mono hE
         refine zLd (vJ 9 O O O (vO 10 O O (fun _ _ hK=>vj O O hK) (vO 11 O O (fun _ _ hK=>vj O O hK) (zA 13 (by kernel_rfl) O O (zu (zSt H O O O .h O fun S hE H=>?_))))))
         replace q1:=q1.qy hE q1_b11
         replace qG:=qG.qy hE qG_b11
         replace hs115:=hs115.qy hE hs115_b11
         refine zLd (vJ 14 O O O (zY (ze ?_)))
         replace H:=H.front .h4
         replace H:=H.front .h4
         replace H:=H.front .h3
         replace H:=H.front .h3
         refine ⟨_,?le,b11,a115,cap115,O,(H.takeL 4),hc115,hO115,hO3,q1,hs115,q1_b11,q1_mb,q1_b4,q1_bx,hs115_b11,hs115_mb,hs115_b4,hs115_bx,qG,qG_b11,qG_mb,qG_b4,qG_bx⟩
         case le=>exact Env.qle ⟨O,O,O,O,O,O,⟨⟩⟩
       ·skip
        rintro _ S ⟨b11,a115,cap115,rfl,H,hc115,hO115,hO3,q1,hs115,q1_b11,q1_mb,q1_b4,q1_bx,hs115_b11,hs115_mb,hs115_b4,hs115_bx,qG,qG_b11,qG_mb,qG_b4,qG_bx⟩
        refine zR (zj O (zLn (vs:=[_]) H O .h O (za (vv O (vt O (zSs H O O O .h3 O fun S hE H=>?_))))))
        replace q1:=q1.qy hE q1_bx
        replace hs115:=hs115.qy hE hs115_bx
        refine zN (zB (z9 [] (vJ 0 O O O (vO 1 O O (fun _ _ hK=>vv O hK) (zLf 2 O O O (vk 3 O O (fun S' hS'=>zG fun K hK=>zF O (zH (hS' O) (by simp) (vw (i:=4) (v:=str xk.kn) (cells_own (H.get .h1) (row_sub (by simpa using hct2) zZ (vH hx2))) O)) hK) (vJ 4 O O O (zLf 6 O O O (vk 7 O O (fun S' hS'=>zG fun K hK=>zF O (zH (hS' O) (by simp) (H.cell .h2 O)) hK) (zA 5 (by kernel_rfl) O O (zu (zT O (ct99 (by omega) (by omega) fun b127 cap127 S hE hb127 hO127=>?_)))))))))))))
        replace H:=H.call hE
        replace q1:=q1.mono hE
        replace hs115:=hs115.mono hE
        refine ⟨fun _=>hE.up.ext,zA 8 (by kernel_rfl) O O (zu (zT O (ct132 hO127.sl (by have:=spansO_len xk.kn (vr (putE b.es s.s) xk.kn).2;omega) (SpM_spansO _ _) fun S hE =>?_)))⟩
        replace H:=H.call hE
        replace q1:=q1.mono hE
        replace hs115:=hs115.mono hE
        refine zLd (vJ 9 O O O (zY (ze (zB (z9 [] (vJ 0 O O O (vO 1 O O (fun _ _ hK=>vv O hK) (zLf 2 O O O (vk 3 O O (fun S' hS'=>zG fun K hK=>zF O (zH (hS' O) (by simp) (vw (i:=5) (v:=str xk.he) (cells_own (H.get .h1) (row_sub (by simpa using hct2) zZ (vH hx2))) O)) hK) (vJ 4 O O O (vO 5 O O (fun _ _ hK=>vv O hK) (zLf 6 O O O (vk 7 O O (fun S' hS'=>zG fun K hK=>zF O (zH (hS' O) (by simp) (vw (i:=6) (v:=str xk.ne) (cells_own (H.get .h1) (row_sub (by simpa using hct2) zZ (vH hx2))) O)) hK) (zLf 8 O O O (vk 9 O O (fun S' hS'=>zG fun K hK=>zF O (zH (hS' O) (by simp) (H.cell .h2 O)) hK) (zA 10 (by kernel_rfl) O O (zu (zT O (ct38 (by omega) (by omega) (by have h9:=h17.2.2.2.1;show -1099511627776≤s.ak∧s.ak≤1099511627776;omega) fun S hE =>?_)))))))))))))))))))
        replace H:=H.call hE
        replace q1:=q1.mono hE
        replace hs115:=hs115.mono hE
        refine zLd (zLf 11 O O O (zA 12 (by kernel_rfl) O O (zu (zSt H O O O .h2 O fun S hE H=>?_))))
        replace q1:=q1.qy hE q1_b4
        replace hs115:=hs115.qy hE hs115_b4
        refine zLd (zY (ze (zR (zLn (vs:=[_,_,_,_,_,_,_]) H O .h2 O (zj O (zj O (zCl O (ct133 (s:=({s with s:=⟨50,putP b.es s.s⟩,ak:=backD 0 (spansO xk.he xk.ne) s.ak}:Seg)) hS2 (by omega) ⟨hat.1,Int.le_trans hat.2 (by omega)⟩ fun b146 S hE hb146 hs146=>?_))))))))
        have hs146_b11:∀ b off,(some ⟨b146,0,none⟩:Option Addr)=some ⟨b,off,none⟩→b≠b11:=by
         rintro _ _ e rfl;cases e;exact absurd (H.get .h) (by rw [hb146];nofun)
        have hs146_mb:∀ b off,(some ⟨b146,0,none⟩:Option Addr)=some ⟨b,off,none⟩→b≠mb:=by
         rintro _ _ e rfl;cases e;exact absurd (H.get .h1) (by rw [hb146];nofun)
        have hs146_b4:∀ b off,(some ⟨b146,0,none⟩:Option Addr)=some ⟨b,off,none⟩→b≠b4:=by
         rintro _ _ e rfl;cases e;exact absurd (H.get .h2) (by rw [hb146];nofun)
        have hs146_bx:∀ b off,(some ⟨b146,0,none⟩:Option Addr)=some ⟨b,off,none⟩→b≠bx:=by
         rintro _ _ e rfl;cases e;exact absurd (H.get .h3) (by rw [hb146];nofun)
        replace H:=H.call hE
        obtain ⟨L2,hL2⟩:∃ L2,L2=cutO ({s with s:=⟨50,putP b.es s.s⟩,ak:=backD 0 (spansO xk.he xk.ne) s.ak}:Seg) (vr (putE b.es s.s) xk.kn).2 (outD 0 (spansO xk.kn (vr (putE b.es s.s) xk.kn).2) s.sq).toNat:=⟨_,rfl⟩
        have hL2b:L2.length≤1000:=by rw [hL2];have:=cutO_len ({s with s:=⟨50,putP b.es s.s⟩,ak:=backD 0 (spansO xk.he xk.ne) s.ak}:Seg) (vr (putE b.es s.s) xk.kn).2 (outD 0 (spansO xk.kn (vr (putE b.es s.s) xk.kn).2) s.sq).toNat;omega
        rw [← hL2] at hs146 hr ⊢
        replace q1:=q1.mono hE
        replace hs115:=hs115.mono hE
        refine zLl O (zj O (zN (zE ?_)))
        refine vg (fun E S m_=>∃ (i:Nat),E=Env.lst [(2,.chan (some c)),(146,sl b146 0 L2.length L2.length),(147,int L2.length),(148,int i)]∧Loc [bx] {S0 with g:=.sends c ((L2.drop i).map Seg.v)} S [(bx,Cs [.slice x1 b.rs.length n1,.slice a115 (vr (putE b.es s.s) xk.kn).1.length cap115,sl mb 0 cs1.length d3] 29),(mb,Cs (setl csb (0+kk*7+4) [str (addedS x.kn s)]) 49)]∧(i≤L2.length)∧(Sl S 7 (some ⟨b146,0,none⟩) (segRows L2))∧(Sl S 7 x1 (z5 b.rs))∧(Sl S 2 a115 (zS (vr (putE b.es s.s) xk.kn).1))∧m_=L2.length-i) ?_ ?_
        ·skip
         replace H:=H.quiet (show S0.g=.sends c ((L2.drop 0).map Seg.v) by rw [hg,hr];rfl)
         replace H:=H.front .h1
         replace H:=H.front .h3
         refine ⟨_,_,?le,0,O,(H.takeL 2),(by omega),hs146,q1,hs115,O⟩
         case le=>exact Env.qle ⟨O,O,O,O,⟨⟩⟩
        ·skip
         rintro _ S _ ⟨i,rfl,H,hi,hs146,q1,hs115,rfl⟩
         refine zR (za (vq O O fun t149 h149=>zN (zB ?_)))
         rcases t149 with _|_
         ·replace h149:=bF h149
          refine zn O (vf (zM (zM (vn (⟨trivial,_,zU,?_⟩)))))
          rw [show i=L2.length by omega,List.drop_length] at H
          rw [hr] at k
          exact k a115 _ cap115 d3 _ H.qx (by have:=H.get .h;rw [List.length_set];exact this) q1 hs115 hc115 (vC (H.get .h1) rfl (by simpa using hct2) zZ) (by rw [List.length_set];exact hd3) hO115 hO3 (.at hs115_mb)
         ·replace h149:=bT h149
          obtain ⟨y,hy⟩:∃ y,L2[i]? = some y:=⟨L2[i]'(by omega),by simp⟩
          obtain ⟨p,off,he,hcy⟩:=hs146.row i _ (segRows_at hy)
          cases he
          refine zr O (zt (ze (zB (zE (zR (zIa O O (za (zV (vs:=[_,_,_,_,_,_,_]) O (by have:=hcy;exact this) (zAl H O fun b15 S hb15 hE H=>?_)))))))))
          have hs146_b15:=hs146.ne hb15
          replace hs146:=hs146.mono hE
          have q1_b15:=q1.ne hb15
          replace q1:=q1.mono hE
          have hs115_b15:=hs115.ne hb15
          replace hs115:=hs115.mono hE
          refine zSs H O O O .h O fun S hE H=>?_
          replace hs146:=hs146.qy hE hs146_b15
          replace q1:=q1.qy hE q1_b15
          replace hs115:=hs115.qy hE hs115_b15
          refine zN (zL (zj O (zLn (vs:=[_,_,_,_,_,_,_]) H O .h O (za (W_send (vs:=(L2.drop (i+1)).map Seg.v) O O (by rw [H.g.eq];show Gh.sends _ _=_;rw [List.drop_eq_getElem_cons (by omega),show L2[i]=y from (List.getElem?_eq_some_iff.1 hy).2];rfl) ?_)))))
          replace H:=H.sent (.sends c ((L2.drop (i+1)).map Seg.v))
          replace q1:=q1.sent (.sends c ((L2.drop (i+1)).map Seg.v))
          replace hs115:=hs115.sent (.sends c ((L2.drop (i+1)).map Seg.v))
          replace hs146:=hs146.sent (.sends c ((L2.drop (i+1)).map Seg.v))
          refine ve (vc (ze (zL (zAd O O (zj O (zN ?_))))))
          replace H:=H.front .h2
          replace H:=H.front .h2
          refine ⟨_,_,?lt,?le,(i+1),O,(H.takeL 2),(by omega),hs146,q1,hs115,O⟩
          case lt=>omega
          case le=>exact Env.qle ⟨O,O,O,O,⟨⟩⟩
     ·replace h54:=bT h54
      have hyes:BoxP b∧SegP s∧s.s.inn∧s.d.out∧mayR b.rs s.s s.d=true:=⟨hB,h17,h28⟩
      have hr:=boxOutP_one hyes h43 h54
      refine zr O (zR (zj O (zLn (vs:=[_,_,_,_,_,_,_]) H O .h2 O (za (W_send (vs:=[]) O O (by rw [H.g.eq,hg,hr];rfl) ?_)))))
      replace H:=H.sent (.sends c [])
      replace q1:=q1.sent (.sends c [])
      replace hs39:=hs39.sent (.sends c [])
      refine zN (zh (zv (⟨trivial,_,zU,?_⟩)))
      rw [hr] at k
      exact k a39 none cap39 n3 _ H.qx (H.get .h3) q1 hs39 hc39 (by rw [hcs0];exact Sl.nil 7) hn3 hO39 (.same _ _) .nil
    ·replace h43:=bT h43
     refine zr O (zh (zv (⟨trivial,_,zU,?_⟩)))
     have hyes:BoxP b∧SegP s∧s.s.inn∧s.d.out∧mayR b.rs s.s s.d=true:=⟨hB,h17,h28⟩
     have hr:=boxOutP_full hyes h43
     rw [hr] at hg k
     replace H:=H.quiet (by exact hg)
     exact k x2 none n2 n3 S H.qx (H.get .h3) q1 q2 hn2 (by rw [hcs0];exact Sl.nil 7) hn3 (.same _ _) (.same _ _) .nil
end
section
open Go
theorem OwnO.ne {S0 S:St} {x:Option Addr} {e:TypeId} {k cap b:Nat} {rows:List (List Value)} (h:OwnO S0 S x e k cap rows) (hb:S b=none):∀ b' off,x=some ⟨b',off,none⟩→b'≠b:=h.sl.ne hb
end
section
variable {S0:St} {K:Value→St→Prop}
end
section
variable {S0:St} {K:Value→St→Prop}
theorem ct135 {a:Option Addr} {n c:Nat} (hn:n≤c) (k:∀  S',Ext [] S0 S'→K (.slice a n n) S') :
  zC 135 #[.slice a n c] S0 K:=by
 refine zGh (sf:=s135) Tryz.func135 fun H=>zR (zj O (vA (zj O (zj O (zLl O (zj O (zLl O (za (W_clip O O O hn (zj O (zN (zh (zP O ?_)))))))))))))
 exact k _ H.qx
def Seg.nil:Seg:=⟨⟨0,0⟩,⟨0,0⟩,0,0,[]⟩
end
section
open Go
open Go.Conc (G born)
def base (P:Program):Frame:={(default:Frame) with fn:=P.funcs.size,defers:=[],mode:=.panicking [goexitEntry]}
theorem step_born {P:Program} {f:FuncId} {fn:Func} {cap:Array Value} (hf:P.funcs[f]? = some fn) (hb:fn.body.isSome=true) (hn:(fn.name == "runtime.NumGoroutine")=false) (w:World) :
    stepG P false (born P {target:=.fn (.func f) cap,args:=#[]}) w=.go (G (Frame.enter P f cap .deferred) [base P]) w:=by
  have hbn:fn.body.isNone=false:=by cases h:fn.body<;>simp_all
  have hse:seen P P.funcs.size #[]=#[]:=by first | rfl | simp [seen]
  have hr:(invoke (.fn (.func f) cap) #[]).runT P w #[]=(.ok (.enter f cap) w,#[]):=by
    simp only [invoke,callFunc,program,bind,pure,Sem.bind,Sem.runT,hf,hn,hbn,Bool.false_eq_true,if_false,Array.empty_append]
  simp only [born,stepG,unwind,callDeferred,hr]
  simp [GStep.after,G,base,hse]
def shutD (ats:Array TypeId) (ty:TypeId) (cs:Array Bool) (c:Nat):Deferred:={target:=.builtin .close ats ty cs,args:=#[.chan (some c)]}
theorem run_close {P:Program} {ats:Array TypeId} {ty:TypeId} {cs:Array Bool} {c s r:Nat} {tm:Bool} {w:World} (hc:w.heap[c]? = some (.chan 0 #[] false s r tm)) :
    (invoke (.builtin .close ats ty cs) #[.chan (some c)]).runT P w #[]=(.ok (.value (.tuple #[])) (w.shut c s r tm),Conc.closeEvents c):=by
  simp only [invoke,builtin,close_some,getObj,setObj,bind,pure,Sem.bind,Sem.runT,hc,Bool.false_eq_true,if_false]
  rfl
theorem atShut_ret {P:Program} {fr:Frame} {c n:Nat} {cs:List Frame} {ats:Array TypeId} {ty:TypeId} {ks:Array Bool} (hm:fr.mode=.returning) (hd:fr.defers=[shutD ats ty ks c]) (hq:(P.funcs[fr.fn]?).any (·.norace)=false)
    (h:Conc.QuitsIn P n (G {fr with defers:=[]} cs)):AtShut1 P c (G fr cs):=by
  refine ⟨rfl,?_,G {fr with defers:=[]} cs,n,fun w s r tm hc=>?_,h⟩
  · simp [mayWake,G,hm]
  · have hr:=run_close (P:=P) (ats:=ats) (ty:=ty) (cs:=ks) hc
    simp only [G,stepG,unwind,hm,hd,shutD,callDeferred,hr]
    rw [Conc.seen_eq hq (by intro e he f;simp only [Conc.closeEvents,List.mem_toArray,List.mem_cons,List.not_mem_nil,or_false] at he;rcases he with rfl | rfl<;>simp)]
    simp [GStep.after,hm]
theorem step_base {P:Program} (w:World):stepG P false (G (base P) []) w=.go {frame:=base P,callers:=[],status:=.finished,dying:=none} w:=by
 have hn:P.funcs[P.funcs.size]? = none:=by simp
 have ht:(default:Frame).todo=[]:=rfl
 simp only [G,stepG,base,unwind,Frame.catches,hn,ht]
 simp [goexitEntry]
theorem quits_base {P:Program}:Conc.QuitsIn P 1 (G (base P) []):=
 .inr ⟨rfl,_,fun w=>step_base w,rfl⟩
theorem quits_ret {P:Program} {fr:Frame} {fn:Func} (hm:fr.mode=.returning) (hd:fr.defers=[]) (hk:fr.kind=.deferred) (hf:P.funcs[fr.fn]? = some fn) (hr:fn.results=#[]):Conc.QuitsIn P 2 (G fr [base P]):=by
 refine .inr ⟨rfl,G (base P) [],fun w=>?_,quits_base⟩
 have hse:seen P fr.fn #[]=#[]:=by first | rfl | simp [seen]
 have hres:(results fn fr.tmps).runT P w #[]=(.ok (.tuple #[]) w,#[]):=by
  rw [Sem.runT_eq,results_none hr _ P w,(by simp [results,hr]:(results fn fr.tmps).events P w #[]=#[])]
 simp only [G,stepG,unwind,hm,hd,hf,hres,doReturn,hk]
 simp [GStep.after,base,hse,goexitEntry]
structure PassFn (P:Program) (f:FuncId) (fn:Func) (is:List SI):Prop where
 hf:P.funcs[f]? = some fn
 hn:(fn.name == "runtime.NumGoroutine")=false
 hr:fn.results=#[]
 ht:fn.ntmps=10
 hq:fn.norace=false
 hb:∃ (i0 i1:Nat) (o0 o1:Array Oper) (p0 p1:Oper) (ats:Array TypeId),fn.body=some (.seq (.region i0 o0 false) (.region i1 o1 false))∧o0.size=2∧o0[0]? = some p0∧o0[1]? = some p1∧slimI P 10 false o0 p0=some ⟨some 4,.load1 (.tmp 0),none,[]⟩ ∧
  p1.op=.defer {callee:=.builtin .close,args:=#[.tmp 4],argTypes:=ats}∧p1.dst=none∧p1.guard=none∧p0.guard=none∧p0.dst=some 4∧slimCode P 10 (.region i1 o1 false)=some (.run is)
theorem pass_child {P:Program} {f:FuncId} {fn:Func} {is:List SI} (h:PassFn P f fn is) {v0 v1 v2 v3:Value} {S:St} {c:Nat} {Fin:Goroutine→St→Prop}
    (hc:∀ K:Value→St→Prop,K (.chan (some c)) S→(SOp.load1 (.tmp 0)).W P (Env.of [v0,v1,v2,v3]) S K)
    (hw:wpS P (.run is) ((Env.of [v0,v1,v2,v3]).set (some 4) (.chan (some c))) S fun e _ S'=>e=.normal∧∀ g,AtShut1 P c g→Fin g S'):Go1 P false Fin (born P {target:=.fn (.func f) #[v0,v1,v2,v3],args:=#[]}) S:=by
  obtain ⟨i0,i1,o0,o1,p0,p1,ats,hb,hs0,hp0,hp1,hl0,hop1,hd1,hg1,hg0,hd0,hsl⟩:=h.hb
  have hbs:fn.body.isSome=true:=by rw [hb];rfl
  refine .step' rfl fun w hin=>⟨_,w,#[],S,step_born h.hf hbs h.hn w,rfl,.refl hin,by simp,?_⟩
  let b:Frame:={fn:=f,tmps:=#[],todo:=[],defers:=[],mode:=.run,kind:=.deferred}
  have he:Frame.enter P f #[v0,v1,v2,v3] .deferred=b.atR {tmps:=#[v0,v1,v2,v3]++Array.replicate 6 undef,defers:=[]} [.code (.seq (.region i0 o0 false) (.region i1 o1 false))]:=by
    simp [Frame.enter,Frame.atR,h.hf,hb,h.ht,b]
  rw [he]
  refine .ctl (cs':=[base P]) (fr':=b.atR {tmps:=#[v0,v1,v2,v3]++Array.replicate 6 undef,defers:=[]} [.code (.region i0 o0 false),.code (.region i1 o1 false)]) (fun w=>by simp [G,stepG,stepG.exec,Frame.atR]) ?_
  refine .ctl (cs':=[base P]) (fr':=b.atR {tmps:=#[v0,v1,v2,v3]++Array.replicate 6 undef,defers:=[]} [.inRegion o0 [0,1],.code (.region i1 o1 false)]) (fun w=>by simp [G,stepG,stepG.exec,Frame.atR,hs0,List.range,List.range.loop]) ?_
  have hfit:Fits {tmps:=#[v0,v1,v2,v3]++Array.replicate 6 undef,defers:=[]} 10 (Env.of [v0,v1,v2,v3]):=by
    refine ⟨by simp,fun t v ht=>?_⟩
    rw [Env.get_of] at ht
    have hlt:t<4:=by have:=(List.getElem?_eq_some_iff.1 ht).1;simpa using this
    simp only
    rw [Array.getElem?_append_left (by simpa using hlt)]
    simpa using ht
  have hk:b.kind≠.early:=by simp [b]
  refine .op hp0 (by simp [Region.wanted,hg0]) hk (.inl rfl) ?_
  have hop:=slimI_op hl0 (Env.of [v0,v1,v2,v3]) (Act.eval {tmps:=#[v0,v1,v2,v3]++Array.replicate 6 undef,defers:=[]}) S (fun v S'=>v=.chan (some c)∧S'=S) p0 rfl rfl (fun x v hx=>hfit.ev hx) (hc _ ⟨rfl,rfl⟩)
  have hop2:vu P (execOp (Act.eval {tmps:=#[v0,v1,v2,v3]++Array.replicate 6 undef,defers:=[]}) p0) S (UponS P fun v S'=>v=.chan (some c)∧S'=S) (fun _ _=>False):=by
    rcases hop with hop | hop
    · exact hop
    · exfalso
      unfold slimI at hl0
      split at hl0
      case isFalse=>cases hl0
      simp only [Option.some.injEq,SI.mk.injEq] at hl0
      have hl:=hl0.2.1
      unfold CommO at hop
      cases hpo:p0.op<;>simp only [hpo] at hop hl<;>first | exact hop.elim | (simp [slimOp?] at hl)
  have rest:Go1 P false Fin (G (b.atR (({tmps:=#[v0,v1,v2,v3]++Array.replicate 6 undef,defers:=[]}:Act).put p0.dst (.chan (some c))) (.inRegion o0 [1]::[.code (.region i1 o1 false)])) [base P]) S:=?_
  · refine semW_mono (fun nx S' hu=>?_) (fun _ _ q=>q) _ _ hop2
    cases nx<;>simp only [UponS] at hu<;>first | (obtain ⟨rfl,rfl⟩:=hu;exact rest) | (exact absurd hu.1 (by intro e;cases e)) | (exact hu _ _ _ _ fun v S'' q=>by obtain ⟨rfl,rfl⟩:=q;rw [Frame.finish_atR,hp0];exact rest) | exact hu.elim
  rw [hd0]
  have hfit4:=hfit.put (d:=some 4) (by simp) (.chan (some c))
  refine .op hp1 (by simp [Region.wanted,hg1]) hk (.inl rfl) ?_
  have h4:Act.eval (({tmps:=#[v0,v1,v2,v3]++Array.replicate 6 undef,defers:=[]}:Act).put (some 4) (.chan (some c))) (.tmp 4)=.chan (some c):=rfl
  simp only [execOp,hop1,resolve,List.map_toArray,List.map_cons,List.map_nil,h4,zw,zz,UponOp]
  rw [hd1]
  refine .ctl (cs':=[base P]) (fr':=b.atR ({(({tmps:=#[v0,v1,v2,v3]++Array.replicate 6 undef,defers:=[]}:Act).put (some 4) (.chan (some c))) with defers:=shutD ats p1.type #[false] c::[]}:Act) [.code (.region i1 o1 false)]) (fun w=>by simp [G,stepG,stepG.exec,Frame.atR,Act.put,shutD]) ?_
  have hfit5:Fits ({(({tmps:=#[v0,v1,v2,v3]++Array.replicate 6 undef,defers:=[]}:Act).put (some 4) (.chan (some c))) with defers:=shutD ats p1.type #[false] c::[]}:Act) 10 ((Env.of [v0,v1,v2,v3]).set (some 4) (.chan (some c))):=⟨hfit4.1,hfit4.2⟩
  refine wpS_sound (n:=10) _ _ _ _ S _ (fun e a' S2=>e=.normal∧a'.defers=[shutD ats p1.type #[false] c]∧∀ g,AtShut1 P c g→Fin g S2) hsl hfit5 hw (fun e a' E' S2 _ hd q=>?_) false Fin b [] [base P] hk (fun e a' S2 q=>?_)
  · obtain ⟨rfl,q⟩:=q
    exact ⟨rfl,hd,q⟩
  · obtain ⟨rfl,hd,q⟩:=q
    refine .off (fun todo=>.fin (q _ (atShut_ret (n:=2) rfl (by exact hd) ?_ ?_)))
    · show (P.funcs[f]?).any (·.norace)=false
      rw [h.hf];simp [h.hq]
    · exact quits_ret rfl rfl rfl h.hf h.hr
end
section
open Go
def rpass:List SI:=[i_ 5 (.fieldAddr 3 (t_ 1)),i_ 6 (.load1 (t_ 5)),i_ 7 (.loadN 7 (t_ 3)),i_ 8 (.load1 (t_ 0)),i_ 9 (.callv (t_ 6) [t_ 2,t_ 7,t_ 8])]
theorem pf134:PassFn Tryz.prog 134 Tryz.f134 rpass where
 hf:=Tryz.func134
 hn:=by rfl
 hr:=by rfl
 ht:=by rfl
 hq:=by rfl
 hb:=⟨_,_,_,_,_,_,_,rfl,rfl,rfl,rfl,by kernel_rfl,rfl,rfl,rfl,rfl,rfl,by kernel_rfl⟩
end
section
open Go
open Go.Conc (born recvd)
section
variable {E:Env} {S S0:St} {K:Value→St→Prop} {X:List Nat} {L:List (Nat × Obj)}
theorem W_makeChan (H:Loc X S0 S L) (k:∀ c S',S c=none→Ext [] S S'→Loc X S0 S' ((c,.chan 0 #[] false 0 0 false)::L)→K (.chan (some c)) S'):(SOp.raw (.makeChan 158 (.const (int 0))) 158).W Tryz.prog E S K:=by
 refine .mk fun ρ hρ=>?_
 have h1:=hρ (.const (int 0)) (by simp [Op.operands]) _ rfl
 obtain ⟨i,hi⟩:∃ i,Tryz.prog.info? 33=some i:=Option.isSome_iff_exists.1 (by kernel_rfl)
 have hm:¬ ((0:Int)<0∨(0:Int)>IntKind.i64.max∨(i.bytes:Int)*0>2 ^ 48-112):=by
  have:IntKind.i64.max=9223372036854775807:=rfl
  omega
 simp only [execOp,h1,Instr.makeChan,asInt,zw,zz,zO Tryz.underlying158,semW_typeInfo hi]
 refine semW_ite_neg hm ?_
 intro c hc
 exact k c _ hc (.put_new hc _) (H.alloc hc _)
theorem zero33:∃ i,Tryz.prog.info? 33=some i∧i.zero=some Seg.nil.v:=by
 have h:((Tryz.prog.info? 33).bind (·.zero))=some Seg.nil.v:=by kernel_rfl
 exact Option.bind_eq_some_iff.1 h
theorem W_recv {ty:TypeId} {x:Operand} {c:Nat} {v:Value} {vs:List Value} {J:Hp→Prop} {D:Nat→Prop} (hx:E.ev x=some (.chan (some c))) (hg:S.g=.hears c (v::vs) J D) (k:K (.tuple #[v,.bool true]) {S with g:=.hears c vs J D}):(SOp.raw (.recv 158 x true) ty).W Tryz.prog E S K:=by
 obtain ⟨i,hi,hz⟩:=zero33
 exact .comm fun ρ hρ=>⟨rfl,c,_,_,i,_,hρ x (by simp [Op.operands]) _ hx,Tryz.underlying158,hi,hz,.inl ⟨v,vs,J,D,hg,k⟩⟩
theorem W_recvEnd {ty:TypeId} {x:Operand} {c:Nat} {J:Hp→Prop} {D:Nat→Prop} (hx:E.ev x=some (.chan (some c))) (hg:S.g=.hears c [] J D) (k:∀ H:Hp,J H→(∀ b e e',S b=some e→H b=some e'→e=e'∧e.wr=false∧D b)→K (.tuple #[Seg.nil.v,.bool false]) ⟨fun b=>(S b).or (H b),.idle⟩):(SOp.raw (.recv 158 x true) ty).W Tryz.prog E S K:=by
 obtain ⟨i,hi,hz⟩:=zero33
 exact .comm fun ρ hρ=>⟨rfl,c,_,_,i,_,hρ x (by simp [Op.operands]) _ hx,Tryz.underlying158,hi,hz,.inr ⟨J,D,hg,k⟩⟩
theorem W_go {ty:TypeId} {x:Operand} {f:FuncId} {cap:Array Value} {c:Nat} {vs:List Value} {J:Hp→Prop} {Hw Hm:Hp} (hx:E.ev x=some (.func (.func f) #[] cap)) (hg:S.g=.idle) (hc:S c=some ⟨.chan 0 #[] false 0 0 false,true⟩) (hwc:Hw c=none) (hmc:Hm c=none)
    (hws:∀ b e,Hw b=some e→∃ e0,S b=some e0∧e.o=e0.o∧(e.wr=true→e0.wr=true)) (hms:∀ b e,Hm b=some e→∃ e0,S b=some e0∧e.o=e0.o∧(e.wr=true→e0.wr=true)) (hcp:∀ b e e',Hw b=some e→Hm b=some e'→e.wr=false∧e'.wr=false)
    (hch:Go1 Tryz.prog false (fun g S=>S.g=.sends c []∧J S.h∧AtShut1 Tryz.prog c g) (born Tryz.prog {target:=.fn (.func f) cap,args:=#[]}) ⟨Hw,.sends c vs⟩) (k:K undef ⟨Hm,.hears c vs J (fun b=>∃ e,Hw b=some e)⟩):(SOp.raw (.go ⟨.value x,#[],#[]⟩) ty).W Tryz.prog E S K:=
  .comm fun ρ hρ=>⟨rfl,x,f,cap,c,vs,J,Hw,Hm,rfl,hρ x (by simp [Op.operands,Call.operands]) _ hx,hg,hc,hwc,hmc,hws,hms,hcp,hch,k⟩
end
structure GlobR (S:St):Prop where
 g:Glob S
 ro:∀ b∈[1,2,4],∀ e,S b=some e→e.wr=false
theorem cell_there {S:St} {a:Addr} {v:Value} (h:S.cell? a=some v):∃ e,S a.block=some e:=by
 unfold St.cell? at h
 split at h
 ·exact ⟨_,‹_›⟩
 ·cases h
theorem Glob.there {S:St} (h:Glob S):∀ b∈[1,2,4],∃ e,S b=some e:=by
 intro b hb
 simp only [List.mem_cons,List.not_mem_nil,or_false] at hb
 rcases hb with rfl | rfl | rfl
 ·obtain ⟨t,a,h1⟩:=h.e1;exact cell_there h1
 ·obtain ⟨t,a,h1⟩:=h.e2;exact cell_there h1
 ·exact cell_there h.p2
theorem GlobR.mono {S S':St} (h:GlobR S) (he:Ext [] S S'):GlobR S':=by
 refine ⟨h.g.mono he,fun b hb e hs=>?_⟩
 obtain ⟨e0,h0⟩:=h.g.there b hb
 have:=he.get h0
 rw [hs] at this;cases this
 exact h.ro b hb e h0
theorem cell_agree {S T:St} {a:Addr} {v:Value} (h:S.cell? a=some v) (ht:∀ o w,S a.block=some ⟨o,w⟩→∃ w',T a.block=some ⟨o,w'⟩):T.cell? a=some v:=by
 unfold St.cell? at h ⊢
 split at h
 ·rename_i c e f wr hs
  obtain ⟨w',h1⟩:=ht _ _ hs
  rw [h1];exact h
 ·cases h
theorem cells_agree {S T:St} {a:Addr} {n:Nat} {vs:List Value} (h:S.cells? a n=some vs) (ht:∀ o w,S a.block=some ⟨o,w⟩→∃ w',T a.block=some ⟨o,w'⟩):T.cells? a n=some vs:=by
 unfold St.cells? at h ⊢
 split at h
 ·rename_i c e f wr hs
  obtain ⟨w',h1⟩:=ht _ _ hs
  rw [h1];exact h
 ·cases h
theorem Glob.agree {S T:St} (h:Glob S) (ht:∀ b∈[1,2,4],∀ o w,S b=some ⟨o,w⟩→∃ w',T b=some ⟨o,w'⟩):Glob T:=
 ⟨cell_agree h.p2 (ht 4 (by simp)),cell_agree h.p3 (ht 4 (by simp)),let ⟨t,a,h1⟩:=h.e1;⟨t,a,cell_agree h1 (ht 1 (by simp))⟩,let ⟨t,a,h1⟩:=h.e2;⟨t,a,cell_agree h1 (ht 2 (by simp))⟩⟩
theorem Sl.agree {S T:St} {k:Nat} {a:Option Addr} {rows:List (List Value)} (h:Sl S k a rows) (ht:∀ b off,a=some ⟨b,off,none⟩→∀ e,S b=some e→T b=some e):Sl T k a rows where
 row i r hr:=by
  obtain ⟨b,off,h1,h2⟩:=h.row i r hr
  exact ⟨b,off,h1,cells_agree h2 fun o w hs=>⟨w,ht b off h1 _ hs⟩⟩
 base ad ha:=by
  obtain ⟨b,off,c,e,f,wr,h1,h2,h3⟩:=h.base ad ha
  subst h1
  exact ⟨b,off,c,e,f,wr,rfl,ht b off ha _ h2,h3⟩
def giveW (S0 S:St) (c r v:Nat):Hp:=fun b=>if b=c∨b=r then none else if b=v then (S b).map (fun e=>⟨e.o,false⟩) else if (S0 b).isSome∧b∉[1,2,4] then none else S b
def keepM (S0 S:St) (c r v:Nat):Hp:=fun b=>if b=c then none else if b=v then (S b).map (fun e=>⟨e.o,false⟩) else if (S0 b).isSome∨b=r then S b else none
section
variable {S0 S:St} {c r v:Nat}
theorem giveW_c:giveW S0 S c r v c=none:=by simp [giveW]
theorem giveW_r:giveW S0 S c r v r=none:=by simp [giveW]
theorem keepM_c:keepM S0 S c r v c=none:=by simp [keepM]
theorem giveW_sub:∀ b e,giveW S0 S c r v b=some e→∃ e0,S b=some e0∧e.o=e0.o∧(e.wr=true→e0.wr=true):=by
 intro b e h
 unfold giveW at h
 split at h
 ·cases h
 ·split at h
  ·obtain ⟨e0,h0,rfl⟩:=Option.map_eq_some_iff.1 h
   exact ⟨e0,h0,rfl,nofun⟩
  ·split at h
   ·cases h
   ·exact ⟨e,h,rfl,id⟩
theorem keepM_sub:∀ b e,keepM S0 S c r v b=some e→∃ e0,S b=some e0∧e.o=e0.o∧(e.wr=true→e0.wr=true):=by
 intro b e h
 unfold keepM at h
 split at h
 ·cases h
 ·split at h
  ·obtain ⟨e0,h0,rfl⟩:=Option.map_eq_some_iff.1 h
   exact ⟨e0,h0,rfl,nofun⟩
  ·split at h
   ·exact ⟨e,h,rfl,id⟩
   ·cases h
theorem give_keep (hR:GlobR S):∀ b e e',giveW S0 S c r v b=some e→keepM S0 S c r v b=some e'→e.wr=false∧e'.wr=false:=by
 intro b e e' h h'
 unfold giveW at h
 unfold keepM at h'
 split at h
 ·cases h
 ·rename_i hn
  simp only [not_or] at hn
  rw [if_neg hn.1] at h'
  split at h
  ·rename_i hv
   rw [if_pos hv] at h'
   obtain ⟨_,_,rfl⟩:=Option.map_eq_some_iff.1 h
   obtain ⟨_,_,rfl⟩:=Option.map_eq_some_iff.1 h'
   exact ⟨rfl,rfl⟩
  ·rename_i hv
   rw [if_neg hv] at h'
   split at h
   ·cases h
   ·rename_i hs
    split at h'
    ·rename_i hk
     have hk:(S0 b).isSome:=hk.resolve_right hn.2
     have hm:b∈[1,2,4]:=Classical.byContradiction fun hm=>hs ⟨hk,hm⟩
     have h1:S b=some e:=h
     have h2:S b=some e':=h'
     exact ⟨hR.ro b hm e h1,hR.ro b hm e' h2⟩
    ·cases h'
theorem giveW_new {b:Nat} (h0:S0 b=none) (h1:b≠c) (h2:b≠r) (h3:b≠v):giveW S0 S c r v b=S b:=by
 unfold giveW;rw [if_neg (by simp [h1,h2]),if_neg h3,if_neg (by simp [h0])]
theorem giveW_glob {b:Nat} (hb:b∈[1,2,4]) (h1:b≠c) (h2:b≠r) (h3:b≠v):giveW S0 S c r v b=S b:=by
 unfold giveW;rw [if_neg (by simp [h1,h2]),if_neg h3,if_neg (by simp only [not_and,Classical.not_not];exact fun _=>hb)]
theorem giveW_v {e:Ent} (h:S v=some e) (h1:v≠c) (h2:v≠r):giveW S0 S c r v v=some ⟨e.o,false⟩:=by
 unfold giveW;rw [if_neg (by simp [h1,h2]),if_pos rfl,h];rfl
theorem keepM_v {e:Ent} (h:S v=some e) (h1:v≠c):keepM S0 S c r v v=some ⟨e.o,false⟩:=by
 unfold keepM;rw [if_neg h1,if_pos rfl,h];rfl
theorem keepM_old {b:Nat} {e:Ent} (h0:S0 b=some e) (h1:b≠c) (h2:b≠v):keepM S0 S c r v b=S b:=by
 unfold keepM;rw [if_neg h1,if_neg h2,if_pos (by simp [h0])]
theorem keepM_r (h1:r≠c) (h2:r≠v):keepM S0 S c r v r=S r:=by
 unfold keepM;rw [if_neg h1,if_neg h2,if_pos (by simp)]
theorem keepM_none {b:Nat} (h0:S0 b=none) (h2:b≠r) (h3:b≠v):keepM S0 S c r v b=none:=by
 unfold keepM
 by_cases hc:b=c
 ·rw [if_pos hc]
 ·rw [if_neg hc,if_neg h3,if_neg (by simp [h0,h2])]
end
def TurnPost (b r:Box) (bx:Nat) (x1 x2 x3:Option Addr) (S0 S':St):Prop:=∃ (x2' x3':Option Addr) (d2 d3:Nat),S' bx=some ⟨Cs [.slice x1 b.rs.length b.rs.length,.slice x2' r.es.length d2,.slice x3' r.cs.length d3] 29,true⟩∧Sl S' 7 x1 (z5 b.rs)∧Sl S' 2 x2' (zS r.es)∧r.es.length≤d2 ∧
 Sl S' 7 x3' (zX r.cs)∧r.cs.length≤d3∧Org S0 x2 x2'∧Org S0 x3 x3'∧OffS x2' x3'
structure TurnC (tf:FuncId) (b:Box) (s:Seg) (r:Box × List Seg):Prop where
 h:∀ (x1 x2 x3:Option Addr) (bx c d3:Nat) (S00 S0:St) (K:Value→St→Prop),Glob S0→S0.g=.sends c (r.2.map Seg.v)→S0 bx=some ⟨Cs [.slice x1 b.rs.length b.rs.length,.slice x2 b.es.length b.es.length,.slice x3 b.cs.length b.cs.length] 29,true⟩→Sl S0 7 x1 (z5 b.rs)→Sl S0 2 x2 (zS b.es) →
  OwnO S00 S0 x3 49 7 d3 (zX b.cs)→bx∉[1,2,4]→(∀ b off,x3=some ⟨b,off,none⟩→b∉[1,2,4]∧b≠bx)→(∀ b off,x1=some ⟨b,off,none⟩→b≠bx)→(∀ b off,x2=some ⟨b,off,none⟩→b≠bx)→OffB x1 x3→OffB x2 x3 →
  (∀ S',Gro {S0 with g:=.sends c []} S'→TurnPost b r.1 bx x1 x2 x3 S0 S'→K (.tuple #[]) S')→Calls1 Tryz.prog tf #[ptr bx 0,s.v,.chan (some c)] S0 K
theorem connRows_nil {cs:List Conn} (h:zX cs=[]):cs=[]:=by cases cs with
 | nil=>rfl
 | cons=>simp [zX] at h
theorem turn55 {b:Box} {s:Seg} (hB:BoxP b) (hdt:s.dt.length≤1048576):TurnC 55 b s (boxOutP b s) where
 h x1 x2 x3 bx c d3 S00 S0 K hG hg hbx h1 h2 hO q0 q3 q1 q2 o1 o2 k:=by
  rcases hO with ⟨rfl,hr0,hd⟩ | ⟨m,rfl,hm0,cs,hm,hle,hcl,hct,h7⟩
  ·have hcs0:=connRows_nil hr0
   exact ct55n hG hB hg hdt hbx h1 h2 (Nat.le_refl _) (Nat.le_refl _) hcs0 (by rw [hcs0];rfl) q0 q1 q2 fun x2' x3' d2 d3 S' hE p1 p2 p3 p4 p5 p6 p7 p8 p9=>k S' hE.g ⟨x2',x3',d2,d3,p1,p2,p3,p4,p5,p6,p7,p8,p9⟩
  ·have hl:(zX b.cs).length=b.cs.length:=by simp
   rw [hl] at hle hct
   have hm2:=q3 m 0 rfl
   exact ct55 hG hB hg hdt hbx h1 h2 (Nat.le_refl _) (Nat.le_refl _) hm (by rw [hcl];exact Nat.mul_le_mul_right _ hle) hct hm2.2.symm rfl q0 hm2.1 q1 (fun b off e=>o1 b off m e rfl) q2 (fun b off e=>o2 b off m e rfl) fun x2' x3' d2 d3 S' hE p1 p2 p3 p4 p5 p6 p7 p8 p9=>k S' hE.g ⟨x2',x3',d2,d3,p1,p2,p3,p4,p5,p6,p7,p8,p9⟩
end
section
open Go
open Go.Conc (born recvd)
theorem TurnPost.ghost {b r:Box} {bx:Nat} {x1 x2 x3:Option Addr} {S0 S':St} (h:TurnPost b r bx x1 x2 x3 S0 S') (g g':Gh):TurnPost b r bx x1 x2 x3 {S0 with g:=g} {S' with g:=g'}:=by
 obtain ⟨x2',x3',d2,d3,p1,p2,p3,p4,p5,p6,p7,p8,p9⟩:=h
 exact ⟨x2',x3',d2,d3,p1,p2.sent g',p3.sent g',p4,p5.sent g',p6,p7,p8,p9⟩
def JP (b r:Box) (bx:Nat) (x1 x2 x3:Option Addr) (Hw:Hp):Hp→Prop:=fun H=>Gro ⟨Hw,.idle⟩ ⟨H,.idle⟩∧TurnPost b r bx x1 x2 x3 ⟨Hw,.idle⟩ ⟨H,.idle⟩
theorem pass_worker {f:FuncId} {fn:Func} (hf:PassFn Tryz.prog f fn rpass) {tf:FuncId} {tfn:Func} (htf:Tryz.prog.funcs[tf]? = some tfn) (hb:tfn.body.isSome=true) (hn:(tfn.name == "runtime.NumGoroutine")=false) {b:Box} {s:Seg} {r:Box × List Seg} (hT:TurnC tf b s r)
    {S00:St} {Hw:Hp} {c b2 b3 b6 b7 d3:Nat} {x1 x2 x3:Option Addr} (hG:Glob ⟨Hw,.sends c (r.2.map Seg.v)⟩) (h7:(⟨Hw,.sends c (r.2.map Seg.v)⟩:St).cell? ⟨b7,0,none⟩=some (.chan (some c))) (h2:(⟨Hw,.sends c (r.2.map Seg.v)⟩:St).cell? ⟨b2,3,none⟩=some (.func (.func tf) #[] #[]))
    (h3:(⟨Hw,.sends c (r.2.map Seg.v)⟩:St).cells? ⟨b3,0,none⟩ 7=some s.row) (h6:Hw b6=some ⟨Cs [.slice x1 b.rs.length b.rs.length,.slice x2 b.es.length b.es.length,.slice x3 b.cs.length b.cs.length] 29,true⟩)
    (s1:Sl ⟨Hw,.sends c (r.2.map Seg.v)⟩ 7 x1 (z5 b.rs)) (s2:Sl ⟨Hw,.sends c (r.2.map Seg.v)⟩ 2 x2 (zS b.es)) (hO:OwnO S00 ⟨Hw,.sends c (r.2.map Seg.v)⟩ x3 49 7 d3 (zX b.cs))
    (q0:b6∉[1,2,4]) (q3:∀ b off,x3=some ⟨b,off,none⟩→b∉[1,2,4]∧b≠b6) (q1:∀ b off,x1=some ⟨b,off,none⟩→b≠b6) (q2:∀ b off,x2=some ⟨b,off,none⟩→b≠b6) (o1:OffB x1 x3) (o2:OffB x2 x3) :
    Go1 Tryz.prog false (fun g S'=>S'.g=.sends c []∧JP b r.1 b6 x1 x2 x3 Hw S'.h∧AtShut1 Tryz.prog c g) (born Tryz.prog {target:=.fn (.func f) #[ptr b7 0,ptr b2 0,ptr b6 0,ptr b3 0],args:=#[]}) ⟨Hw,.sends c (r.2.map Seg.v)⟩:=by
  refine pass_child hf (c:=c) (fun K k=>zF rfl h7 k) ?_
  refine zL ?_
  refine za (zy rfl ?_)
  refine za (zF rfl h2 ?_)
  refine za (zV (vs:=s.row) rfl h3 ?_)
  refine za (zF rfl h7 ?_)
  refine za (W_callv (vs:=[ptr b6 0,s.v,.chan (some c)]) rfl rfl htf hb hn ?_)
  rw [show (#[]++[ptr b6 0,s.v,Value.chan (some c)].toArray++#[]:Array Value)=#[ptr b6 0,s.v,.chan (some c)] by rfl]
  refine hT.h x1 x2 x3 b6 c d3 S00 ⟨Hw,.sends c (r.2.map Seg.v)⟩ _ hG rfl h6 s1 s2 hO q0 q3 q1 q2 o1 o2 fun S' hE hP=>?_
  exact ve ⟨rfl,fun g hgs=>⟨hE.eq,⟨⟨rfl,hE.keep,hE.ro,hE.new⟩,hP.ghost .idle .idle⟩,hgs⟩⟩
def lpass:SCode:=.loop (.seq (.run r56_6) (.seq (.cond (t_ 18) .skip (.exit 0)) (.block 1 (.seq (.run r56_7) (.run r56_8)))))
def cpass (ty f:Nat):SCode:=.seq (.run [i_ 2 (.box ty (t_ 0)),i_ 3 (.box 33 (t_ 1)),i_ 4 (.alloc 29 (.agg #[.slice none 0 0,.slice none 0 0,.slice none 0 0])),i_ 5 (.mv (.const (.slice none 0 0)))]) (.seq (.run r56_1) (.seq (.run r56_2) (.seq (.run [i_ 14 (.mkFunc (.func f) [] [t_ 7,t_ 2,t_ 6,t_ 3]),n_ (.raw (.go ⟨.value (t_ 14),#[],#[]⟩) 0)]) (.seq (.run r56_4) (.seq (.seq (.run r56_5) (.block 0 lpass)) (.seq (.draw r56_9) .ret))))))
theorem c56_eq:c56=cpass 91 134:=rfl
theorem join_ext {S0 Sp Sm S:St} {H:Hp} {c r v:Nat} (hi:S0.g=.idle) (hR:GlobR Sp) (hE:Ext [] S0 Sp) (hc0:S0 c=none) (hr0:S0 r=none) (hv0:S0 v=none) (hcv:v≠c) (hcr:r≠c) (hrv:r≠v) (hv:∃ e,Sp v=some e∧Odd e.o) (hr:∃ o,Sp r=some ⟨o,true⟩)
    (hSm:Sm.h=keepM S0 Sp c r v) (hM:Ext [r] Sm S) (hW:Gro ⟨giveW S0 Sp c r v,.idle⟩ ⟨H,.idle⟩) (hcp:∀ b e e',S b=some e→H b=some e'→e=e'∧e.wr=false∧∃ e,giveW S0 Sp c r v b=some e) :
    Ext [] S0 ⟨fun b=>(S b).or (H b),.idle⟩∧Stays [] ⟨H,.idle⟩ ⟨fun b=>(S b).or (H b),.idle⟩∧(∀ b,H b≠none→giveW S0 Sp c r v b=none→S0 b=none):=by
  have hm:∀ b,Sm b=keepM S0 Sp c r v b:=fun b=>by rw [show Sm b=Sm.h b from rfl,hSm]
  have stay:∀ b e,S0 b=some e→S b=some e:=by
    intro b e hb
    have h1:b≠c:=by rintro rfl;rw [hc0] at hb;cases hb
    have h2:b≠v:=by rintro rfl;rw [hv0] at hb;cases hb
    have h3:b≠r:=by rintro rfl;rw [hr0] at hb;cases hb
    refine hM.ext b e (by simpa using h3) ?_
    rw [hm,keepM_old hb h1 h2]
    exact hE.get hb
  have newM:∀ b e,S0 b=none→S b=some e→e.wr=true∨Odd e.o:=by
    intro b e hb he
    by_cases h2:b=r
    · subst h2
      obtain ⟨o,ho⟩:=hr
      obtain ⟨o',ho'⟩:=hM.g.keep b ⟨o,true⟩ (by rw [hm,keepM_r hcr hrv];exact ho)
      rw [he] at ho';cases ho'
      exact .inl rfl
    · by_cases h3:b=v
      · subst h3
        obtain ⟨e0,h0,hodd⟩:=hv
        have:=hM.g.ro b ⟨e0.o,false⟩ (by rw [hm];exact keepM_v h0 hcv) rfl
        rw [he] at this;cases this
        exact .inr hodd
      · exact hM.g.new b e (by rw [hm];exact keepM_none hb h2 h3) he
  have newW:∀ b e,S0 b=none→S b=none→H b=some e→e.wr=true∨Odd e.o:=by
    intro b e hb hs he
    cases hg:giveW S0 Sp c r v b with
    | none=>exact hW.new b e hg he
    | some e1=>
      have h2:b≠r:=by rintro rfl;rw [giveW_r] at hg;cases hg
      have h1:b≠c:=by rintro rfl;rw [giveW_c] at hg;cases hg
      have h3:b≠v:=by
        rintro rfl
        obtain ⟨e0,h0,_⟩:=hv
        obtain ⟨o,ho⟩:=hM.g.keep b ⟨e0.o,false⟩ (by rw [hm];exact keepM_v h0 hcv)
        rw [hs] at ho;cases ho
      rw [giveW_new hb h1 h2 h3] at hg
      rcases hE.g.new b e1 hb hg with hw | hodd
      · obtain ⟨o,ho⟩:=hW.keep b e1 (by show giveW S0 Sp c r v b=_;rw [giveW_new hb h1 h2 h3];exact hg)
        have h9:(⟨H,.idle⟩:St) b=some e:=he
        rw [h9] at ho;cases ho
        exact .inl hw
      · cases hw:e1.wr with
        | false=>
          have:=hW.ro b e1 (by show giveW S0 Sp c r v b=_;rw [giveW_new hb h1 h2 h3];exact hg) hw
          have h9:(⟨H,.idle⟩:St) b=some e:=he
          rw [h9] at this;cases this
          exact .inr hodd
        | true=>
          obtain ⟨o,ho⟩:=hW.keep b e1 (by show giveW S0 Sp c r v b=_;rw [giveW_new hb h1 h2 h3];exact hg)
          have h9:(⟨H,.idle⟩:St) b=some e:=he
          rw [h9] at ho;cases ho
          exact .inl hw
  have st:Stays [] S0 ⟨fun b=>(S b).or (H b),.idle⟩:=fun b e _ hb=>by
    show (S b).or (H b)=_
    rw [stay b e hb];rfl
  refine ⟨⟨⟨hi.symm ▸ rfl,fun b e hb=>⟨e.o,st b e (by simp) hb⟩,fun b e hb _=>st b e (by simp) hb,fun b e hb he=>?_⟩,st⟩,fun b e _ hb=>?_,fun b hb hg=>?_⟩
  · have he:(S b).or (H b)=some e:=he
    cases hs:S b with
    | some e1=>rw [hs] at he;cases he;exact newM b _ hb hs
    | none=>rw [hs] at he;exact newW b e hb hs he
  · show (S b).or (H b)=_
    cases hs:S b with
    | none=>exact hb
    | some e1=>
      obtain ⟨h1,_⟩:=hcp b e1 e hs hb
      rw [h1];rfl
  · cases h0:S0 b with
    | none=>rfl
    | some e=>
      cases hh:H b with
      | none=>exact absurd hh hb
      | some e'=>
        obtain ⟨_,_,e2,h2⟩:=hcp b e e' (stay b e h0) hh
        rw [hg] at h2;cases h2
end
section
open Go
open Go.Conc (born recvd)
theorem Sl.stays {S S':St} {k:Nat} {a:Option Addr} {rows:List (List Value)} (h:Sl S k a rows) (he:Stays [] S S'):Sl S' k a rows:=h.agree fun b off _ e hb=>he b e (by simp) hb
theorem Loc.rest {S0 S1 S S':St} {X:List Nat} {L:List (Nat × Obj)} (hE:Ext [] S0 S') (hs:Stays [] S S') (H:Loc X S1 S L) (h0:∀ b o,(b,o)∈L→S0 b=none):Loc [] S0 S' L:=
 ⟨hE.g,hE.ext,fun b o hb=>hs b _ (by simp) (H.own b o hb),fun b o hb=>.inl (h0 b o hb),H.nodup⟩
theorem offS_of {S0 S:St} {a x:Option Addr} {e:TypeId} {k cap:Nat} {rows:List (List Value)} (h:OwnO S0 S x e k cap rows) (ho:OffB a x):OffS a x:=by
 rintro b off b' off' ha rfl
 rcases h with ⟨h,_⟩ | ⟨m,h,_⟩
 ·cases h
 ·cases h;exact ho b off b' ha rfl
theorem Sl.in_ {S:St} {k:Nat} {a:Option Addr} {rows:List (List Value)} (h:Sl S k a rows):∀ b off,a=some ⟨b,off,none⟩→∃ e,S b=some e:=by
 rintro b off rfl
 obtain ⟨_,_,c,e,f,wr,e1,h2,_⟩:=h.base _ rfl
 cases e1
 exact ⟨_,h2⟩
theorem pass_code {ty:Nat} {f:FuncId} {fn:Func} (hf:PassFn Tryz.prog f fn rpass) {tf:FuncId} {tfn:Func} (htf:Tryz.prog.funcs[tf]? = some tfn) (hb:tfn.body.isSome=true) (hn:(tfn.name == "runtime.NumGoroutine")=false) {b:Box} {s:Seg} {r:Box × List Seg} (hT:TurnC tf b s r)
    (hrs:r.1.rs=b.rs) (hr2:r.2.length≤100000) {S0:St} {a1 a2 a3:Option Addr} {c1 c2 c3:Nat} (hR:GlobR S0) (hi:S0.g=.idle) (h1:Sl S0 7 a1 (z5 b.rs)) (h2:Sl S0 2 a2 (zS b.es)) (h3:Sl S0 7 a3 (zX b.cs)) (hc2:b.es.length≤c2) (hz:BoxZ b)
    {Q:SEx→Env→St→Prop} (k:∀ (x1 x2 x3 x4:Option Addr) (d2 d3:Nat) E S',Ext [] S0 S'→Sl S' 7 x1 (z5 r.1.rs)→Sl S' 2 x2 (zS r.1.es)→r.1.es.length≤d2→Sl S' 7 x3 (zX r.1.cs)→r.1.cs.length≤d3→Sl S' 7 x4 (segRows r.2) →
      Org S0 none x1→Org S0 none x2→Org S0 none x3→Org S0 none x4→OffS x1 x2→OffS x1 x3→OffS x2 x3→OffS x1 x4→OffS x2 x4→OffS x3 x4→(∃ vs,resVals E S' [.cellN 4 3,.tmp 5]=some vs∧resVal vs=.tuple #[.agg #[.slice x1 r.1.rs.length r.1.rs.length,.slice x2 r.1.es.length d2,.slice x3 r.1.cs.length d3],.slice x4 r.2.length r.2.length])→Q .ret E S') :
    wpS Tryz.prog (cpass ty f) (Env.of [.agg #[.slice a1 b.rs.length c1,.slice a2 b.es.length c2,.slice a3 b.cs.length c3,.func (.func tf) #[] #[]],s.v]) S0 Q:=by
  have H:=Loc.start [] S0
  refine zB ?_
  refine zL ?_
  refine za (W_box H rfl rfl fun b2 S hb2 hE H=>?_)
  refine za (W_box H rfl rfl fun b3 S hb3 hE H=>?_)
  refine za (W_alloc H rfl fun b4 S hb4 hE H=>?_)
  refine za (vB rfl ?_)
  refine ve ?_
  refine ze ?_
  refine zB ?_
  refine zL ?_
  refine za (zy rfl ?_)
  refine za (W_loadN (vs:=[_,_,_]) H rfl (.tail (.tail .head)) rfl ?_)
  refine za (zT rfl (ct66 (h1.mono H.qx) (h2.mono H.qx) (h3.mono H.qx) hc2 hz fun x1 x2 x3 d3 S hE hx1 hx2 hO o1 o2 of1 of2 of3=>?_))
  have n1_b4:=o1.ne nofun (H.get .head)
  have n2_b4:=o2.ne nofun (H.get .head)
  have n3_b4:=hO.off (H.get .head)
  replace o1:=o1.back H.qx
  replace o2:=o2.back H.qx
  replace hO:=hO.back H.qx
  replace H:=H.call hE
  refine za (W_alloc H rfl fun b6 S hb6 hE H=>?_)
  have n1_b6:=hx1.ne hb6
  have n2_b6:=hx2.ne hb6
  have n3_b6:=hO.sl.ne hb6
  replace hx1:=hx1.mono hE
  replace hx2:=hx2.mono hE
  replace hO:=hO.mono hE
  refine za (W_store H rfl rfl rfl rfl rfl (by decide) .head (of_decide_eq_true rfl) rfl fun S hE H=>?_)
  replace hx1:=hx1.qy hE n1_b6
  replace hx2:=hx2.qy hE n2_b6
  replace hO:=hO.qy hE n3_b6
  refine ve ?_
  refine ze ?_
  refine zB ?_
  refine zL ?_
  refine za (W_makeChan H fun c S hc hE H=>?_)
  have n1_c:=hx1.ne hc
  have n2_c:=hx2.ne hc
  have n3_c:=hO.sl.ne hc
  replace hx1:=hx1.mono hE
  replace hx2:=hx2.mono hE
  replace hO:=hO.mono hE
  refine za (W_alloc H rfl fun b7 S hb7 hE H=>?_)
  have n1_b7:=hx1.ne hb7
  have n2_b7:=hx2.ne hb7
  have n3_b7:=hO.sl.ne hb7
  replace hx1:=hx1.mono hE
  replace hx2:=hx2.mono hE
  replace hO:=hO.mono hE
  refine za (W_store H rfl rfl rfl rfl rfl (by decide) .head (of_decide_eq_true rfl) rfl fun S hE H=>?_)
  replace hx1:=hx1.qy hE n1_b7
  replace hx2:=hx2.qy hE n2_b7
  replace hO:=hO.qy hE n3_b7
  refine ve ?_
  refine ze ?_
  refine zB ?_
  refine zL ?_
  refine za (W_mkFunc rfl rfl ?_)
  have hE0:=H.qx
  have hRp:=hR.mono hE0
  have z7:=H.new1 .head
  have zc:=H.new1 (.tail .head)
  have z6:=H.new1 (.tail (.tail .head))
  have z4:=H.new1 (.tail (.tail (.tail .head)))
  have z3:=H.new1 (.tail (.tail (.tail (.tail .head))))
  have z2:=H.new1 (.tail (.tail (.tail (.tail (.tail .head)))))
  have nd:=H.nodup
  simp only [List.map_cons,List.map_nil,List.nodup_cons,List.mem_cons,List.not_mem_nil,or_false,not_or,not_false_eq_true,and_true,List.nodup_nil] at nd
  obtain ⟨⟨d7c,d76,d74,d73,d72⟩,⟨dc6,dc4,dc3,dc2⟩,⟨d64,d63,d62⟩,⟨d43,d42⟩,d32⟩:=nd
  have g7:=hR.g.ne z7
  have gc:=hR.g.ne zc
  have g6:=hR.g.ne z6
  have g4:=hR.g.ne z4
  have hgl:∀ x∈[1,2,4],giveW S0 S c b4 b7 x=S x:=fun x hx=>giveW_glob hx (by rintro rfl;exact gc hx) (by rintro rfl;exact g4 hx) (by rintro rfl;exact g7 hx)
  have hnw:∀ {x:Nat},S0 x=none→x≠c→x≠b4→x≠b7→giveW S0 S c b4 b7 x=S x:=fun h0 h1 h2 h3=>giveW_new h0 h1 h2 h3
  have w7:giveW S0 S c b4 b7 b7=some ⟨Cs [.chan (some c)] 158,false⟩:=giveW_v (H.get .head) d7c d74
  have w2:=(hnw z2 (fun e=>dc2 e.symm) (fun e=>d42 e.symm) (fun e=>d72 e.symm)).trans (H.get (.tail (.tail (.tail (.tail (.tail .head))))))
  have w3:=(hnw z3 (fun e=>dc3 e.symm) (fun e=>d43 e.symm) (fun e=>d73 e.symm)).trans (H.get (.tail (.tail (.tail (.tail .head)))))
  have w6:=(hnw z6 (fun e=>dc6 e.symm) d64 (fun e=>d76 e.symm)).trans (H.get (.tail (.tail .head)))
  have m1:∀ x off,x1=some ⟨x,off,none⟩→S0 x=none:=fun x off e=>by
    rcases o1 with rfl | o1
    · cases e
    · exact o1 x off e
  have m2:∀ x off,x2=some ⟨x,off,none⟩→S0 x=none:=fun x off e=>by
    rcases o2 with rfl | o2
    · cases e
    · exact o2 x off e
  have m3:∀ x off,x3=some ⟨x,off,none⟩→S0 x=none:=fun x off e=>by
    rcases hO with ⟨rfl,_⟩ | ⟨m,rfl,h0,_⟩
    · cases e
    · cases e;exact h0
  have o3:Org S0 none x3:=.inr m3
  have wx1:Sl ⟨giveW S0 S c b4 b7,.sends c (r.2.map Seg.v)⟩ 7 x1 (z5 b.rs):=hx1.agree fun x off e en hen=>(hnw (m1 x off e) (n1_c x off e) (n1_b4 x off e) (n1_b7 x off e)).trans hen
  have wx2:Sl ⟨giveW S0 S c b4 b7,.sends c (r.2.map Seg.v)⟩ 2 x2 (zS b.es):=hx2.agree fun x off e en hen=>(hnw (m2 x off e) (n2_c x off e) (n2_b4 x off e) (n2_b7 x off e)).trans hen
  have wx3:OwnO S0 ⟨giveW S0 S c b4 b7,.sends c (r.2.map Seg.v)⟩ x3 49 7 d3 (zX b.cs):=by
    rcases hO with h | ⟨m,rfl,h0,cs,h4,h5⟩
    · exact .inl h
    · exact .inr ⟨m,rfl,h0,cs,(hnw h0 (n3_c m 0 rfl) (n3_b4 m 0 rfl) (n3_b7 m 0 rfl)).trans h4,h5⟩
  have hch:=pass_worker hf htf hb hn hT (S00:=S0) (Hw:=giveW S0 S c b4 b7) (c:=c) (b2:=b2) (b3:=b3) (b6:=b6) (b7:=b7) (d3:=d3) (x1:=x1) (x2:=x2) (x3:=x3)
    (hRp.g.agree fun x hx o w hs=>⟨w,(hgl x hx).trans hs⟩) (by simp [St.cell?,w7]) (by simp [St.cell?,w2]) (by simp [St.cells?,w3]) w6 wx1 wx2 wx3 g6 (fun x off e=>⟨hR.g.ne (m3 x off e),n3_b6 x off e⟩) n1_b6 n2_b6 of1 of2
  refine za (W_go (Hw:=giveW S0 S c b4 b7) (Hm:=keepM S0 S c b4 b7) (J:=JP b r.1 b6 x1 x2 x3 (giveW S0 S c b4 b7)) rfl (H.g.eq.trans hi) (H.get (.tail .head)) giveW_c keepM_c giveW_sub keepM_sub (give_keep hRp) hch ?_)
  refine ve ?_
  refine ze ?_
  have hm4:keepM S0 S c b4 b7 b4=some ⟨Cs [.slice none 0 0,.slice none 0 0,.slice none 0 0] 29,true⟩:=(keepM_r (fun e=>dc4 e.symm) (fun e=>d74 e.symm)).trans (H.get (.tail (.tail (.tail .head))))
  have hm7:keepM S0 S c b4 b7 b7=some ⟨Cs [.chan (some c)] 158,false⟩:=keepM_v (H.get .head) d7c
  have hmo:∀ x,keepM S0 S c b4 b7 x=none→S0 x=none:=fun x hx=>by
    cases h0:S0 x with
    | none=>rfl
    | some e=>
      rw [keepM_old h0 (by rintro rfl;rw [zc] at h0;cases h0) (by rintro rfl;rw [z7] at h0;cases h0)] at hx
      have h9:=hE0.get h0
      have h8:S x=none:=hx
      rw [h8] at h9;cases h9
  generalize hKM:keepM S0 S c b4 b7=KM at hm4 hm7 hmo
  generalize hJ0:JP b r.1 b6 x1 x2 x3 (giveW S0 S c b4 b7)=J
  generalize hD0:(fun b=>∃ e,giveW S0 S c b4 b7 b=some e)=D
  have M:Loc [b4] ⟨KM,.hears c (r.2.map Seg.v) J D⟩ ⟨KM,.hears c (r.2.map Seg.v) J D⟩ [(b4,Cs [.slice none 0 0,.slice none 0 0,.slice none 0 0] 29)]:=Loc.start1 hm4
  refine zB ?_
  refine zL ?_
  refine za (z_ (cs:=[]) M rfl rfl fun b8 S1 hb8 hE1 M=>?_)
  refine za (vB rfl ?_)
  refine ve ?_
  refine ze ?_
  refine zB ?_
  refine zB ?_
  refine zL ?_
  have h17:S1 b7=some ⟨Cs [.chan (some c)] 158,false⟩:=hE1.get hm7
  refine za (zF (v:=.chan (some c)) rfl (by simp [St.cell?,h17]) ?_)
  refine ve ?_
  refine ze ?_
  refine zE ?_
  refine vg (fun E S m_=>∃ (i b8 cap:Nat) (cs:List Value),E=Env.lst [(4,ptr b4 0),(6,ptr b6 0),(8,sl b8 0 i cap),(16,.chan (some c))]∧Loc [b4] ⟨KM,.hears c ((r.2.map Seg.v).drop i) J D⟩ S [(b8,Cs cs 33),(b4,Cs [.slice none 0 0,.slice none 0 0,.slice none 0 0] 29)]∧i≤r.2.length∧i≤cap∧cs.length=cap*7∧cs.take (i*7)=(segRows (r.2.take i)).flatten∧m_=r.2.length-i) ?_ ?_
  · refine ⟨_,_,?le,0,b8,0,[],rfl,M,(by omega),(by omega),(by simp),(by simp),rfl⟩
    case le=>exact Env.qle ⟨rfl,rfl,rfl,rfl,trivial⟩
  · rintro _ S2 _ ⟨i,b8,cap,cs,rfl,M,hil,hic,hcl,hct,rfl⟩
    refine zB ?_
    refine zL ?_
    by_cases hlt:i<r.2.length
    · obtain ⟨y,hy⟩:∃ y,r.2[i]? = some y:=⟨r.2[i],by simp⟩
      refine za (W_recv (v:=y.v) (vs:=(r.2.map Seg.v).drop (i+1)) (J:=J) (D:=D) rfl (by rw [M.g.eq];show Gh.hears _ _ _ _=_;rw [List.drop_eq_getElem_cons (by simpa using hlt)];simp only [List.getElem_map,(List.getElem?_eq_some_iff.1 hy).2]) ?_)
      replace M:=M.sent (.hears c ((r.2.map Seg.v).drop (i+1)) J D)
      refine za (vj rfl rfl ?_)
      refine ve ?_
      refine ze ?_
      refine zB ?_
      refine zr rfl ?_
      refine zt ?_
      refine ze ?_
      refine zE ?_
      refine zB ?_
      refine zL ?_
      refine za (vj rfl rfl ?_)
      refine za (W_alloc M rfl fun b9 S3 hb9 hE3 M=>?_)
      refine za (W_store M rfl rfl rfl rfl rfl (by decide) .head (of_decide_eq_true rfl) rfl fun S3 hE3 M=>?_)
      refine ve ?_
      refine ze ?_
      refine zL ?_
      refine za (vB rfl ?_)
      refine za (W_loadN (vs:=[_,_,_,_,_,_,_]) M rfl .head rfl ?_)
      refine za (z_ (cs:=[_,_,_,_,_,_,_]) M rfl rfl fun b22 S3 hb22 hE3 M=>?_)
      refine za (W_append M rfl rfl (.tail (.tail .head)) hcl hic (Src.own M (n:=1) .head rfl) (by simp [oneCell,setl]) rfl (by decide) (by omega) rfl fun b23 cap23 cs23 S3 hb23 M hE3 hn23 hcl23 hct23=>?_)
      refine za (vB rfl ?_)
      refine ve ?_
      refine vc ?_
      refine ze ?_
      refine ⟨_,_,?lt,?le,i+1,b23,cap23,cs23,rfl,M.sub (.cons_cons _ (.cons _ (.cons _ (.cons_cons _ .slnil)))),(by omega),hn23,hcl23,?_,rfl⟩
      case lt=>omega
      case le=>exact Env.qle ⟨rfl,rfl,rfl,rfl,trivial⟩
      refine hct23.trans ?_
      rw [hct,vF hy]
      simp [segRows]
    · obtain rfl:i=r.2.length:=by omega
      rw [List.take_length] at hct
      refine za (W_recvEnd (J:=J) (D:=D) rfl (by rw [M.g.eq];show Gh.hears _ _ _ _=_;rw [List.drop_of_length_le (by simp)]) fun HH hJ hcp=>?_)
      subst hJ0 hD0
      obtain ⟨hW,x2',x3',d2,d3',p1,p2,p3,p4,p5,p6,p7,p8,p9⟩:=hJ
      obtain ⟨hF,hst,hnone⟩:=join_ext (Sm:=⟨KM,_⟩) hi hRp hE0 zc z4 z7 d7c (fun e=>dc4 e.symm) (fun e=>d74 e.symm) ⟨_,H.get .head,⟨_,rfl⟩⟩ ⟨_,H.get (.tail (.tail (.tail .head)))⟩ hKM.symm M.qx hW hcp
      have z8:S0 b8=none:=hmo b8 ((M.fresh b8 _ (Has.mem .head)).resolve_right (by
        intro hm
        obtain rfl:=List.mem_singleton.1 hm
        exact absurd M.nodup (by simp)))
      have n8:∀ x e,HH x=some e→x≠b8:=by
        rintro x e hx rfl
        have:=(hcp x _ e (M.get .head) hx).2.1
        cases this
      have hstS:Stays [] S2 ⟨fun b=>(S2 b).or (HH b),.idle⟩:=fun x e _ hx=>by
        show (S2 x).or (HH x)=_
        rw [hx];rfl
      have F:=Loc.rest hF hstS M (fun x o hx=>by
        simp only [List.mem_cons,Prod.mk.injEq,List.not_mem_nil,or_false] at hx
        rcases hx with ⟨rfl,_⟩ | ⟨rfl,_⟩
        · exact z8
        · exact z4)
      replace F:=F.also (.inl z6) (by
        simp only [List.map_cons,List.map_nil,List.mem_cons,List.not_mem_nil,or_false,not_or]
        exact ⟨n8 b6 _ p1,d64⟩) (hst b6 _ (by simp) p1)
      have hg1:=p2.stays hst
      have hg2:=p3.stays hst
      have hg3:=p5.stays hst
      have i1:=p2.in_
      have i2:=p3.in_
      have i3:=p5.in_
      have Q2:Org S0 none x2':=by
        rcases p7 with rfl | p7
        · exact o2
        · exact .inr fun x off e=>hnone x (by obtain ⟨en,hen⟩:=i2 x off e;intro hc;have h9:HH x=some en:=hen;rw [hc] at h9;cases h9) (p7 x off e)
      have Q3:Org S0 none x3':=by
        rcases p8 with rfl | p8
        · exact o3
        · exact .inr fun x off e=>hnone x (by obtain ⟨en,hen⟩:=i3 x off e;intro hc;have h9:HH x=some en:=hen;rw [hc] at h9;cases h9) (p8 x off e)
      have T12:OffS x1 x2':=by
        rcases p7 with rfl | p7
        · exact of3
        · exact OffS.new (wx1.sent .idle) (.inr p7)
      have T13:OffS x1 x3':=by
        rcases p8 with rfl | p8
        · exact offS_of hO of1
        · exact OffS.new (wx1.sent .idle) (.inr p8)
      have T14:OffS x1 (some ⟨b8,0,none⟩):=.at fun x off e=>by obtain ⟨en,hen⟩:=i1 x off e;exact n8 x en hen
      have T24:OffS x2' (some ⟨b8,0,none⟩):=.at fun x off e=>by obtain ⟨en,hen⟩:=i2 x off e;exact n8 x en hen
      have T34:OffS x3' (some ⟨b8,0,none⟩):=.at fun x off e=>by obtain ⟨en,hen⟩:=i3 x off e;exact n8 x en hen
      have u1:∀ x off,x1=some ⟨x,off,none⟩→x≠b4:=fun x off e=>n1_b4 x off e
      have u2:∀ x off,x2'=some ⟨x,off,none⟩→x≠b4:=by
        rintro x off e rfl
        obtain ⟨en,hen⟩:=i2 x off e
        have:=(hcp x _ en (M.get (.tail .head)) hen).2.1
        cases this
      have u3:∀ x off,x3'=some ⟨x,off,none⟩→x≠b4:=by
        rintro x off e rfl
        obtain ⟨en,hen⟩:=i3 x off e
        have:=(hcp x _ en (M.get (.tail .head)) hen).2.1
        cases this
      refine za (vj rfl rfl ?_)
      refine ve ?_
      refine ze ?_
      refine zB ?_
      refine zn rfl ?_
      refine vf ?_
      refine zM ?_
      refine zM ?_
      refine vn ?_
      refine ze ?_
      refine zB ?_
      refine z9 [b4] ?_
      refine wpD_lt 0 rfl (by kernel_rfl) rfl (fun S' hS'=>zG fun K hK=>zV rfl (zK (hS' rfl) (nin1 d64) (F.cells (vs:=[_,_,_]) .head rfl)) hK) ?_
      refine wpD_lt 1 rfl (by kernel_rfl) rfl (fun S' _=>zG fun K hK=>vB rfl hK) ?_
      refine zA 2 (by kernel_rfl) rfl rfl ?_
      refine zu (zT rfl (ct135 hic fun S4 hE4=>?_))
      replace F:=F.call hE4
      replace hg1:=hg1.mono hE4
      replace hg2:=hg2.mono hE4
      replace hg3:=hg3.mono hE4
      refine ⟨fun _=>hE4.up.ext,?_⟩
      refine zA 3 (by kernel_rfl) rfl rfl ?_
      refine zu (W_store F rfl rfl rfl rfl rfl (by decide) (.tail (.tail .head)) (of_decide_eq_true rfl) rfl fun S5 hE5 F=>?_)
      replace hg1:=hg1.qy hE5 u1
      replace hg2:=hg2.qy hE5 u2
      replace hg3:=hg3.qy hE5 u3
      refine ⟨ldNo (by kernel_rfl),?_⟩
      refine zA 4 (by kernel_rfl) rfl rfl ?_
      refine zu (vB rfl ?_)
      refine ⟨ldNo (by kernel_rfl),?_⟩
      refine zY ?_
      refine ze ?_
      refine zh ?_
      rw [← hrs] at hg1
      refine k x1 x2' x3' (some ⟨b8,0,none⟩) d2 d3' _ _ F.qx hg1 hg2 p4 hg3 p6 (vC (F.get (.tail .head)) (n:=r.2.length*7) (by simp) hct segRows_seven) o1 Q2 Q3 (.new z8) T12 T13 p9 T14 T24 T34 ⟨_,z0 (ws:=[_,_,_]) F rfl (.tail (.tail .head)) rfl (zW rfl zU),?_⟩
      rw [hrs];rfl
end
section
theorem putE_pre (es:List End) (e:End):es <+: putE es e:=by
 unfold putE;split
 ·exact List.prefix_rfl
 ·exact List.prefix_append _ _
theorem lineOut_pre (es:List End) (l:Bs):es <+: (vE es l).1:=by
 unfold vE
 split
 ·exact List.prefix_rfl
 ·exact putE_pre _ _
theorem linesOut_pre (es:List End) (ls:List Bs):es <+: (linesOut es ls).1:=by
 induction ls generalizing es with
 | nil=>exact List.prefix_rfl
 | cons l ls ih=>exact (lineOut_pre es l).trans (ih _)
theorem idxOf_pre {es t:List End} {e:End} (h:es <+: t) (he:e∈es):t.idxOf e=es.idxOf e:=by
 obtain ⟨r,rfl⟩:=h
 rw [List.idxOf_append,if_pos he]
theorem mem_pre {es t:List End} {e:End} (h:es <+: t) (he:e∈es):e∈t:=h.subset he
theorem portE_pre {es t:List End} {e:End} (h:es <+: t) (he:e∈es):portE t e=portE es e:=by
 unfold portE;rw [if_pos he,if_pos (mem_pre h he),idxOf_pre h he]
theorem putE_in {es:List End} {e:End} (h:putP es e≠0):e∈putE es e:=by
 unfold putP at h
 unfold putE
 by_cases hm:e∈es
 ·rw [if_pos (.inl hm)];exact hm
 ·rw [if_neg hm] at h
  by_cases hf:6≤es.length
  ·rw [if_pos hf] at h;exact absurd rfl h
  ·rw [if_neg (by simp [hm,hf])];simp
theorem putP_portE {es:List End} {e:End} (h:putP es e≠0):portE (putE es e) e=putP es e:=by
 by_cases hm:e∈es
 ·obtain ⟨h1,h2⟩:=putE_mem hm;rw [h1,h2]
 ·by_cases hf:6≤es.length
  ·exact absurd (putE_full hm hf).2 h
  ·obtain ⟨h1,h2⟩:=putE_new hm hf
   rw [h1,h2]
   unfold portE
   rw [if_pos (by simp),List.idxOf_append,if_neg hm]
   simp
theorem put_again {es t:List End} {e:End} (h:putE es e <+: t) (h6:t.length≤6):putE t e=t∧putP t e=putP es e:=by
 by_cases hm:e∈es
 ·obtain ⟨h1,h2⟩:=putE_mem hm
  rw [h1] at h
  have:=mem_pre h hm
  obtain ⟨h3,h4⟩:=putE_mem this
  exact ⟨h3,by rw [h4,h2,portE_pre h hm]⟩
 ·by_cases hf:6≤es.length
  ·obtain ⟨h1,h2⟩:=putE_full hm hf
   rw [h1] at h
   have he:es=t:=h.eq_of_length (by have:=h.length_le;omega)
   subst he
   exact ⟨h1,rfl⟩
  ·obtain ⟨h1,h2⟩:=putE_new hm hf
   have hp:putP es e≠0:=by rw [h2];omega
   have hin:=putE_in hp
   have:=mem_pre h hin
   obtain ⟨h3,h4⟩:=putE_mem this
   exact ⟨h3,by rw [h4,portE_pre h hin,putP_portE hp]⟩
theorem lineOut_again {es t:List End} {l:Bs} (h:(vE es l).1 <+: t) (h6:t.length≤6):vE t l=(t,(vE es l).2):=by
 unfold vE at h ⊢
 cases hs:says l with
 | none=>rfl
 | some e=>
  rw [hs] at h
  simp only at h ⊢
  obtain ⟨h1,h2⟩:=put_again h h6
  rw [h1,h2]
theorem linesOut_again {es t:List End} {ls:List Bs} (h:(linesOut es ls).1 <+: t) (h6:t.length≤6):linesOut t ls=(t,(linesOut es ls).2):=by
 induction ls generalizing es with
 | nil=>rfl
 | cons l ls ih=>
  simp only [linesOut] at h ⊢
  have h1:(vE es l).1 <+: t:=(linesOut_pre _ ls).trans h
  rw [lineOut_again h1 h6]
  simp only
  rw [ih h]
theorem streamO_again {es t:List End} {l:Bs} (h:(vr es l).1 <+: t) (h6:t.length≤6):vr t l=(t,(vr es l).2):=linesOut_again h h6
theorem knows_eq {es:List End} {l:Bs} (h:knowsP es l):(vr es l).1=es:=((linesOut_pre es _).eq_of_length h.symm).symm
theorem knows_pre {es t:List End} {l:Bs} (h:knowsP es l) (hp:es <+: t) (h6:t.length≤6):knowsP t l∧(vr t l).2=(vr es l).2:=by
 have h1:=knows_eq h
 have h2:=streamO_again (es:=es) (t:=t) (l:=l) (by rw [h1];exact hp) h6
 exact ⟨by unfold knowsP;rw [h2],by rw [h2]⟩
theorem says_inn {l:Bs} {e:End} (h:says l=some e):e.inn:=by
 unfold says at h
 obtain ⟨x,_,hx⟩:=Option.bind_eq_some_iff.1 h
 split at hx
 ·rename_i hi;cases hx;exact hi
 ·cases hx
theorem TabP_put {es:List End} {e:End} (h:TabP es) (he:e.inn):TabP (putE es e):=by
 unfold putE
 split
 ·exact h
 ·rename_i hn
  simp only [not_or] at hn
  refine ⟨by simp;omega,fun x hx=>?_,?_⟩
  ·rcases List.mem_append.1 hx with hx | hx
   ·exact h.2.1 x hx
   ·simp at hx;subst hx;exact he
  ·rw [List.nodup_append]
   refine ⟨h.2.2,by simp,fun x hx y hy=>?_⟩
   simp at hy;subst hy
   rintro rfl;exact hn.1 hx
theorem TabP_line {es:List End} (l:Bs) (h:TabP es):TabP (vE es l).1:=by
 unfold vE
 split
 ·exact h
 ·rename_i e hs;exact TabP_put h (says_inn hs)
theorem TabP_lines {es:List End} (ls:List Bs) (h:TabP es):TabP (linesOut es ls).1:=by
 induction ls generalizing es with
 | nil=>exact h
 | cons l ls ih=>exact ih (TabP_line l h)
theorem endP_pre {es t:List End} {p:Int} {e:End} (h:es <+: t) (he:endP es p=some e):endP t p=some e:=by
 unfold endP at he ⊢
 split at he
 ·rename_i h5
  rw [if_pos h5]
  obtain ⟨r,rfl⟩:=h
  rw [List.getElem?_append_left (List.getElem?_eq_some_iff.1 he).1];exact he
 ·cases he
theorem lineIn_pre {es t:List End} {l:Bs} (h:es <+: t):lineIn es l=l∨lineIn es l=lineIn t l:=by
 cases hb:boxP l with
 | none=>exact .inl (lineIn_none hb)
 | some p=>
  cases he:endP es p with
  | none=>exact .inl (lineIn_no hb he)
  | some e=>exact .inr (by rw [lineIn_yes hb he,lineIn_yes hb (endP_pre h he)])
theorem near_pre {es t:List End} {he ne:Bs} (h:nearP es he ne) (hp:es <+: t):nearP t he ne:=by
 refine ⟨h.1,h.2.1,h.2.2.1,fun i l m hl hm=>?_⟩
 rcases h.2.2.2 i l m hl hm with h1 | h1
 ·exact .inl h1
 ·rcases lineIn_pre (l:=l) hp with h2 | h2
  ·exact .inl (h1.trans h2)
  ·exact .inr (h1.trans h2)
theorem ConnP_pre {es t:List End} {c:Conn} (h:ConnP es c) (hp:es <+: t) (h6:t.length≤6):ConnP t c:=
 ⟨h.1,h.2.1,h.2.2.1,mem_pre hp h.2.2.2.1,h.2.2.2.2.1,h.2.2.2.2.2.1,(knows_pre h.2.2.2.2.2.2.1 hp h6).1,near_pre h.2.2.2.2.2.2.2 hp⟩
theorem BoxP_pre {b:Box} {t:List End} (h:BoxP b) (hp:b.es <+: t) (ht:TabP t):BoxP {b with es:=t}:=
 ⟨ht,h.2.1,h.2.2.1,fun k c hc=>⟨ConnP_pre (h.2.2.2 k c hc).1 hp ht.1,(h.2.2.2 k c hc).2⟩⟩
theorem grown_again (l:Bs) (s:Seg):grown (grown l s) s=grown l s:=by
 by_cases h:s.sq<0∨(l.length:Int)<s.sq∨s.sq+s.dt.length≤l.length
 ·have e:grown l s=l:=by unfold grown;rw [if_pos h]
  rw [e,e]
 ·have e:grown l s=l++s.dt.drop ((l.length:Int)-s.sq).toNat:=by unfold grown;rw [if_neg h]
  rw [e]
  unfold grown
  rw [if_pos]
  simp only [not_or] at h
  refine .inr (.inr ?_)
  rw [List.length_append,List.length_drop]
  omega
theorem addedS_again (l:Bs) (s:Seg):addedS (addedS l s) s=addedS l s:=by
 unfold addedS
 split
 ·rename_i h
  simp only [grown_again,if_pos h,ite_self]
 ·rename_i h
  simp [h]
theorem findC_set {cs:List Conn} {k:Nat} {c c0:Conn} (hx:cs[k]? = some c0) (hi:c.i=c0.i∧c.o=c0.o) (e f:End):vK (cs.set k c) e f=vK cs e f:=by
 induction cs generalizing k with
 | nil=>simp at hx
 | cons x cs ih=>
  cases k with
  | zero=>simp at hx;subst hx;simp [vK,hi.1,hi.2]
  | succ k=>simp only [List.getElem?_cons_succ] at hx;simp only [List.set_cons_succ,vK,ih hx]
theorem findC_set_take {cs:List Conn} {k j:Nat} {c c0:Conn} (hx:cs[k]? = some c0) (hi:c.i=c0.i∧c.o=c0.o) (e f:End):vK ((cs.set k c).take j) e f=vK (cs.take j) e f:=by
 rw [List.take_set]
 by_cases h:k<j
 ·exact findC_set (by rw [List.getElem?_take,if_pos h];exact hx) hi e f
 ·rw [List.set_eq_of_length_le (by simp;omega)]
theorem findC_snoc {cs:List Conn} {x:Conn} {e f:End} (h:vK cs e f<0):vK (cs++[x]) e f=if x.i=e∧x.o=f then (cs.length:Int) else -1:=by
 induction cs with
 | nil=>simp [vK]
 | cons y cs ih=>
  simp only [vK] at h
  split at h
  ·omega
  ·rename_i hn
   have hb:=findC_bd cs e f
   split at h
   ·rename_i hlt
    have:=ih hlt
    simp only [List.cons_append,vK,if_neg hn,this]
    split
    ·rw [if_neg (by omega)];simp
    ·rfl
   ·omega
end
section
@[ext] theorem Box.ext' {a b:Box} (h1:a.rs=b.rs) (h2:a.es=b.es) (h3:a.cs=b.cs):a=b:=by
 cases a;cases b;simp_all
theorem knownC_io (c:Conn) (s:Seg):(vI c s).i=c.i∧(vI c s).o=c.o∧(vI c s).he=c.he∧(vI c s).ne=c.ne:=by rw [knownC_eq];exact ⟨rfl,rfl,rfl,rfl⟩
theorem knownC_again (c:Conn) (s:Seg):vI (vI c s) s=vI c s:=by
 rw [knownC_eq c s,knownC_eq]
 simp only [addedS_again]
theorem placeC_spec {cs:List Conn} {e f:End} (h3:cs.length≤3):((vM cs e f).2<0∧vM cs e f=(cs,-1)∧vK cs e f<0) ∨
    ∃ (cs1:List Conn) (k:Nat) (c0:Conn),vM cs e f=(cs1,(k:Int))∧cs1[k]? = some c0∧vK cs1 e f=k∧cs1.length≤3∧(cs1=cs∨(cs1=cs++[⟨e,f,[],[],[]⟩]∧k=cs.length∧vK cs e f<0∧c0=⟨e,f,[],[],[]⟩)):=by
  have hb:=findC_bd cs e f
  by_cases h:0≤vK cs e f
  · refine .inr ⟨cs,(vK cs e f).toNat,cs[(vK cs e f).toNat]'(by omega),?_,by simp,by omega,h3,.inl rfl⟩
    rw [placeC_old h];congr 1;omega
  · by_cases hl:cs.length=3
    · exact .inl ⟨by rw [placeC_full h hl];simp,placeC_full h hl,by omega⟩
    · refine .inr ⟨cs++[⟨e,f,[],[],[]⟩],cs.length,⟨e,f,[],[],[]⟩,placeC_new h hl,by simp,?_,by simp;omega,.inr ⟨rfl,rfl,by omega,rfl⟩⟩
      rw [findC_snoc (by omega),if_pos ⟨rfl,rfl⟩]
theorem knowsP_nil (es:List End):knowsP es []:=rfl
theorem nearP_nil (es:List End):nearP es [] []:=⟨rfl,rfl,by simp,fun i l m h=>by simp [zD,spl] at h⟩
theorem ctl_box {b b1:Box} {s:Seg} {port:Int} (hb1:BoxP b1) (hi:s.s.inn) (ho:s.d.out) (hp:s.d.p=21) (hm:s.s∈b1.es) :
    BoxP (ctlO b1 s port).1∧(ctlO b1 s port).1.rs=b1.rs∧b1.es <+: (ctlO b1 s port).1.es∧(ctlO b1 s port).2.length≤1000∧ctlO (ctlO b1 s port).1 s port=ctlO b1 s port ∧
    (((ctlO b1 s port)=(b1,[])∧(vM b1.cs s.s s.d).2<0)∨∃ (cs1:List Conn) (k:Nat) (c0:Conn),vM b1.cs s.s s.d=(cs1,(k:Int))∧cs1[k]? = some c0∧vK cs1 s.s s.d=k∧(cs1=b1.cs∨(cs1=b1.cs++[⟨s.s,s.d,[],[],[]⟩]∧k=b1.cs.length∧vK b1.cs s.s s.d<0∧c0=⟨s.s,s.d,[],[],[]⟩)) ∧
      ConnP b1.es c0∧ctlO b1 s port=(⟨b1.rs,(vr b1.es (vI c0 s).kn).1,cs1.set k (vI c0 s)⟩,cutO {s with s:=⟨50,port⟩,ak:=backD 0 (spansO (vI c0 s).he (vI c0 s).ne) s.ak} (vr b1.es (vI c0 s).kn).2 (outD 0 (spansO (vI c0 s).kn (vr b1.es (vI c0 s).kn).2) s.sq).toNat)):=by
  rcases placeC_spec (e:=s.s) (f:=s.d) hb1.2.2.1 with ⟨h,h1,h2⟩ | ⟨cs1,k,c0,hpl,hx,hf,h3,hcs⟩
  · have e:=ctlO_no (b:=b1) (s:=s) (port:=port) h
    rw [h1] at e
    have e':ctlO b1 s port=(b1,[]):=e
    rw [e']
    exact ⟨hb1,rfl,List.prefix_rfl,by simp,e',.inl ⟨rfl,h⟩⟩
  · have hE:=ctlO_yes (b:=b1) (s:=s) (port:=port) (c0:=c0) (c:=vI c0 s) (by rw [hpl];simp) (by rw [hpl];simpa using hx) rfl
    simp only [hpl,Int.toNat_natCast] at hE
    obtain ⟨k1,k2,k3,k4⟩:=knownC_io c0 s
    have hB2:∀ (j:Nat) (c:Conn),cs1[j]? = some c→ConnP b1.es c∧vK (cs1.take j) c.i c.o<0:=by
      rcases hcs with rfl | ⟨rfl,rfl,hfn,rfl⟩
      · exact hb1.2.2.2
      · intro j c hc
        by_cases hj:j<b1.cs.length
        · rw [List.getElem?_append_left hj] at hc
          rw [List.take_append_of_le_length (by omega)]
          exact hb1.2.2.2 j c hc
        · rw [List.getElem?_append_right (by omega)] at hc
          have hj0:j-b1.cs.length=0:=by
            have:=(List.getElem?_eq_some_iff.1 hc).1;simp at this;omega
          rw [hj0] at hc
          simp at hc;subst hc
          refine ⟨⟨hi,ho,hp,hm,StrP_nil,StrP_nil,knowsP_nil _,nearP_nil _⟩,?_⟩
          rw [show j=b1.cs.length by omega,List.take_append_of_le_length (Nat.le_refl _),List.take_length]
          exact hfn
    have hc0:=(hB2 k c0 hx).1
    generalize hst:vr b1.es (vI c0 s).kn=st at hE
    have hpre:b1.es <+: st.1:=by rw [← hst];exact linesOut_pre _ _
    have hT:TabP st.1:=by rw [← hst];exact TabP_lines _ hb1.1
    have hkn:StrP (vI c0 s).kn:=by rw [knownC_eq];exact addedS_ok hc0.2.2.2.2.1
    have hck:ConnP st.1 (vI c0 s):=by
      refine ⟨by rw [k1];exact hc0.1,by rw [k2];exact hc0.2.1,by rw [k2];exact hc0.2.2.1,by rw [k1];exact mem_pre hpre hc0.2.2.2.1,hkn,by rw [k3];exact hc0.2.2.2.2.2.1,?_,by rw [k3,k4];exact near_pre hc0.2.2.2.2.2.2.2 hpre⟩
      have:=streamO_again (es:=b1.es) (t:=st.1) (l:=(vI c0 s).kn) (by rw [hst];exact List.prefix_rfl) hT.1
      unfold knowsP;rw [this]
    have hag:=streamO_again (es:=b1.es) (t:=st.1) (l:=(vI c0 s).kn) (by rw [hst];exact List.prefix_rfl) hT.1
    have hkl:=(List.getElem?_eq_some_iff.1 hx).1
    have hset:(cs1.set k (vI c0 s))[k]? = some (vI c0 s):=by simp [hkl]
    have hBr:BoxP ⟨b1.rs,st.1,cs1.set k (vI c0 s)⟩:=by
      refine ⟨hT,hb1.2.1,by simpa using h3,fun j c hc=>?_⟩
      have hc:(cs1.set k (vI c0 s))[j]? = some c:=hc
      show ConnP st.1 c∧vK ((cs1.set k (vI c0 s)).take j) c.i c.o<0
      rw [findC_set_take hx ⟨k1,k2⟩]
      by_cases hj:j=k
      · subst hj
        rw [hset] at hc;cases hc
        rw [k1,k2]
        exact ⟨hck,(hB2 j c0 hx).2⟩
      · rw [List.getElem?_set_ne (fun e=>hj e.symm)] at hc
        exact ⟨ConnP_pre (hB2 j c hc).1 hpre hT.1,(hB2 j c hc).2⟩
    rw [hE]
    refine ⟨hBr,rfl,hpre,?_,?_,.inr ⟨cs1,k,c0,hpl,hx,hf,hcs,hc0,by rw [hst]⟩⟩
    · have h9:=cutO_len {s with s:=⟨50,port⟩,ak:=backD 0 (spansO (vI c0 s).he (vI c0 s).ne) s.ak} st.2 (outD 0 (spansO (vI c0 s).kn st.2) s.sq).toNat
      have h8:=streamO_grow (es:=b1.es) (l:=(vI c0 s).kn) hb1.1.1 hkn.2.2
      rw [hst] at h8
      show (cutO _ _ _).length≤1000
      omega
    · have hf2:vK (cs1.set k (vI c0 s)) s.s s.d=k:=by rw [findC_set hx ⟨k1,k2⟩];exact hf
      have hp2:vM (cs1.set k (vI c0 s)) s.s s.d=(cs1.set k (vI c0 s),(k:Int)):=by rw [placeC_old (by omega),hf2]
      have hE2:=ctlO_yes (b:=⟨b1.rs,st.1,cs1.set k (vI c0 s)⟩) (s:=s) (port:=port) (c0:=vI c0 s) (c:=vI (vI c0 s) s) (by show ¬ (vM (cs1.set k (vI c0 s)) s.s s.d).2<0;rw [hp2];simp) (by show (vM (cs1.set k (vI c0 s)) s.s s.d).1[(vM (cs1.set k (vI c0 s)) s.s s.d).2.toNat]? = _;rw [hp2];simpa using hset) rfl
      simp only [knownC_again,hp2,Int.toNat_natCast,hag,hst] at hE2
      rw [hE2]
      simp
open Classical in
theorem boxOutP_ok {b:Box} {s:Seg} (h:BoxP b):BoxP (boxOutP b s).1∧(boxOutP b s).1.rs=b.rs∧b.es <+: (boxOutP b s).1.es∧(boxOutP b s).2.length≤1000∧boxOutP (boxOutP b s).1 s=boxOutP b s:=by
 by_cases hy:BoxP b∧SegP s∧s.s.inn∧s.d.out∧mayR b.rs s.s s.d=true
 case neg=>
  have e:=(boxOutP_not hy).1 h
  rw [e];exact ⟨h,rfl,List.prefix_rfl,by simp,e⟩
 by_cases hp:putP b.es s.s=0
 ·have e:=boxOutP_full hy hp
  rw [e];exact ⟨h,rfl,List.prefix_rfl,by simp,e⟩
 have hT:=TabP_put h.1 hy.2.2.1
 have hB1:BoxP {b with es:=putE b.es s.s}:=BoxP_pre h (putE_pre _ _) hT
 by_cases hc:s.d.p=21
 ·have e:=boxOutP_ctl hy hp hc
  have hm:s.s∈putE b.es s.s:=putE_in hp
  obtain ⟨q1,q2,q3,q4,q5,_⟩:=ctl_box (b:=b) (port:=putP b.es s.s) hB1 hy.2.2.1 hy.2.2.2.1 hc hm
  rw [e]
  refine ⟨q1,q2,(putE_pre _ _).trans q3,q4,?_⟩
  obtain ⟨a1,a2⟩:=put_again q3 q1.1.1
  have hy2:BoxP (ctlO {b with es:=putE b.es s.s} s (putP b.es s.s)).1∧SegP s∧s.s.inn∧s.d.out∧mayR (ctlO {b with es:=putE b.es s.s} s (putP b.es s.s)).1.rs s.s s.d=true:=⟨q1,hy.2.1,hy.2.2.1,hy.2.2.2.1,by rw [q2];exact hy.2.2.2.2⟩
  rw [boxOutP_ctl hy2 (by rw [a2];exact hp) hc,a1,a2]
  exact q5
 ·have e:=boxOutP_one hy hp hc
  obtain ⟨a1,a2⟩:=put_again (es:=b.es) (e:=s.s) List.prefix_rfl hT.1
  rw [e]
  refine ⟨hB1,rfl,putE_pre _ _,by simp,?_⟩
  rw [boxOutP_one (b:={b with es:=putE b.es s.s}) ⟨hB1,hy.2⟩ (by show ¬ putP (putE b.es s.s) s.s=0;rw [a2];exact hp) hc]
  simp only [a1,a2]
end
section
open Go
structure BoxR (S0 S:St) (x1 x2 x3 x4:Option Addr) (d2 d3:Nat) (r:Box × List Seg):Prop where
 h1:Sl S 7 x1 (z5 r.1.rs)
 h2:Sl S 2 x2 (zS r.1.es)
 h3:Sl S 7 x3 (zX r.1.cs)
 h4:Sl S 7 x4 (segRows r.2)
 l2:r.1.es.length≤d2
 l3:r.1.cs.length≤d3
 o1:Org S0 none x1
 o2:Org S0 none x2
 o3:Org S0 none x3
 o4:Org S0 none x4
 t12:OffS x1 x2
 t13:OffS x1 x3
 t23:OffS x2 x3
 t14:OffS x1 x4
 t24:OffS x2 x4
 t34:OffS x3 x4
theorem OffS.nil' {a:Option Addr}:OffS none a:=fun b off b' off' e _=>by cases e
theorem BoxR.nil (S0 S:St):BoxR S0 S none none none none 0 0 (Box.nil,[]):=⟨.nil _,.nil _,.nil _,.nil _,Nat.le_refl _,Nat.le_refl _,.same _ _,.same _ _,.same _ _,.same _ _,.nil,.nil,.nil,.nil,.nil,.nil⟩
theorem BoxR.mono {S0 S S':St} {x1 x2 x3 x4:Option Addr} {d2 d3:Nat} {r:Box × List Seg} (h:BoxR S0 S x1 x2 x3 x4 d2 d3 r) (he:Ext [] S S'):BoxR S0 S' x1 x2 x3 x4 d2 d3 r:=
 {h with h1:=h.h1.mono he,h2:=h.h2.mono he,h3:=h.h3.mono he,h4:=h.h4.mono he}
theorem BoxR.qy {S0 S S':St} {x1 x2 x3 x4:Option Addr} {d2 d3 b:Nat} {r:Box × List Seg} (h:BoxR S0 S x1 x2 x3 x4 d2 d3 r) (he:Ext [b] S S') (n:(∀ b' off,x1=some ⟨b',off,none⟩→b'≠b)∧(∀ b' off,x2=some ⟨b',off,none⟩→b'≠b)∧(∀ b' off,x3=some ⟨b',off,none⟩→b'≠b)∧(∀ b' off,x4=some ⟨b',off,none⟩→b'≠b)):BoxR S0 S' x1 x2 x3 x4 d2 d3 r:=
 {h with h1:=h.h1.qy he n.1,h2:=h.h2.qy he n.2.1,h3:=h.h3.qy he n.2.2.1,h4:=h.h4.qy he n.2.2.2}
theorem BoxR.back {S00 S0 S:St} {x1 x2 x3 x4:Option Addr} {d2 d3:Nat} {r:Box × List Seg} (h:BoxR S0 S x1 x2 x3 x4 d2 d3 r) (he:Ext [] S00 S0):BoxR S00 S x1 x2 x3 x4 d2 d3 r:=
 {h with o1:=h.o1.back he,o2:=h.o2.back he,o3:=h.o3.back he,o4:=h.o4.back he}
theorem BoxR.ne {S0 S:St} {x1 x2 x3 x4:Option Addr} {d2 d3 b:Nat} {r:Box × List Seg} (h:BoxR S0 S x1 x2 x3 x4 d2 d3 r) (hb:S b=none):(∀ b' off,x1=some ⟨b',off,none⟩→b'≠b)∧(∀ b' off,x2=some ⟨b',off,none⟩→b'≠b)∧(∀ b' off,x3=some ⟨b',off,none⟩→b'≠b)∧(∀ b' off,x4=some ⟨b',off,none⟩→b'≠b):=
 ⟨h.h1.ne hb,h.h2.ne hb,h.h3.ne hb,h.h4.ne hb⟩
theorem BoxR.old {S0 S:St} {x1 x2 x3 x4:Option Addr} {d2 d3 b:Nat} {e:Ent} {r:Box × List Seg} (h:BoxR S0 S x1 x2 x3 x4 d2 d3 r) (hb:S0 b=some e):(∀ b' off,x1=some ⟨b',off,none⟩→b'≠b)∧(∀ b' off,x2=some ⟨b',off,none⟩→b'≠b)∧(∀ b' off,x3=some ⟨b',off,none⟩→b'≠b)∧(∀ b' off,x4=some ⟨b',off,none⟩→b'≠b):=
 ⟨h.o1.ne nofun hb,h.o2.ne nofun hb,h.o3.ne nofun hb,h.o4.ne nofun hb⟩
structure GlobI (S:St):Prop where
 r:GlobR S
 i:S.g=.idle
theorem GlobI.mono {S S':St} (h:GlobI S) (he:Ext [] S S'):GlobI S':=⟨h.r.mono he,he.g.eq.trans h.i⟩
theorem GlobI.g {S:St} (h:GlobI S):Glob S:=h.r.g
section
variable {S0:St} {K:Value→St→Prop} {a1 a2 a3:Option Addr} {c1 c2 c3:Nat} {b:Box} {s:Seg}
theorem ct56 (hG:GlobI S0) (h1:Sl S0 7 a1 (z5 b.rs)) (h2:Sl S0 2 a2 (zS b.es)) (h3:Sl S0 7 a3 (zX b.cs)) (hc2:b.es.length≤c2) (hz:BoxZ b) (hB:BoxP b) (hdt:s.dt.length≤1048576)
    (k:∀ (x1 x2 x3 x4:Option Addr) (d2 d3:Nat) (r:Box × List Seg) S',Ext [] S0 S'→r=boxOutP b s→BoxR S0 S' x1 x2 x3 x4 d2 d3 r→K (.tuple #[.agg #[.slice x1 r.1.rs.length r.1.rs.length,.slice x2 r.1.es.length d2,.slice x3 r.1.cs.length d3],.slice x4 r.2.length r.2.length]) S') :
    Calls1 Tryz.prog 56 #[.agg #[.slice a1 b.rs.length c1,.slice a2 b.es.length c2,.slice a3 b.cs.length c3,.func (.func 55) #[] #[]],s.v] S0 K:=by
  refine calls1_slim (sf:=s56) Tryz.func56 k56 (of_decide_eq_true rfl) ?_
  show wpS Tryz.prog c56 (Env.of [.agg #[.slice a1 b.rs.length c1,.slice a2 b.es.length c2,.slice a3 b.cs.length c3,.func (.func 55) #[] #[]],s.v]) S0 _
  rw [c56_eq]
  obtain ⟨_,q2,_,q4,_⟩:=boxOutP_ok (s:=s) hB
  refine pass_code pf134 Tryz.func55 (by kernel_rfl) (by kernel_rfl) (turn55 hB hdt) q2 (by omega) hG.r hG.i h1 h2 h3 hc2 hz fun x1 x2 x3 x4 d2 d3 E S' hE p1 p2 p3 p4 p5 p6 o1 o2 o3 o4 t12 t13 t23 t14 t24 t34 hv=>?_
  obtain ⟨vs,hv1,hv2⟩:=hv
  exact ⟨trivial,vs,hv1,by rw [hv2];exact k x1 x2 x3 x4 d2 d3 _ S' hE rfl ⟨p1,p2,p4,p6,p3,p5,o1,o2,o3,o4,t12,t13,t23,t14,t24,t34⟩⟩
end
end
section
variable {S0:St} {K:Value→St→Prop}
variable {b:Box} {s:Seg}
theorem boxOutP_no (h:¬ BoxP b):boxOutP b s=(Box.nil,[]):=(boxOutP_not (fun h2=>h h2.1)).2 h
theorem ct13 {a1 a2 a3:Option Addr} {c1 c2 c3:Nat} (hG:GlobI S0) (h1:Sl S0 7 a1 (z5 b.rs)) (h2:Sl S0 2 a2 (zS b.es)) (h3:Sl S0 7 a3 (zX b.cs)) (hc2:b.es.length≤c2) (hc3:b.cs.length≤c3) (hz:BoxZ b) (hl:s.dt.length≤1048576) (k:∀ (x1 x2 x3 x4:Option Addr) (d2 d3:Nat) (r:Box × List Seg) S',Ext [] S0 S'→(r=boxOutP b s)→(BoxR S0 S' x1 x2 x3 x4 d2 d3 r)→K (.tuple #[.agg #[.slice x1 r.1.rs.length r.1.rs.length,.slice x2 r.1.es.length d2,.slice x3 r.1.cs.length d3],.slice x4 r.2.length r.2.length]) S') :
  zC 13 #[.agg #[.slice a1 b.rs.length c1,.slice a2 b.es.length c2,.slice a3 b.cs.length c3],s.v] S0 K:=by
 refine zGh (sf:=s13) Tryz.func13 fun H=>?_
 have hzz:=hz
 obtain ⟨z1,z2,z3,hz4⟩:=hz
 refine zR (zBx H O O fun b2 S hb2 hE H=>zBx H O O fun b3 S hb3 hE H=>zAl H O fun b4 S hb4 hE H=>zj O (zN (vz (zLn (vs:=[_,_,_]) H O .h2 O (zCl O (ct17 (hG.mono H.qx).g (h1.mono H.qx) (h2.mono H.qx) (h3.mono H.qx) hc2 hc3 hzz fun t7 S hE h7=>?_))))))
 replace H:=H.call hE
 refine zNt O (zN ?_)
 rcases t7 with _|_
 ·replace h7:=bF h7
  refine zr O (zR (za (vL (cs:=[_,_,_]) O O (zSs H O O O .h O fun S hE H=>zj O (zN (zh (zv (⟨trivial,_,(z0 (ws:=[_,_,_]) H O .h O (zW O zU)),?_⟩))))))))
  exact k none none none none 0 0 _ _ H.qx (boxOutP_no h7).symm (BoxR.nil _ _)
 ·replace h7:=bT h7
  refine zn O (zt (ze (zR (zLn (vs:=[_,_,_]) H O .h2 O (za (vL (cs:=[_,_,_,_]) O O (zLn (vs:=[_,_,_,_,_,_,_]) H O .h1 O (zCl O (ct56 (hG.mono H.qx) (h1.mono H.qx) (h2.mono H.qx) (h3.mono H.qx) hc2 hzz h7 hl fun x113 x213 x313 x413 d213 d313 r13 S hE hr13 hR13=>?_)))))))))
  have hR13_b4:=hR13.old (H.get .h)
  replace hR13:=hR13.back H.qx
  replace H:=H.call hE
  refine zEx O O (zEx O O (zSs H O O O .h O fun S hE H=>?_))
  replace hR13:=hR13.qy hE hR13_b4
  refine zj O (zN (zh (⟨trivial,_,(z0 (ws:=[_,_,_]) H O .h O (zW O zU)),?_⟩)))
  exact k x113 x213 x313 x413 d213 d313 _ _ H.qx hr13 hR13
end
section
open Go
section
variable {P:Program} {X:List Nat} {S0 S S':St} {L L':List (Nat × Obj)} {E:Env} {K:Value→St→Prop}
theorem Sl.at {k:Nat} {b off:Nat} {rows:List (List Value)} (h:Sl S k (some ⟨b,off,none⟩) rows) {i:Nat} {r:List Value} (hr:rows[i]? = some r):S.cells? ⟨b,off+i*k,none⟩ k=some r:=by
 obtain ⟨b',off',e,h2⟩:=h.row i r hr
 cases e;exact h2
end
end
section
variable {S0:St} {K:Value→St→Prop}
end
section
open Go
section
variable {P:Program} {X:List Nat} {S0 S S':St} {L L':List (Nat × Obj)} {E:Env} {K:Value→St→Prop}
theorem OwnO.backX {S00 S0 S:St} {x:Option Addr} {e:TypeId} {k cap:Nat} {rows:List (List Value)} (h:OwnO S0 S x e k cap rows) (he:Ext X S00 S0):OwnO S00 S x e k cap rows:=
 h.imp_right fun ⟨m,h1,h2,h3⟩=>⟨m,h1,he.g.isNone h2,h3⟩
theorem BoxM.backX {S00 S0 S:St} {x1 x2 x3:Option Addr} {d2 d3:Nat} {q:Box} (h:BoxM S0 S x1 x2 x3 d2 d3 q) (he:Ext X S00 S0):BoxM S00 S x1 x2 x3 d2 d3 q:=
 ⟨h.r,h.e,h.c.imp_right fun ⟨m,p1,p2,p3,p4⟩=>⟨m,p1,he.g.isNone p2,p3,p4⟩,h.l2,h.l3,h.o1.backX he,h.o2.backX he⟩
theorem BoxM.t13 {x1 x2 x3:Option Addr} {d2 d3:Nat} {q:Box} (h:BoxM S0 S x1 x2 x3 d2 d3 q):∀ m,x3=some ⟨m,0,none⟩→∀ b off,x1=some ⟨b,off,none⟩→b≠m:=by
 intro m e
 rcases h.c with ⟨h1,_⟩ | ⟨m',h1,_,_,h4,_⟩
 ·rw [h1] at e;cases e
 ·rw [h1] at e;cases e;exact h4
theorem BoxM.t23 {x1 x2 x3:Option Addr} {d2 d3:Nat} {q:Box} (h:BoxM S0 S x1 x2 x3 d2 d3 q):∀ m,x3=some ⟨m,0,none⟩→∀ b off,x2=some ⟨b,off,none⟩→b≠m:=by
 intro m e
 rcases h.c with ⟨h1,_⟩ | ⟨m',h1,_,_,_,h4⟩
 ·rw [h1] at e;cases e
 ·rw [h1] at e;cases e;exact h4
theorem BoxP.z {b:Box} (h:BoxP b):BoxZ b:=by
 obtain ⟨h1,h2,h3,h4⟩:=h
 refine ⟨by have:=h2.1;omega,by have:=h1.1;omega,by omega,fun c hc=>?_⟩
 obtain ⟨k,hk⟩:=List.getElem?_of_mem hc
 obtain ⟨_,_,_,_,p5,p6,_,p8⟩:=(h4 k c hk).1
 have:=p5.2.2;have:=p6.2.2;have:=p8.2.2.1
 omega
def BoxY (b:Box):Prop:=b.rs.length≤20∧b.es.length≤20∧b.cs.length≤3∧∀ c∈b.cs,c.kn.length≤300∧c.he.length≤300∧c.ne.length≤300
theorem BoxY.z {b:Box} (h:BoxY b):BoxZ b:=by
 obtain ⟨h1,h2,h3,h4⟩:=h
 exact ⟨by omega,by omega,by omega,fun c hc=>by have:=h4 c hc;omega⟩
theorem BoxP.y {b:Box} (h:BoxP b):BoxY b:=by
 obtain ⟨h1,h2,h3,h4⟩:=h
 refine ⟨by have:=h2.1;omega,by have:=h1.1;omega,by omega,fun c hc=>?_⟩
 obtain ⟨k,hk⟩:=List.getElem?_of_mem hc
 obtain ⟨_,_,_,_,p5,p6,_,p8⟩:=(h4 k c hk).1
 have:=p5.2.2;have:=p6.2.2;have:=p8.2.2.1
 omega
theorem nil_y:BoxY Box.nil:=⟨by decide,by decide,by decide,by simp [Box.nil]⟩
theorem boxOutP_Y (b:Box) (s:Seg):BoxY (boxOutP b s).1:=by
 by_cases h:BoxP b
 ·exact (boxOutP_ok h).1.y
 ·rw [(boxOutP_not (fun h2=>h h2.1)).2 h];exact nil_y
theorem take_eq_succ {α:Type} {l m:List α} {i:Nat} {x y:α} (hx:l[i]? = some x) (hy:m[i]? = some y) (h:l.take i=m.take i) (e:x=y):l.take (i+1)=m.take (i+1):=by
 rw [vF hx,vF hy,h,e]
theorem eq_of_take {α:Type} {l m:List α} {i:Nat} (hl:l.length=m.length) (hi:l.length≤i) (h:l.take i=m.take i):l=m:=by
 rwa [List.take_of_length_le hi,List.take_of_length_le (by omega)] at h
theorem ne_at {α:Type} {l m:List α} {i:Nat} {x y:α} (hx:l[i]? = some x) (hy:m[i]? = some y) (e:x≠y):l≠m:=by
 rintro rfl;rw [hx] at hy;cases hy;exact e rfl
theorem box_eq {b c:Box} (h1:b.rs=c.rs) (h2:b.es=c.es) (h3:b.cs=c.cs):b=c:=by cases b;cases c;simp_all
end
end
section
variable {S0:St} {K:Value→St→Prop}
end
section
variable {S0:St} {K:Value→St→Prop}
end
section
open Go
end
section
variable {S0:St} {K:Value→St→Prop}
end
section
open Go
section
variable {E:Env} {S:St} {K:Value→St→Prop}
theorem grd4:Tryz.prog.eqGuardType Tryz.prog.depth 4=false:=by kernel_rfl
theorem W_eqvBP {P:Program} {ty:TypeId} {x y:Operand} {t u r neg:Bool} (hx:E.ev x=some (.bool t)) (hy:E.ev y=some (.bool u)) (hg:P.eqGuardType P.depth ty=false) (he:EqF P Op.maxDepth ty (.bool t) (.bool u) r) (k:K (.bool (r != neg)) S):(SOp.eqv neg ty x y).W P E S K:=by
 simp only [SOp.W,hx,hy]
 refine ⟨rfl,?_⟩
 have hge:∀ (op:BinOp) (K':Unit→St→Prop),K' () S→vu P (Go.eqGuard op ty x y (.bool t) (.bool u)) S K' (fun _ _=>False):=by
  intro op K' h
  unfold Go.eqGuard
  cases op<;>first
   | exact h
   | (simp only [zw,program,vu,hg,Bool.not_true,Bool.not_false,Bool.false_eq_true,if_true,if_false,zz];exact h)
 simp only [zw]
 exact hge _ _ (he.go _ _ _ k)
theorem W_eqvB {x y:Operand} {t u neg:Bool} (hx:E.ev x=some (.bool t)) (hy:E.ev y=some (.bool u)) (k:K (.bool ((decide (t=u)) != neg)) S):(SOp.eqv neg 4 x y).W Tryz.prog E S K:=
 W_eqvBP hx hy grd4 (e4 (d:=9999) t u) k
theorem W_neB {x y:Operand} {t u:Bool} (hx:E.ev x=some (.bool t)) (hy:E.ev y=some (.bool u)) (k:K (.bool (decide (t≠u))) S):(SOp.eqv true 4 x y).W Tryz.prog E S K:=
  W_eqvB hx hy (by have e:(decide (t=u) != true)=decide (t≠u):=by cases t<;>cases u<;>rfl
                   rw [e];exact k)
theorem W_neBv {x y:Operand} {t u:Bool} (hx:E.ev x=some (.bool t)) (hy:E.ev y=some (.bool u)) (k:∀ w:Bool,(w=true↔t≠u)→K (.bool w) S):(SOp.eqv true 4 x y).W Tryz.prog E S K:=W_neB hx hy (k _ decide_eq_true_iff)
end
end
section
open Go
structure SlR (S:St) (k:Nat) (a:Option Addr) (rows:List (List Value)):Prop where
 row:∀ i r,rows[i]? = some r→∃ b off,a=some ⟨b,off,none⟩∧S.cells? ⟨b,off+i*k,none⟩ k=some r
theorem SlR.mono {S S':St} {k:Nat} {a:Option Addr} {rows:List (List Value)} (h:SlR S k a rows) (he:Ext [] S S'):SlR S' k a rows:=⟨fun i r hr=>by
 obtain ⟨b,off,h1,h2⟩:=h.row i r hr
 exact ⟨b,off,h1,he.cells h2⟩⟩
theorem Rule.eq7 {x y:Rule} (h0:x.al=y.al) (h1:x.i=y.i) (h2:x.j=y.j) (h3:x.o=y.o) (h4:x.q=y.q) (h5:x.p=y.p) (h6:x.r=y.r):x=y:=by cases x;cases y;simp_all
theorem Conn.eq5 {x y:Conn} (h0:x.i=y.i) (h1:x.o=y.o) (h2:x.kn=y.kn) (h3:x.he=y.he) (h4:x.ne=y.ne):x=y:=by cases x;cases y;simp_all
theorem Seg.eq5 {x y:Seg} (h0:x.s=y.s) (h1:x.d=y.d) (h2:x.sq=y.sq) (h3:x.ak=y.ak) (h4:x.dt=y.dt):x=y:=by cases x;cases y;simp_all
theorem End.eq2 {x y:End} (h0:x.a=y.a) (h1:x.p=y.p):x=y:=by cases x;cases y;simp_all
theorem setl_row {cs r:List Value} {i k:Nat} (hr:r.length=k) (hb:i*k+k≤cs.length):(setl cs (0+i*k) r).take ((i+1)*k)=cs.take (i*k)++r:=by
 have h1:(cs.take (0+i*k)).length=i*k:=by rw [List.length_take];omega
 have h2:(cs.take (0+i*k)++r).length=(i+1)*k:=by rw [List.length_append,h1,hr,Nat.add_mul,Nat.one_mul]
 unfold setl
 rw [List.take_append_of_le_length (by omega),List.take_of_length_le (by omega),Nat.zero_add]
def csz (cs:List Conn):Nat:=(cs.map fun c=>c.kn.length+c.he.length+c.ne.length).sum
theorem csz_take {cs:List Conn} {i:Nat} {x:Conn} (h:cs[i]? = some x):csz (cs.take (i+1))=csz (cs.take i)+(x.kn.length+x.he.length+x.ne.length):=by
 rw [vF h];simp [csz]
theorem csz_mem {cs:List Conn} {c:Conn} (h:c∈cs):c.kn.length+c.he.length+c.ne.length≤csz cs:=by
 induction cs with
 | nil=>simp at h
 | cons x l ih=>
  simp only [csz,List.map_cons,List.sum_cons]
  rcases List.mem_cons.1 h with rfl | h
  ·omega
  ·have:=ih h;simp only [csz] at this;omega
end
end Go.Proofs.YtnccejlibbgpkaaGreatDoor
