/-
  The law FnExactBoxIn answers true at every input that its row allows, at every start that lays its variables: part 4 of 7.
-/
import GoSem.Step
import Derived.Conc.Token
import Derived.AtR
import Derived.Conc.Own2
import Derived.Conc.CrowdComm
import Derived.Conc.CrowdTrace
import Derived.Conc.Fork
import Derived.Conc.CrowdStepC
import Derived.Below
import Derived.Laws.Append
import Derived.Test.YtnccejlibbgpkaaGreatDoorChecked
import Derived.Test.YtnccejlibbgpkaaGreatDoorProg
import Derived.MapKept
import Derived.Conc.EventLaws
import Derived.Test.YtnccejlibbgpkaaGreatDoorWAc
set_option linter.unusedSimpArgs false
set_option linter.unusedVariables false
set_option linter.unusedSectionVars false
namespace Go.Proofs.YtnccejlibbgpkaaGreatDoor
set_option maxHeartbeats 1000000
section
variable {S0:St} {K:Value→St→Prop}
variable {e f:End} {a:Option Addr} {r:Rule} {v:Value}
theorem ct170  (k:∀  S',Ext [] S0 S'→K (.bool true) S') :
  zC 170 #[e.v,f.v] S0 K:=by
 refine zGh (sf:=s170) Tryz.func170 fun H=>zR (zBx H O O fun b2 S hb2 hE H=>zBx H O O fun b3 S hb3 hE H=>zj O (vE (zj O (zN (zh (zP O ?_))))))
 exact k _ H.qx
theorem ct215 {b2 b3:Nat} {m:Bool} (h2:S0 b2=some ⟨Cs r.row 162,true⟩) (h3:S0 b3=some ⟨Cs [v] 179,true⟩) (hin:∀ S,Ext [] S0 S→∀ K:Value→St→Prop,(∀ (t:Bool) S',Ext [] S S'→t=m→K (.bool t) S')→CallV Tryz.prog v [e.v,f.v] S K) (k:∀ (t:Bool) S',Ext [] S0 S'→(t=if FitsP r e f then r.al else m)→K (.bool t) S') :
  zC 215 #[e.v,f.v,ptr b2 0,ptr b3 0] S0 K:=by
 refine zGh (sf:=s215) Tryz.func215 fun H=>zR (zBx H O O fun b4 S hb4 hE H=>zBx H O O fun b5 S hb5 hE H=>zj O (zN (vB (vw O (zL1 H O .h1 O (vw O (za (zF O (cell_of (H.qx.get h2) O) (vw O (za (zF O (cell_of (H.qx.get h2) O) (zCl O (ct70  fun t13 S hE h13=>?_)))))))))))))
 replace H:=H.call hE
 refine zj O ?_
 rcases t13 with _|_
 ·replace h13:=bF h13
  refine zL O (zL O (zL O (zL O (zL O (zL O (zL O (vr O O O O (zj O (zL O (zL O (zL O (zL O (zL O (zL O (zL O (vr O O O O (zN (zn O (zt (ze (zR (za (zF O (cell_of (H.qx.get h3) O) (zLn (vs:=[_,_]) H O .h1 O (zLn (vs:=[_,_]) H O .h O (za (W_callV O O (hin _ H.qx _ fun t37 S hE h37=>?_))))))))))))))))))))))))))))
  replace H:=H.call hE
  refine zj O (zN (zh (zP O ?_)))
  exact k _ _ H.qx (by rw [if_neg (by unfold FitsP;intro h;first | exact h13 h.1 | exact h21 h.2.1 | exact h30 h.2.2)];exact h37)
 ·replace h13:=bT h13
  refine zi O (zz O (zi O (vk H O .h O (zi O (zz O (zi O (zF O (cell_of (H.qx.get h2) O) (zi O (zz O (zi O (zF O (cell_of (H.qx.get h2) O) (zi O (zU O (ct70  fun t21 S hE h21=>?_))))))))))))))
  replace H:=H.call hE
  refine vr O O O O (zj O ?_)
  rcases t21 with _|_
  ·replace h21:=bF h21
   refine zL O (zL O (zL O (zL O (zL O (zL O (zL O (vr O O O O (zN (zn O (zt (ze (zR (za (zF O (cell_of (H.qx.get h3) O) (zLn (vs:=[_,_]) H O .h1 O (zLn (vs:=[_,_]) H O .h O (za (W_callV O O (hin _ H.qx _ fun t37 S hE h37=>?_)))))))))))))))))))
   replace H:=H.call hE
   refine zj O (zN (zh (zP O ?_)))
   exact k _ _ H.qx (by rw [if_neg (by unfold FitsP;intro h;first | exact h13 h.1 | exact h21 h.2.1 | exact h30 h.2.2)];exact h37)
  ·replace h21:=bT h21
   refine zi O (zz O (zi O (vk H O .h O (zi O (zz O (zi O (zF O (cell_of (H.qx.get h2) O) (zi O (zz O (zi O (zF O (cell_of (H.qx.get h2) O) (zi O (zU O (ct70  fun t30 S hE h30=>?_))))))))))))))
   replace H:=H.call hE
   refine vr O O O O (zN ?_)
   rcases t30 with _|_
   ·replace h30:=bF h30
    refine zn O (zt (ze (zR (za (zF O (cell_of (H.qx.get h3) O) (zLn (vs:=[_,_]) H O .h1 O (zLn (vs:=[_,_]) H O .h O (za (W_callV O O (hin _ H.qx _ fun t37 S hE h37=>?_))))))))))
    replace H:=H.call hE
    refine zj O (zN (zh (zP O ?_)))
    exact k _ _ H.qx (by rw [if_neg (by unfold FitsP;intro h;first | exact h13 h.1 | exact h21 h.2.1 | exact h30 h.2.2)];exact h37)
   ·replace h30:=bT h30
    refine zr O (zR (vw O (za (zF O (cell_of (H.qx.get h2) O) (zj O (zN (zh (zw (zP O ?_)))))))))
    exact k _ _ H.qx (by rw [if_pos (show FitsP r e f from ⟨h13,h21,h30⟩)])
theorem FnM.call:∀ (rs:List Rule) (bs:List Nat) (v:Value) (S:St),FnM S bs rs v→∀ K:Value→St→Prop,(∀ (t:Bool) S',Ext [] S S'→t=mayR rs e f→K (.bool t) S')→CallV Tryz.prog v [e.v,f.v] S K:=by
 intro rs
 induction rs with
 | nil=>
  intro bs v S h K k
  cases h
  exact ⟨_,_,_,_,rfl,Tryz.func170,rfl,rfl,ct170 fun S' hE=>k true S' hE rfl⟩
 | cons r rs ih=>
  intro bs v S h K k
  cases h with
  | cons _ h2 h3 h=>
   exact ⟨_,_,_,_,rfl,Tryz.func215,rfl,rfl,ct215 h2 h3 (fun S1 hE K k=>ih _ _ _ (h.mono hE) K k) fun t S' hE ht=>k t S' hE ht⟩
theorem ct171 {n c:Nat}  (k:∀ b S',Ext [] S0 S'→(S0 b=none)→(S' b=some ⟨Cs [.slice a n c] 23,true⟩)→K (.func (.func 214) #[] #[ptr b 0]) S') :
  zC 171 #[.slice a n c] S0 K:=by
 refine zGh (sf:=s171) Tryz.func171 fun H=>zR (zBx H O O fun b1 S hb1 hE H=>zj O (vE (za (W_mkFunc O O (zj O (zN (zh (zP O ?_))))))))
 exact k _ _ H.qx (H.new1 .h) (H.get .h)
theorem ct172 (hv:v.cells=#[v]) (k:∀ b2 b3 S',Ext [] S0 S'→(S0 b2=none)→(S0 b3=none)→(S' b2=some ⟨Cs r.row 162,true⟩)→(S' b3=some ⟨Cs [v] 179,true⟩)→K (.func (.func 215) #[] #[ptr b2 0,ptr b3 0]) S') :
  zC 172 #[r.v,v] S0 K:=by
 refine zGh (sf:=s172) Tryz.func172 fun H=>zR (zBx H O O fun b2 S hb2 hE H=>zBx (vs:=[v]) H O hv fun b3 S hb3 hE H=>zj O (vE (za (W_mkFunc O O (zj O (zN (zh (zP O ?_))))))))
 exact k _ _ _ H.qx (H.new1 .h1) (H.new1 .h) (H.get .h1) (H.get .h)
theorem ct87 {cap:Nat} {rs:List Rule} (hs:Sl S0 7 a (z5 rs)) (hl:rs.length≤1099511627776) (k:∀ (t:Bool) S',Ext [] S0 S'→(t=true↔e.inn∧f.out∧mayR rs e f=true)→K (.bool t) S') :
  zC 87 #[.slice a rs.length cap,e.v,f.v] S0 K:=by
 refine calls1_x (sf:=s87) Tryz.func87 (by kernel_rfl) (of_decide_eq_true O) ?_
 show wpX Tryz.prog c87 (Env.of [.slice a rs.length cap,e.v,f.v]) S0 [] _
 have H:=Loc.start [] S0
 have hq:=hs
 refine wpX_seq (wpX_slim (zJ (zBx H O O fun b4 S hb4 hE H=>?_)))
 have hq_b4:=hq.ne hb4
 replace hq:=hq.mono hE
 refine zBx H O O fun b5 S hb5 hE H=>?_
 have hq_b5:=hq.ne hb5
 replace hq:=hq.mono hE
 refine zj O (vf (thnX_norm (wpX_seq (wpX_slim (zJ (zAl H O fun b7 S hb7 hE H=>?_))))))
 have hq_b7:=hq.ne hb7
 replace hq:=hq.mono hE
 refine zSs H O O O .h O fun S hE H=>?_
 replace hq:=hq.qy hE hq_b7
 refine vf (thnX_norm (wpX_seq (wpX_seq (wpX_slim (zJ (zj O (zCl O (ct171  fun b11 S hE hb11 ho11=>?_))))))))
 have hq_b11:=hq.ne hb11
 replace H:=H.adopt hE hb11 ho11
 replace hq:=hq.mono hE
 refine vf (thnX_norm (wpX_block (wpX_range O Tryz.func214 O O fun d11 l11 lr11 hd11 hl11 hro11=>?_)))
 have hq_d11:=hq.ne hd11
 replace hq:=hq.mono (Ext.put_new hd11 (.deferred (some [])))
 have hq_l11:=hq.ne hl11
 replace hq:=hq.mono (Ext.put_new hl11 (lp lr11 .ready none))
 replace H:=(H.alloc hd11 (.deferred (some []))).alloc hl11 (lp lr11 .ready none)
 refine ct214 (l:=l11) (b:=b11) (a:=a) (cap:=cap) (rs:=rs) hl (J:=fun k_ S=>(∃ (v:Value) (bs:List Nat),Loc [] S0 S [(b7,Cs [v] 179),(b5,Cs f.row 31),(b4,Cs e.row 31),(l11,lp lr11 .ready none),(d11,.deferred (some [])),(b11,Cs [.slice a rs.length cap] 23)]∧(Sl S 7 a (z5 rs))∧(FnM S bs (rs.drop k_) v)∧(v.cells=#[v])∧(k_≤rs.length)∧(∀ b off,a=some ⟨b,off,none⟩→b≠b7)∧(∀ b off,a=some ⟨b,off,none⟩→b≠b5)∧(∀ b off,a=some ⟨b,off,none⟩→b≠b4)∧(∀ b off,a=some ⟨b,off,none⟩→b≠l11)∧(∀ b off,a=some ⟨b,off,none⟩→b≠d11)∧(∀ b off,a=some ⟨b,off,none⟩→b≠b11)∧(b7∉bs)∧(b5∉bs)∧(b4∉bs)∧(l11∉bs)∧(d11∉bs)∧(b11∉bs))) ?_ ?_ ?_ ?_ ?_
 ·rintro k_ S ⟨v,bs,H,hq,hf,hfc,hkl,hq_b7,hq_b5,hq_b4,hq_l11,hq_d11,hq_b11,hf_b7,hf_b5,hf_b4,hf_l11,hf_d11,hf_b11⟩
  exact H.get .h5
 ·rintro k_ S ⟨v,bs,H,hq,hf,hfc,hkl,hq_b7,hq_b5,hq_b4,hq_l11,hq_d11,hq_b11,hf_b7,hf_b5,hf_b4,hf_l11,hf_d11,hf_b11⟩
  exact hq
 ·rintro k_ x_ S ⟨v,bs,H,hq,hf,hfc,hkl,hq_b7,hq_b5,hq_b4,hq_l11,hq_d11,hq_b11,hf_b7,hf_b5,hf_b4,hf_l11,hf_d11,hf_b11⟩ hx_
  refine hro11.h [int k_,x_.v] S _ O ?_ (H.get .h3)
  refine zJ (zAl H O fun b9 S hb9 hE H=>?_)
  have hq_b9:=hq.ne hb9
  replace hq:=hq.mono hE
  have hf_b9:=hf.ne hb9
  replace hf:=hf.mono hE
  refine zSs H O O O .h O fun S hE H=>?_
  replace hq:=hq.qy hE hq_b9
  replace hf:=hf.qy hE hf_b9
  refine vf (⟨O,H.get .h4,?_⟩)
  obtain ⟨hE,H⟩:=H.putE (b:=l11) (o':=lp lr11 .busy none) .h4
  replace hq:=hq.qy hE hq_l11
  replace hf:=hf.qy hE hf_l11
  refine zE (zJ (zLn (vs:=[_,_,_,_,_,_,_]) H O .h O (zL1 H O .h1 O (zCl O (ct172 hfc fun x16 y16 S hE hx16 hy16 hxo16 hyo16=>?_)))))
  have hf16_b9:=FnM.nin hf_b9 hx16 hy16 (H.get .h)
  have hf16_b7:=FnM.nin hf_b7 hx16 hy16 (H.get .h1)
  have hf16_b5:=FnM.nin hf_b5 hx16 hy16 (H.get .h2)
  have hf16_b4:=FnM.nin hf_b4 hx16 hy16 (H.get .h3)
  have hf16_l11:=FnM.nin hf_l11 hx16 hy16 (H.get .h4)
  have hf16_d11:=FnM.nin hf_d11 hx16 hy16 (H.get .h5)
  have hf16_b11:=FnM.nin hf_b11 hx16 hy16 (H.get .h6)
  have hf16:=FnM.cons x_ hxo16 hyo16 (hf.mono hE)
  replace H:=H.call hE
  replace hq:=hq.mono hE
  refine zSs H O O O .h1 O fun S hE H=>?_
  replace hq:=hq.qy hE hq_b7
  replace hf16:=hf16.qy hE hf16_b7
  refine vf (z_ (⟨H.get .h4,?_⟩))
  obtain ⟨hE,H⟩:=H.putE (b:=l11) (o':=lp lr11 .ready none) .h4
  replace hq:=hq.qy hE hq_l11
  replace hf16:=hf16.qy hE hf16_l11
  refine .inl ⟨O,?_⟩
  replace H:=H.front .h6
  replace H:=H.front .h6
  replace H:=H.front .h6
  replace H:=H.front .h6
  replace H:=H.front .h6
  replace H:=H.front .h6
  refine ⟨_,_,(H.takeL 6),hq,?_,O,(by omega),hq_b7,hq_b5,hq_b4,hq_l11,hq_d11,hq_b11,hf16_b7,hf16_b5,hf16_b4,hf16_l11,hf16_d11,hf16_b11⟩
  rw [List.drop_eq_getElem_cons (by omega),show rs[k_]=x_ from (List.getElem?_eq_some_iff.1 hx_).2]
  exact hf16
 ·rintro  S ⟨v,bs,H,hq,hf,hfc,hkl,hq_b7,hq_b5,hq_b4,hq_l11,hq_d11,hq_b11,hf_b7,hf_b5,hf_b4,hf_l11,hf_d11,hf_b11⟩ 
  refine .inl ⟨H.get .h3,?_⟩
  obtain ⟨hE,H⟩:=H.putE (b:=l11) (o':=lp lr11 .exhausted none) .h3
  replace hf:=hf.qy hE hf_l11
  refine blkX_norm (thnX_norm (wpX_slim (zR (zLn (vs:=[_,_]) H O .h2 O (zCl O (ct67  fun t18 S hE h18=>?_))))))
  replace H:=H.call hE
  replace hf:=hf.mono hE
  refine zj O ?_
  rcases t18 with _|_
  ·replace h18:=bF h18
   refine zL O (zL O (vr O O O O (zj O (zL O (zL O (zL O (zL O (vr O O O O (zj O (zN (zh (⟨trivial,H.get .h4,?_⟩))))))))))))
   obtain ⟨hE,H⟩:=H.putE (b:=d11) (o':=.deferred none) .h4
   refine ⟨_,(zW O zT),?_⟩
   exact k _ _ H.qx (by first | exact ⟨fun h=>⟨h18,h21,h27.1 h⟩,fun h=>h27.2 h.2.2⟩ | exact ⟨nofun,fun h=>absurd h.1 h18⟩ | exact ⟨nofun,fun h=>absurd h.2.1 h21⟩ | exact ⟨nofun,fun h=>absurd h.2.2 h27⟩ | exact ⟨fun _=>⟨h18,h21,h27⟩,fun _=>rfl⟩)
  ·replace h18:=bT h18
   refine zi O (W_loadN (vs:=[_,_]) H O .h1 O (zi O (zU O (ct146  fun t21 S hE h21=>?_))))
   replace H:=H.call hE
   replace hf:=hf.mono hE
   refine vr O O O O (zj O ?_)
   rcases t21 with _|_
   ·replace h21:=bF h21
    refine zL O (zL O (zL O (zL O (vr O O O O (zj O (zN (zh (⟨trivial,H.get .h4,?_⟩))))))))
    obtain ⟨hE,H⟩:=H.putE (b:=d11) (o':=.deferred none) .h4
    refine ⟨_,(zW O zT),?_⟩
    exact k _ _ H.qx (by first | exact ⟨fun h=>⟨h18,h21,h27.1 h⟩,fun h=>h27.2 h.2.2⟩ | exact ⟨nofun,fun h=>absurd h.1 h18⟩ | exact ⟨nofun,fun h=>absurd h.2.1 h21⟩ | exact ⟨nofun,fun h=>absurd h.2.2 h27⟩ | exact ⟨fun _=>⟨h18,h21,h27⟩,fun _=>rfl⟩)
   ·replace h21:=bT h21
    refine zi O (vk H O .h O (zi O (W_loadN (vs:=[_,_]) H O .h2 O (zi O (W_loadN (vs:=[_,_]) H O .h1 O (zi O (W_callV O O (hf.call _ _ _ _ _ fun t27 S hE h27=>?_))))))))
    replace H:=H.call hE
    replace h27:t27=true↔mayR rs e f=true:=by rw [h27];exact Iff.rfl
    refine vr O O O O (zj O (zN (zh (⟨trivial,H.get .h4,?_⟩))))
    obtain ⟨hE,H⟩:=H.putE (b:=d11) (o':=.deferred none) .h4
    refine ⟨_,(zW O zT),?_⟩
    exact k _ _ H.qx (by first | exact ⟨fun h=>⟨h18,h21,h27.1 h⟩,fun h=>h27.2 h.2.2⟩ | exact ⟨nofun,fun h=>absurd h.1 h18⟩ | exact ⟨nofun,fun h=>absurd h.2.1 h21⟩ | exact ⟨nofun,fun h=>absurd h.2.2 h27⟩ | exact ⟨fun _=>⟨h18,h21,h27⟩,fun _=>rfl⟩)
 ·skip
  replace H:=H.front .h2
  replace H:=H.front .h2
  replace H:=H.front .h2
  replace H:=H.front .h5
  replace H:=H.front .h5
  replace H:=H.front .h5
  exact ⟨(.func (.func 170) #[] #[]),[],H,hq,(by rw [List.drop_length];exact .nil),rfl,(Nat.le_refl _),hq_b7,hq_b5,hq_b4,hq_l11,hq_d11,hq_b11,(by simp),(by simp),(by simp),(by simp),(by simp),(by simp)⟩
end
section
variable {S0:St} {K:Value→St→Prop}
variable {e:End} {q:Int} {es:List End} {cap:Nat} {a:Option Addr}
theorem ct141 {r0 r1 c0 c1:Nat} {es0 es1:Array MapEntry} {kv0:List (End × Int)} {kv1:List (Int × End)} (hr0:S0 r0=some ⟨.map es0 c0,true⟩) (hr1:S0 r1=some ⟨.map es1 c1,true⟩) (hne:r0≠r1) (hk0:kvs es0=kv0.map fun p=>(p.1.v,int p.2)) (hk1:kvs es1=kv1.map fun p=>(int p.1,p.2.v)) (k:∀ (es0' es1':Array MapEntry) (c0' c1':Nat) S',Ext [r0,r1] S0 S'→S' r0=some ⟨.map es0' c0',true⟩→S' r1=some ⟨.map es1' c1',true⟩→(kvs es0'=(addM kv0 e q).map fun p=>(p.1.v,int p.2))→(kvs es1'=(addM kv1 q e).map fun p=>(int p.1,p.2.v))→K (.tuple #[]) S') :
  zC 141 #[.agg #[.map (some r0),.map (some r1)],e.v,int q] S0 K:=by
 refine zGo (sf:=s141) Tryz.func141 ?_
 have H:=Loc.start2 hr0 hr1 hne
 refine zR (zBx H O O fun b3 S hb3 hE H=>zBx H O O fun b4 S hb4 hE H=>zN (vB (vw O (zL1 H O .h1 O (zLn (vs:=[_,_]) H O .h O ?_)))))
 obtain ⟨t14,ht14⟩:∃ t,(findM kv0 e 0).isSome=t:=⟨_,rfl⟩
 refine za (W_lookE_ tryzPT O O (H.get .h2) hk0 ?_)
 simp only [ht14,cond_true]
 have h14:t14=true↔(findM kv0 e 0).isSome=true:=by rw [ht14]
 refine zj O (zEx O O (zEx O O (zj O (zj O (vE (zj O (zNt O (zN ?_))))))))
 rcases t14 with _|_
 ·replace h14:=bF h14
  refine zr O (zJ (vw O (zL1 H O .h1 O (zLn (vs:=[_,_]) H O .h O (zj O (za (W_updE_ tryzPT H O O O hk0 (by simpa using h14) .h2 fun S hE H=>vE (vw O (zL1 H O .h1 O (zj O ?_))))))))))
  obtain ⟨t27,ht27⟩:∃ t,(findM kv1 q 0).isSome=t:=⟨_,rfl⟩
  refine za (W_lookI_ tryzPT O O (H.get .h3) hk1 ?_)
  simp only [ht27,cond_true]
  have h27:t27=true↔(findM kv1 q 0).isSome=true:=by rw [ht27]
  refine zj O (zEx O O (zEx O O (zAl H O fun b8 S hb8 hE H=>zSs H O O O .h O fun S hE H=>zj O (vE (zj O (zNt O (zN ?_)))))))
  rcases t27 with _|_
  ·replace h27:=bF h27
   refine zr O (zJ (vw O (zL1 H O .h2 O (zj O (zLn (vs:=[_,_]) H O .h1 O (za (W_updI_ tryzPT H O O O hk1 (by simpa using h27) .h4 fun S hE H=>vf (⟨trivial,_,zT,?_⟩))))))))
   exact k _ _ _ _ _ H.qx (H.get .h3) (H.get .h4) (by rw [kvs_push,hk0,addM_no (by simpa using h14)];simp) (by rw [kvs_push,hk1,addM_no (by simpa using h27)];simp)
  ·replace h27:=bT h27
   refine zn O (zt (⟨trivial,_,zT,?_⟩))
   exact k _ _ _ _ _ H.qx (H.get .h3) (H.get .h4) (by rw [kvs_push,hk0,addM_no (by simpa using h14)];simp) (by rw [hk1,addM_yes h27])
 ·replace h14:=bT h14
  refine zn O (zt (ze (zR (vw O (zL1 H O .h1 O (zj O ?_))))))
  obtain ⟨t27,ht27⟩:∃ t,(findM kv1 q 0).isSome=t:=⟨_,rfl⟩
  refine za (W_lookI_ tryzPT O O (H.get .h3) hk1 ?_)
  simp only [ht27,cond_true]
  have h27:t27=true↔(findM kv1 q 0).isSome=true:=by rw [ht27]
  refine zj O (zEx O O (zEx O O (zAl H O fun b8 S hb8 hE H=>zSs H O O O .h O fun S hE H=>zj O (vE (zj O (zNt O (zN ?_)))))))
  rcases t27 with _|_
  ·replace h27:=bF h27
   refine zr O (zJ (vw O (zL1 H O .h2 O (zj O (zLn (vs:=[_,_]) H O .h1 O (za (W_updI_ tryzPT H O O O hk1 (by simpa using h27) .h4 fun S hE H=>vf (⟨trivial,_,zT,?_⟩))))))))
   exact k _ _ _ _ _ H.qx (H.get .h3) (H.get .h4) (by rw [hk0,addM_yes h14]) (by rw [kvs_push,hk1,addM_no (by simpa using h27)];simp)
  ·replace h27:=bT h27
   refine zn O (zt (⟨trivial,_,zT,?_⟩))
   exact k _ _ _ _ _ H.qx (H.get .h3) (H.get .h4) (by rw [hk0,addM_yes h14]) (by rw [hk1,addM_yes h27])
theorem ct61 (hs:Sl S0 2 a (zS es)) (hcp:es.length≤cap) (hl:es.length≤1099511627776) (k:∀ (r0 r1 c0 c1:Nat) (es0 es1:Array MapEntry) (kv0:List (End × Int)) (kv1:List (Int × End)) S',Ext [] S0 S'→(S' r0=some ⟨.map es0 c0,true⟩)→(S' r1=some ⟨.map es1 c1,true⟩)→(kvs es0=kv0.map fun p=>(p.1.v,int p.2))→(kvs es1=kv1.map fun p=>(int p.1,p.2.v))→(Maps es es.length kv0 kv1)→K (.agg #[.map (some r0),.map (some r1)]) S') :
  zC 61 #[.agg #[.slice a es.length cap]] S0 K:=by
 refine zGh (sf:=s61) Tryz.func61 fun H=>zR (zBx H O O fun b1 S hb1 hE H=>zAl H O fun b2 S hb2 hE H=>vE (za (W_mkMap H fun r6 S hr6 hE H=>za (W_mkMap H fun r7 S hr7 hE H=>za (W_build (cs:=[_,_]) O O (zAl H O fun b3 S hb3 hE H=>zSs H O O O .h O fun S hE H=>zN (vB (vw O (zL1 H O .h4 O (zLl O (zj O (zN (zE ?_)))))))))))))
 refine vj (fun E S m_=>∃ (i:Nat) (es6:Array MapEntry) (c6:Nat) (es7:Array MapEntry) (c7:Nat) (kv0:List (End × Int)) (kv1:List (Int × End)),E=Env.lst [(1,ptr b1 0),(2,ptr b2 0),(3,ptr b3 0),(10,.slice a es.length cap),(11,int es.length),(12,int i)]∧Loc [] S0 S [(b3,Cs [.map (some r6),.map (some r7)] 101),(r7,.map es7 c7),(r6,.map es6 c6),(b2,Cs [.map none,.map none] 101),(b1,Cs [.slice a es.length cap] 26)]∧(i≤es.length)∧(r6≠r7)∧(kvs es6=kv0.map fun p=>(p.1.v,int p.2))∧(kvs es7=kv1.map fun p=>(int p.1,p.2.v))∧(Maps es i kv0 kv1)∧m_=es.length-i) ?_ ?_
 ·skip
  refine ⟨_,_,?le,0,#[],0,#[],0,[],[],O,H,(by omega),(by rintro rfl;exact absurd H.nodup (by simp)),O,O,(.nil es),O⟩
  case le=>exact Env.qle ⟨O,O,O,O,O,O,⟨⟩⟩
 ·skip
  rintro _ S _ ⟨i,es6,c6,es7,c7,kv0,kv1,rfl,H,hi,hne,hk0,hk1,hM,rfl⟩
  refine zR (za (vq O O fun t13 h13=>zN (zD ?_)))
  rcases t13 with _|_
  ·replace h13:=bF h13
   refine zn O (vh (zK (zK (vp (ze (zR (zLn (vs:=[_,_]) H O .h O (zSs H O O O .h3 O fun S hE H=>zN (zh (⟨trivial,_,(z0 (ws:=[_,_]) H O .h3 O zT),?_⟩))))))))))
   obtain rfl:i=es.length:=by omega
   exact k _ _ _ _ _ _ _ _ _ H.qx (H.get .h2) (H.get .h1) hk0 hk1 hM
  ·replace h13:=bT h13
   obtain ⟨x,hx⟩:∃ x,es[i]? = some x:=⟨es[i]'(by omega),by simp⟩
   obtain ⟨b,off,rfl,hc⟩  :=hs.row i _ (endRows_at hx)
   refine zr O (zt (ze (zD (zE (zR (zj O (zIa O O (za (zV (vs:=[_,_]) O (H.qx.cells hc) (zAl H O fun b5 S hb5 hE H=>zj O (zSs H O O O .h O fun S hE H=>vE (zLn (vs:=[_,_]) H O .h1 O (zLn (vs:=[_,_]) H O .h O (zj O (zAd O O (zCl O (ct141 (H.get .h3) (H.get .h2) hne hk0 hk1 fun e021 e121 k021 k121 S hE ho021 ho121 hk021 hk121=>?_)))))))))))))))))
   replace H:=H.callX2 hE .h3 .h2 ho021 ho121 hne
   replace hk0:=hk021
   replace hk1:=hk121
   replace hM:=hM.step hx
   refine zN (zJ (vw O (zL1 H O .h1 O (zj O (zAd O O (zLn (vs:=[_,_]) H O .h O ?_))))))
   obtain ⟨j26,hf26,hj26⟩:=hM.put hx
   refine za (W_updI2_ tryzPT H O O O hk1 hf26 hj26 .h2 fun S hE H=>vf (z_ (ze (zJ (zAd O O (zj O (zN ?_)))))))
   refine ⟨_,_,?lt,?le,(i+1),_,_,_,_,_,_,O,(H.sub (.cons _ (.cons_cons _ (.cons_cons _ (.cons_cons _ (.cons_cons _ (.cons_cons _ .slnil))))))),(by omega),hne,hk0,(kvs_same hk1 hj26),hM,O⟩
   case lt=>omega
   case le=>exact Env.qle ⟨O,O,O,O,O,O,⟨⟩⟩
theorem ct16 (hs:Sl S0 2 a (zS es)) (hcp:es.length≤cap) (hl:es.length≤1099511627776) (k:∀  S',Ext [] S0 S'→K (int (portE es e)) S') :
  zC 16 #[.agg #[.slice a es.length cap],e.v] S0 K:=by
 refine zGh (sf:=s16) Tryz.func16 fun H=>zR (zBx H O O fun b2 S hb2 hE H=>zBx H O O fun b3 S hb3 hE H=>zj O (zN (zD (vc [] (vi 0 O O (fun S' hS'=>zG fun K hK=>zV O (zM (hS' O) (by simp) (H.cells (vs:=[_]) .h1 O)) hK) (vi 3 O O (fun S' hS'=>zG fun K hK=>zV O (zM (hS' O) (by simp) (H.cells (vs:=[_,_]) .h O)) hK) (zB 1 (by kernel_rfl) O O (zv (zU O (ct61 (hs.mono H.qx) hcp (by omega) fun r06 r16 c06 c16 e06 e16 kv06 kv16 S hE hr06 hr16 hk06 hk16 hM6=>?_))))))))))
 replace H:=H.call hE
 refine ⟨fun _=>hE.up.ext,zB 2 (by kernel_rfl) O O (zv (W_part Tryz.underlying101 O O agg98 O O (⟨fun _=>fun _ _ _ h=>h,zB 4 (by kernel_rfl) O O (zv (W_lookE_ tryzPT (ok:=false) O O hr06 hk06 ?_))⟩)))⟩
 simp only [cond_false,hM6.port]
 refine ⟨fun _=>fun _ _ _ h=>h,vI 5 O O O (zX (ze (zh (zP O ?_))))⟩
 exact k _ H.qx
theorem ct25 (hs:Sl S0 2 a (zS es)) (hcp:es.length≤cap) (hl:es.length≤1099511627776) (k:∀ (e:End) (t:Bool) S',Ext [] S0 S'→(t=true→endP es q=some e)→(t=false→endP es q=none∧e=⟨0,0⟩)→K (.tuple #[e.v,.bool t]) S') :
  zC 25 #[.agg #[.slice a es.length cap],int q] S0 K:=by
 refine zGh (sf:=s25) Tryz.func25 fun H=>zR (zBx H O O fun b2 S hb2 hE H=>zAl H O fun b4 S hb4 hE H=>zj O (vE (zLn (vs:=[_]) H O .h1 O (zCl O (ct61 (hs.mono H.qx) hcp (by omega) fun r010 r110 c010 c110 e010 e110 kv010 kv110 S hE hr010 hr110 hk010 hk110 hM10=>?_)))))
 replace H:=H.call hE
 refine za (W_part Tryz.underlying101 O O agg99 O O (zj O (za (W_lookI_ tryzPT O O hr110 hk110 ?_))))
 obtain ⟨e13,he13⟩:∃ e,(((findM kv110 q 0).map (·.2)).getD (⟨0,0⟩:End))=e:=⟨_,rfl⟩
 simp only [he13]
 refine zj O (zEx O O (zEx O O (zAl H O fun b6 S hb6 hE H=>zSs H O O O .h O fun S hE H=>zj O (vE (zLn (vs:=[_,_]) H O .h O (zj O (zSs H O O O .h1 O fun S hE H=>zj O (zN (zh (⟨trivial,_,(z0 (ws:=[_,_]) H O .h1 O (zW O zT)),?_⟩))))))))))
 have hth:=hM10.theEnd q
 refine k e13 (findM kv110 q 0).isSome _ H.qx ?_ ?_
 ·intro ht
  rw [← hth]
  rcases hf:findM kv110 q 0 with _ | ⟨j,w⟩
  ·rw [hf] at ht;cases ht
  ·rw [hf] at he13;rw [← he13];rfl
 ·intro ht
  rw [← hth]
  rcases hf:findM kv110 q 0 with _ | ⟨j,w⟩
  ·rw [hf] at he13;exact ⟨rfl,he13.symm⟩
  ·rw [hf] at ht;cases ht
end
section
variable {S0:St} {K:Value→St→Prop}
variable {l:Bs} {es:List End} {cap:Nat} {a:Option Addr}
theorem ct212 (hs:Sl S0 2 a (zS es)) (hcp:es.length≤cap) (hl:es.length≤1099511627776) (k:∀ (a1:Option Addr) (c1:Nat) S',Ext [] S0 S'→(Sl S' 2 a1 (zS es))→(es.length≤c1)→(Org S0 none a1)→K (.slice a1 es.length c1) S') :
  zC 212 #[.slice a es.length cap] S0 K:=by
 refine zGh (sf:=s212) Tryz.func212 fun H=>zR (zj O (zN (vB (zj O (za (W_sliceNil Tryz.underlying24 O fun t4 h4=>zN ?_))))))
 rcases t4 with _|_
 ·replace h4:=bF h4
  refine zn O (zt (ze (zR (za (vd (cs:=[]) H O O fun b5 S hb5 hE H=>zj O (za (W_appendZ (new:=(zS es).flatten) H O O .h (Src.sl (hs.mono H.qx) vH (by simp)) endRows_one (endRows_flat_len es) (by decide) (by decide) (by omega) O fun b7 cap7 cs7 S hb7 H hE hn7 hcl7 hct7=>zj O (zN (zh (zP O ?_))))))))))
  rw [show (0+es.length)=es.length by omega]
  exact k _ _ _ H.qx (vn (H.get .h) rfl (by simpa using hct7) vH) (by simpa using hn7) (.new (H.new1 .h))
 ·replace h4:=bT h4
  refine zr O (zR (zj O (zN (zh (zw (zP O ?_))))))
  subst h4
  obtain rfl:es=[]:=by
   cases es with
   | nil=>rfl
   | cons e es=>obtain ⟨b,off,e1,_⟩:=hs.row 0 e.row rfl;cases e1
  exact k none 0 _ H.qx (Sl.nil 2) (Nat.le_refl _) (.same _ _)
theorem ct158 {n c:Nat} (hn:n≤c) (k:∀  S',Ext [] S0 S'→K (.slice a n n) S') :
  zC 158 #[.slice a n c] S0 K:=by
 refine zGh (sf:=s158) Tryz.func158 fun H=>zR (zj O (vE (zj O (zj O (zLl O (zj O (zLl O (za (W_clip O O O hn (zj O (zN (zh (zP O ?_)))))))))))))
 exact k _ H.qx
theorem ct154 (hs:Sl S0 2 a (zS es)) (hcp:es.length≤cap) (hl:es.length≤1099511627776) (k:∀ (a1:Option Addr) S',Ext [] S0 S'→(Sl S' 2 a1 (zS es))→(Org S0 none a1)→K (.agg #[.slice a1 es.length es.length]) S') :
  zC 154 #[.agg #[.slice a es.length cap]] S0 K:=by
 refine zGh (sf:=s154) Tryz.func154 fun H=>zR (zBx H O O fun b1 S hb1 hE H=>zAl H O fun b2 S hb2 hE H=>vE (vw O (zL1 H O .h1 O (zCl O (ct212 (hs.mono H.qx) hcp (by omega) fun a5 c5 S hE hs5 hc5 ho5=>?_)))))
 have hs5_b2:=ho5.ne nofun (H.get .h)
 replace ho5:=ho5.back H.qx
 replace H:=H.call hE
 refine zCl O (ct158 hc5 fun S hE =>?_)
 replace H:=H.call hE
 replace hs5:=hs5.mono hE
 refine za (W_build (cs:=[_]) O O (zSs H O O O .h O fun S hE H=>?_))
 replace hs5:=hs5.qy hE hs5_b2
 refine zN (zh (⟨trivial,_,(z0 (ws:=[_]) H O .h O zT),?_⟩))
 exact k _ _ H.qx hs5 ho5
theorem Org.any {S:St} {a1:Option Addr} (h:Org S none a1):Org S a a1:=by
 rcases h with rfl | h
 ·exact .inr nofun
 ·exact .inr h
theorem ct68 {e:End} (hs:Sl S0 2 a (zS es)) (hcp:es.length≤cap) (hl:es.length≤6) (k:∀ (a1:Option Addr) (cap1:Nat) S',Ext [] S0 S'→(Sl S' 2 a1 (zS (putE es e)))→((putE es e).length≤cap1)→(Org S0 a a1)→K (.tuple #[.agg #[.slice a1 (putE es e).length cap1],int (putP es e)]) S') :
  zC 68 #[.agg #[.slice a es.length cap],e.v] S0 K:=by
 refine zGh (sf:=s68) Tryz.func68 fun H=>zR (zBx H O O fun b2 S hb2 hE H=>zBx H O O fun b3 S hb3 hE H=>zAl H O fun b4 S hb4 hE H=>zj O (vE (zLn (vs:=[_]) H O .h2 O (zCl O (ct154 (hs.mono H.qx) hcp (by omega) fun a9 S hE hs9 ho9=>?_)))))
 have hs9_b4:=ho9.ne nofun (H.get .h)
 replace ho9:=ho9.back H.qx
 replace H:=H.call hE
 refine zAl H O fun b6 S hb6 hE H=>?_
 have hs9_b6:=hs9.ne hb6
 replace hs9:=hs9.mono hE
 refine zSs H O O O .h O fun S hE H=>?_
 replace hs9:=hs9.qy hE hs9_b6
 refine zN (vB (zLn (vs:=[_]) H O .h3 O (zLn (vs:=[_,_]) H O .h2 O (zCl O (ct16 (hs.mono H.qx) hcp (by omega) fun S hE =>?_)))))
 replace H:=H.call hE
 replace hs9:=hs9.mono hE
 refine zj O (vE (zj O (za (W_neI O O fun t14 h14=>zj O ?_))))
 rcases t14 with _|_
 ·replace h14:=bF h14
  have hm:e∉es:=fun hm=>by unfold portE at h14;rw [if_pos hm] at h14;omega
  refine zi O (zz O (zi O (vk H O .h3 O (zi O (W_lenL O (zi O (W_geq O O fun t19 h19=>vr O O O O (zN ?_))))))))
  rcases t19 with _|_
  ·replace h19:=bF h19
   refine zn O (zt (ze (zR (vw O (zL1 H O .h O (zLn (vs:=[_,_]) H O .h2 O (za (vd (cs:=[_,_]) H O O fun b26 S hb26 hE H=>?_))))))))
   replace hs9:=hs9.mono hE
   refine za (W_appendNew (old:=(zS es).flatten) H O O (by omega) (Src.sl hs9 vH (by simp)).2 (endRows_flat_len es) (Src.own H .h O) O (by decide) (by omega) O fun b27 cap27 cs27 S hb27 H hE hn27 hcl27 hct27=>zCl O (ct158 (by omega) fun S hE =>?_))
   replace H:=H.call hE
   refine vw O (zSs H O O O .h2 O fun S hE H=>zN (zD (vc [b4] (vi 0 O O (fun S' hS'=>zG fun K hK=>zV O (zM (hS' O) (nin1 (by rintro rfl;exact absurd H.nodup (by simp))) (H.cells (vs:=[_]) .h2 O)) hK) (zLf 1 O O O (vi 2 O O (fun S' hS'=>zG fun K hK=>zF O (zH (hS' O) (nin1 (by rintro rfl;exact absurd H.nodup (by simp))) (H.cell .h5 O)) hK) (vM 3 O O (fun _ _ hK=>W_lenL O hK) (vM 4 O O (fun _ _ hK=>W_add O O (by omega) (by omega) hK) (zB 5 (by kernel_rfl) O O (zv (zSt H O O O .h3 O fun S hE H=>⟨fun _=>hE.ext,vI 6 O O O (zX (ze (zh (⟨trivial,_,(z0 (ws:=[_]) H O .h3 O (zW O zT)),?_⟩))))⟩)))))))))))
   obtain ⟨p1,p2⟩:=putE_new hm (show ¬ 6≤es.length by omega)
   rw [p1,p2] at k
   rw [show (es.length+1)=(es++[e]).length by simp]
   exact k _ _ _ H.qx (vn (H.get .h) rfl (by simpa [zS] using hct27) vH) (Nat.le_refl _) (.new (H.new1 .h))
  ·replace h19:=bT h19
   refine zr O (zR (zLn (vs:=[_]) H O .h O (zj O (zSs H O O O .h1 O fun S hE H=>?_))))
   replace hs9:=hs9.qy hE hs9_b4
   refine zj O (zN (zh (zw (⟨trivial,_,(z0 (ws:=[_]) H O .h1 O (zW O zT)),?_⟩))))
   (obtain ⟨p1,p2⟩:=putE_full hm (show 6≤es.length by omega);rw [p1,p2] at k;rw [show portE es e=0 by unfold portE;exact if_neg hm];exact k _ _ _ H.qx hs9 (Nat.le_refl _) ho9.any)
 ·replace h14:=bT h14
  have hm:e∈es:=Classical.byContradiction fun hn=>by unfold portE at h14;rw [if_neg hn] at h14;exact h14 rfl
  obtain ⟨p1,p2⟩:=putE_mem hm
  refine zL O (zL O (zL O (zL O (vr O O O O (zN (zr O (zR (zLn (vs:=[_]) H O .h O (zj O (zSs H O O O .h1 O fun S hE H=>?_))))))))))
  replace hs9:=hs9.qy hE hs9_b4
  refine zj O (zN (zh (zw (⟨trivial,_,(z0 (ws:=[_]) H O .h1 O (zW O zT)),?_⟩))))
  (rw [p1,p2] at k;exact k _ _ _ H.qx hs9 (Nat.le_refl _) ho9.any)
theorem ct203 (hG:Glob S0) (hs:Sl S0 2 a (zS es)) (hcp:es.length≤cap) (hl:es.length≤6) (hll:l.length≤18) (k:∀ (a1:Option Addr) (cap1:Nat) S',Ext [] S0 S'→(Sl S' 2 a1 (zS (lineOut es l).1))→((lineOut es l).1.length≤cap1)→(Org S0 a a1)→K (.tuple #[.agg #[.slice a1 (lineOut es l).1.length cap1],str (lineOut es l).2]) S') :
  zC 203 #[.agg #[.slice a es.length cap],str l] S0 K:=by
 refine zGh (sf:=s203) Tryz.func203 fun H=>?_
 have hq:=hs
 refine zR (zBx H O O fun b2 S hb2 hE H=>?_)
 replace hq:=hq.mono hE
 refine zAl H O fun b4 S hb4 hE H=>?_
 have hq_b4:=hq.ne hb4
 replace hq:=hq.mono hE
 refine zj O (vE (zj O (zCl O (ct211 (hG.mono H.qx) (by omega) fun t12 S hE h12=>?_))))
 replace H:=H.call hE
 replace hq:=hq.mono hE
 refine zj O (zEx O O (zEx O O (zAl H O fun b6 S hb6 hE H=>?_)))
 have hq_b6:=hq.ne hb6
 replace hq:=hq.mono hE
 refine zSs H O O O .h O fun S hE H=>?_
 replace hq:=hq.qy hE hq_b6
 refine zj O (zN (vB (zj O (zNt O (zN ?_)))))
 rcases t12 with _|_
 ·replace h12:=bF h12
  refine zr O (zR (zLn (vs:=[_]) H O .h2 O (zCl O (ct154 hq hcp (by omega) fun a18 S hE hs18 ho18=>?_))))
  have hs18_b4:=ho18.ne nofun (H.get .h1)
  replace ho18:=ho18.back H.qx
  replace H:=H.call hE
  refine zj O (zSs H O O O .h1 O fun S hE H=>?_)
  replace hs18:=hs18.qy hE hs18_b4
  refine zj O (zN (zh (zw (⟨trivial,_,(z0 (ws:=[_]) H O .h1 O (zW O zT)),?_⟩))))
  (rw [lineOut_none (by rcases hs0:says l with _ | x;rfl;exact absurd ⟨x,hs0⟩ h12)] at k;exact k _ _ _ H.qx hs18 (Nat.le_refl _) ho18.any)
 ·replace h12:=bT h12
  obtain ⟨x12,hx12⟩:=h12
  have hgd:(says l).getD ⟨0,0⟩=x12:=by rw [hx12];rfl
  simp only [hgd] at *
  refine zn O (zt (ze (zR (zLn (vs:=[_]) H O .h2 O (zLn (vs:=[_,_]) H O .h O (zCl O (ct68 hq hcp (by omega) fun a23 cap23 S hE hs23 hc23 ho23=>?_)))))))
  have hs23_b4:=ho23.ne hq_b4 (H.get .h1)
  replace ho23:=ho23.back H.qx
  replace H:=H.call hE
  refine zj O (zEx O O (zEx O O (zAl H O fun b8 S hb8 hE H=>?_)))
  have hs23_b8:=hs23.ne hb8
  replace hs23:=hs23.mono hE
  refine zSs H O O O .h O fun S hE H=>?_
  replace hs23:=hs23.qy hE hs23_b8
  refine zj O (zN (vB (zj O (za (W_eqI O O fun t27 h27=>zN ?_)))))
  rcases t27 with _|_
  ·replace h27:=bF h27
   refine zn O (zt (ze (zD (vc [b4] (vi 0 O O (fun S' hS'=>zG fun K hK=>zV O (zM (hS' O) (nin1 (by rintro rfl;exact absurd H.nodup (by simp))) (H.cells (vs:=[_]) .h O)) hK) (vI 1 O O O (vM 2 O O (fun _ _ hK=>W_build (cs:=[_,_]) O O hK) (zB 3 (by kernel_rfl) O O (zv (zU O (ct184 (e:=⟨50,putP es x12⟩) (hG.mono H.qx) fun S hE =>?_)))))))))))
   replace H:=H.call hE
   replace hs23:=hs23.mono hE
   refine ⟨fun _=>hE.up.ext,zB 4 (by kernel_rfl) O O (zv (zSt H O O O .h2 O fun S hE H=>?_))⟩
   replace hs23:=hs23.qy hE hs23_b4
   refine zLd (vI 5 O O O (zX (ze (zh (⟨trivial,_,(z0 (ws:=[_]) H O .h2 O (zW O zT)),?_⟩)))))
   (rw [lineOut_port hx12 h27] at k;exact k _ _ _ H.qx hs23 hc23 ho23)
  ·replace h27:=bT h27
   refine zr O (zR (zLn (vs:=[_]) H O .h O (zSs H O O O .h2 O fun S hE H=>?_)))
   replace hs23:=hs23.qy hE hs23_b4
   refine zj O (zN (zh (zw (⟨trivial,_,(z0 (ws:=[_]) H O .h2 O (zW O zT)),?_⟩))))
   (rw [lineOut_full hx12 h27] at k;exact k _ _ _ H.qx hs23 hc23 ho23)
theorem ct98 (hG:Glob S0) (hs:Sl S0 2 a (zS es)) (hcp:es.length≤cap) (hl:es.length≤1099511627776) (hll:l.length≤18) (k:∀  S',Ext [] S0 S'→K (str (lineIn es l)) S') :
  zC 98 #[.agg #[.slice a es.length cap],str l] S0 K:=by
 refine zGh (sf:=s98) Tryz.func98 fun H=>zR (zBx H O O fun b2 S hb2 hE H=>zj O (zN (vB (zj O (zCl O (ct183 (hG.mono H.qx) (by omega) fun t11 S hE h11=>?_))))))
 replace H:=H.call hE
 refine zj O (zEx O O (zEx O O (zj O (zj O (vE (zj O (zN ?_)))))))
 rcases t11 with _|_
 ·replace h11:=bF h11
  refine zn O (zt (ze (zR (zj O (zj O (zN (zh (zP O ?_))))))))
  (rw [lineIn_none (by rcases hs0:boxP l with _ | x;rfl;exact absurd ⟨x,hs0⟩ h11)] at k;exact k _ H.qx)
 ·replace h11:=bT h11
  obtain ⟨x11,hx11⟩:=h11
  have hgd:(boxP l).getD 0=x11:=by rw [hx11];rfl
  simp only [hgd] at *
  refine zr O (zR (zLn (vs:=[_]) H O .h O (zj O (zCl O (ct25 (hs.mono H.qx) hcp (by omega) fun e18 t18 S hE hy18 hn18=>?_)))))
  replace H:=H.call hE
  have h18:t18=true↔t18=true:=Iff.rfl
  refine zj O (zEx O O (zEx O O (zAl H O fun b7 S hb7 hE H=>zSs H O O O .h O fun S hE H=>zj O (vE (zj O (zN ?_))))))
  rcases t18 with _|_
  ·replace h18:=bF h18
   refine zn O (zt (ze (zR (zj O (zj O (zN (zh (zP O ?_))))))))
   (rw [lineIn_no hx11 (hn18 rfl).1] at k;exact k _ H.qx)
  ·replace h18:=bT h18
   refine zr O (zR (zLn (vs:=[_,_]) H O .h O (zCl O (ct184 (hG.mono H.qx) fun S hE =>?_))))
   replace H:=H.call hE
   refine zj O (zN (zh (zw (zP O ?_))))
   (rw [lineIn_yes hx11 (hy18 rfl)] at k;exact k _ H.qx)
end
section
variable {S0:St} {K:Value→St→Prop}
variable {l:Bs} {cs:List Value} {b bb cap:Nat} {v:Value}
theorem ct223 (ho:S0 b=some ⟨Cs [.pointer none,v] 213,true⟩) (k:∀ S',Ext [b] S0 S'→S' b=some ⟨Cs [ptr b 0,v] 213,true⟩→K (.tuple #[]) S') :
  zC 223 #[ptr b 0] S0 K:=by
 refine zGo (sf:=s223) Tryz.func223 ?_
 have H:=Loc.start1 ho
 refine zR (zj O (za (W_nilchk O (vw O (zL1 H O .h O (za (W_ptrNil Tryz.underlying211 O (zN (zr O (zJ (zj O (zj O (za (W_toUnsafe_ tryzPT O (H.get .h) O (za (W_noEscape_ tryzPT O (za (W_fromUnsafe_ tryzPT O (H.get .h) O (za (W_nilchk O (vw O (zSs H O O O .h O fun S hE H=>vf (⟨trivial,_,zT,?_⟩)))))))))))))))))))))))
 exact k _ H.qx (H.get .h)
theorem ct223b (ho:S0 b=some ⟨Cs [ptr b 0,v] 213,true⟩) (k:∀  S',Ext [] S0 S'→K (.tuple #[]) S') :
  zC 223 #[ptr b 0] S0 K:=by
 refine zGh (sf:=s223) Tryz.func223 fun H=>zR (zj O (za (W_nilchk O (vw O (za (zF O (cell_of (H.qx.get ho) O) (za (W_ptrNil Tryz.underlying211 O (zN (zn O (zR (zj O (za (W_nilchk O (vw O (za (zF O (cell_of (H.qx.get ho) O) (zj O (za (W_ptrEqB O O (zN (zn O (zt (⟨trivial,_,zT,?_⟩))))))))))))))))))))))))
 exact k _ H.qx
theorem ct204 (ho:S0 b=some ⟨Cs [.pointer none,.slice none 0 0] 213,true⟩) (hl0:0<l.length) (hl:l.length≤1099511627776) (k:∀ (bb' cap':Nat) (cs':List Value) S',Ext [b] S0 S'→S0 bb'=none→S' b=some ⟨Cs [ptr b 0,sl bb' 0 l.length cap'] 213,true⟩→S' bb'=some ⟨Cs cs' 5,true⟩→cs'.length=cap'*1→l.length≤cap'→cs'.take (l.length*1)=l.map byt→K (.tuple #[int l.length,.nilIface]) S') :
  zC 204 #[ptr b 0,str l] S0 K:=by
 refine zGo (sf:=s204) Tryz.func204 ?_
 have H:=Loc.start1 ho
 refine zR (zj O (zj O (vE (zj O (zCl O (ct223 (H.get .h) fun S hE ho7=>?_))))))
 replace H:=H.callX hE .h ho7
 refine vE (zj O (zj O (za (W_nilchk O (vw O (zL1 H O .h O (zj O (za (W_appendNew (old:=[]) (n:=0) (cap:=0) H O O (by omega) O O Src.str (by simp) (by decide) (by omega) O fun b14 cap14 cs14 S hb14 H hE hn14 hcl14 hct14=>?_)))))))))
 rw [Nat.zero_add] at hn14 hct14
 rw [List.nil_append] at hct14
 refine za (W_nilchk O (vw O (zSs H O O O .h1 O fun S hE H=>vE (zj O (za (vF O (zj O (zj O (zN (zh (⟨trivial,_,(zW O (zW O zT)),k _ _ _ _ H.qx ((H.fresh _ _ (Has.mem .h)).resolve_right (by intro hm;obtain rfl:=List.mem_singleton.1 hm;exact absurd H.nodup (by simp))) ?_ (H.get .h) hcl14 hn14 hct14⟩)))))))))))
 have hg:=H.get .h1
 rw [show 0+l.length=l.length by omega] at hg
 exact hg
theorem ct204b {n:Nat} (ho:S0 b=some ⟨Cs [ptr b 0,sl bb 0 n cap] 213,true⟩) (hob:S0 bb=some ⟨Cs cs 5,true⟩) (hne:b≠bb) (hcl:cs.length=cap*1) (hn:n≤cap) (hl:n+l.length≤1099511627776) (k:∀ (bb' cap':Nat) (cs':List Value) S',Ext [b,bb] S0 S'→(bb'=bb∨S0 bb'=none)→S' b=some ⟨Cs [ptr b 0,sl bb' 0 (n+l.length) cap'] 213,true⟩→S' bb'=some ⟨Cs cs' 5,true⟩→cs'.length=cap'*1→(n+l.length)≤cap'→cs'.take ((n+l.length)*1)=cs.take (n*1)++l.map byt→K (.tuple #[int l.length,.nilIface]) S') :
  zC 204 #[ptr b 0,str l] S0 K:=by
 refine zGo (sf:=s204) Tryz.func204 ?_
 have H:=Loc.start2 ho hob hne
 refine zR (zj O (zj O (vE (zj O (zCl O (ct223b (H.get .h) fun S hE =>?_))))))
 replace H:=H.call hE
 refine vE (zj O (zj O (za (W_nilchk O (vw O (zL1 H O .h O (zj O (za (W_append H O O .h1 hcl hn Src.str (by simp [oneCell]) (by simp) (by decide) (by omega) O fun b14 cap14 cs14 S hb14 H hE hn14 hcl14 hct14=>za (W_nilchk O (vw O (zSs H O O O .h1 O fun S hE H=>vE (zj O (za (vF O (zj O (zj O (zN (zh (⟨trivial,_,(zW O (zW O zT)),k _ _ _ _ H.qx ?_ (H.get .h1) (H.get .h) hcl14 hn14 hct14⟩))))))))))))))))))))
 exact ((H.fresh _ _ (Has.mem .h)).symm.imp_left (by
  intro hm
  rcases List.mem_cons.1 hm with e | hm
  ·exact absurd H.nodup (by subst e;simp)
  ·simpa using hm))
theorem ct205 (ho:S0 b=some ⟨Cs [.pointer none,.slice none 0 0] 213,true⟩) (k:∀  S',Ext [] S0 S'→K (str []) S') :
  zC 205 #[ptr b 0] S0 K:=by
 refine zGh (sf:=s205) Tryz.func205 fun H=>zR (zj O (zN (zD (vc [] (vI 0 O O O (vM 1 O O (fun _ _ hK=>W_nilchk O hK) (zLf 2 O O O (vi 3 O O (fun S' hS'=>zG fun K hK=>zF O (zH (hS' O) (by simp) (cell_of (H.qx.get ho) O)) hK) (vI 5 O O O (vM 6 O O (fun _ _ hK=>W_nilchk O hK) (zLf 7 O O O (vi 8 O O (fun S' hS'=>zG fun K hK=>zF O (zH (hS' O) (by simp) (cell_of (H.qx.get ho) O)) hK) (vM 9 O O (fun _ _ hK=>W_lenL O hK) (zB 4 (by kernel_rfl) O O (zv (W_sliceData0 O (⟨fun _=>fun _ _ _ h=>h,zB 10 (by kernel_rfl) O O (zv (W_unsafeStr0 O O (⟨fun _=>fun _ _ _ h=>h,vI 11 O O O (zX (ze (zh (zP O ?_))))⟩)))⟩)))))))))))))))))
 exact k _ H.qx
theorem ct205b (ho:S0 b=some ⟨Cs [ptr b 0,sl bb 0 l.length cap] 213,true⟩) (hob:S0 bb=some ⟨Cs cs 5,true⟩) (hne:b≠bb) (hc0:cap≠0) (hl0:0<l.length) (hl:l.length≤1099527356416) (hct:cs.take l.length=l.map byt) (k:∀ S',Ext [bb] S0 S'→S' b=some ⟨Cs [ptr b 0,sl bb 0 l.length cap] 213,true⟩→K (str l) S') :
  zC 205 #[ptr b 0] S0 K:=by
 refine zGo (sf:=s205) Tryz.func205 ?_
 have H:=Loc.start1 hob
 have hob2:=ho
 refine zR (zj O (zN (zD (vc [bb] (vI 0 O O O (vM 1 O O (fun _ _ hK=>W_nilchk O hK) (zLf 2 O O O (vi 3 O O (fun S' hS'=>zG fun K hK=>zF O (zH (hS' O) (nin1 hne) (cell_of ho O)) hK) (vI 5 O O O (vM 6 O O (fun _ _ hK=>W_nilchk O hK) (zLf 7 O O O (vi 8 O O (fun S' hS'=>zG fun K hK=>zF O (zH (hS' O) (nin1 hne) (cell_of ho O)) hK) (vM 9 O O (fun _ _ hK=>W_lenL O hK) (zB 4 (by kernel_rfl) O O (zv (W_sliceData O hc0 (⟨fun _=>fun _ _ _ h=>h,zB 10 (by kernel_rfl) O O (zv (W_unsafeStr_ tryzPT H O O hl0 hl hct .h fun S hE H=>zLd (vI 11 O O O (zX (ze (zh (zP O ?_)))))))⟩)))))))))))))))))
 exact k _ H.qx (H.qx.ext _ _ (nin1 hne) ho)
theorem ct131 {a:Option Addr} {es:List End} (hG:Glob S0) (hs:Sl S0 2 a (zS es)) (hcp:es.length≤cap) (hl:es.length≤6) (hll:l.length≤1048576) (hsh:∀ x∈(zu l).1,x.length≤18) (k:∀ (a1:Option Addr) (cap1:Nat) S',Ext [] S0 S'→(Sl S' 2 a1 (zS (streamO es l).1))→((streamO es l).1.length≤cap1)→(Org S0 a a1)→((streamO es l).2.length≤1099527356416)→K (.tuple #[.agg #[.slice a1 (streamO es l).1.length cap1],str (streamO es l).2]) S') :
  zC 131 #[.agg #[.slice a es.length cap],str l] S0 K:=by
 refine calls1_x (sf:=s131) Tryz.func131 (by kernel_rfl) (of_decide_eq_true O) ?_
 show wpX Tryz.prog c131 (Env.of [.agg #[.slice a es.length cap],str l]) S0 [] _
 have H:=Loc.start [] S0
 refine wpX_seq (wpX_slim (zJ (zBx H O O fun b2 S hb2 hE H=>zAl H O fun b4 S hb4 hE H=>zj O (vf (thnX_norm (wpX_seq (wpX_slim (zJ (zLn (vs:=[_]) H O .h1 O (zCl O (ct154 (hs.mono H.qx) hcp (by omega) fun a12 S hE hs12 ho12=>?_)))))))))))
 have hs12_b4:=ho12.ne nofun (H.get .h)
 have hs12_b2:=ho12.ne nofun (H.get .h1)
 replace ho12:=ho12.back H.qx
 replace H:=H.call hE
 have hnl:(zu l).1.length≤l.length:=strLines_len l
 refine zAl H O fun b6 S hb6 hE H=>?_
 have hs12_b6:=hs12.ne hb6
 replace hs12:=hs12.mono hE
 refine zSs H O O O .h O fun S hE H=>?_
 replace hs12:=hs12.qy hE hs12_b6
 refine vf (thnX_norm (wpX_seq (wpX_slim (zJ (zAl H O fun b7 S hb7 hE H=>?_)))))
 have hs12_b7:=hs12.ne hb7
 replace hs12:=hs12.mono hE
 refine vf (thnX_norm (wpX_seq (wpX_seq (wpX_slim (zJ (zj O (zCl O (ct96  fun b14 S hE hb14 ho14=>?_))))))))
 have hs12_b14:=hs12.ne hb14
 replace H:=H.adopt hE hb14 ho14
 replace hs12:=hs12.mono hE
 refine vf (thnX_norm (wpX_block (wpX_range O Tryz.func179 O O fun d14 l14 lr14 hd14 hl14 hro14=>?_)))
 have hs12_d14:=hs12.ne hd14
 replace hs12:=hs12.mono (Ext.put_new hd14 (.deferred (some [])))
 have hs12_l14:=hs12.ne hl14
 replace hs12:=hs12.mono (Ext.put_new hl14 (lp lr14 .ready none))
 replace H:=(H.alloc hd14 (.deferred (some []))).alloc hl14 (lp lr14 .ready none)
 refine ct179 (l:=l14) (b:=b14) (s:=l) (J:=fun r_ S=>(∃ (ls:List Bs) (a1:Option Addr) (cap1:Nat) (es1:List End) (tx:Bs),Loc [] S0 S [(b7,Cs [.pointer none,.slice none 0 0] 213),(b6,Cs [.slice a1 es1.length cap1] 26),(b4,Cs [.slice none 0 0] 26),(b2,Cs [.slice a es.length cap] 26),(l14,lp lr14 .ready none),(d14,.deferred (some [])),(b14,Cs [str r_] 9)]∧(zu l=(ls++(zu r_).1,(zu r_).2))∧(r_.length+ls.length≤l.length)∧(linesOut es ls=(es1,tx))∧(Sl S 2 a1 (zS es1))∧(es1.length≤cap1)∧(Org S0 a a1)∧(es1.length≤6)∧(tx.length≤ls.length*40)∧(tx=[])∧(∀ b off,a1=some ⟨b,off,none⟩→b≠b7)∧(∀ b off,a1=some ⟨b,off,none⟩→b≠b6)∧(∀ b off,a1=some ⟨b,off,none⟩→b≠b4)∧(∀ b off,a1=some ⟨b,off,none⟩→b≠b2)∧(∀ b off,a1=some ⟨b,off,none⟩→b≠l14)∧(∀ b off,a1=some ⟨b,off,none⟩→b≠d14)∧(∀ b off,a1=some ⟨b,off,none⟩→b≠b14))∨(∃ (ls:List Bs) (a1:Option Addr) (cap1:Nat) (es1:List End) (tx:Bs) (bb:Nat) (capb:Nat) (csb:List Value),Loc [] S0 S [(b7,Cs [ptr b7 0,sl bb 0 tx.length capb] 213),(bb,Cs csb 5),(b6,Cs [.slice a1 es1.length cap1] 26),(b4,Cs [.slice none 0 0] 26),(b2,Cs [.slice a es.length cap] 26),(l14,lp lr14 .ready none),(d14,.deferred (some [])),(b14,Cs [str r_] 9)]∧(zu l=(ls++(zu r_).1,(zu r_).2))∧(r_.length+ls.length≤l.length)∧(linesOut es ls=(es1,tx))∧(Sl S 2 a1 (zS es1))∧(es1.length≤cap1)∧(Org S0 a a1)∧(es1.length≤6)∧(tx.length≤ls.length*40)∧(tx.length≤capb)∧(csb.length=capb*1)∧(csb.take (tx.length*1)=tx.map byt)∧(0<tx.length)∧(∀ b off,a1=some ⟨b,off,none⟩→b≠b7)∧(∀ b off,a1=some ⟨b,off,none⟩→b≠b6)∧(∀ b off,a1=some ⟨b,off,none⟩→b≠b4)∧(∀ b off,a1=some ⟨b,off,none⟩→b≠b2)∧(∀ b off,a1=some ⟨b,off,none⟩→b≠l14)∧(∀ b off,a1=some ⟨b,off,none⟩→b≠d14)∧(∀ b off,a1=some ⟨b,off,none⟩→b≠b14)∧(∀ b off,a1=some ⟨b,off,none⟩→b≠bb))) ?_ ?_ ?_ ?_ ?_ ?_
 ·rintro r_ S (⟨ls,a1,cap1,es1,tx,H,hs,hrl,hlo,hq,hcp1,ho1,hl1,htl,htx,hq_b7,hq_b6,hq_b4,hq_b2,hq_l14,hq_d14,hq_b14⟩ | ⟨ls,a1,cap1,es1,tx,bb,capb,csb,H,hs,hrl,hlo,hq,hcp1,ho1,hl1,htl,hbn,hbc,hbt,htx,hq_b7,hq_b6,hq_b4,hq_b2,hq_l14,hq_d14,hq_b14,hq_bb⟩)
  ·skip
   exact H.get .h6
  ·skip
   exact H.get .h7
 ·rintro r_ S (⟨ls,a1,cap1,es1,tx,H,hs,hrl,hlo,hq,hcp1,ho1,hl1,htl,htx,hq_b7,hq_b6,hq_b4,hq_b2,hq_l14,hq_d14,hq_b14⟩ | ⟨ls,a1,cap1,es1,tx,bb,capb,csb,H,hs,hrl,hlo,hq,hcp1,ho1,hl1,htl,hbn,hbc,hbt,htx,hq_b7,hq_b6,hq_b4,hq_b2,hq_l14,hq_d14,hq_b14,hq_bb⟩)
  ·skip
   omega
  ·skip
   omega
 ·rintro r_ S S2 (⟨ls,a1,cap1,es1,tx,H,hs,hrl,hlo,hq,hcp1,ho1,hl1,htl,htx,hq_b7,hq_b6,hq_b4,hq_b2,hq_l14,hq_d14,hq_b14⟩ | ⟨ls,a1,cap1,es1,tx,bb,capb,csb,H,hs,hrl,hlo,hq,hcp1,ho1,hl1,htl,hbn,hbc,hbt,htx,hq_b7,hq_b6,hq_b4,hq_b2,hq_l14,hq_d14,hq_b14,hq_bb⟩) hE
  ·skip
   exact .inl ⟨ls,a1,cap1,es1,tx,H.call hE,hs,hrl,hlo,(hq.mono hE),hcp1,ho1,hl1,htl,htx,hq_b7,hq_b6,hq_b4,hq_b2,hq_l14,hq_d14,hq_b14⟩
  ·skip
   exact .inr ⟨ls,a1,cap1,es1,tx,bb,capb,csb,H.call hE,hs,hrl,hlo,(hq.mono hE),hcp1,ho1,hl1,htl,hbn,hbc,hbt,htx,hq_b7,hq_b6,hq_b4,hq_b2,hq_l14,hq_d14,hq_b14,hq_bb⟩
 ·rintro r_ x_ r2_ S (⟨ls,a1,cap1,es1,tx,H,hs,hrl,hlo,hq,hcp1,ho1,hl1,htl,htx,hq_b7,hq_b6,hq_b4,hq_b2,hq_l14,hq_d14,hq_b14⟩ | ⟨ls,a1,cap1,es1,tx,bb,capb,csb,H,hs,hrl,hlo,hq,hcp1,ho1,hl1,htl,hbn,hbc,hbt,htx,hq_b7,hq_b6,hq_b4,hq_b2,hq_l14,hq_d14,hq_b14,hq_bb⟩) hrx hx59
  ·skip
   have hln:=congrArg List.length hrx
   simp only [List.length_append,List.length_cons] at hln
   have hxs:x_.length≤18:=hsh _ (by rw [hs];simp only;rw [hrx];simp only [zu];rw [spl_cons hx59];simp)
   have hno:=linesOut_snoc es ls x_
   rw [hlo] at hno
   have hol:=lineOut_snd_len es1 x_
   refine hro14.h [str x_] S _ O ?_ (H.get .h4)
   refine zJ (zj O (vf (⟨O,H.get .h4,?_⟩)))
   obtain ⟨hE,H⟩:=H.putE (b:=l14) (o':=lp lr14 .busy none) .h4
   replace hq:=hq.qy hE hq_l14
   refine zE (zR (zLn (vs:=[_]) H O .h1 O (zj O (zCl O (ct203 (hG.mono H.qx) hq hcp1 hl1 (by omega) fun a19 cap19 S hE hs19 hc19 ho19=>?_)))))
   have hs19_b4:=ho19.ne hq_b4 (H.get .h2)
   have hs19_b14:=ho19.ne hq_b14 (H.get .h6)
   have hs19_l14:=ho19.ne hq_l14 (H.get .h4)
   have hs19_d14:=ho19.ne hq_d14 (H.get .h5)
   have hs19_b2:=ho19.ne hq_b2 (H.get .h3)
   have hs19_b6:=ho19.ne hq_b6 (H.get .h1)
   have hs19_b7:=ho19.ne hq_b7 (H.get .h)
   replace ho19:=ho1.trans (ho19.back H.qx)
   replace H:=H.call hE
   refine zj O (zEx O O (zEx O O (zAl H O fun b9 S hb9 hE H=>?_)))
   have hs19_b9:=hs19.ne hb9
   replace hs19:=hs19.mono hE
   refine zSs H O O O .h O fun S hE H=>?_
   replace hs19:=hs19.qy hE hs19_b9
   refine zj O (vE (zLn (vs:=[_]) H O .h O (zSs H O O O .h2 O fun S hE H=>?_)))
   replace hs19:=hs19.qy hE hs19_b6
   refine zN (zJ (zj O (za (W_catS O O (by have:=lineOut_snd_len es1 x_;simp;omega) (zCl O (ct204 (H.get .h1) (by simp) (by simp;omega) fun b25 cap25 cs25 S hE hb25 ho25 hob25 hbc25 hbn25 hbt25=>?_))))))
   have hs19_b25:=hs19.ne hb25
   replace hs19:=hs19.qy hE hs19_b7
   replace H:=H.callXnew hE .h1 ho25 hb25 hob25
   refine vf (z_ (⟨H.get .h6,?_⟩))
   obtain ⟨hE,H⟩:=H.putE (b:=l14) (o':=lp lr14 .ready none) .h6
   replace hs19:=hs19.qy hE hs19_l14
   refine .inl ⟨O,H.get .h8,fun S hE ho=>?_⟩
   replace H:=H.callX hE .h8 ho
   replace hs19:=hs19.qy hE hs19_b14
   skip
   replace H:=H.front .h8
   replace H:=H.front .h8
   replace H:=H.front .h8
   replace H:=H.front .h8
   replace H:=H.front .h8
   replace H:=H.front .h8
   replace H:=H.front .h6
   replace H:=H.front .h8
   refine .inr ⟨(ls++[x_]),_,_,_,((lineOut es1 x_).2++[59]),b25,cap25,cs25,(H.takeL 8),(lines_next hs hrx hx59),(by simp only [List.length_append,List.length_cons,List.length_nil];omega),(by rw [hno,htx];simp),hs19,hc19,ho19,(lineOut_len6 x_ hl1),(by simp only [List.length_append,List.length_cons,List.length_nil];omega),hbn25,hbc25,hbt25,(by simp),hs19_b7,hs19_b6,hs19_b4,hs19_b2,hs19_l14,hs19_d14,hs19_b14,hs19_b25⟩
  ·skip
   have hln:=congrArg List.length hrx
   simp only [List.length_append,List.length_cons] at hln
   have hxs:x_.length≤18:=hsh _ (by rw [hs];simp only;rw [hrx];simp only [zu];rw [spl_cons hx59];simp)
   have hno:=linesOut_snoc es ls x_
   rw [hlo] at hno
   have hol:=lineOut_snd_len es1 x_
   refine hro14.h [str x_] S _ O ?_ (H.get .h5)
   refine zJ (zj O (vf (⟨O,H.get .h5,?_⟩)))
   obtain ⟨hE,H⟩:=H.putE (b:=l14) (o':=lp lr14 .busy none) .h5
   replace hq:=hq.qy hE hq_l14
   refine zE (zR (zLn (vs:=[_]) H O .h2 O (zj O (zCl O (ct203 (hG.mono H.qx) hq hcp1 hl1 (by omega) fun a19 cap19 S hE hs19 hc19 ho19=>?_)))))
   have hs19_b4:=ho19.ne hq_b4 (H.get .h3)
   have hs19_b14:=ho19.ne hq_b14 (H.get .h7)
   have hs19_l14:=ho19.ne hq_l14 (H.get .h5)
   have hs19_d14:=ho19.ne hq_d14 (H.get .h6)
   have hs19_bb:=ho19.ne hq_bb (H.get .h1)
   have hs19_b2:=ho19.ne hq_b2 (H.get .h4)
   have hs19_b6:=ho19.ne hq_b6 (H.get .h2)
   have hs19_b7:=ho19.ne hq_b7 (H.get .h)
   replace ho19:=ho1.trans (ho19.back H.qx)
   replace H:=H.call hE
   refine zj O (zEx O O (zEx O O (zAl H O fun b9 S hb9 hE H=>?_)))
   have hs19_b9:=hs19.ne hb9
   replace hs19:=hs19.mono hE
   refine zSs H O O O .h O fun S hE H=>?_
   replace hs19:=hs19.qy hE hs19_b9
   refine zj O (vE (zLn (vs:=[_]) H O .h O (zSs H O O O .h3 O fun S hE H=>?_)))
   replace hs19:=hs19.qy hE hs19_b6
   refine zN (zJ (zj O (za (W_catS O O (by have:=lineOut_snd_len es1 x_;simp;omega) (zCl O (ct204b (H.get .h1) (H.get .h2) (by rintro rfl;exact absurd H.nodup (by simp)) hbc hbn (by simp;omega) fun b25 cap25 cs25 S hE hb25 ho25 hob25 hbc25 hbn25 hbt25=>?_))))))
   have hs19_b25:=hs19.ne2 hs19_bb hb25
   replace hs19:=hs19.monoX2 hE hs19_b7 hs19_bb
   replace H:=H.callB hE .h1 .h2 (by rintro rfl;exact absurd H.nodup (by simp)) ho25 hb25 hob25
   refine vf (z_ (⟨H.get .h6,?_⟩))
   obtain ⟨hE,H⟩:=H.putE (b:=l14) (o':=lp lr14 .ready none) .h6
   replace hs19:=hs19.qy hE hs19_l14
   refine .inl ⟨O,H.get .h8,fun S hE ho=>?_⟩
   replace H:=H.callX hE .h8 ho
   replace hs19:=hs19.qy hE hs19_b14
   have e25:tx.length+((lineOut es1 x_).2++[59]).length=(tx++((lineOut es1 x_).2++[59])).length:=by simp
   rw [e25] at H
   replace H:=H.front .h8
   replace H:=H.front .h8
   replace H:=H.front .h8
   replace H:=H.front .h8
   replace H:=H.front .h8
   replace H:=H.front .h8
   replace H:=H.front .h6
   replace H:=H.front .h8
   refine .inr ⟨(ls++[x_]),_,_,_,(tx++((lineOut es1 x_).2++[59])),b25,cap25,cs25,(H.takeL 8),(lines_next hs hrx hx59),(by simp only [List.length_append,List.length_cons,List.length_nil];omega),(by rw [hno];simp),hs19,hc19,ho19,(lineOut_len6 x_ hl1),(by simp only [List.length_append,List.length_cons,List.length_nil];omega),?_,hbc25,?_,(by simp only [List.length_append,List.length_cons,List.length_nil];omega),hs19_b7,hs19_b6,hs19_b4,hs19_b2,hs19_l14,hs19_d14,hs19_b14,hs19_b25⟩
   ·have:=hbn25;simpa using this
   ·rw [List.length_append,hbt25,hbt,← List.map_append]
 ·rintro r_ S (⟨ls,a1,cap1,es1,tx,H,hs,hrl,hlo,hq,hcp1,ho1,hl1,htl,htx,hq_b7,hq_b6,hq_b4,hq_b2,hq_l14,hq_d14,hq_b14⟩ | ⟨ls,a1,cap1,es1,tx,bb,capb,csb,H,hs,hrl,hlo,hq,hcp1,ho1,hl1,htl,hbn,hbc,hbt,htx,hq_b7,hq_b6,hq_b4,hq_b2,hq_l14,hq_d14,hq_b14,hq_bb⟩) hz59
  ·skip
   refine .inl ⟨H.get .h4,?_⟩
   obtain ⟨hE,H⟩:=H.putE (b:=l14) (o':=lp lr14 .exhausted none) .h4
   replace hq:=hq.qy hE hq_l14
   have hse:=lines_end hs hz59
   have hst:streamO es l=(es1,tx):=by unfold streamO;rw [hse];exact hlo
   refine blkX_norm (thnX_norm (wpX_slim (zD (vc [b4] (vi 0 O O (fun S' hS'=>zG fun K hK=>zV O (zM (hS' O) (nin1 (by rintro rfl;exact absurd H.nodup (by simp))) (H.cells (vs:=[_]) .h1 O)) hK) (zB 1 (by kernel_rfl) O O (zv (zU O (ct205 (H.get .h) fun S hE =>?_)))))))))
   replace H:=H.call hE
   replace hq:=hq.mono hE
   refine ⟨fun _=>hE.up.ext,zB 2 (by kernel_rfl) O O (zv (zSt H O O O .h2 O fun S hE H=>?_))⟩
   replace hq:=hq.qy hE hq_b4
   refine zLd (vI 3 O O O (zX (ze (zh (⟨trivial,H.get .h5,?_⟩)))))
   obtain ⟨hE,H⟩:=H.putE (b:=d14) (o':=.deferred none) .h5
   replace hq:=hq.qy hE hq_d14
   refine ⟨_,(z0 (ws:=[_]) H O .h2 O (zW O zT)),?_⟩
   rw [hst] at k
   try subst htx
   exact k _ _ _ H.qx hq hcp1 ho1 (by show List.length _≤_;first | omega | (simp only [List.length_nil];omega))
  ·skip
   refine .inl ⟨H.get .h5,?_⟩
   obtain ⟨hE,H⟩:=H.putE (b:=l14) (o':=lp lr14 .exhausted none) .h5
   replace hq:=hq.qy hE hq_l14
   have hse:=lines_end hs hz59
   have hst:streamO es l=(es1,tx):=by unfold streamO;rw [hse];exact hlo
   refine blkX_norm (thnX_norm (wpX_slim (zD (vc [b4,bb] (vi 0 O O (fun S' hS'=>zG fun K hK=>zV O (zM (hS' O) (nin2 (by rintro rfl;exact absurd H.nodup (by simp)) (by rintro rfl;exact absurd H.nodup (by simp))) (H.cells (vs:=[_]) .h2 O)) hK) (zB 1 (by kernel_rfl) O O (zv (zU O (ct205b (l:=tx) (H.get .h) (H.get .h1) (by rintro rfl;exact absurd H.nodup (by simp)) (by omega) htx (by omega) (by simpa using hbt) fun S hE ho27=>?_)))))))))
   have hE27:=hE
   replace hq:=hq.qy hE hq_bb
   replace H:=H.callDrop hE .h1
   refine ⟨fun _=>(hE.mono (by simp)).ext,zB 2 (by kernel_rfl) O O (zv (zSt H O O O .h2 O fun S hE H=>?_))⟩
   replace hq:=hq.qy hE hq_b4
   refine zLd (vI 3 O O O (zX (ze (zh (⟨trivial,H.get .h5,?_⟩)))))
   obtain ⟨hE,H⟩:=H.putE (b:=d14) (o':=.deferred none) .h5
   replace hq:=hq.qy hE hq_d14
   refine ⟨_,(z0 (ws:=[_]) H O .h2 O (zW O zT)),?_⟩
   rw [hst] at k
   try subst htx
   exact k _ _ _ H.qx hq hcp1 ho1 (by show List.length _≤_;first | omega | (simp only [List.length_nil];omega))
 ·skip
  replace H:=H.front .h2
  replace H:=H.front .h2
  replace H:=H.front .h2
  replace H:=H.front .h6
  replace H:=H.front .h6
  replace H:=H.front .h6
  replace H:=H.front .h6
  exact .inl ⟨[],a12,es.length,es,[],H,(by simp),(by simp),rfl,hs12,(Nat.le_refl _),ho12.any,hl,(by simp),rfl,hs12_b7,hs12_b6,hs12_b4,hs12_b2,hs12_l14,hs12_d14,hs12_b14⟩
end
section
variable {S0:St} {K:Value→St→Prop}
variable {l:Bs} {e:End} {es:List End} {cap:Nat} {a:Option Addr}
theorem ct210 (hs:Sl S0 2 a (zS es)) (hcp:es.length≤cap) (hl:es.length≤1099511627776) (k:∀ (r:Int) S',Ext [] S0 S'→(0≤r↔e∈es)→K (int r) S') :
  zC 210 #[.slice a es.length cap,e.v] S0 K:=by
 refine zGh (sf:=s210) Tryz.func210 fun H=>zR (zBx H O O fun b3 S hb3 hE H=>zj O (zN (vB (zj O (zLl O (zj O (zN (zE ?_))))))))
 refine vj (fun E S m_=>∃ (i:Nat),E=Env.lst [(0,.slice a es.length cap),(3,ptr b3 0),(7,int es.length),(8,int i)]∧Loc [] S0 S [(b3,Cs e.row 31)]∧(i≤es.length)∧(e∉es.take i)∧m_=es.length-i) ?_ ?_
 ·skip
  refine ⟨_,_,?le,0,O,H,(by omega),(by simp),O⟩
  case le=>exact Env.qle ⟨O,O,O,O,⟨⟩⟩
 ·skip
  rintro _ S _ ⟨i,rfl,H,hi,hn,rfl⟩
  refine zR (za (vq O O fun t9 h9=>zN (zD ?_)))
  rcases t9 with _|_
  ·replace h9:=bF h9
   refine zn O (vh (zK (zK (vp (ze (zR (zj O (zN (zh (zP O ?_))))))))))
   rw [show i=es.length by omega,List.take_length] at hn
   exact k (-1) _ H.qx ⟨fun h=>by omega,fun h=>absurd h hn⟩
  ·replace h9:=bT h9
   obtain ⟨x,hx⟩:∃ x,es[i]? = some x:=⟨es[i]'(by omega),by simp⟩
   obtain ⟨b,off,rfl,hc⟩  :=hs.row i _ (endRows_at hx)
   refine zr O (zt (ze (zD (zE (zR (zj O (zj O (zN (zD (vc [] (vi 0 O O (fun S' hS'=>zG fun K hK=>zV O (zM (hS' O) (by simp) (H.cells (vs:=[_,_]) .h O)) hK) (vI 1 O O O (vI 2 O O O (vM 3 O O (fun _ _ hK=>vl O O (by omega) (by omega) hK) (vi 4 O O (fun S' hS'=>zG fun K hK=>zV (vs:=[_,_]) O (zM (hS' O) (by simp) (H.qx.cells hc)) hK) (zCm 5 O O (fun S' _=>zG fun K hK=>W_eqE O O hK) fun t16 h16=>zX (ze ?_)))))))))))))))))
   rcases t16 with _|_
   ·replace h16:=bF h16
    refine zn O (zt (z_ (ze (zJ (zAd O O (zj O (zN ?_)))))))
    refine ⟨_,_,?lt,?le,(i+1),O,H,(by omega),(not_mem_take_succ hx hn (fun e1=>h16 (by rw [e1];exact ⟨rfl,rfl⟩))),O⟩
    case lt=>omega
    case le=>exact Env.qle ⟨O,O,O,O,⟨⟩⟩
   ·replace h16:=bT h16
    refine zr O (zR (zj O (zj O (zN (zh (ve (zw (zw (ve (zw (zP O ?_)))))))))))
    exact k _ _ H.qx ⟨fun _=>by rw [show e=x from End.ext' h16];exact List.mem_of_getElem? hx,fun _=>by omega⟩
theorem ct145 (hs:Sl S0 2 a (zS es)) (hcp:es.length≤cap) (hl:es.length≤1099511627776) (k:∀ (t:Bool) S',Ext [] S0 S'→(t=true↔e∈es)→K (.bool t) S') :
  zC 145 #[.slice a es.length cap,e.v] S0 K:=by
 refine zGh (sf:=s145) Tryz.func145 fun H=>zR (zBx H O O fun b3 S hb3 hE H=>zj O (vE (zj O (zLn (vs:=[_,_]) H O .h O (zCl O (ct210 (hs.mono H.qx) hcp (by omega) fun r7 S hE h7=>?_))))))
 replace H:=H.call hE
 refine za (W_geq O O fun t8 h8=>zj O (zN (zh (zP O ?_))))
 exact k _ _ H.qx (h8.trans h7)
theorem ct63 (hs:Sl S0 2 a (zS es)) (hcp:es.length≤cap) (hl:es.length≤1099511627776) (k:∀ (t:Bool) S',Ext [] S0 S'→(t=true↔TabP es)→K (.bool t) S') :
  zC 63 #[.agg #[.slice a es.length cap]] S0 K:=by
 refine zGh (sf:=s63) Tryz.func63 fun H=>zR (zBx H O O fun b1 S hb1 hE H=>zj O (zN (vB (vw O (zL1 H O .h O (zLl O (zj O (zN (zE ?_)))))))))
 refine vj (fun E S m_=>∃ (i:Nat),E=Env.lst [(1,ptr b1 0),(6,.slice a es.length cap),(7,int es.length),(8,int i)]∧Loc [] S0 S [(b1,Cs [.slice a es.length cap] 26)]∧(i≤es.length)∧(∀ e∈es.take i,e.inn)∧((es.take i).Nodup)∧m_=es.length-i) ?_ ?_
 ·skip
  refine ⟨_,_,?le,0,O,H,(by omega),(by simp),(by simp),O⟩
  case le=>exact Env.qle ⟨O,O,O,O,⟨⟩⟩
 ·skip
  rintro _ S _ ⟨i,rfl,H,hi,hp,hnd,rfl⟩
  refine zR (za (vq O O fun t9 h9=>zN (zD ?_)))
  rcases t9 with _|_
  ·replace h9:=bF h9
   refine zn O (vh (zK (zK (vp (ze (zR (vw O (zL1 H O .h O (zLl O (za (W_leq O O fun t28 h28=>zj O (zN (zh (zP O ?_))))))))))))))
   rw [show i=es.length by omega,List.take_length] at hp hnd
   exact k _ _ H.qx (h28.trans ⟨fun h=>TabP_of (by omega) hp hnd,fun h=>by have:=h.1;omega⟩)
  ·replace h9:=bT h9
   obtain ⟨x,hx⟩:∃ x,es[i]? = some x:=⟨es[i]'(by omega),by simp⟩
   obtain ⟨b,off,rfl,hc⟩  :=hs.row i _ (endRows_at hx)
   refine zr O (zt (ze (zD (zE (zR (zj O (zIa O O (za (zV (vs:=[_,_]) O (H.qx.cells hc) (zAl H O fun b4 S hb4 hE H=>zj O (zSs H O O O .h O fun S hE H=>zN (zD (vc [] (vi 0 O O (fun S' hS'=>zG fun K hK=>zV O (zM (hS' O) (by simp) (H.cells (vs:=[_,_]) .h O)) hK) (zB 1 (by kernel_rfl) O O (zv (zU O (ct67  fun t14 S hE h14=>?_))))))))))))))))))
   replace H:=H.call hE
   refine ⟨fun _=>hE.up.ext,vM 2 O O (fun _ _ hK=>W_not O hK) (vI 3 O O O ?_)⟩
   rcases t14 with _|_
   ·replace h14:=bF h14
    refine vi 4 O O (fun S' _=>z9 O (by decide)) (vi 5 O O (fun S' _=>z9 O (by decide)) (vi 6 O O (fun S' _=>z9 O (by decide)) (vi 7 O O (fun S' _=>z9 O (by decide)) (vi 8 O O (fun S' _=>z9 O (by decide)) (zB 9 (by kernel_rfl) O O (step_no O (by decide) (⟨fun _=>fun _ _ _ h=>h,vM 10 O O (fun _ _ hK=>vG O O O O hK) (zX (ze (zr O (zR (zj O (zN (zh (ve (zw (zw (ve (zw (zP O ?_)))))))))))))⟩)))))))
    exact k _ _ H.qx ⟨nofun,fun h=>absurd h (TabP_no1 hx h14)⟩
   ·replace h14:=bT h14
    refine vi 4 O O (fun S' _=>vg O fun K hK=>zz O hK) (vi 5 O O (fun S' hS'=>vg O fun K hK=>zF O (zH (hS' O) (by simp) (H.cell .h1 O)) hK) (vi 6 O O (fun S' _=>vg O fun K hK=>vC O hK) (vi 7 O O (fun S' _=>vg O fun K hK=>W_slTake (l:=es) O O (by omega) (by omega) hcp hK) (vi 8 O O (fun S' hS'=>vg O fun K hK=>zV O (zM (hS' O) (by simp) (H.cells (vs:=[_,_]) .h O)) hK) (zB 9 (by kernel_rfl) O O (step_yes O (zU O (ct145 (es:=es.take i) ((hs.mono H.qx).takeE i) (by simp;omega) (by simp;omega) fun t22 S hE h22=>?_))))))))
    replace H:=H.call hE
    refine zLd (vM 10 O O (fun _ _ hK=>vG O O O O hK) (zX (ze ?_)))
    rcases t22 with _|_
    ·replace h22:=bF h22
     refine zn O (zt (z_ (ze (zJ (zAd O O (zj O (zN ?_)))))))
     refine ⟨_,_,?lt,?le,(i+1),O,(H.sub (.cons _ (.cons_cons _ .slnil))),(by omega),(mem_take_succ hx hp h14),(by
      rw [vA hx]
      exact List.nodup_append.2 ⟨hnd,by simp,fun a ha b hb=>by obtain rfl:=List.mem_singleton.1 hb;rintro rfl;exact h22 ha⟩),rfl⟩
     case lt=>omega
     case le=>exact Env.qle ⟨O,O,O,O,⟨⟩⟩
    ·replace h22:=bT h22
     refine zr O (zR (zj O (zN (zh (ve (zw (zw (ve (zw (zP O ?_))))))))))
     exact k _ _ H.qx ⟨nofun,fun h=>by
      have hn:=h.2.2
      rw [← List.take_append_drop (i+1) es,vA hx] at hn
      have:=(List.nodup_append.1 (List.nodup_append.1 hn).1).2.2 x h22 x (by simp)
      exact (this rfl).elim⟩
theorem ct148 (hG:Glob S0) (hs:Sl S0 2 a (zS es)) (hcp:es.length≤cap) (hl:es.length≤1099511627776) (hll:l.length≤1048576) (hsh:∀ x∈(zu l).1,x.length≤18) (k:∀ (t:Bool) S',Ext [] S0 S'→(t=true↔knowsP es l)→K (.bool t) S') :
  zC 148 #[.agg #[.slice a es.length cap],str l] S0 K:=by
 refine calls1_x (sf:=s148) Tryz.func148 (by kernel_rfl) (of_decide_eq_true O) ?_
 show wpX Tryz.prog c148 (Env.of [.agg #[.slice a es.length cap],str l]) S0 [] _
 have H:=Loc.start [] S0
 have hq:=hs
 refine wpX_seq (wpX_slim (zJ (zBx H O O fun b2 S hb2 hE H=>?_)))
 have hq_b2:=hq.ne hb2
 replace hq:=hq.mono hE
 refine zAl H O fun b4 S hb4 hE H=>?_
 have hq_b4:=hq.ne hb4
 replace hq:=hq.mono hE
 refine vf (thnX_norm (wpX_seq (wpX_seq (wpX_slim (zJ (zj O (zCl O (ct96  fun b9 S hE hb9 ho9=>?_))))))))
 have hq_b9:=hq.ne hb9
 replace H:=H.adopt hE hb9 ho9
 replace hq:=hq.mono hE
 refine vf (thnX_norm (wpX_block (wpX_range O Tryz.func179 O O fun d9 l9 lr9 hd9 hl9 hro9=>?_)))
 have hq_d9:=hq.ne hd9
 replace hq:=hq.mono (Ext.put_new hd9 (.deferred (some [])))
 have hq_l9:=hq.ne hl9
 replace hq:=hq.mono (Ext.put_new hl9 (lp lr9 .ready none))
 replace H:=(H.alloc hd9 (.deferred (some []))).alloc hl9 (lp lr9 .ready none)
 refine ct179 (l:=l9) (b:=b9) (s:=l) (J:=fun r_ S=>(∃ (ls:List Bs),Loc [] S0 S [(b4,Cs [.bool false] 4),(b2,Cs [.slice a es.length cap] 26),(l9,lp lr9 .ready none),(d9,.deferred (some [])),(b9,Cs [str r_] 9)]∧(zu l=(ls++(zu r_).1,(zu r_).2))∧(r_.length≤l.length)∧((linesOut es ls).1=es)∧(Sl S 2 a (zS es))∧(∀ b off,a=some ⟨b,off,none⟩→b≠b4)∧(∀ b off,a=some ⟨b,off,none⟩→b≠b2)∧(∀ b off,a=some ⟨b,off,none⟩→b≠l9)∧(∀ b off,a=some ⟨b,off,none⟩→b≠d9)∧(∀ b off,a=some ⟨b,off,none⟩→b≠b9))) ?_ ?_ ?_ ?_ ?_ ?_
 ·rintro r_ S ⟨ls,H,hs,hrl,hlo,hq,hq_b4,hq_b2,hq_l9,hq_d9,hq_b9⟩
  exact H.get .h4
 ·rintro r_ S ⟨ls,H,hs,hrl,hlo,hq,hq_b4,hq_b2,hq_l9,hq_d9,hq_b9⟩
  omega
 ·rintro r_ S S2 ⟨ls,H,hs,hrl,hlo,hq,hq_b4,hq_b2,hq_l9,hq_d9,hq_b9⟩ hE
  exact ⟨ls,H.call hE,hs,hrl,hlo,(hq.mono hE),hq_b4,hq_b2,hq_l9,hq_d9,hq_b9⟩
 ·rintro r_ x_ r2_ S ⟨ls,H,hs,hrl,hlo,hq,hq_b4,hq_b2,hq_l9,hq_d9,hq_b9⟩ hrx hx59
  have hln:=congrArg List.length hrx
  simp only [List.length_append,List.length_cons] at hln
  have hsx:=lines_next hs hrx hx59
  have hxs:x_.length≤18:=hsh _ (by rw [hsx];simp)
  refine hro9.h [str x_] S _ O ?_ (H.get .h2)
  refine zJ (zj O (vf (⟨O,H.get .h2,?_⟩)))
  obtain ⟨hE,H⟩:=H.putE (b:=l9) (o':=lp lr9 .busy none) .h2
  replace hq:=hq.qy hE hq_l9
  refine zE (zR (zj O (zCl O (ct211 (hG.mono H.qx) (by omega) fun t13 S hE h13=>?_))))
  replace H:=H.call hE
  replace hq:=hq.mono hE
  refine zj O (zEx O O (zEx O O (zAl H O fun b6 S hb6 hE H=>?_)))
  have hq_b6:=hq.ne hb6
  replace hq:=hq.mono hE
  refine zSs H O O O .h O fun S hE H=>?_
  replace hq:=hq.qy hE hq_b6
  refine zj O (vE (zj O (zj O ?_)))
  rcases t13 with _|_
  ·replace h13:=bF h13
   refine zL O (zL O (zL O (zL O (vr O O O O (zj O (zL O (zL O (zL O (zL O (vr O O O O (zN (zn O (zt (z_ (⟨H.get .h3,?_⟩)))))))))))))))
   obtain ⟨hE,H⟩:=H.putE (b:=l9) (o':=lp lr9 .ready none) .h3
   replace hq:=hq.qy hE hq_l9
   refine .inl ⟨O,H.get .h5,fun S hE ho=>?_⟩
   replace H:=H.callX hE .h5 ho
   replace hq:=hq.qy hE hq_b9
   replace H:=H.front .h5
   replace H:=H.front .h5
   replace H:=H.front .h5
   replace H:=H.front .h5
   replace H:=H.front .h5
   refine ⟨(ls++[x_]),(H.takeL 5),hsx,(by omega),(by rw [linesOut_app,hlo];exact lineOut_stay (.inl (by rcases hs0:says x_ with _ | x;rfl;exact absurd ⟨x,hs0⟩ h13))),hq,hq_b4,hq_b2,hq_l9,hq_d9,hq_b9⟩
  ·replace h13:=bT h13
   obtain ⟨x13,hx13⟩:=h13
   have hgd:(says x_).getD ⟨0,0⟩=x13:=by rw [hx13];rfl
   refine zi O (W_loadN (vs:=[_]) H O .h2 O (zi O (W_loadN (vs:=[_,_]) H O .h O (zi O (zU O (ct16 hq hcp (by omega) fun S hE =>?_))))))
   replace H:=H.call hE
   replace hq:=hq.mono hE
   refine zi O (W_eqI O O fun t21 h21=>vr O O O O (zj O ?_))
   rcases t21 with _|_
   ·replace h21:=bF h21
    refine zL O (zL O (zL O (zL O (vr O O O O (zN (zn O (zt (z_ (⟨H.get .h3,?_⟩)))))))))
    obtain ⟨hE,H⟩:=H.putE (b:=l9) (o':=lp lr9 .ready none) .h3
    replace hq:=hq.qy hE hq_l9
    refine .inl ⟨O,H.get .h5,fun S hE ho=>?_⟩
    replace H:=H.callX hE .h5 ho
    replace hq:=hq.qy hE hq_b9
    replace H:=H.front .h5
    replace H:=H.front .h5
    replace H:=H.front .h5
    replace H:=H.front .h5
    replace H:=H.front .h5
    refine ⟨(ls++[x_]),(H.takeL 5),hsx,(by omega),(by rw [linesOut_app,hlo];exact lineOut_stay (.inr ⟨x13,hx13,by rw [← hgd];omega⟩)),hq,hq_b4,hq_b2,hq_l9,hq_d9,hq_b9⟩
   ·replace h21:=bT h21
    refine zi O (zz O (zi O (vk H O .h2 O (zi O (W_lenL O (zi O (vq O O fun t27 h27=>vr O O O O (zN ?_))))))))
    rcases t27 with _|_
    ·replace h27:=bF h27
     refine zn O (zt (z_ (⟨H.get .h3,?_⟩)))
     obtain ⟨hE,H⟩:=H.putE (b:=l9) (o':=lp lr9 .ready none) .h3
     replace hq:=hq.qy hE hq_l9
     refine .inl ⟨O,H.get .h5,fun S hE ho=>?_⟩
     replace H:=H.callX hE .h5 ho
     replace hq:=hq.qy hE hq_b9
     replace H:=H.front .h5
     replace H:=H.front .h5
     replace H:=H.front .h5
     replace H:=H.front .h5
     replace H:=H.front .h5
     refine ⟨(ls++[x_]),(H.takeL 5),hsx,(by omega),(by rw [linesOut_app,hlo];exact lineOut_stay (.inr ⟨x13,hx13,by rw [← hgd];omega⟩)),hq,hq_b4,hq_b2,hq_l9,hq_d9,hq_b9⟩
    ·replace h27:=bT h27
     refine zr O (zR (zSs H O O O .h1 O fun S hE H=>zN (zh (ve (⟨H.get .h3,?_⟩)))))
     obtain ⟨hE,H⟩:=H.putE (b:=l9) (o':=lp lr9 .done (some .ret)) .h3
     refine .inr ⟨O,.inr ⟨H.get .h3,?_⟩⟩
     obtain ⟨hE,H⟩:=H.putE (b:=l9) (o':=lp lr9 .exhausted (some .ret)) .h3
     refine (blkX_ret (thnX_ret (⟨trivial,H.get .h4,?_⟩)))
     obtain ⟨hE,H⟩:=H.putE (b:=d9) (o':=.deferred none) .h4
     refine ⟨_,(res_cell1 H O .h1 O zT),?_⟩
     exact k _ _ H.qx ⟨nofun,fun h=>absurd h (knows_no (a:=ls) (x:=x_) (b:=(zu r2_).1) (by rw [hsx];simp) hlo hx13 (by rw [← hgd];omega) (by omega))⟩
 ·rintro r_ S ⟨ls,H,hs,hrl,hlo,hq,hq_b4,hq_b2,hq_l9,hq_d9,hq_b9⟩ hz59
  refine .inl ⟨H.get .h2,?_⟩
  obtain ⟨hE,H⟩:=H.putE (b:=l9) (o':=lp lr9 .exhausted none) .h2
  have hse:=lines_end hs hz59
  refine blkX_norm (thnX_norm (wpX_slim (zR (zSs H O O O .h O fun S hE H=>zN (zh (⟨trivial,H.get .h3,?_⟩))))))
  obtain ⟨hE,H⟩:=H.putE (b:=d9) (o':=.deferred none) .h3
  refine ⟨_,(res_cell1 H O .h O zT),?_⟩
  exact k _ _ H.qx ⟨fun _=>knows_yes (by rw [hse];exact hlo),fun _=>rfl⟩
 ·skip
  replace H:=H.front .h2
  replace H:=H.front .h2
  replace H:=H.front .h2
  replace H:=H.front .h4
  replace H:=H.front .h4
  exact ⟨[],H,(by simp),(Nat.le_refl _),rfl,hq,hq_b4,hq_b2,hq_l9,hq_d9,hq_b9⟩
theorem ct149 {m:Bs} (hG:Glob S0) (hs:Sl S0 2 a (zS es)) (hcp:es.length≤cap) (hl:es.length≤1099511627776) (hll:l.length≤1099511627776) (hmm:m.length≤1099511627776) (hsh:∀ x∈(zu l).1,x.length≤18) (k:∀ (t:Bool) S',Ext [] S0 S'→(t=true↔nearP es l m)→K (.bool t) S') :
  zC 149 #[.agg #[.slice a es.length cap],str l,str m] S0 K:=by
 refine zGh (sf:=s149) Tryz.func149 fun H=>zR (zBx H O O fun b3 S hb3 hE H=>zj O (vE (zj O (zCl O (ct35 (by omega) fun b15 cap15 S hE hb15 hO15=>?_)))))
 obtain ⟨cs15,ho15,hn15,hcl15,hct15,_⟩:=hO15
 replace H:=H.adopt hE hb15 ho15
 have hal:=lines_le l
 have hnl:(zu l).1.length≤l.length:=strLines_len l
 refine zj O (zEx O O (zEx O O (zj O (zj O (vE (zj O (zCl O (ct35 (by omega) fun b20 cap20 S hE hb20 hO20=>?_))))))))
 obtain ⟨cs20,ho20,hn20,hcl20,hct20,_⟩:=hO20
 replace H:=H.adopt hE hb20 ho20
 have hbl:=lines_le m
 refine zj O (zEx O O (zEx O O (zj O (zj O (zN (vB (zj O (zLl O (zj O (zLl O (za (W_neI O O fun t27 h27=>zj O ?_))))))))))))
 rcases t27 with _|_
 ·replace h27:=bF h27
  refine zi O (vC O (zi O (W_neS O O fun t30 h30=>vr O O O O (zj O ?_))))
  rcases t30 with _|_
  ·replace h30:=bF h30
   refine zi O (vC O (zi O (vF O (zi O (W_gtr O O fun t35 h35=>vr O O O O (zN ?_))))))
   rcases t35 with _|_
   ·replace h35:=bF h35
    refine zn O (zt (ze (vB (zj O (zLl O (zj O (zN (zE ?_))))))))
    refine vj (fun E S m_=>∃ (i:Nat),E=Env.lst [(2,str m),(3,ptr b3 0),(7,sl b15 0 (zu l).1.length cap15),(9,sl b20 0 (zu m).1.length cap20),(37,sl b15 0 (zu l).1.length cap15),(38,int (zu l).1.length),(39,int i)]∧Loc [] S0 S [(b20,Cs cs20 9),(b15,Cs cs15 9),(b3,Cs [.slice a es.length cap] 26)]∧(i≤(zu l).1.length)∧(∀ (j:Nat) (u v:Bs),j<i→(zu l).1[j]? = some u→(zu m).1[j]? = some v→v=u∨v=lineIn es u)∧m_=(zu l).1.length-i) ?_ ?_
    ·skip
     refine ⟨_,_,?le,0,O,H,(by omega),(fun _ _ _ h=>absurd h (by omega)),O⟩
     case le=>exact Env.qle ⟨O,O,O,O,O,O,O,⟨⟩⟩
    ·skip
     rintro _ S _ ⟨i,rfl,H,hi,hp,rfl⟩
     refine zR (za (vq O O fun t40 h40=>zN (zD ?_)))
     rcases t40 with _|_
     ·replace h40:=bF h40
      refine zn O (vh (zK (zK (vp (ze (zR (zj O (zN (zh (zP O ?_))))))))))
      exact k _ _ H.qx ⟨fun _=>⟨by omega,Classical.not_not.1 h30,by omega,fun j u v hu hv=>hp j u v (by have:=(List.getElem?_eq_some_iff.1 hu).1;omega) hu hv⟩,fun _=>rfl⟩
     ·replace h40:=bT h40
      have hlen:(zu l).1.length=(zu m).1.length:=by omega
      obtain ⟨x,hx⟩:∃ x,(zu l).1[i]? = some x:=⟨(zu l).1[i]'(by omega),by simp⟩
      obtain ⟨y,hy⟩:∃ y,(zu m).1[i]? = some y:=⟨(zu m).1[i]'(by omega),by simp⟩
      have hx15:=str_at hct15 hx
      have hy20:=str_at hct20 hy
      refine zr O (zt (ze (zD (zE (zR (zj O (zIa O O (za (zF O (H.cell .h1 hx15) (zj O (zj O (zN (zD (vc [] (vI 0 O O O (vI 1 O O O (vM 2 O O (fun _ _ hK=>vl O O (by omega) (by omega) hK) (vi 3 O O (fun S' hS'=>zG fun K hK=>zF O (zH (hS' O) (by simp) (H.cell .h hy20)) hK) (vI 4 O O O (zCm 5 O O (fun S' _=>zG fun K hK=>W_neSd O O hK) fun t49 h49=>vI 6 O O O ?_))))))))))))))))))))
      rcases t49 with _|_
      ·replace h49:=bF h49
       refine vi 7 O O (fun S' _=>z9 O (by decide)) (vi 8 O O (fun S' _=>z9 O (by decide)) (vi 9 O O (fun S' _=>z9 O (by decide)) (vi 10 O O (fun S' _=>z9 O (by decide)) (vi 11 O O (fun S' _=>z9 O (by decide)) (vi 12 O O (fun S' _=>z9 O (by decide)) (zB 13 (by kernel_rfl) O O (step_no O (by decide) (⟨fun _=>fun _ _ _ h=>h,vi 14 O O (fun S' _=>z9 O (by decide)) (vM 15 O O (fun _ _ hK=>vG O O O O hK) (zX (ze (zn O (zt (z_ (ze (zJ (zAd O O (zj O (zN ?_)))))))))))⟩))))))))
       refine ⟨_,_,?lt,?le,(i+1),O,H,(by omega),(fun j u v hj hu hv=>by
        by_cases hji:j<i
        ·exact hp j u v hji hu hv
        ·obtain rfl:j=i:=by omega
         rw [hx] at hu;rw [hy] at hv;cases hu;cases hv
         first | exact .inl (Classical.not_not.1 h49) | exact .inr (Classical.not_not.1 h58)),rfl⟩
       case lt=>omega
       case le=>exact Env.qle ⟨O,O,O,O,O,O,O,⟨⟩⟩
      ·replace h49:=bT h49
       refine vi 7 O O (fun S' _=>vg O fun K hK=>vC O hK) (vi 8 O O (fun S' _=>vg O fun K hK=>vC O hK) (vi 9 O O (fun S' _=>vg O fun K hK=>vl O O (by omega) (by omega) hK) (vi 10 O O (fun S' hS'=>vg O fun K hK=>zF O (zH (hS' O) (by simp) (H.cell .h hy20)) hK) (vi 11 O O (fun S' hS'=>vg O fun K hK=>zV O (zM (hS' O) (by simp) (H.cells (vs:=[_]) .h2 O)) hK) (vi 12 O O (fun S' _=>vg O fun K hK=>vC O hK) (zB 13 (by kernel_rfl) O O (step_yes O (zU O (ct98 (hG.mono H.qx) (hs.mono H.qx) hcp (by omega) (hsh x (List.mem_of_getElem? hx)) fun S hE =>?_)))))))))
       replace H:=H.call hE
       refine ⟨fun _=>hE.up.ext,zCm 14 O O (fun S' _=>vg O fun K hK=>W_neSd O O hK) fun t58 h58=>vM 15 O O (fun _ _ hK=>vG O O O O hK) (zX (ze ?_))⟩
       rcases t58 with _|_
       ·replace h58:=bF h58
        refine zn O (zt (z_ (ze (zJ (zAd O O (zj O (zN ?_)))))))
        refine ⟨_,_,?lt,?le,(i+1),O,H,(by omega),(fun j u v hj hu hv=>by
         by_cases hji:j<i
         ·exact hp j u v hji hu hv
         ·obtain rfl:j=i:=by omega
          rw [hx] at hu;rw [hy] at hv;cases hu;cases hv
          first | exact .inl (Classical.not_not.1 h49) | exact .inr (Classical.not_not.1 h58)),rfl⟩
        case lt=>omega
        case le=>exact Env.qle ⟨O,O,O,O,O,O,O,⟨⟩⟩
       ·replace h58:=bT h58
        refine zr O (zR (zj O (zN (zh (ve (zw (zw (ve (zw (zP O ?_))))))))))
        exact k _ _ H.qx ⟨nofun,fun h=>by rcases h.2.2.2 i x y hx hy with h | h;exact absurd h h49;exact absurd h h58⟩
   ·replace h35:=bT h35
    refine zr O (zR (zj O (zN (zh (zw (zP O ?_))))))
    exact k _ _ H.qx ⟨nofun,fun h=>by have:=h.2.2.1;omega⟩
  ·replace h30:=bT h30
   refine zL O (zL O (zL O (vr O O O O (zN (zr O (zR (zj O (zN (zh (zw (zP O ?_)))))))))))
   exact k _ _ H.qx ⟨nofun,fun h=>absurd h.2.1 h30⟩
 ·replace h27:=bT h27
  refine zL O (zL O (vr O O O O (zj O (zL O (zL O (zL O (vr O O O O (zN (zr O (zR (zj O (zN (zh (zw (zP O ?_)))))))))))))))
  exact k _ _ H.qx ⟨nofun,fun h=>by have:=h.1;omega⟩
end
section
variable {S0:St} {K:Value→St→Prop}
variable {rs:List Rule} {cap:Nat} {a:Option Addr} {x:Rule}
theorem ct144  (k:∀ (t:Bool) S',Ext [] S0 S'→(t=true↔RuleP x)→K (.bool t) S') :
  zC 144 #[x.v] S0 K:=by
 refine zGh (sf:=s144) Tryz.func144 fun H=>zR (zBx H O O fun b1 S hb1 hE H=>zj O (vE (vw O (zL1 H O .h O (zCl O (ct156  fun t5 S hE h5=>?_))))))
 replace H:=H.call hE
 refine zj O ?_
 rcases t5 with _|_
 ·replace h5:=bF h5
  refine zL O (zL O (zL O (vr O O O O (zj O (zL O (zL O (zL O (zL O (zL O (vr O O O O (zj O (zL O (zL O (zL O (vr O O O O (zj O (zL O (zL O (zL O (vr O O O O (zj O (zL O (zL O (zL O (zL O (zL O (vr O O O O (zj O ?_))))))))))))))))))))))))))))
  refine zL O (zL O (zL O (vr O O O O (zj O (zL O (zL O (zL O (vr O O O O (zj O (zL O (zL O (zL O (zL O (zL O (vr O O O O (zj O (zN (zh (zP O ?_)))))))))))))))))))
  exact k _ _ H.qx (by unfold RuleP;first | (rw [h50];omega) | (simp;omega) | (simp_all;omega))
 ·replace h5:=bT h5
  refine zi O (zz O (zi O (vk H O .h O (zi O (zU O (ct156  fun t9 S hE h9=>?_))))))
  replace H:=H.call hE
  refine vr O O O O (zj O ?_)
  rcases t9 with _|_
  ·replace h9:=bF h9
   refine zL O (zL O (zL O (zL O (zL O (vr O O O O (zj O (zL O (zL O (zL O (vr O O O O (zj O (zL O (zL O (zL O (vr O O O O (zj O (zL O (zL O (zL O (zL O (zL O (vr O O O O (zj O (zL O (zL O (zL O (vr O O O O (zj O ?_))))))))))))))))))))))))))))
   refine zL O (zL O (zL O (vr O O O O (zj O (zL O (zL O (zL O (zL O (zL O (vr O O O O (zj O (zN (zh (zP O ?_))))))))))))))
   exact k _ _ H.qx (by unfold RuleP;first | (rw [h50];omega) | (simp;omega) | (simp_all;omega))
  ·replace h9:=bT h9
   refine zi O (zz O (zi O (vk H O .h O (zi O (zz O (zi O (vk H O .h O (zi O (W_leq O O fun t16 h16=>vr O O O O (zj O ?_))))))))))
   rcases t16 with _|_
   ·replace h16:=bF h16
    refine zL O (zL O (zL O (vr O O O O (zj O (zL O (zL O (zL O (vr O O O O (zj O (zL O (zL O (zL O (zL O (zL O (vr O O O O (zj O (zL O (zL O (zL O (vr O O O O (zj O (zL O (zL O (zL O (vr O O O O (zj O (zL O (zL O ?_))))))))))))))))))))))))))))
    refine zL O (zL O (zL O (vr O O O O (zj O (zN (zh (zP O ?_)))))))
    exact k _ _ H.qx (by unfold RuleP;first | (rw [h50];omega) | (simp;omega) | (simp_all;omega))
   ·replace h16:=bT h16
    refine zi O (zz O (zi O (vk H O .h O (zi O (zU O (ct173  fun t21 S hE h21=>?_))))))
    replace H:=H.call hE
    refine vr O O O O (zj O ?_)
    rcases t21 with _|_
    ·replace h21:=bF h21
     refine zL O (zL O (zL O (vr O O O O (zj O (zL O (zL O (zL O (zL O (zL O (vr O O O O (zj O (zL O (zL O (zL O (vr O O O O (zj O (zL O (zL O (zL O (vr O O O O (zj O (zL O (zL O (zL O (zL O (zL O (vr O O O O (zj O ?_))))))))))))))))))))))))))))
     refine zN (zh (zP O ?_))
     exact k _ _ H.qx (by unfold RuleP;first | (rw [h50];omega) | (simp;omega) | (simp_all;omega))
    ·replace h21:=bT h21
     refine zi O (zz O (zi O (vk H O .h O (zi O (zU O (ct173  fun t26 S hE h26=>?_))))))
     replace H:=H.call hE
     refine vr O O O O (zj O ?_)
     rcases t26 with _|_
     ·replace h26:=bF h26
      refine zL O (zL O (zL O (zL O (zL O (vr O O O O (zj O (zL O (zL O (zL O (vr O O O O (zj O (zL O (zL O (zL O (vr O O O O (zj O (zL O (zL O (zL O (zL O (zL O (vr O O O O (zj O (zN (zh (zP O ?_))))))))))))))))))))))))))
      exact k _ _ H.qx (by unfold RuleP;first | (rw [h50];omega) | (simp;omega) | (simp_all;omega))
     ·replace h26:=bT h26
      refine zi O (zz O (zi O (vk H O .h O (zi O (zz O (zi O (vk H O .h O (zi O (W_leq O O fun t33 h33=>vr O O O O (zj O ?_))))))))))
      rcases t33 with _|_
      ·replace h33:=bF h33
       refine zL O (zL O (zL O (vr O O O O (zj O (zL O (zL O (zL O (vr O O O O (zj O (zL O (zL O (zL O (zL O (zL O (vr O O O O (zj O (zN (zh (zP O ?_)))))))))))))))))))
       exact k _ _ H.qx (by unfold RuleP;first | (rw [h50];omega) | (simp;omega) | (simp_all;omega))
      ·replace h33:=bT h33
       refine zi O (zz O (zi O (vk H O .h O (zi O (zU O (ct157  fun t38 S hE h38=>?_))))))
       replace H:=H.call hE
       refine vr O O O O (zj O ?_)
       rcases t38 with _|_
       ·replace h38:=bF h38
        refine zL O (zL O (zL O (vr O O O O (zj O (zL O (zL O (zL O (zL O (zL O (vr O O O O (zj O (zN (zh (zP O ?_))))))))))))))
        exact k _ _ H.qx (by unfold RuleP;first | (rw [h50];omega) | (simp;omega) | (simp_all;omega))
       ·replace h38:=bT h38
        refine zi O (zz O (zi O (vk H O .h O (zi O (zU O (ct157  fun t43 S hE h43=>?_))))))
        replace H:=H.call hE
        refine vr O O O O (zj O ?_)
        rcases t43 with _|_
        ·replace h43:=bF h43
         refine zL O (zL O (zL O (zL O (zL O (vr O O O O (zj O (zN (zh (zP O ?_)))))))))
         exact k _ _ H.qx (by unfold RuleP;first | (rw [h50];omega) | (simp;omega) | (simp_all;omega))
        ·replace h43:=bT h43
         refine zi O (zz O (zi O (vk H O .h O (zi O (zz O (zi O (vk H O .h O (zi O (W_leq O O fun t50 h50=>vr O O O O (zj O (zN (zh (zP O ?_)))))))))))))
         exact k _ _ H.qx (by unfold RuleP;first | (rw [h50];omega) | (simp;omega) | (simp_all;omega))
theorem ct143  (k:∀ (t:Bool) S',Ext [] S0 S'→(t=true↔¬ RuleP x)→K (.bool t) S') :
  zC 143 #[x.v] S0 K:=by
 refine zGh (sf:=s143) Tryz.func143 fun H=>zR (zBx H O O fun b1 S hb1 hE H=>zj O (vE (zLn (vs:=[_,_,_,_,_,_,_]) H O .h O (zCl O (ct144  fun t4 S hE h4=>?_)))))
 replace H:=H.call hE
 refine zNt O (zj O (zN (zh (zP O ?_))))
 exact k _ _ H.qx (by cases t4<;>simp_all)
theorem ct209 (hs:Sl S0 7 a (z5 rs)) (hl:rs.length≤1099511627776) (k:∀ (r:Int) S',Ext [] S0 S'→(0≤r↔∃ x∈rs,¬ RuleP x)→K (int r) S') :
  zC 209 #[.slice a rs.length cap,.func (.func 143) #[] #[]] S0 K:=by
 refine zGh (sf:=s209) Tryz.func209 fun H=>zR (zj O (zN (vB (zj O (zLl O (zj O (zN (zE ?_))))))))
 refine vj (fun E S m_=>∃ (i:Nat),E=Env.lst [(0,.slice a rs.length cap),(1,.func (.func 143) #[] #[]),(7,int rs.length),(8,int i)]∧Loc [] S0 S []∧(i≤rs.length)∧(∀ r∈rs.take i,RuleP r)∧m_=rs.length-i) ?_ ?_
 ·skip
  refine ⟨_,_,?le,0,O,H,(by omega),(by simp),O⟩
  case le=>exact Env.qle ⟨O,O,O,O,⟨⟩⟩
 ·skip
  rintro _ S _ ⟨i,rfl,H,hi,hp,rfl⟩
  refine zR (za (vq O O fun t9 h9=>zN (zD ?_)))
  rcases t9 with _|_
  ·replace h9:=bF h9
   refine zn O (vh (zK (zK (vp (ze (zR (zj O (zN (zh (zP O ?_))))))))))
   rw [show i=rs.length by omega,List.take_length] at hp
   exact k (-1) _ H.qx ⟨fun h=>by omega,fun ⟨x,h1,h2⟩=>absurd (hp x h1) h2⟩
  ·replace h9:=bT h9
   obtain ⟨x,hx⟩:∃ x,rs[i]? = some x:=⟨rs[i]'(by omega),by simp⟩
   obtain ⟨b,off,rfl,hc⟩:=hs.row i _ (ruleRows_at hx)
   refine zr O (zt (ze (zD (zE (zR (zj O (zj O (vE (zj O (zj O (zj O (zIa O O (za (zV (vs:=[_,_,_,_,_,_,_]) O (H.qx.cells hc) (za (W_callV O O ⟨_,_,_,_,O,Tryz.func143,O,O,ct143 (x:=x) fun t16 S hE h16=>?_⟩))))))))))))))))
   replace H:=H.call hE
   refine zN ?_
   rcases t16 with _|_
   ·replace h16:=bF h16
    refine zn O (zt (z_ (ze (zJ (zAd O O (zj O (zN ?_)))))))
    refine ⟨_,_,?lt,?le,(i+1),O,H,(by omega),(mem_take_succ hx hp (Classical.not_not.1 h16)),O⟩
    case lt=>omega
    case le=>exact Env.qle ⟨O,O,O,O,⟨⟩⟩
   ·replace h16:=bT h16
    refine zr O (zR (zj O (zj O (zN (zh (ve (zw (zw (ve (zw (zP O ?_)))))))))))
    exact k _ _ H.qx ⟨fun _=>⟨x,List.mem_of_getElem? hx,h16⟩,fun _=>by omega⟩
theorem ct142 (hs:Sl S0 7 a (z5 rs)) (hl:rs.length≤1099511627776) (k:∀ (t:Bool) S',Ext [] S0 S'→(t=true↔∃ x∈rs,¬ RuleP x)→K (.bool t) S') :
  zC 142 #[.slice a rs.length cap,.func (.func 143) #[] #[]] S0 K:=by
 refine zGh (sf:=s142) Tryz.func142 fun H=>zR (zj O (vE (zj O (zj O (zCl O (ct209 (hs.mono H.qx) (by omega) fun r7 S hE h7=>?_))))))
 replace H:=H.call hE
 refine za (W_geq O O fun t8 h8=>zj O (zN (zh (zP O ?_))))
 exact k _ _ H.qx (h8.trans h7)
theorem ct62 (hs:Sl S0 7 a (z5 rs)) (hl:rs.length≤1099511627776) (k:∀ (t:Bool) S',Ext [] S0 S'→(t=true↔RulesP rs)→K (.bool t) S') :
  zC 62 #[.slice a rs.length cap] S0 K:=by
 refine zGh (sf:=s62) Tryz.func62 fun H=>zR (zj O (vE (zj O (zLl O (za (W_leq O O fun t5 h5=>zj O ?_))))))
 rcases t5 with _|_
 ·replace h5:=bF h5
  refine zL O (zL O (zL O (vr O O O O (zj O (zN (zh (zP O ?_)))))))
  first | exact k _ _ H.qx ⟨nofun,fun h=>absurd h.1 (by omega)⟩ | exact k _ _ H.qx (by
    cases t8 with
    | true=>exact ⟨nofun,fun h=>by obtain ⟨r,hr,hn⟩:=h8.1 rfl;exact absurd (h.2 r hr) hn⟩
    | false=>exact ⟨fun _=>⟨by omega,fun r hr=>Classical.byContradiction fun hn=>absurd (h8.2 ⟨r,hr,hn⟩) nofun⟩,fun _=>rfl⟩)
 ·replace h5:=bT h5
  refine zi O (vC O (zi O (zU O (ct142 (hs.mono H.qx) (by omega) fun t8 S hE h8=>?_))))
  replace H:=H.call hE
  refine zi O (W_not O (vr O O O O (zj O (zN (zh (zP O ?_))))))
  first | exact k _ _ H.qx ⟨nofun,fun h=>absurd h.1 (by omega)⟩ | exact k _ _ H.qx (by
    cases t8 with
    | true=>exact ⟨nofun,fun h=>by obtain ⟨r,hr,hn⟩:=h8.1 rfl;exact absurd (h.2 r hr) hn⟩
    | false=>exact ⟨fun _=>⟨by omega,fun r hr=>Classical.byContradiction fun hn=>absurd (h8.2 ⟨r,hr,hn⟩) nofun⟩,fun _=>rfl⟩)
theorem ct99 {l m:Bs} (hl:l.length≤1099511627776) (hm:m.length≤1099511627776) (k:∀ b cap S',Ext [] S0 S'→(S0 b=none)→(OwnB S' b 195 5 cap (spanRows (spansO l m)))→K (sl b 0 (spansO l m).length cap) S') :
  zC 99 #[str l,str m] S0 K:=by
 refine zGh (sf:=s99) Tryz.func99 fun H=>zR (zj O (vE (zj O (zCl O (ct35 (by omega) fun b17 cap17 S hE hb17 hO17=>?_)))))
 obtain ⟨cs17,ho17,hn17,hcl17,hct17,_⟩:=hO17
 replace H:=H.adopt hE hb17 ho17
 have hal:lsum (zu l).1+(zu l).2.length=l.length:=lsum_lines 59 l
 have hnl:(zu l).1.length≤l.length:=strLines_len l
 refine zj O (zEx O O (zEx O O (zj O (zj O (vE (zj O (zCl O (ct35 (by omega) fun b22 cap22 S hE hb22 hO22=>?_))))))))
 obtain ⟨cs22,ho22,hn22,hcl22,hct22,_⟩:=hO22
 replace H:=H.adopt hE hb22 ho22
 have hbl:lsum (zu m).1+(zu m).2.length=m.length:=lsum_lines 59 m
 have hnm:(zu m).1.length≤m.length:=strLines_len m
 refine zj O (zEx O O (zEx O O (zj O (zj O (vE (zj O (zLl O (zj O (zLl O (za (W_min2 O O ?_)))))))))))
 obtain ⟨n,hn0⟩:∃ n:Nat,n=min (zu l).1.length (zu m).1.length:=⟨_,rfl⟩
 rw [show min ((zu l).1.length:Int) ((zu m).1.length:Int)=(n:Int) by omega]
 refine zj O (vE (zj O (za (W_mkSlice H O O (Nat.zero_le _) (by omega) (by omega) fun b31 cs31 S hb31 H hE hcl31=>zj O (vE (zj O (zj O (zN (vB (zj O (zj O (zN (zE ?_)))))))))))))
 refine vj (fun E S m_=>∃ (i:Nat) (b10:Nat) (cap10:Nat) (cs10:List Value),E=Env.lst [(5,sl b17 0 (zu l).1.length cap17),(7,sl b22 0 (zu m).1.length cap22),(10,sl b10 0 i cap10),(11,int (lsum ((zu l).1.take i))),(12,int (lsum ((zu m).1.take i))),(32,int n),(33,int i)]∧Loc [] S0 S [(b10,Cs cs10 195),(b22,Cs cs22 9),(b17,Cs cs17 9)]∧(i≤n)∧(i≤cap10)∧(cs10.length=cap10*5)∧(cs10.take (i*5)=(spanRows (pairs ((zu l).1.take i) ((zu m).1.take i))).flatten)∧m_=n-i) ?_ ?_
 ·skip
  refine ⟨_,_,?le,0,b31,n,cs31,O,H,(by omega),(by omega),hcl31,(by simp [pairs,pairsF]),O⟩
  case le=>exact Env.qle ⟨O,O,O,O,O,O,O,⟨⟩⟩
 ·skip
  rintro _ S _ ⟨i,b10,cap10,cs10,rfl,H,hi1,hn,hcl,hct,rfl⟩
  refine zR (za (vq O O fun t34 h34=>zN (zD ?_)))
  rcases t34 with _|_
  ·replace h34:=bF h34
   refine zn O (vh (zK (zK (vp (ze (zR (zj O (zj O (zN (zh (zP O ?_)))))))))))
   have hin:i=n:=by omega
   rw [hin] at hct hn ⊢
   rw [pairs_min hn0] at hct
   have hpl:(spansO l m).length=n:=by rw [hn0];exact pairsF_len 0 0 _ _
   rw [← hpl] at hct hn ⊢
   exact k _ _ _ H.qx (H.new1 .h) ⟨_,H.get .h,by simpa using hn,hcl,by simpa [spansO] using hct,spanRows_five⟩
  ·replace h34:=bT h34
   obtain ⟨x,hx⟩:∃ x,(zu l).1[i]? = some x:=⟨(zu l).1[i]'(by omega),by simp⟩
   obtain ⟨y,hy⟩:∃ y,(zu m).1[i]? = some y:=⟨(zu m).1[i]'(by omega),by simp⟩
   have hx17:=str_at hct17 hx
   have hy22:=str_at hct22 hy
   have hx1:=lsum_take hx
   have hy1:=lsum_take hy
   have hx2:=lsum_take_le (zu l).1 (i+1)
   have hy2:=lsum_take_le (zu m).1 (i+1)
   have hpt:=pairs_take hx hy
   refine zr O (zt (ze (zD (zE (zR (zj O (zj O (zN (zD (vc [] (vI 0 O O O (vI 1 O O O (vI 2 O O O (vI 3 O O O (vM 4 O O (fun _ _ hK=>vl O O (by omega) (by omega) hK) (vi 5 O O (fun S' hS'=>zG fun K hK=>zF O (zH (hS' O) (by simp) (H.cell .h2 hx17)) hK) (vM 6 O O (fun _ _ hK=>vF O hK) (vM 7 O O (fun _ _ hK=>W_add O O (by omega) (by omega) hK) (vM 8 O O (fun _ _ hK=>W_add O O (by omega) (by omega) hK) (vI 9 O O O (vI 10 O O O (vI 11 O O O (vI 12 O O O (vM 13 O O (fun _ _ hK=>vl O O (by omega) (by omega) hK) (vi 14 O O (fun S' hS'=>zG fun K hK=>zF O (zH (hS' O) (by simp) (H.cell .h1 hy22)) hK) (vM 15 O O (fun _ _ hK=>vF O hK) (vM 16 O O (fun _ _ hK=>W_add O O (by omega) (by omega) hK) (vM 17 O O (fun _ _ hK=>W_add O O (by omega) (by omega) hK) ?_))))))))))))))))))))))))))))
   refine vI 18 O O O (vI 19 O O O (vM 20 O O (fun _ _ hK=>vl O O (by omega) (by omega) hK) (vi 21 O O (fun S' hS'=>zG fun K hK=>zF O (zH (hS' O) (by simp) (H.cell .h2 hx17)) hK) (vI 22 O O O (vI 23 O O O (vM 24 O O (fun _ _ hK=>vl O O (by omega) (by omega) hK) (vi 25 O O (fun S' hS'=>zG fun K hK=>zF O (zH (hS' O) (by simp) (H.cell .h1 hy22)) hK) (zCm 26 O O (fun S' _=>zG fun K hK=>W_eqSd O O hK) fun t62 h62=>?_))))))))
   obtain rfl:t62=decide (y=x):=by rw [Bool.eq_iff_iff,h62,decide_eq_true_iff];exact eq_comm
   refine vM 27 O O (fun _ _ hK=>W_build (cs:=[_,_,_,_,_]) O O hK) (zB 28 (by kernel_rfl) O O (zv (W_alloc H O fun b14 S hb14 hE H=>⟨fun _=>hE.up.ext,zB 29 (by kernel_rfl) O O (zv (zSt H O O O .h O fun S hE H=>zLd (zX (ze (zD (vc [] (zLf 0 O O O (vi 1 O O (fun S' hS'=>zG fun K hK=>zF O (zH (hS' O) (by simp) (H.cell .h O)) hK) (zLf 2 O O O (vi 3 O O (fun S' hS'=>zG fun K hK=>zF O (zH (hS' O) (by simp) (H.cell .h O)) hK) (vI 4 O O O (vI 5 O O O (zX (ze (zJ (zj O (zLn (vs:=[_,_,_,_,_]) H O .h O (za (vd (cs:=[_,_,_,_,_]) H O O fun b70 S hb70 hE H=>za (W_append H O O .h2 hcl hn (Src.own H .h O) (by simp [oneCell]) O (by decide) (by omega) O fun b71 cap71 cs71 S hb71 H hE hn71 hcl71 hct71=>zj O (vf (z_ (ze (zJ ?_))))))))))))))))))))))))⟩)))
   refine zAd O O (zj O (zN ?_))
   refine ⟨_,_,?lt,?le,(i+1),b71,cap71,cs71,O,(H.sub (.cons_cons _ (.cons _ (.cons _ (.cons_cons _ (.cons_cons _ .slnil)))))),(by omega),hn71,hcl71,(hct71.trans (by rw [hct,hpt];simp only [spanRows,List.map_append,List.flatten_append,List.map_cons,List.map_nil,List.flatten_cons,List.flatten_nil,List.append_nil])),O⟩
   case lt=>omega
   case le=>exact Env.qle ⟨rfl,rfl,rfl,(by show some (int ((lsum ((zu l).1.take i):Nat)+(x.length:Nat)+1))=_;rw [hx1];congr 2),(by show some (int ((lsum ((zu m).1.take i):Nat)+(y.length:Nat)+1))=_;rw [hy1];congr 2),rfl,rfl,trivial⟩
end
section
variable {S0:St} {K:Value→St→Prop}
variable {q:Int} {sp:List Span} {b1 b2 c i:Nat} {a:Option Addr} {x:Span}
theorem ct185 {n:Nat} {v:Value} {p:Nat→Prop} (hn:n≤1099511627776) (hf:∀ (i:Nat) S,i<n→Ext [] S0 S→∀ K:Value→St→Prop,(∀ (t:Bool) S',Ext [] S S'→(t=true↔p i)→K (.bool t) S')→CallV Tryz.prog v [int i] S K) (hm:∀ i j:Nat,i≤j→j<n→p i→p j) (k:∀ (r:Nat) S',Ext [] S0 S'→(r≤n)→(∀ i:Nat,i<r→¬ p i)→(∀ i:Nat,r≤i→i<n→p i)→K (int r) S') :
  zC 185 #[int n,v] S0 K:=by
 refine zGh (sf:=s185) Tryz.func185 fun H=>zR (zj O (vE (zj O (zj O (zj O (zN (zD (zE ?_))))))))
 refine vj (fun E S m_=>∃ (i:Nat) (j:Nat),E=Env.lst [(1,v),(5,int i),(6,int j)]∧Loc [] S0 S []∧(i≤j)∧(j≤n)∧(∀ k:Nat,k<i→¬ p k)∧(∀ k:Nat,j≤k→k<n→p k)∧m_=j-i) ?_ ?_
 ·skip
  refine ⟨_,_,?le,0,n,O,H,(by omega),(by omega),(fun k h=>absurd h (by omega)),(fun k h1 h2=>absurd h2 (by omega)),O⟩
  case le=>exact Env.qle ⟨O,O,O,⟨⟩⟩
 ·skip
  rintro _ S _ ⟨i,j,rfl,H,hij,hjn,h1,h2,rfl⟩
  refine vB (zj O (zj O (za (vq O O fun t11 h11=>zN ?_))))
  rcases t11 with _|_
  ·replace h11:=bF h11
   refine zn O (vh (zK (zK (vp (ze (zR (zj O (zj O (zN (zh (zP O ?_)))))))))))
   obtain rfl:i=j:=by omega
   exact k i _ H.qx hjn h1 h2
  ·replace h11:=bT h11
   refine zr O (zt (ze (zE (zR (zj O (zj O (zAd O O (za (W_conv (m:=((i+j:Nat):Int)) O (by rw [wrapu64_in (by omega) (by omega)];simp) (za (W_shrU (j:=1) (m:=2) O O (by decide) (by decide) (za (W_conv (m:=(((i+j) / 2:Nat):Int)) O (wrap64_in (by omega) (by omega)) (zj O (vE (zj O (zj O (za (W_callV O O (hf _ _ (by omega) H.qx _ fun t20 S hE h20=>?_))))))))))))))))))))
   replace H:=H.call hE
   refine zNt O (zN ?_)
   rcases t20 with _|_
   ·replace h20:=bF h20
    refine zr O (zJ (zj O (zAd O O (zj O (vf (z_ (ze ?_)))))))
    refine ⟨_,_,?lt,?le,((i+j) / 2+1),j,O,H,(by omega),(by omega),(fun k hk hp=>h20 (hm k _ (by omega) (by omega) hp)),h2,O⟩
    case lt=>omega
    case le=>exact Env.qle ⟨O,O,O,⟨⟩⟩
   ·replace h20:=bT h20
    refine zn O (zJ (zj O (zj O (vf (z_ (ze ?_))))))
    refine ⟨_,_,?lt,?le,i,((i+j) / 2),O,H,(by omega),(by omega),h1,(fun k hk1 hk2=>hm _ k hk1 hk2 h20),O⟩
    case lt=>omega
    case le=>exact Env.qle ⟨O,O,O,⟨⟩⟩
theorem ct206 (h1:S0 b1=some ⟨Cs [.slice a sp.length c] 124,true⟩) (h2:S0 b2=some ⟨Cs [int q] 3,true⟩) (hs:Sl S0 5 a (spanRows sp)) (hx:sp[i]? = some x) (k:∀ (t:Bool) S',Ext [] S0 S'→(t=true↔q<x.t)→K (.bool t) S') :
  zC 206 #[int i,ptr b1 0,ptr b2 0] S0 K:=by
 refine zGh (sf:=s206) Tryz.func206 fun H=>?_
 have hi:=(List.getElem?_eq_some_iff.1 hx).1
 obtain ⟨b,off,rfl,hc⟩:=hs.row i _ (spanRows_at hx)
 refine zR (zj O (zN (zD (vc [] (vi 0 O O (fun S' hS'=>zG fun K hK=>zF O (zH (hS' O) (by simp) (cell_of (H.qx.get h1) O)) hK) (vI 1 O O O (vM 2 O O (fun _ _ hK=>vl O O (by omega) (by omega) hK) (zLf 3 O O O (vi 4 O O (fun S' hS'=>zG fun K hK=>zF O (zH (hS' O) (by simp) (vv (i:=1) (H.qx.cells hc) O)) hK) (vi 5 O O (fun S' hS'=>zG fun K hK=>zF O (zH (hS' O) (by simp) (cell_of (H.qx.get h2) O)) hK) (zCm 6 O O (fun S' _=>zG fun K hK=>W_bin O O O hK) fun t11 h11=>vI 7 O O O (zX (ze (zh (zP O ?_)))))))))))))))
 exact k _ _ H.qx (h11.trans Iff.rfl)
theorem ct186 (h1:S0 b1=some ⟨Cs [.slice a sp.length c] 124,true⟩) (h2:S0 b2=some ⟨Cs [int q] 3,true⟩) (hs:Sl S0 5 a (spanRows sp)) (hx:sp[i]? = some x) (k:∀ (t:Bool) S',Ext [] S0 S'→(t=true↔q<x.ot)→K (.bool t) S') :
  zC 186 #[int i,ptr b1 0,ptr b2 0] S0 K:=by
 refine zGh (sf:=s186) Tryz.func186 fun H=>?_
 have hi:=(List.getElem?_eq_some_iff.1 hx).1
 obtain ⟨b,off,rfl,hc⟩:=hs.row i _ (spanRows_at hx)
 refine zR (zj O (zN (zD (vc [] (vi 0 O O (fun S' hS'=>zG fun K hK=>zF O (zH (hS' O) (by simp) (cell_of (H.qx.get h1) O)) hK) (vI 1 O O O (vM 2 O O (fun _ _ hK=>vl O O (by omega) (by omega) hK) (zLf 3 O O O (vi 4 O O (fun S' hS'=>zG fun K hK=>zF O (zH (hS' O) (by simp) (vv (i:=3) (H.qx.cells hc) O)) hK) (vi 5 O O (fun S' hS'=>zG fun K hK=>zF O (zH (hS' O) (by simp) (cell_of (H.qx.get h2) O)) hK) (zCm 6 O O (fun S' _=>zG fun K hK=>W_bin O O O hK) fun t11 h11=>vI 7 O O O (zX (ze (zh (zP O ?_)))))))))))))))
 exact k _ _ H.qx (h11.trans Iff.rfl)
theorem ct132 (hs:Sl S0 5 a (spanRows sp)) (hl:sp.length≤1099511627776) (hsm:SpM sp) (k:∀  S',Ext [] S0 S'→K (int (outD 0 sp q)) S') :
  zC 132 #[.slice a sp.length c,int q] S0 K:=by
 refine zGh (sf:=s132) Tryz.func132 fun H=>zR (zBx H O O fun b2 S hb2 hE H=>zBx H O O fun b3 S hb3 hE H=>zj O (vE (zL1 H O .h1 O (zLl O (za (W_mkFunc O O ?_))))))
 refine za (zU O (ct185 (p:=fun i=>∀ x,sp[i]? = some x→q<x.t) (by omega) (fun i S1 hi hE1 K k=>⟨_,_,_,_,O,Tryz.func206,O,O,ct206 (sp:=sp) (hE1.get (H.get .h1)) (hE1.get (H.get .h)) ((hs.mono H.qx).mono hE1) (List.getElem?_eq_getElem hi) fun t S2 hE2 ht=>k t S2 hE2 (ht.trans ⟨fun h x hx=>by rw [List.getElem?_eq_getElem hi] at hx;cases hx;exact h,fun h=>h _ (List.getElem?_eq_getElem hi)⟩)⟩) (fun i j hij hj hp y hy=>by
  obtain ⟨x,hx⟩:∃ x,sp[i]? = some x:=⟨sp[i]'(by omega),by simp⟩
  have h1:=hp x hx
  have h2:=hsm i j x y hx hy hij
  omega) fun r9 S hE hr9 hlo9 hhi9=>?_))
 replace H:=H.call hE
 have hlo:∀ i x,i<r9→sp[i]? = some x→¬ q<x.t:=fun i x hi hx hq=>hlo9 i hi fun y hy=>by rw [hx] at hy;cases hy;exact hq
 refine zj O (zN (zD (zE (zR (zj O (zL1 H O .h1 O (zLl O (za (vq O O fun t14 h14=>zj O (zN ?_))))))))))
 rcases t14 with _|_
 ·replace h14:=bF h14
  refine zn O (zR (zj O (za (W_gtr O O fun t22 h22=>zj O (zN ?_)))))
  rcases t22 with _|_
  ·replace h22:=bF h22
   refine zn O (zt (z_ (ze (zR (zj O (zN (zh (zP O ?_))))))))
   rw [outD_none (by omega)] at k
   exact k _ H.qx
  ·replace h22:=bT h22
   obtain ⟨x,hx⟩:∃ x,sp[r9-1]? = some x:=⟨sp[r9-1]'(by omega),by simp⟩
   obtain ⟨b,off,rfl,hc⟩:=hs.row (r9-1) _ (spanRows_at hx)
   have e1:((r9:Int)-1).toNat=r9-1:=by omega
   refine zr O (zR (zL1 H O .h1 O (zj O (zSb O O (zIa O O (vw O (za (zF O (vv (i:=3) (H.qx.cells (by rw [e1];exact hc)) O) (zj O (zN (zh (ve (zw (zP O ?_))))))))))))))
   rw [outD_last hlo (by omega) (by omega) hx] at k
   exact k _ H.qx
 ·replace h14:=bT h14
  obtain ⟨x,hx⟩:∃ x,sp[r9]? = some x:=⟨sp[r9]'(by omega),by simp⟩
  obtain ⟨b,off,rfl,hc⟩:=hs.row r9 _ (spanRows_at hx)
  have hqx:=hhi9 r9 (Nat.le_refl _) (by omega) x hx
  refine zr O (zR (zL1 H O .h1 O (zj O (zIa O O (vw O (za (zF O (vv (i:=2) (H.qx.cells hc) O) (zj O (zN (zh (ve (zw (zP O ?_)))))))))))))
  rw [outD_at hlo hx hqx] at k
  exact k _ H.qx
theorem ct100 (hs:Sl S0 5 a (spanRows sp)) (hl:sp.length≤1099511627776) (hq:-1099511627776≤q∧q≤1099511627776) (hb:∀ x∈sp,(0≤x.f∧x.f≤4398046511104)∧(0≤x.oa∧x.oa≤4398046511104)) (hsm:SpM sp) (k:∀  S',Ext [] S0 S'→K (int (backD 0 sp q)) S') :
  zC 100 #[.slice a sp.length c,int q] S0 K:=by
 refine zGh (sf:=s100) Tryz.func100 fun H=>zR (zBx H O O fun b2 S hb2 hE H=>zBx H O O fun b3 S hb3 hE H=>zj O (vE (zL1 H O .h1 O (zLl O (za (W_mkFunc O O ?_))))))
 refine za (zU O (ct185 (p:=fun i=>∀ x,sp[i]? = some x→q<x.ot) (by omega) (fun i S1 hi hE1 K k=>⟨_,_,_,_,O,Tryz.func186,O,O,ct186 (sp:=sp) (hE1.get (H.get .h1)) (hE1.get (H.get .h)) ((hs.mono H.qx).mono hE1) (List.getElem?_eq_getElem hi) fun t S2 hE2 ht=>k t S2 hE2 (ht.trans ⟨fun h x hx=>by rw [List.getElem?_eq_getElem hi] at hx;cases hx;exact h,fun h=>h _ (List.getElem?_eq_getElem hi)⟩)⟩) (fun i j hij hj hp y hy=>by
  obtain ⟨x,hx⟩:∃ x,sp[i]? = some x:=⟨sp[i]'(by omega),by simp⟩
  have h1:=hp x hx
  have h2:=hsm i j x y hx hy hij
  omega) fun r9 S hE hr9 hlo9 hhi9=>?_))
 replace H:=H.call hE
 have hlo:∀ i x,i<r9→sp[i]? = some x→¬ q<x.ot:=fun i x hi hx hq=>hlo9 i hi fun y hy=>by rw [hx] at hy;cases hy;exact hq
 refine zj O (zN (zD (zE (zD (vc [] (vI 0 O O O (vi 1 O O (fun S' hS'=>zG fun K hK=>zF O (zH (hS' O) (by simp) (H.cell .h1 O)) hK) (vM 2 O O (fun _ _ hK=>W_lenL O hK) (zCm 3 O O (fun S' _=>zG fun K hK=>W_bin O O O hK) fun t14 h14=>vI 4 O O O ?_)))))))))
 rcases t14 with _|_
 ·replace h14:=bF h14
  refine vi 5 O O (fun S' _=>z9 O (by decide)) (vi 6 O O (fun S' _=>z9 O (by decide)) (vi 7 O O (fun S' _=>z9 O (by decide)) (vi 8 O O (fun S' _=>z9 O (by decide)) (vi 9 O O (fun S' _=>z9 O (by decide)) (vM 10 O O (fun _ _ hK=>vG O O O O hK) (vI 11 O O O (vi 12 O O (fun S' _=>z9 O (by decide)) (vi 13 O O (fun S' _=>z9 O (by decide)) (vi 14 O O (fun S' _=>z9 O (by decide)) (vi 15 O O (fun S' _=>z9 O (by decide)) (vi 16 O O (fun S' _=>z9 O (by decide)) (vi 17 O O (fun S' _=>z9 O (by decide)) (vi 18 O O (fun S' _=>z9 O (by decide)) (vM 19 O O (fun _ _ hK=>vG O O O O hK) (vI 20 O O O (zX (ze (zn O (zR (zj O (zL1 H O .h1 O (zLl O (za (vq O O fun t48 h48=>zj O (zN ?_)))))))))))))))))))))))))
  rcases t48 with _|_
  ·replace h48:=bF h48
   refine zn O (zR (zj O (za (W_gtr O O fun t56 h56=>zj O (zN ?_)))))
   rcases t56 with _|_
   ·replace h56:=bF h56
    refine zn O (zt (z_ (ze (zR (zj O (zN (zh (zP O ?_))))))))
    rw [backD_none (by omega)] at k
    exact k _ H.qx
   ·replace h56:=bT h56
    obtain ⟨x,hx⟩:∃ x,sp[r9-1]? = some x:=⟨sp[r9-1]'(by omega),by simp⟩
    obtain ⟨b,off,rfl,hc⟩:=hs.row (r9-1) _ (spanRows_at hx)
    have e1:((r9:Int)-1).toNat=r9-1:=by omega
    refine zr O (zR (zL1 H O .h1 O (zj O (zSb O O (zIa O O (vw O (za (zF O (vv (i:=1) (H.qx.cells (by rw [e1];exact hc)) O) (zj O (zN (zh (ve (zw (zP O ?_))))))))))))))
    rw [backD_last hlo (by omega) (by omega) hx] at k
    exact k _ H.qx
  ·replace h48:=bT h48
   exact absurd h48 (by omega)
 ·replace h14:=bT h14
  obtain ⟨⟨xf,xt,xoa,xot,xpl⟩,hx⟩:∃ x,sp[r9]? = some x:=⟨sp[r9]'(by omega),by simp⟩
  obtain ⟨b,off,rfl,hc⟩:=hs.row r9 _ (spanRows_at hx)
  have hqx:=hhi9 r9 (Nat.le_refl _) (by omega) _ hx
  have hpl:xpl=true↔xpl=true:=Iff.rfl
  have hbx:=hb _ (List.mem_of_getElem? hx)
  simp only at hqx hbx
  refine vi 5 O O (fun S' hS'=>vg O fun K hK=>zF O (zH (hS' O) (by simp) (H.cell .h1 O)) hK) (vi 6 O O (fun S' _=>vg O fun K hK=>vC O hK) (vi 7 O O (fun S' _=>vg O fun K hK=>vl O O (by omega) (by omega) hK) (vi 8 O O (fun S' _=>vg O fun K hK=>zz O hK) (vi 9 O O (fun S' hS'=>vg O fun K hK=>zF O (zH (hS' O) (by simp) (vv (i:=4) (v:=.bool xpl) (H.qx.cells hc) O)) hK) (vM 10 O O (fun _ _ hK=>vG O O O O hK) (vI 11 O O O ?_))))))
  rcases xpl with _|_
  ·replace hpl:=bF hpl
   refine vi 12 O O (fun S' _=>z9 O (by decide)) (vi 13 O O (fun S' _=>z9 O (by decide)) (vi 14 O O (fun S' _=>z9 O (by decide)) (vi 15 O O (fun S' _=>z9 O (by decide)) (vi 16 O O (fun S' _=>z9 O (by decide)) (vi 17 O O (fun S' _=>z9 O (by decide)) (vi 18 O O (fun S' _=>z9 O (by decide)) (vM 19 O O (fun _ _ hK=>vG O O O O hK) (vI 20 O O O (zX (ze (zn O (zR (zj O (zL1 H O .h1 O (zLl O (za (vq O O fun t48 h48=>zj O (zN ?_))))))))))))))))))
   rcases t48 with _|_
   ·replace h48:=bF h48
    exact absurd (by omega) h48
   ·replace h48:=bT h48
    refine zr O (zR (zL1 H O .h1 O (zj O (zIa O O (vw O (za (zF O (vv (i:=0) (v:=int xf) (H.qx.cells hc) O) (zj O (zN (zh (ve (zw (zP O ?_)))))))))))))
    rw [backD_at hlo hx hqx,if_neg (by first | exact fun h=>h29 h.2 | (intro h;exact absurd h.1 (by simp)))] at k
    exact k _ H.qx
  ·replace hpl:=bT hpl
   refine vi 12 O O (fun S' hS'=>vg O fun K hK=>zF O (zH (hS' O) (by simp) (H.cell .h O)) hK) (vi 13 O O (fun S' hS'=>vg O fun K hK=>zF O (zH (hS' O) (by simp) (H.cell .h1 O)) hK) (vi 14 O O (fun S' _=>vg O fun K hK=>vC O hK) (vi 15 O O (fun S' _=>vg O fun K hK=>vl O O (by omega) (by omega) hK) (vi 16 O O (fun S' _=>vg O fun K hK=>zz O hK) (vi 17 O O (fun S' hS'=>vg O fun K hK=>zF O (zH (hS' O) (by simp) (vv (i:=2) (v:=int xoa) (H.qx.cells hc) O)) hK) (zCm 18 O O (fun S' _=>vg O fun K hK=>W_bin O O O hK) fun t29 h29=>vM 19 O O (fun _ _ hK=>vG O O O O hK) (vI 20 O O O (zX (ze ?_)))))))))
   rcases t29 with _|_
   ·replace h29:=bF h29
    refine zn O (zR (zj O (zL1 H O .h1 O (zLl O (za (vq O O fun t48 h48=>zj O (zN ?_)))))))
    rcases t48 with _|_
    ·replace h48:=bF h48
     exact absurd (by omega) h48
    ·replace h48:=bT h48
     refine zr O (zR (zL1 H O .h1 O (zj O (zIa O O (vw O (za (zF O (vv (i:=0) (v:=int xf) (H.qx.cells hc) O) (zj O (zN (zh (ve (zw (zP O ?_)))))))))))))
     rw [backD_at hlo hx hqx,if_neg (by first | exact fun h=>h29 h.2 | (intro h;exact absurd h.1 (by simp)))] at k
     exact k _ H.qx
   ·replace h29:=bT h29
    refine zr O (zD (vc [] (vi 0 O O (fun S' hS'=>zG fun K hK=>zF O (zH (hS' O) (by simp) (H.cell .h1 O)) hK) (vI 1 O O O (vM 2 O O (fun _ _ hK=>vl O O (by omega) (by omega) hK) (zLf 3 O O O (vi 4 O O (fun S' hS'=>zG fun K hK=>zF O (zH (hS' O) (by simp) (vv (i:=0) (v:=int xf) (H.qx.cells hc) O)) hK) (vi 5 O O (fun S' hS'=>zG fun K hK=>zF O (zH (hS' O) (by simp) (H.cell .h O)) hK) (vM 6 O O (fun _ _ hK=>W_add O O (by omega) (by omega) hK) (vi 7 O O (fun S' hS'=>zG fun K hK=>zF O (zH (hS' O) (by simp) (H.cell .h1 O)) hK) (vI 8 O O O (vM 9 O O (fun _ _ hK=>vl O O (by omega) (by omega) hK) (zLf 10 O O O (vi 11 O O (fun S' hS'=>zG fun K hK=>zF O (zH (hS' O) (by simp) (vv (i:=2) (v:=int xoa) (H.qx.cells hc) O)) hK) (vM 12 O O (fun _ _ hK=>W_sub O O (by omega) (by omega) hK) (vI 13 O O O (zX (ze (zh (ve (zw (zP O ?_))))))))))))))))))))))
    rw [backD_at hlo hx hqx,if_pos ⟨rfl,h29⟩] at k
    exact k _ H.qx
theorem ct38 {l m:Bs} (hl:l.length≤1099511627776) (hm:m.length≤1099511627776) (hq:-1099511627776≤q∧q≤1099511627776) (k:∀  S',Ext [] S0 S'→K (int (backD 0 (spansO l m) q)) S') :
  zC 38 #[str l,str m,int q] S0 K:=by
 refine zGh (sf:=s38) Tryz.func38 fun H=>zR (zj O (vE (zj O (zj O (zCl O (ct99 (by omega) (by omega) fun b9 cap9 S hE hb9 hO9=>?_))))))
 replace H:=H.call hE
 refine zj O (zCl O (ct100 hO9.sl (by have:=spansO_len l m;omega) hq (spansO_ok (by omega) (by omega)) (SpM_spansO l m) fun S hE =>?_))
 replace H:=H.call hE
 refine zj O (zN (zh (zP O ?_)))
 exact k _ H.qx
end
section
open Go
def encB (n:Nat):List UInt8:=(Utf8.encode (n:Int)).data.toList
theorem enc_all:(List.range 256).all (fun n=>decide (encB n=[59])==decide (n=59))=true:=by decide +kernel
theorem enc_t1 (n:Nat) (hn:n<256):(decide (encB n=[59])==decide (n=59))=true:=List.all_eq_true.1 enc_all n (List.mem_range.2 hn)
theorem enc_t2 (n:Nat) (hn:n<256):encB n=[59]↔n=59:=by
 have h:=enc_t1 n hn
 by_cases h1:encB n=[59]<;>by_cases h2:n=59<;>simp_all
theorem enc_c (c:UInt8):encB c.toNat=[59]↔c.toNat=59:=by
 have hlt:c.toNat<256:=c.toNat_lt
 generalize c.toNat=n at hlt ⊢
 exact enc_t2 n hlt
theorem ba_back (b:ByteArray) (l:List UInt8) (h:l=b.data.toList):(⟨l.toArray⟩:ByteArray)=b:=by subst h;rw [Array.toArray_toList]
theorem encB_eq (n:Nat):(⟨(encB n).toArray⟩:ByteArray)=Utf8.encode (n:Int):=ba_back _ _ (encB.eq_1 n)
theorem W_runeStr {P:Program} {E:Env} {S:St} {K:Value→St→Prop} {src dst ty:TypeId} {kd:IntKind} {x:Operand} {c:UInt8} (hs:P.underlying src=some (.int kd)) (hd:P.underlying dst=some .string) (hx:E.ev x=some (.int .i32 c.toNat)) (k:∀ l:List UInt8,(l=[59]↔c.toNat=59)→K (.string ⟨l.toArray⟩) S):(SOp.raw (.convert src dst x) ty).W P E S K:=by
 have h2:=k (encB c.toNat) (enc_c c)
 rw [encB_eq] at h2
 refine .mk fun ρ hρ=>?_
 have h1:=hρ x (by simp [Op.operands]) _ hx
 simp only [execOp,h1,convert,zy,zO hs,zO hd,Conv.intToString,zA,UponS]
 exact h2
end
section
open Go
theorem W_send {P:Program} {E:Env} {S:St} {K:Value→St→Prop} {ty:TypeId} {x y:Operand} {c:Nat} {v:Value} {vs:List Value} (hx:E.ev x=some (.chan (some c))) (hy:E.ev y=some v) (hg:S.g=.sends c (v::vs)) (k:K undef {S with g:=.sends c vs}):(SOp.raw (.send x y) ty).W P E S K:=
 .comm fun ρ hρ=>⟨c,v,vs,hρ x (by simp [Op.operands]) _ hx,hρ y (by simp [Op.operands]) _ hy,hg,k⟩
theorem Loc.sent {X:List Nat} {S0 S:St} {L:List (Nat × Obj)} (H:Loc X S0 S L) (g:Gh):Loc X {S0 with g:=g} {S with g:=g} L:=
 ⟨⟨rfl,H.g.keep,H.g.ro,H.g.new⟩,H.ext,H.own,H.fresh,H.nodup⟩
theorem Loc.quiet {X:List Nat} {S0 S:St} {L:List (Nat × Obj)} (H:Loc X S0 S L) {g:Gh} (hg:S0.g=g):Loc X {S0 with g:=g} S L:=
 ⟨⟨H.g.eq.trans hg,H.g.keep,H.g.ro,H.g.new⟩,H.ext,H.own,H.fresh,H.nodup⟩
theorem Glob.ne {S:St} (h:Glob S) {b:Nat} (hb:S b=none):b∉[1,2,4]:=by
 obtain ⟨t,a,e1⟩:=h.e1
 obtain ⟨t2,a2,e2⟩:=h.e2
 have e4:=h.p2
 intro hm
 simp only [List.mem_cons,List.not_mem_nil,or_false] at hm
 rcases hm with rfl | rfl | rfl
 ·simp [St.cell?,hb] at e1
 ·simp [St.cell?,hb] at e2
 ·simp [St.cell?,hb] at e4
theorem Glob.qy {S S':St} (h:Glob S) {n:Nat} (he:Ext [n] S S') (hn:n∉[1,2,4]):Glob S':=by
 simp only [List.mem_cons,List.not_mem_nil,or_false,not_or] at hn
 obtain ⟨t,a,e1⟩:=h.e1
 obtain ⟨t2,a2,e2⟩:=h.e2
 exact ⟨zH he.ext (by simp;omega) h.p2,zH he.ext (by simp;omega) h.p3,⟨t,a,zH he.ext (by simp;omega) e1⟩,⟨t2,a2,zH he.ext (by simp;omega) e2⟩⟩
theorem Sl.sent {S:St} {k:Nat} {a:Option Addr} {rows:List (List Value)} (h:Sl S k a rows) (g:Gh):Sl {S with g:=g} k a rows:=⟨h.row,h.base⟩
theorem cutS_len (s:Seg) (far:Bs):∀ n a,far.length-a≤n→(cutS s far a).length≤n:=by
 intro n
 induction n with
 | zero=>intro a h;rw [cutS_end (by omega)];simp
 | succ n ih=>
  intro a h
  by_cases h1:a<far.length
  ·rw [cutS_step h1]
   have:=ih (a+12) (by omega)
   simp;omega
  ·rw [cutS_end h1];simp
theorem cutO_len (s:Seg) (far:Bs) (a:Nat):(cutO s far a).length≤far.length+1:=by
 unfold cutO
 split
 ·have:=cutS_len s far far.length a (by omega);omega
 ·simp
theorem says_len {l:Bs} {e:End} (h:says l=some e):8≤l.length:=by
 unfold says at h
 obtain ⟨x,hx,_⟩:=Option.bind_eq_some_iff.1 h
 unfold said at hx
 split at hx
 ·rename_i hp
  have h1:=rd_spec hx
  have h2:=hp.length_le
  have h3:l.drop 5=eTxt x.a x.p:=h1.2
  have h4:=congrArg List.length h3
  have h5:=dig_pos x.a.toNat
  have h6:=dig_pos x.p.toNat
  have h7:PORT.length=5:=rfl
  unfold eTxt at h4
  simp at h4
  omega
 ·cases hx
theorem putP_bd {es:List End} {e:End} (h:es.length≤6):0≤putP es e∧putP es e≤506:=by
 unfold putP portE
 split
 ·rename_i hm;have:=List.idxOf_lt_length_of_mem hm;omega
 ·split<;>omega
theorem line_len {p:Int} (h:0≤p∧p≤9999):(⟨50,p⟩:End).line.length≤12:=by
 unfold End.line
 split
 ·have h1:(dig p.toNat).length≤4:=dig_le4 (by omega)
  have h2:dig (50:Int).toNat=[53,48]:=by decide +kernel
  unfold End.txt eTxt
  simp only [List.length_append,h2]
  have:PORT.length=5:=rfl
  simp;omega
 ·simp
theorem lineOut_grow {es:List End} {l:Bs} (h:es.length≤6):2*((lineOut es l).2.length+1)≤3*(l.length+1):=by
 unfold lineOut
 split
 ·show 2*(l.length+1)≤3*(l.length+1);omega
 ·rename_i e he
  have h1:=says_len he
  simp only
  split
  ·have:NONE.length=4:=rfl
   omega
  ·have:=line_len (p:=putP es e) (by have:=putP_bd (e:=e) h;omega)
   omega
theorem linesOut_grow {es:List End} (ls:List Bs) (h:es.length≤6):2*(linesOut es ls).2.length≤3*lsum ls:=by
 induction ls generalizing es with
 | nil=>simp [linesOut]
 | cons l ls ih=>
  have h1:=lineOut_grow (l:=l) h
  have h2:=ih (lineOut_len6 l h)
  simp only [linesOut,List.length_append,List.length_cons,List.length_nil,lsum,List.map_cons,List.sum_cons] at h2 ⊢
  omega
theorem streamO_grow {es:List End} {l:Bs} (h:es.length≤6) (hl:l.length≤120):(streamO es l).2.length≤180:=by
 have h1:=linesOut_grow (es:=es) (zu l).1 h
 have h2:=lsum_lines 59 l
 unfold streamO
 simp only [zu] at *
 omega
theorem pairsF_pl (a b:Nat) (ls ms:List Bs):∀ x∈pairsF a b ls ms,x.pl=true→x.t-x.f=x.ot-x.oa:=by
 induction ls generalizing a b ms with
 | nil=>simp [pairsF]
 | cons l ls ih=>
  cases ms with
  | nil=>simp [pairsF]
  | cons m ms=>
   intro x hx hp
   simp only [pairsF,List.mem_cons] at hx
   rcases hx with rfl | hx
   ·simp only [decide_eq_true_eq] at hp
    subst hp
    simp only;omega
   ·exact ih _ _ _ x hx hp
theorem backD_bd {B:Int}:∀ {sp:List Span} {n a:Int},(0≤n∧n≤B)→(∀ x∈sp,(0≤x.f∧x.f≤x.t∧x.t≤B)∧(x.pl=true→x.t-x.f=x.ot-x.oa))→0≤backD n sp a∧backD n sp a≤B:=by
 intro sp
 induction sp with
 | nil=>intro n a h _;exact h
 | cons x sp ih=>
  intro n a h hx
  have h1:=hx x (by simp)
  simp only [backD]
  split
  ·exact ih (by omega) fun y hy=>hx y (by simp [hy])
  ·split
   ·rename_i h2;have:=h1.2 h2.1;omega
   ·omega
theorem backO_bd (l m:Bs) (a:Int):0≤backD 0 (spansO l m) a∧backD 0 (spansO l m) a≤l.length:=
 backD_bd (by omega) fun x hx=>⟨by have:=spansO_bd l m x hx;omega,pairsF_pl 0 0 _ _ x hx⟩
open Classical in
noncomputable def vt (l:Bs) (s:Seg):Bs:=if StrP (grown l s) then grown l s else l
theorem addedS_ok {l:Bs} {s:Seg} (h:StrP l):StrP (vt l s):=by
 unfold vt;split
 ·assumption
 ·exact h
theorem StrP.lines {l:Bs} (h:StrP l):∀ y∈(zu l).1,y.length≤18:=fun y hy=>by have:=(h.1 y hy).2;omega
theorem setl_one {cs:List Value} {p:Nat} {v:Value} (h:p<cs.length):setl cs p [v]=cs.set p v:=by
 unfold setl
 apply List.ext_getElem?
 intro q
 simp only [List.length_cons,List.length_nil,List.append_assoc]
 rw [List.getElem?_append,List.getElem?_set]
 have hl:(cs.take p).length=p:=by simp;omega
 by_cases h1:q<p
 ·rw [if_pos (by omega),List.getElem?_take,if_pos h1,if_neg (by omega)]
 ·rw [if_neg (by omega),hl]
  by_cases h2:p=q
  ·subst h2
   simp [h]
  ·rw [if_neg h2,List.getElem?_append,if_neg (by simp;omega),List.getElem?_drop]
   congr 1
   simp;omega
theorem row_cell {k i j:Nat} {cs:List Value} {rows:List (List Value)} {r:List Value} {v:Value} (h:cs.take (rows.length*k)=rows.flatten) (hk:∀ r∈rows,r.length=k) (hr:rows[i]? = some r) (hj:j<k):(setl cs (i*k+j) [v]).take (rows.length*k)=(rows.set i (r.set j v)).flatten:=by
 have hi:=(List.getElem?_eq_some_iff.1 hr).1
 have hrl:=hk r (List.mem_of_getElem? hr)
 have hle:i*k+k≤rows.length*k:=by
  have:=Nat.mul_le_mul_right k (show i+1≤rows.length by omega)
  rw [Nat.add_mul] at this;omega
 have hcl:rows.length*k≤cs.length:=by
  have:=congrArg List.length h
  rw [List.length_take,flat_len hk] at this;omega
 have hsub:subl cs (i*k) k=some r:=by have:=row_sub h hk hr;rwa [Nat.zero_add] at this
 have hsb:i*k+k≤cs.length∧(cs.drop (i*k)).take k=r:=by
  unfold subl at hsub
  split at hsub
  ·exact ⟨by assumption,Option.some.inj hsub⟩
  ·cases hsub
 have e:setl cs (i*k+j) [v]=setl cs (i*k) (r.set j v):=by
  rw [setl_one (by omega)]
  unfold setl
  apply List.ext_getElem?
  intro q
  have hl:(cs.take (i*k)).length=i*k:=by simp;omega
  simp only [List.append_assoc,List.length_set,hrl]
  rw [List.getElem?_append,List.getElem?_set,hl]
  by_cases h1:q<i*k
  ·rw [if_neg (by omega),if_pos h1,List.getElem?_take,if_pos h1]
  ·rw [if_neg h1,List.getElem?_append,List.length_set,hrl]
   by_cases h2:q-i*k<k
   ·rw [if_pos h2,List.getElem?_set]
    by_cases h3:i*k+j=q
    ·rw [if_pos h3,if_pos (by omega),if_pos (by omega),if_pos (by omega)]
    ·rw [if_neg h3,if_neg (by omega),← hsb.2,List.getElem?_take,if_pos h2,List.getElem?_drop]
     congr 1;omega
   ·rw [if_neg h2,if_neg (by omega),List.getElem?_drop]
    congr 1;omega
 rw [e]
 have h9:=row_setl (r:=r.set j v) h hk (by rw [List.length_set];exact hrl) hi
 rw [Nat.zero_add,List.length_set] at h9
 exact h9
end
section
variable {S0:St} {K:Value→St→Prop}
variable {l:Bs} {s:Seg}
theorem wrapi32_in {n:Int} (h0:0≤n) (h1:n≤255):IntKind.i32.wrap n=n:=by
 simp only [IntKind.wrap,IntKind.signed,IntKind.bits,Bool.true_and]
 have e:n.emod (2 ^ 32)=n:=Int.emod_eq_of_lt h0 (by omega)
 (simp only [show n % 2 ^ 32=n from e];simp;omega)
theorem ct31 (hl:s.dt.length≤1099511627776) (k:∀ (t:Bool) S',Ext [] S0 S'→(t=true↔SegP s)→K (.bool t) S') :
  zC 31 #[s.v] S0 K:=by
 refine zGh (sf:=s31) Tryz.func31 fun H=>zR (zBx H O O fun b1 S hb1 hE H=>zj O (zN (vB (vw O (zL1 H O .h O (za (W_strBytes H O fun b7 cap7 S hc7 hb7 hE H=>zLl O (zj O (zN (zE ?_))))))))))
 refine vj (fun E S m_=>∃ (i:Nat),E=Env.lst [(1,ptr b1 0),(7,sl b7 0 s.dt.length cap7),(8,int s.dt.length),(9,int i)]∧Loc [] S0 S [(b7,BytesO s.dt cap7 5),(b1,Cs s.row 33)]∧(i≤s.dt.length)∧(∀ c∈s.dt.take i,SegB c)∧m_=s.dt.length-i) ?_ ?_
 ·skip
  refine ⟨_,_,?le,0,O,H,(by omega),(by simp),O⟩
  case le=>exact Env.qle ⟨O,O,O,O,⟨⟩⟩
 ·skip
  rintro _ S _ ⟨i,rfl,H,hi,hp,rfl⟩
  refine zR (za (vq O O fun t10 h10=>zN (zD ?_)))
  rcases t10 with _|_
  ·replace h10:=bF h10
   refine zn O (vh (zK (zK (vp (ze (zR (vw O (zLn (vs:=[_,_]) H O .h1 O (zCl O (ct89  fun t25 S hE h25=>?_))))))))))
   replace H:=H.call hE
   refine zj O ?_
   rcases t25 with _|_
   ·replace h25:=bF h25
    refine zL O (zL O (zL O (vr O O O O (zj O (zL O (zL O (zL O (vr O O O O (zj O (zL O (zL O (zL O (vr O O O O (zj O (zL O (zL O (zL O (zL O (vr O O O O (zj O (zN (zh (zP O ?_)))))))))))))))))))))))
    (rw [show i=s.dt.length by omega,List.take_length] at hp;exact k _ _ H.qx (by unfold SegP;first | (rw [h45];exact ⟨fun h=>⟨h25,h29,h34,h39,by omega,hp⟩,fun h=>by have:=h.2.2.2.2.1;omega⟩) | exact ⟨nofun,fun h=>absurd h.1 h25⟩ | exact ⟨nofun,fun h=>absurd h.2.1 h29⟩ | exact ⟨nofun,fun h=>absurd h.2.2.1 h34⟩ | exact ⟨nofun,fun h=>absurd h.2.2.2.1 h39⟩))
   ·replace h25:=bT h25
    refine zi O (zz O (zi O (W_loadN (vs:=[_,_]) H O .h1 O (zi O (zU O (ct89  fun t29 S hE h29=>?_))))))
    replace H:=H.call hE
    refine vr O O O O (zj O ?_)
    rcases t29 with _|_
    ·replace h29:=bF h29
     refine zL O (zL O (zL O (vr O O O O (zj O (zL O (zL O (zL O (vr O O O O (zj O (zL O (zL O (zL O (zL O (vr O O O O (zj O (zN (zh (zP O ?_))))))))))))))))))
     (rw [show i=s.dt.length by omega,List.take_length] at hp;exact k _ _ H.qx (by unfold SegP;first | (rw [h45];exact ⟨fun h=>⟨h25,h29,h34,h39,by omega,hp⟩,fun h=>by have:=h.2.2.2.2.1;omega⟩) | exact ⟨nofun,fun h=>absurd h.1 h25⟩ | exact ⟨nofun,fun h=>absurd h.2.1 h29⟩ | exact ⟨nofun,fun h=>absurd h.2.2.1 h34⟩ | exact ⟨nofun,fun h=>absurd h.2.2.2.1 h39⟩))
    ·replace h29:=bT h29
     refine zi O (zz O (zi O (vk H O .h1 O (zi O (zU O (ct70  fun t34 S hE h34=>?_))))))
     replace H:=H.call hE
     refine vr O O O O (zj O ?_)
     rcases t34 with _|_
     ·replace h34:=bF h34
      refine zL O (zL O (zL O (vr O O O O (zj O (zL O (zL O (zL O (zL O (vr O O O O (zj O (zN (zh (zP O ?_)))))))))))))
      (rw [show i=s.dt.length by omega,List.take_length] at hp;exact k _ _ H.qx (by unfold SegP;first | (rw [h45];exact ⟨fun h=>⟨h25,h29,h34,h39,by omega,hp⟩,fun h=>by have:=h.2.2.2.2.1;omega⟩) | exact ⟨nofun,fun h=>absurd h.1 h25⟩ | exact ⟨nofun,fun h=>absurd h.2.1 h29⟩ | exact ⟨nofun,fun h=>absurd h.2.2.1 h34⟩ | exact ⟨nofun,fun h=>absurd h.2.2.2.1 h39⟩))
     ·replace h34:=bT h34
      refine zi O (zz O (zi O (vk H O .h1 O (zi O (zU O (ct70  fun t39 S hE h39=>?_))))))
      replace H:=H.call hE
      refine vr O O O O (zj O ?_)
      rcases t39 with _|_
      ·replace h39:=bF h39
       refine zL O (zL O (zL O (zL O (vr O O O O (zj O (zN (zh (zP O ?_))))))))
       (rw [show i=s.dt.length by omega,List.take_length] at hp;exact k _ _ H.qx (by unfold SegP;first | (rw [h45];exact ⟨fun h=>⟨h25,h29,h34,h39,by omega,hp⟩,fun h=>by have:=h.2.2.2.2.1;omega⟩) | exact ⟨nofun,fun h=>absurd h.1 h25⟩ | exact ⟨nofun,fun h=>absurd h.2.1 h29⟩ | exact ⟨nofun,fun h=>absurd h.2.2.1 h34⟩ | exact ⟨nofun,fun h=>absurd h.2.2.2.1 h39⟩))
      ·replace h39:=bT h39
       refine zi O (zz O (zi O (vk H O .h1 O (zi O (vF O (zi O (W_leq O O fun t45 h45=>vr O O O O (zj O (zN (zh (zP O ?_)))))))))))
       (rw [show i=s.dt.length by omega,List.take_length] at hp;exact k _ _ H.qx (by unfold SegP;first | (rw [h45];exact ⟨fun h=>⟨h25,h29,h34,h39,by omega,hp⟩,fun h=>by have:=h.2.2.2.2.1;omega⟩) | exact ⟨nofun,fun h=>absurd h.1 h25⟩ | exact ⟨nofun,fun h=>absurd h.2.1 h29⟩ | exact ⟨nofun,fun h=>absurd h.2.2.1 h34⟩ | exact ⟨nofun,fun h=>absurd h.2.2.2.1 h39⟩))
  ·replace h10:=bT h10
   obtain ⟨c,hc⟩:∃ c,s.dt[i]? = some c:=⟨s.dt[i]'(by omega),by simp⟩
   have hc256:c.toNat<256:=c.toNat_lt
   refine zr O (zt (ze (zD (zE (zR (zIa O O (za (zF O (H.byteAt .h hc) (zj O (vE (zj O (zCl O (ct88  fun t14 S hE h14=>?_)))))))))))))
   replace H:=H.call hE
   refine zNt O (zj O ?_)
   rcases t14 with _|_
   ·replace h14:=bF h14
    refine zi O (vC O (zi O (W_conv (m:=(c.toNat:Int)) O (wrapi32_in (by omega) (by omega)) (zi O (W_runeStr Tryz.underlying21 Tryz.underlying9 O fun l19 hl0=>?_)))))
    have hl19:l19=[59]↔c=59:=hl0.trans ⟨fun h=>UInt8.toNat_inj.1 h,fun h=>by rw [h];rfl⟩
    refine zi O (W_neS O O fun t20 h20=>vr O O O O (zN ?_))
    rcases t20 with _|_
    ·replace h20:=bF h20
     refine zn O (zt (z_ (ze (zJ (zAd O O (zj O (zN ?_)))))))
     refine ⟨_,_,?lt,?le,(i+1),O,H,(by omega),(mem_take_succ hc hp (by first | exact .inl h14 | exact .inr (hl19.1 (Classical.not_not.1 h20)))),O⟩
     case lt=>omega
     case le=>exact Env.qle ⟨O,O,O,O,⟨⟩⟩
    ·replace h20:=bT h20
     refine zr O (zR (zj O (zN (zh (ve (zw (zw (ve (zw (zP O ?_))))))))))
     exact k _ _ H.qx ⟨nofun,fun h=>by rcases h.2.2.2.2.2 c (List.mem_of_getElem? hc) with h | h;exact absurd h h14;exact absurd (hl19.2 h) h20⟩
   ·replace h14:=bT h14
    refine zL O (zL O (zL O (zL O (vr O O O O (zN (zn O (zt (z_ (ze (zJ (zAd O O (zj O (zN ?_)))))))))))))
    refine ⟨_,_,?lt,?le,(i+1),O,H,(by omega),(mem_take_succ hc hp (by first | exact .inl h14 | exact .inr (hl19.1 (Classical.not_not.1 h20)))),O⟩
    case lt=>omega
    case le=>exact Env.qle ⟨O,O,O,O,⟨⟩⟩
theorem ct21 (hl:l.length≤524288) (hd:s.dt.length≤1048576) (hsq:-1099511627776≤s.sq∧s.sq≤1099511627776) (k:∀  S',Ext [] S0 S'→K (str (grown l s)) S') :
  zC 21 #[str l,s.v] S0 K:=by
 refine zGh (sf:=s21) Tryz.func21 fun H=>zR (zBx H O O fun b3 S hb3 hE H=>zj O (zN (vB (vw O (zL1 H O .h O (zj O (za (vF O (zCl O (ct70  fun t9 S hE h9=>?_))))))))))
 replace H:=H.call hE
 refine zNt O (zj O ?_)
 rcases t9 with _|_
 ·replace h9:=bF h9
  refine zL O (zL O (zL O (zL O (zL O (zL O (zL O (zL O (zL O (vr O O O O (zN (zr O (zR (zj O (zj O (zN (zh (zw (zP O ?_))))))))))))))))))
  have e:grown l s=l:=by unfold grown;rw [if_pos (by omega)]
  rw [e] at k
  exact k _ H.qx
 ·replace h9:=bT h9
  refine zi O (zz O (zi O (vk H O .h O (zi O (zz O (zi O (vk H O .h O (zi O (vF O (zi O (W_add O O (by omega) (by omega) (zi O (vC O (zi O (vF O (zi O (W_leq O O fun t20 h20=>vr O O O O (zN ?_))))))))))))))))))
  rcases t20 with _|_
  ·replace h20:=bF h20
   refine zn O (zt (ze (zR (zj O (vw O (zL1 H O .h O (zj O (za (vF O (vw O (zL1 H O .h O (zSb O O (za (W_slSlo O O (by omega) (by omega) (za (W_catS O O (by simp;omega) (zCl O (ct71 (by simp;omega) fun S hE =>?_))))))))))))))))))
   replace H:=H.call hE
   refine zj O (zN (zh (zP O ?_)))
   have e:grown l s=l++s.dt.drop ((l.length:Int)-s.sq).toNat:=by unfold grown;rw [if_neg (by omega)]
   rw [e] at k
   exact k _ H.qx
  ·replace h20:=bT h20
   refine zr O (zR (zj O (zj O (zN (zh (zw (zP O ?_)))))))
   have e:grown l s=l:=by unfold grown;rw [if_pos (by omega)]
   rw [e] at k
   exact k _ H.qx
theorem ct130 (hl:l.length≤524288) (hd:s.dt.length≤1048576) (hsq:-1099511627776≤s.sq∧s.sq≤1099511627776) (k:∀  S',Ext [] S0 S'→K (str (vt l s)) S') :
  zC 130 #[str l,s.v] S0 K:=by
 refine zGh (sf:=s130) Tryz.func130 fun H=>zR (zBx H O O fun b3 S hb3 hE H=>zj O (zN (vB (zj O (zLn (vs:=[_,_,_,_,_,_,_]) H O .h O (zCl O (ct21 (by omega) (by omega) (by omega) fun S hE =>?_)))))))
 replace H:=H.call hE
 refine zj O (vE (zj O (zCl O (ct147 (by have:=grown_len l s;omega) fun t10 S hE h10=>?_))))
 replace H:=H.call hE
 refine zN ?_
 rcases t10 with _|_
 ·replace h10:=bF h10
  refine zn O (zt (ze (zR (zj O (zj O (zN (zh (zP O ?_))))))))
  (rw [show vt l s=l from if_neg h10] at k;exact k _ H.qx)
 ·replace h10:=bT h10
  refine zr O (zR (zj O (zj O (zN (zh (zw (zP O ?_)))))))
  (rw [show vt l s=grown l s from if_pos h10] at k;exact k _ H.qx)
theorem ct207 {q:Nat} (hl:l.length≤1099511627776) (hq:q≤1099511627776) (k:∀ b S',Ext [] S0 S'→(S0 b=none)→(Sl S' 7 (some ⟨b,0,none⟩) (segRows (cutO s l q)))→K (sl b 0 (cutO s l q).length (cutO s l q).length) S') :
  zC 207 #[s.v,str l,int q] S0 K:=by
 refine zGh (sf:=s207) Tryz.func207 fun H=>zR (zBx H O O fun b3 S hb3 hE H=>zj O (vE (za (vd (cs:=[]) H O O fun b8 S hb8 hE H=>zj O (zN (zD (zE ?_)))))))
 refine vj (fun E S m_=>∃ (a:Nat) (out:List Seg) (b7:Nat) (cap7:Nat) (cs7:List Value) (q1:Int) (d1:Bs),E=Env.lst [(1,str l),(2,int a),(3,ptr b3 0),(7,sl b7 0 out.length cap7)]∧Loc [] S0 S [(b7,Cs cs7 33),(b3,Cs ({s with sq:=q1,dt:=d1}:Seg).row 33)]∧(out.length≤cap7)∧(cs7.length=cap7*7)∧(cs7.take (out.length*7)=(segRows out).flatten)∧(out++cutS s l a=cutS s l q)∧(out.length≤a)∧(a≤1099511627776+l.length)∧m_=l.length-a) ?_ ?_
 ·skip
  refine ⟨_,_,?le,q,[],b8,0,[],s.sq,s.dt,O,H,(by simp),(by simp),(by simp),(by simp),(by simp),(by omega),O⟩
  case le=>exact Env.qle ⟨O,O,O,O,⟨⟩⟩
 ·skip
  rintro _ S _ ⟨a,out,b7,cap7,cs7,q1,d1,rfl,H,hn,hcl,hct,hc,hol,ha,rfl⟩
  refine vB (zj O (zj O (za (vF O (za (vq O O fun t12 h12=>zN ?_))))))
  rcases t12 with _|_
  ·replace h12:=bF h12
   refine zn O (vh (zK (zK (vp (ze (vB (zj O (zLl O (za (W_eqI O O fun t32 h32=>zN ?_))))))))))
   rcases t32 with _|_
   ·replace h32:=bF h32
    refine zn O (zt (ze (zR (zj O (zj O (zLl O (zj O (zLl O (za (W_clip O O O (by omega) (zj O (zN (zh (zP O ?_))))))))))))))
    have he:cutS s l a=[]:=cutS_end (by omega)
    rw [he,List.append_nil] at hc
    have hq2:q<l.length:=Classical.byContradiction fun h=>by rw [cutS_end h] at hc;rw [hc] at h32;exact h32 rfl
    have hco:cutO s l q=out:=by unfold cutO;rw [if_pos hq2,hc]
    rw [hco] at k
    exact k _ _ H.qx (H.new1 .h) (vn (H.get .h) rfl (by simpa using hct) segRows_seven)
   ·replace h32:=bT h32
    refine zr O (zR (zj O (za (vF O (vw O (zSs H O O O .h1 O fun S hE H=>vw O (zSs H O O O .h1 O fun S hE H=>zN (zJ (zj O (zLn (vs:=[_,_,_,_,_,_,_]) H O .h1 O (za (vd (cs:=[_,_,_,_,_,_,_]) H O O fun b39 S hb39 hE H=>za (W_append H O O .h1 hcl hn (Src.own H .h O) (by simp [oneCell,setl]) O (by decide) (by omega) O fun b40 cap40 cs40 S hb40 H hE hn40 hcl40 hct40=>zj O (vE (zj O (zj O (zLl O (zj O (zLl O (za (W_clip O O O (by omega) (zj O (zN (zh (zP O ?_)))))))))))))))))))))))))
    have he:cutS s l a=[]:=cutS_end (by omega)
    rw [he,List.append_nil] at hc
    have ho:out=[]:=List.eq_nil_of_length_eq_zero (by omega)
    have hq2:¬ q<l.length:=fun h=>by rw [ho,cutS_step h] at hc;cases hc
    have hco:cutO s l q=[{s with sq:=l.length,dt:=[]}]:=by unfold cutO;rw [if_neg hq2]
    rw [hco] at k
    subst ho
    exact k _ _ H.qx (H.new1 .h) (vn (H.get .h) rfl (by simpa using hct40) segRows_seven)
  ·replace h12:=bT h12
   refine zr O (zt (ze (zE (zR (zj O (vw O (zSs H O O O .h1 O fun S hE H=>vE (zj O (zj O (zj O (zAd O O (zj O (za (vF O (za (W_min2 O O (za (W_slS O O O (by omega) (by omega) (by omega) (vw O (zSs H O O O .h1 O fun S hE H=>vE (zj O (zLn (vs:=[_,_,_,_,_,_,_]) H O .h1 O (za (vd (cs:=[_,_,_,_,_,_,_]) H O O fun b26 S hb26 hE H=>za (W_append H O O .h1 hcl hn (Src.own H .h O) (by simp [oneCell,setl]) O (by decide) (by omega) O fun b27 cap27 cs27 S hb27 H hE hn27 hcl27 hct27=>zj O (zN (zJ (zj O (zAd O O ?_)))))))))))))))))))))))))))))
   refine zj O (vf (z_ (ze ?_)))
   have hd12:(l.drop (a:Int).toNat).take ((min ((a:Int)+12) (l.length:Int)).toNat-(a:Int).toNat)=(l.drop a).take 12:=by
    rw [show (a:Int).toNat=a by omega]
    by_cases h:a+12≤l.length
    ·rw [show (min ((a:Int)+12) (l.length:Int)).toNat-a=12 by omega]
    ·rw [List.take_of_length_le (by simp;omega),List.take_of_length_le (by simp;omega)]
   have hcs:=cutS_step (s:=s) (show a<l.length by omega)
   refine ⟨_,_,?lt,?le,(a+12),(out++[{s with sq:=a,dt:=(l.drop a).take 12}]),b27,cap27,cs27,(a:Int),((l.drop (a:Int).toNat).take ((min ((a:Int)+12) (l.length:Int)).toNat-(a:Int).toNat)),O,(H.sub (.cons_cons _ (.cons _ (.cons_cons _ .slnil)))),(by simpa using hn27),hcl27,?_,(by rw [List.append_assoc,← hc,hcs];rfl),(by simp;omega),(by omega),O⟩
   case lt=>omega
   case le=>exact Env.qle ⟨rfl,rfl,rfl,(by rw [List.length_append];rfl),trivial⟩
   rw [List.length_append]
   refine hct27.trans ?_
   rw [hct]
   simp only [segRows,List.map_append,List.flatten_append,List.map_cons,List.map_nil,List.flatten_cons,List.flatten_nil,List.append_nil]
   rw [← hd12]
end
section
variable {S0:St} {K:Value→St→Prop}
variable {b:Box} {x:Conn} {e f:End} {cs:List Conn} {es:List End} {b1 b2 c c1 c2 c3 cap n:Nat} {a a1 a2 a3:Option Addr}
theorem ct151 (k1:S0 b1=some ⟨Cs e.row 31,true⟩) (k2:S0 b2=some ⟨Cs f.row 31,true⟩) (k:∀ (t:Bool) S',Ext [] S0 S'→(t=true↔x.i=e∧x.o=f)→K (.bool t) S') :
  zC 151 #[x.v,ptr b1 0,ptr b2 0] S0 K:=by
 refine zGh (sf:=s151) Tryz.func151 fun H=>zR (zBx H O O fun b3 S hb3 hE H=>zj O (vE (vw O (zLn (vs:=[_,_]) H O .h O (za (zV (vs:=[_,_]) O (cells_own (H.qx.get k1) O) (za (W_eqEv O O fun t8 h8=>zj O ?_))))))))
 rcases t8 with _|_
 ·replace h8:=bF h8
  refine zL O (zL O (zL O (zL O (vr O O O O (zj O (zN (zh (zP O ?_))))))))
  exact k _ _ H.qx ⟨nofun,fun h=>absurd (by rw [h.1];exact ⟨rfl,rfl⟩) h8⟩
 ·replace h8:=bT h8
  refine zi O (zz O (zi O (W_loadN (vs:=[_,_]) H O .h O (zi O (zV (vs:=[_,_]) O (cells_own (H.qx.get k2) O) (zi O (W_eqEv O O fun t13 h13=>vr O O O O (zj O (zN (zh (zP O ?_)))))))))))
  exact k _ _ H.qx ⟨fun h=>⟨End.ext' h8,End.ext' (h13.1 h)⟩,fun h=>h13.2 (by rw [h.2];exact ⟨rfl,rfl⟩)⟩
theorem ct150 (hs:Sl S0 7 a (zY cs)) (hl:cs.length≤1099511627776) (k1:S0 b1=some ⟨Cs e.row 31,true⟩) (k2:S0 b2=some ⟨Cs f.row 31,true⟩) (k:∀  S',Ext [] S0 S'→K (int (vL cs e f)) S') :
  zC 150 #[.slice a cs.length cap,.func (.func 151) #[] #[ptr b1 0,ptr b2 0]] S0 K:=by
 refine zGh (sf:=s150) Tryz.func150 fun H=>zR (zj O (zN (vB (zj O (zLl O (zj O (zN (zE ?_))))))))
 refine vj (fun E S m_=>∃ (i:Nat),E=Env.lst [(0,.slice a cs.length cap),(1,.func (.func 151) #[] #[ptr b1 0,ptr b2 0]),(7,int cs.length),(8,int i)]∧Loc [] S0 S []∧(i≤cs.length)∧(FoundAt cs i e f)∧m_=cs.length-i) ?_ ?_
 ·skip
  refine ⟨_,_,?le,0,O,H,(by omega),(FoundAt.zero cs e f),O⟩
  case le=>exact Env.qle ⟨O,O,O,O,⟨⟩⟩
 ·skip
  rintro _ S _ ⟨i,rfl,H,hi,hm,rfl⟩
  refine zR (za (vq O O fun t9 h9=>zN (zD ?_)))
  rcases t9 with _|_
  ·replace h9:=bF h9
   refine zn O (vh (zK (zK (vp (ze (zR (zj O (zN (zh (zP O ?_))))))))))
   rw [hm.no (by omega)] at k
   exact k _ H.qx
  ·replace h9:=bT h9
   obtain ⟨x,hx⟩:∃ x,cs[i]? = some x:=⟨cs[i]'(by omega),by simp⟩
   obtain ⟨b,off,rfl,hc⟩:=hs.row i _ (vK hx)
   refine zr O (zt (ze (zD (zE (zR (zj O (zj O (vE (zj O (zj O (zj O (zIa O O (za (zV (vs:=[_,_,_,_,_,_,_]) O (H.qx.cells hc) (za (W_callV O O ⟨_,_,_,_,O,Tryz.func151,O,O,ct151 (x:=x) (H.qx.get k1) (H.qx.get k2) fun t16 S hE h16=>?_⟩))))))))))))))))
   replace H:=H.call hE
   refine zN ?_
   rcases t16 with _|_
   ·replace h16:=bF h16
    refine zn O (zt (z_ (ze (zJ (zAd O O (zj O (zN ?_)))))))
    refine ⟨_,_,?lt,?le,(i+1),O,H,(by omega),(hm.succ hx h16),O⟩
    case lt=>omega
    case le=>exact Env.qle ⟨O,O,O,O,⟨⟩⟩
   ·replace h16:=bT h16
    refine zr O (zR (zj O (zj O (zN (zh (ve (zw (zw (ve (zw (zP O ?_)))))))))))
    rw [hm.hit hx h16] at k
    exact k _ H.qx
theorem ct65 (h3:Sl S0 7 a3 (zY b.cs)) (hl3:b.cs.length≤1099511627776) (k:∀  S',Ext [] S0 S'→K (int (vL b.cs e f)) S') :
  zC 65 #[.agg #[.slice a1 b.rs.length c1,.slice a2 b.es.length c2,.slice a3 b.cs.length c3],e.v,f.v] S0 K:=by
 refine zGh (sf:=s65) Tryz.func65 fun H=>zR (zBx H O O fun b3 S hb3 hE H=>zBx H O O fun b4 S hb4 hE H=>zBx H O O fun b5 S hb5 hE H=>zj O (vE (vw O (zL1 H O .h2 O (za (W_mkFunc O O (zCl O (ct150 (h3.mono H.qx) hl3 (H.get .h1) (H.get .h) fun S hE =>?_))))))))
 replace H:=H.call hE
 refine zj O (zN (zh (zP O ?_)))
 exact k _ H.qx
theorem ct153 {rs:List Rule} (hs:Sl S0 7 a (z5 rs)) (hl:rs.length≤1048576) (k:∀ (a1:Option Addr) (c1:Nat) S',Ext [] S0 S'→(Sl S' 7 a1 (z5 rs))→(rs.length≤c1)→(Org S0 none a1)→K (.slice a1 rs.length c1) S') :
  zC 153 #[.slice a rs.length cap] S0 K:=by
 refine zGh (sf:=s153) Tryz.func153 fun H=>zR (zj O (zN (vB (zj O (za (W_sliceNil Tryz.underlying23 O fun t4 h4=>zN ?_))))))
 rcases t4 with _|_
 ·replace h4:=bF h4
  refine zn O (zt (ze (zR (za (vd (cs:=[]) H O O fun b5 S hb5 hE H=>zj O (za (W_appendZ (new:=(z5 rs).flatten) H O O .h (Src.sl (hs.mono H.qx) vJ (by simp)) ruleRows_one (ruleRows_flat rs) (by decide) (by decide) (by omega) O fun b7 cap7 cs7 S hb7 H hE hn7 hcl7 hct7=>zj O (zN (zh (zP O ?_))))))))))
  rw [show (0+rs.length)=rs.length by omega]
  exact k _ _ _ H.qx (vn (H.get .h) rfl (by simpa using hct7) vJ) (by simpa using hn7) (.new (H.new1 .h))
 ·replace h4:=bT h4
  refine zr O (zR (zj O (zN (zh (zw (zP O ?_))))))
  subst h4
  obtain rfl:rs=[]:=by
   cases rs with
   | nil=>rfl
   | cons e es=>obtain ⟨b,off,e1,_⟩:=hs.row 0 e.row rfl;cases e1
  exact k none 0 _ H.qx (Sl.nil 7) (Nat.le_refl _) (.same _ _)
theorem ct152 (hn:n≤c) (k:∀  S',Ext [] S0 S'→K (.slice a n n) S') :
  zC 152 #[.slice a n c] S0 K:=by
 refine zGh (sf:=s152) Tryz.func152 fun H=>zR (zj O (vE (zj O (zj O (zLl O (zj O (zLl O (za (W_clip O O O hn (zj O (zN (zh (zP O ?_)))))))))))))
 exact k _ H.qx
theorem ct155 {rs:List Conn} (hs:Sl S0 7 a (zY rs)) (hl:rs.length≤1048576) (k:∀ (a1:Option Addr) (c1:Nat) S',Ext [] S0 S'→(OwnO S0 S' a1 49 7 c1 (zY rs))→K (.slice a1 rs.length c1) S') :
  zC 155 #[.slice a rs.length cap] S0 K:=by
 refine zGh (sf:=s155) Tryz.func155 fun H=>zR (zj O (zN (vB (zj O (za (W_sliceNil Tryz.underlying27 O fun t4 h4=>zN ?_))))))
 rcases t4 with _|_
 ·replace h4:=bF h4
  refine zn O (zt (ze (zR (za (vd (cs:=[]) H O O fun b5 S hb5 hE H=>zj O (za (W_appendZ (new:=(zY rs).flatten) H O O .h (Src.sl (hs.mono H.qx) zZ (by simp)) connRows_one (connRows_flat rs) (by decide) (by decide) (by omega) O fun b7 cap7 cs7 S hb7 H hE hn7 hcl7 hct7=>zj O (zN (zh (zP O ?_))))))))))
  rw [show (0+rs.length)=rs.length by omega]
  exact k _ _ _ H.qx (.inr ⟨_,rfl,H.new1 .h,_,H.get .h,by simpa using hn7,hcl7,by simpa using hct7,zZ⟩)
 ·replace h4:=bT h4
  refine zr O (zR (zj O (zN (zh (zw (zP O ?_))))))
  subst h4
  obtain rfl:rs=[]:=by
   cases rs with
   | nil=>rfl
   | cons e es=>obtain ⟨b,off,e1,_⟩:=hs.row 0 e.row rfl;cases e1
  exact k none 0 _ H.qx .nil
theorem ct129 (hn:n≤c) (k:∀  S',Ext [] S0 S'→K (.slice a n n) S') :
  zC 129 #[.slice a n c] S0 K:=by
 refine zGh (sf:=s129) Tryz.func129 fun H=>zR (zj O (vE (zj O (zj O (zLl O (zj O (zLl O (za (W_clip O O O hn (zj O (zN (zh (zP O ?_)))))))))))))
 exact k _ H.qx
theorem ct64 (hG:Glob S0) (hT:TabP es) (hs:Sl S0 2 a (zS es)) (hcp:es.length≤cap) (hz:x.kn.length≤1048576∧x.he.length≤1048576∧x.ne.length≤1048576) (k:∀ (t:Bool) S',Ext [] S0 S'→(t=true↔ConnP es x)→K (.bool t) S') :
  zC 64 #[x.v,.agg #[.slice a es.length cap]] S0 K:=by
 refine zGh (sf:=s64) Tryz.func64 fun H=>?_
 have hl:es.length≤6:=hT.1
 refine zR (zBx H O O fun b2 S hb2 hE H=>zBx H O O fun b3 S hb3 hE H=>zj O (vE (zLn (vs:=[_]) H O .h O (vw O (zLn (vs:=[_,_]) H O .h1 O (zCl O (ct16 (hs.mono H.qx) hcp (by omega) fun S hE =>?_)))))))
 replace H:=H.call hE
 refine za (W_neI O O fun t9 h9=>zj O ?_)
 rcases t9 with _|_
 ·replace h9:=bF h9
  have hm:x.i∉es:=fun hm=>by unfold portE at h9;rw [if_pos hm] at h9;omega
  refine zL O (zL O (zL O (vr O O O O (zj O (zL O (zL O (zL O (zL O (vr O O O O (zj O (zL O (zL O (zL O (vr O O O O (zj O (zL O (zL O (zL O (vr O O O O (zj O (zL O (zL O (zL O (zL O (vr O O O O (zj O (zL O (zL O ?_))))))))))))))))))))))))))))
  refine zL O (zL O (zL O (zL O (vr O O O O (zj O (zN (zh (zP O ?_))))))))
  exact k _ _ H.qx ⟨nofun,fun h=>by obtain ⟨p1,p2,p3,p4,p5,p6,p7,p8⟩:=h;first | exact absurd p4 hm | exact absurd p2 h13 | exact absurd p3 h19 | exact absurd p5 h24 | exact absurd p6 h29 | exact absurd p7 h35⟩
 ·replace h9:=bT h9
  have hm:x.i∈es:=Classical.byContradiction fun hn=>by unfold portE at h9;rw [if_neg hn] at h9;exact h9 rfl
  refine zi O (zz O (zi O (W_loadN (vs:=[_,_]) H O .h1 O (zi O (zU O (ct146  fun t13 S hE h13=>?_))))))
  replace H:=H.call hE
  refine vr O O O O (zj O ?_)
  rcases t13 with _|_
  ·replace h13:=bF h13
   refine zL O (zL O (zL O (zL O (vr O O O O (zj O (zL O (zL O (zL O (vr O O O O (zj O (zL O (zL O (zL O (vr O O O O (zj O (zL O (zL O (zL O (zL O (vr O O O O (zj O (zL O (zL O (zL O (zL O (zL O (zL O (vr O O O O ?_))))))))))))))))))))))))))))
   refine zj O (zN (zh (zP O ?_)))
   exact k _ _ H.qx ⟨nofun,fun h=>by obtain ⟨p1,p2,p3,p4,p5,p6,p7,p8⟩:=h;first | exact absurd p4 hm | exact absurd p2 h13 | exact absurd p3 h19 | exact absurd p5 h24 | exact absurd p6 h29 | exact absurd p7 h35⟩
  ·replace h13:=bT h13
   refine zi O (zz O (zi O (zz O (zi O (vk H O .h1 O (zi O (W_eqI O O fun t19 h19=>vr O O O O (zj O ?_))))))))
   rcases t19 with _|_
   ·replace h19:=bF h19
    refine zL O (zL O (zL O (vr O O O O (zj O (zL O (zL O (zL O (vr O O O O (zj O (zL O (zL O (zL O (zL O (vr O O O O (zj O (zL O (zL O (zL O (zL O (zL O (zL O (vr O O O O (zj O (zN (zh (zP O ?_))))))))))))))))))))))))))
    exact k _ _ H.qx ⟨nofun,fun h=>by obtain ⟨p1,p2,p3,p4,p5,p6,p7,p8⟩:=h;first | exact absurd p4 hm | exact absurd p2 h13 | exact absurd p3 h19 | exact absurd p5 h24 | exact absurd p6 h29 | exact absurd p7 h35⟩
   ·replace h19:=bT h19
    refine zi O (zz O (zi O (vk H O .h1 O (zi O (zU O (ct147 (by omega) fun t24 S hE h24=>?_))))))
    replace H:=H.call hE
    refine vr O O O O (zj O ?_)
    rcases t24 with _|_
    ·replace h24:=bF h24
     refine zL O (zL O (zL O (vr O O O O (zj O (zL O (zL O (zL O (zL O (vr O O O O (zj O (zL O (zL O (zL O (zL O (zL O (zL O (vr O O O O (zj O (zN (zh (zP O ?_)))))))))))))))))))))
     exact k _ _ H.qx ⟨nofun,fun h=>by obtain ⟨p1,p2,p3,p4,p5,p6,p7,p8⟩:=h;first | exact absurd p4 hm | exact absurd p2 h13 | exact absurd p3 h19 | exact absurd p5 h24 | exact absurd p6 h29 | exact absurd p7 h35⟩
    ·replace h24:=bT h24
     refine zi O (zz O (zi O (vk H O .h1 O (zi O (zU O (ct147 (by omega) fun t29 S hE h29=>?_))))))
     replace H:=H.call hE
     refine vr O O O O (zj O ?_)
     rcases t29 with _|_
     ·replace h29:=bF h29
      refine zL O (zL O (zL O (zL O (vr O O O O (zj O (zL O (zL O (zL O (zL O (zL O (zL O (vr O O O O (zj O (zN (zh (zP O ?_))))))))))))))))
      exact k _ _ H.qx ⟨nofun,fun h=>by obtain ⟨p1,p2,p3,p4,p5,p6,p7,p8⟩:=h;first | exact absurd p4 hm | exact absurd p2 h13 | exact absurd p3 h19 | exact absurd p5 h24 | exact absurd p6 h29 | exact absurd p7 h35⟩
     ·replace h29:=bT h29
      refine zi O (W_loadN (vs:=[_]) H O .h O (zi O (zz O (zi O (vk H O .h1 O (zi O (zU O (ct148 (hG.mono H.qx) (hs.mono H.qx) hcp (by omega) (by omega) (fun y hy=>by have:=(h24.1 y hy).2;omega) fun t35 S hE h35=>?_))))))))
      replace H:=H.call hE
      refine vr O O O O (zj O ?_)
      rcases t35 with _|_
      ·replace h35:=bF h35
       refine zL O (zL O (zL O (zL O (zL O (zL O (vr O O O O (zj O (zN (zh (zP O ?_))))))))))
       exact k _ _ H.qx ⟨nofun,fun h=>by obtain ⟨p1,p2,p3,p4,p5,p6,p7,p8⟩:=h;first | exact absurd p4 hm | exact absurd p2 h13 | exact absurd p3 h19 | exact absurd p5 h24 | exact absurd p6 h29 | exact absurd p7 h35⟩
      ·replace h35:=bT h35
       refine zi O (W_loadN (vs:=[_]) H O .h O (zi O (zz O (zi O (vk H O .h1 O (zi O (zz O (zi O (vk H O .h1 O (zi O (zU O (ct149 (hG.mono H.qx) (hs.mono H.qx) hcp (by omega) (by omega) (by omega) (fun y hy=>by have:=(h29.1 y hy).2;omega) fun t43 S hE h43=>?_))))))))))))
       replace H:=H.call hE
       refine vr O O O O (zj O (zN (zh (zP O ?_))))
       exact k _ _ H.qx (h43.trans ⟨fun h=>⟨hT.2.1 _ hm,h13,h19,hm,h24,h29,h35,h⟩,fun h=>h.2.2.2.2.2.2.2⟩)
theorem ct17 (hG:Glob S0) (h1:Sl S0 7 a1 (z5 b.rs)) (h2:Sl S0 2 a2 (zS b.es)) (h3:Sl S0 7 a3 (zY b.cs)) (hc2:b.es.length≤c2) (hc3:b.cs.length≤c3) (hz:BoxZ b) (k:∀ (t:Bool) S',Ext [] S0 S'→(t=true↔BoxP b)→K (.bool t) S') :
  zC 17 #[.agg #[.slice a1 b.rs.length c1,.slice a2 b.es.length c2,.slice a3 b.cs.length c3]] S0 K:=by
 refine zGh (sf:=s17) Tryz.func17 fun H=>?_
 obtain ⟨z1,z2,z3,hzz⟩:=hz
 refine zR (zBx H O O fun b1 S hb1 hE H=>zj O (zN (vB (vw O (zL1 H O .h O (zCl O (ct62 (h1.mono H.qx) (by omega) fun t7 S hE h7=>?_)))))))
 replace H:=H.call hE
 refine zNt O (zj O ?_)
 rcases t7 with _|_
 ·replace h7:=bF h7
  refine zL O (zL O (zL O (zL O (vr O O O O (zj O (zL O (zL O (zL O (zL O (vr O O O O (zN (zr O (zR (zj O (zN (zh (zw (zP O ?_))))))))))))))))))
  exact k _ _ H.qx ⟨nofun,fun h=>absurd h.2.1 h7⟩
 ·replace h7:=bT h7
  refine zi O (zz O (zi O (W_loadN (vs:=[_]) H O .h O (zi O (zU O (ct63 (h2.mono H.qx) hc2 (by omega) fun t12 S hE h12=>?_))))))
  replace H:=H.call hE
  refine zi O (W_not O (vr O O O O (zj O ?_)))
  rcases t12 with _|_
  ·replace h12:=bF h12
   refine zL O (zL O (zL O (zL O (vr O O O O (zN (zr O (zR (zj O (zN (zh (zw (zP O ?_))))))))))))
   exact k _ _ H.qx ⟨nofun,fun h=>absurd h.1 h12⟩
  ·replace h12:=bT h12
   refine zi O (zz O (zi O (vk H O .h O (zi O (W_lenL O (zi O (W_gtr O O fun t19 h19=>vr O O O O (zN ?_))))))))
   rcases t19 with _|_
   ·replace h19:=bF h19
    refine zn O (zt (ze (vB (vw O (zL1 H O .h O (zLl O (zj O (zN (zE ?_)))))))))
    refine vj (fun E S m_=>∃ (i:Nat),E=Env.lst [(1,ptr b1 0),(22,.slice a3 b.cs.length c3),(23,int b.cs.length),(24,int i)]∧Loc [] S0 S [(b1,Cs [.slice a1 b.rs.length c1,.slice a2 b.es.length c2,.slice a3 b.cs.length c3] 29)]∧(i≤b.cs.length)∧(RulesP b.rs)∧(TabP b.es)∧(b.cs.length≤3)∧(∀ (j:Nat) (x:Conn),j<i→b.cs[j]? = some x→ConnP b.es x∧vL (b.cs.take j) x.i x.o<0)∧m_=b.cs.length-i) ?_ ?_
    ·skip
     refine ⟨_,_,?le,0,O,H,(by omega),h7,h12,(by omega),(fun j x hj=>absurd hj (by omega)),O⟩
     case le=>exact Env.qle ⟨O,O,O,O,⟨⟩⟩
    ·skip
     rintro _ S _ ⟨i,rfl,H,hi,hR,hT,hn3,hp,rfl⟩
     refine zR (za (vq O O fun t25 h25=>zN (zD ?_)))
     rcases t25 with _|_
     ·replace h25:=bF h25
      refine zn O (vh (zK (zK (vp (ze (zR (zj O (zN (zh (zP O ?_))))))))))
      exact k _ _ H.qx ⟨fun _=>⟨hT,hR,hn3,fun j x hx=>hp j x (by have:=(List.getElem?_eq_some_iff.1 hx).1;omega) hx⟩,fun _=>rfl⟩
     ·replace h25:=bT h25
      obtain ⟨x,hx⟩:∃ x,b.cs[i]? = some x:=⟨b.cs[i]'(by omega),by simp⟩
      obtain ⟨p,off,rfl,hc⟩:=h3.row i _ (vK hx)
      refine zr O (zt (ze (zD (zE (zR (zj O (zIa O O (za (zV (vs:=[_,_,_,_,_,_,_]) O (H.qx.cells hc) (zAl H O fun b4 S hb4 hE H=>zj O (zSs H O O O .h O fun S hE H=>vE (zLn (vs:=[_,_,_,_,_,_,_]) H O .h O (vw O (zLn (vs:=[_]) H O .h1 O (zCl O (ct64 (hG.mono H.qx) hT (h2.mono H.qx) hc2 (hzz x (List.mem_of_getElem? hx)) fun t32 S hE h32=>?_))))))))))))))))
      replace H:=H.call hE
      refine zNt O (zj O ?_)
      rcases t32 with _|_
      ·replace h32:=bF h32
       refine zL O (zL O (zL O (zL O (zL O (zL O (zL O (zL O (vr O O O O (zN (zr O (zR (zj O (zN (zh (ve (zw (zw (ve (zw (zP O ?_))))))))))))))))))))
       exact k _ _ H.qx ⟨nofun,fun h=>absurd (h.2.2.2 i x hx).1 h32⟩
      ·replace h32:=bT h32
       refine zi O (W_loadN (vs:=[_,_,_]) H O .h1 O (zi O (zz O (zi O (W_loadN (vs:=[_,_]) H O .h O (zi O (zz O (zi O (W_loadN (vs:=[_,_]) H O .h O (zi O (zU O (ct65 (h3.mono H.qx) (by omega) fun S hE =>?_))))))))))))
       replace H:=H.call hE
       refine zi O (vC O (zi O (W_neI O O fun t42 h42=>vr O O O O (zN ?_))))
       rcases t42 with _|_
       ·replace h42:=bF h42
        refine zn O (zt (z_ (ze (zJ (zAd O O (zj O (zN ?_)))))))
        refine ⟨_,_,?lt,?le,(i+1),O,(H.sub (.cons _ (.cons_cons _ .slnil))),(by omega),hR,hT,hn3,(fun j y hj hy=>by
         by_cases hji:j<i
         ·exact hp j y hji hy
         ·obtain rfl:j=i:=by omega
          rw [hx] at hy;cases hy
          exact ⟨h32,(BoxP_conn hx).1 (Classical.not_not.1 h42)⟩),rfl⟩
        case lt=>omega
        case le=>exact Env.qle ⟨O,O,O,O,⟨⟩⟩
       ·replace h42:=bT h42
        refine zr O (zR (zj O (zN (zh (ve (zw (zw (ve (zw (zP O ?_))))))))))
        exact k _ _ H.qx ⟨nofun,fun h=>absurd ((BoxP_conn hx).2 (h.2.2.2 i x hx).2) h42⟩
   ·replace h19:=bT h19
    refine zr O (zR (zj O (zN (zh (zw (zP O ?_))))))
    exact k _ _ H.qx ⟨nofun,fun h=>absurd h.2.2.1 (by omega)⟩
theorem ct66 (h1:Sl S0 7 a1 (z5 b.rs)) (h2:Sl S0 2 a2 (zS b.es)) (h3:Sl S0 7 a3 (zY b.cs)) (hc2:b.es.length≤c2) (hz:BoxZ b) (k:∀ (x1 x2 x3:Option Addr) (d3:Nat) S',Ext [] S0 S'→(Sl S' 7 x1 (z5 b.rs))→(Sl S' 2 x2 (zS b.es))→(OwnO S0 S' x3 49 7 d3 (zY b.cs))→(Org S0 none x1)→(Org S0 none x2)→(OffB x1 x3)→(OffB x2 x3)→(OffS x1 x2)→K (.agg #[.slice x1 b.rs.length b.rs.length,.slice x2 b.es.length b.es.length,.slice x3 b.cs.length b.cs.length]) S') :
  zC 66 #[.agg #[.slice a1 b.rs.length c1,.slice a2 b.es.length c2,.slice a3 b.cs.length c3]] S0 K:=by
 refine zGh (sf:=s66) Tryz.func66 fun H=>?_
 obtain ⟨z1,z2,z3,hzz⟩:=hz
 refine zR (zBx H O O fun b1 S hb1 hE H=>zAl H O fun b2 S hb2 hE H=>zN (zD (vc [b2] (zLf 0 O O O (vi 1 O O (fun S' hS'=>zG fun K hK=>zF O (zH (hS' O) (nin1 (by rintro rfl;exact absurd H.nodup (by simp))) (H.cell .h1 O)) hK) (zLf 4 O O O (vi 5 O O (fun S' hS'=>zG fun K hK=>zV O (zM (hS' O) (nin1 (by rintro rfl;exact absurd H.nodup (by simp))) (H.cells (vs:=[_]) .h1 O)) hK) (zLf 7 O O O (vi 8 O O (fun S' hS'=>zG fun K hK=>zF O (zH (hS' O) (nin1 (by rintro rfl;exact absurd H.nodup (by simp))) (H.cell .h1 O)) hK) (zB 2 (by kernel_rfl) O O (zv (zU O (ct153 (h1.mono H.qx) (by omega) fun a5 c5 S hE hs5 hc5 ho5=>?_)))))))))))))
 have hs5_b2:=ho5.ne nofun (H.get .h)
 replace ho5:=ho5.back H.qx
 replace H:=H.call hE
 refine ⟨fun _=>hE.up.ext,zB 3 (by kernel_rfl) O O (zv (zU O (ct152 hc5 fun S hE =>?_)))⟩
 replace H:=H.call hE
 replace hs5:=hs5.mono hE
 refine ⟨fun _=>hE.up.ext,zB 6 (by kernel_rfl) O O (zv (zU O (ct154 (h2.mono H.qx) hc2 (by omega) fun a9 S hE hs9 ho9=>?_)))⟩
 have hs9_b2:=ho9.ne nofun (H.get .h)
 have os9:OffS a5 a9:=.new hs5 ho9
 replace ho9:=ho9.back H.qx
 replace H:=H.call hE
 replace hs5:=hs5.mono hE
 refine ⟨fun _=>hE.up.ext,zB 9 (by kernel_rfl) O O (zv (zU O (ct155 (h3.mono H.qx) (by omega) fun a12 c12 S hE hO12=>?_)))⟩
 have hO12_b2:=hO12.off (H.get .h)
 have of5:=offB_of hO12 hs5
 have of9:=offB_of hO12 hs9
 replace hO12:=hO12.back H.qx
 replace H:=H.call hE
 replace hs5:=hs5.mono hE
 replace hs9:=hs9.mono hE
 refine zLd (zB 10 (by kernel_rfl) O O (zv (zU O (ct129 (by simpa using hO12.cap) fun S hE =>?_))))
 replace H:=H.call hE
 replace hs5:=hs5.mono hE
 replace hs9:=hs9.mono hE
 replace hO12:=hO12.mono hE
 refine zLd (vM 11 O O (fun _ _ hK=>W_build (cs:=[_,_,_]) O O hK) (zB 12 (by kernel_rfl) O O (zv (zSt H O O O .h O fun S hE H=>?_))))
 replace hs5:=hs5.qy hE hs5_b2
 replace hs9:=hs9.qy hE hs9_b2
 replace hO12:=hO12.qy hE hO12_b2
 refine zLd (zX (ze (zh (⟨trivial,_,(z0 (ws:=[_,_,_]) H O .h O zT),?_⟩))))
 exact k _ _ _ _ _ H.qx hs5 hs9 hO12 ho5 ho9 of5 of9 os9
theorem ct101 {r1 l3:Nat} {j:Nat} (hG:Glob S0) (h2:Sl S0 2 a2 (zS es)) (h3:Sl S0 7 a3 (zY cs)) (hc2:es.length≤c2) (h6:es.length≤6) (hx:cs[j]? = some x) (hj:j<l3) (hk:x.kn.length≤1048576) (hsh:∀ y∈(zu x.kn).1,y.length≤18) (k:∀  S',Ext [] S0 S'→K (str (streamO es x.kn).2) S') :
  zC 101 #[.agg #[.slice a1 r1 c1,.slice a2 es.length c2,.slice a3 l3 c3],int j] S0 K:=by
 refine zGh (sf:=s101) Tryz.func101 fun H=>?_
 obtain ⟨p,off,rfl,hc⟩:=h3.row j _ (vK hx)
 refine zR (zBx H O O fun b2 S hb2 hE H=>zj O (zN (zD (vc [] (zLf 0 O O O (vi 1 O O (fun S' hS'=>zG fun K hK=>zV O (zM (hS' O) (by simp) (H.cells (vs:=[_]) .h O)) hK) (zLf 2 O O O (vi 3 O O (fun S' hS'=>zG fun K hK=>zF O (zH (hS' O) (by simp) (H.cell .h O)) hK) (vI 4 O O O (vM 5 O O (fun _ _ hK=>vl O O (by omega) (by omega) hK) (zLf 6 O O O (vi 7 O O (fun S' hS'=>zG fun K hK=>zF O (zH (hS' O) (by simp) (vv (i:=4) (H.qx.cells hc) O)) hK) (wpD_two 8 12 (by kernel_rfl) O O O O ?_ ?_)))))))))))))
 ·skip
  refine zv (zU O (ct131 (hG.mono H.qx) (h2.mono H.qx) hc2 h6 (by omega) hsh fun a16 cap16 S hE hs16 hc16 ho16 htl16=>?_))
  replace H:=H.call hE
  refine zLd (vI 9 O O O (vM 10 O O (fun _ _ hK=>vo O O hK) (vM 11 O O (fun _ _ hK=>vo O O hK) (zB 12 (by kernel_rfl) O O (zv (W_alloc H O fun b5 S hb5 hE H=>⟨fun _=>hE.up.ext,zB 13 (by kernel_rfl) O O (zv (zSt H O O O .h O fun S hE H=>zLd (vI 14 O O O (zX (ze (zR (zj O (zj O (zN (zh (zP O ?_)))))))))))⟩))))))
  exact k _ H.qx
 ·skip
  refine zv (W_alloc H O fun b5 S hb5 hE H=>⟨fun _=>hE.up.ext,zB 8 (by kernel_rfl) O O (zv (zU O (ct131 (hG.mono H.qx) (h2.mono H.qx) hc2 h6 (by omega) hsh fun a16 cap16 S hE hs16 hc16 ho16 htl16=>?_)))⟩)
  replace H:=H.call hE
  refine zLd (vI 9 O O O (vM 10 O O (fun _ _ hK=>vo O O hK) (vM 11 O O (fun _ _ hK=>vo O O hK) (zB 13 (by kernel_rfl) O O (zv (zSt H O O O .h O fun S hE H=>zLd (vI 14 O O O (zX (ze (zR (zj O (zj O (zN (zh (zP O ?_)))))))))))))))
  exact k _ H.qx
theorem ct133 {s:Seg} {l:Bs} {q:Int} (hS:SegP s) (hl:l.length≤240) (hq:0≤q∧q≤1099511627776) (k:∀ b S',Ext [] S0 S'→(S0 b=none)→(Sl S' 7 (some ⟨b,0,none⟩) (segRows (cutO s l q.toNat)))→K (sl b 0 (cutO s l q.toNat).length (cutO s l q.toNat).length) S') :
  zC 133 #[s.v,str l,int q] S0 K:=by
 refine zGh (sf:=s133) Tryz.func133 fun H=>?_
 have hsz:=hS.2.2.2.2.1
 obtain ⟨n,rfl⟩:∃ n:Nat,q=n:=⟨q.toNat,by omega⟩
 refine zR (zBx H O O fun b3 S hb3 hE H=>zj O (zN (vB (zLn (vs:=[_,_,_,_,_,_,_]) H O .h O (zCl O (ct31 (by omega) fun t8 S hE h8=>?_))))))
 replace H:=H.call hE
 refine zNt O (zj O ?_)
 rcases t8 with _|_
 ·replace h8:=bF h8
  exact absurd hS h8
 ·replace h8:=bT h8
  refine zi O (vC O (zi O (vF O (zi O (W_gtr O O fun t13 h13=>vr O O O O (zj O ?_))))))
  rcases t13 with _|_
  ·replace h13:=bF h13
   refine zi O (vC O (zi O (vq O O fun t17 h17=>vr O O O O (zN ?_))))
   rcases t17 with _|_
   ·replace h17:=bF h17
    refine zn O (zt (ze (zR (zLn (vs:=[_,_,_,_,_,_,_]) H O .h O (zj O (zj O (zCl O (ct207 (by omega) (by omega) fun b22 S hE hb22 hs22=>?_))))))))
    replace hb22:=H.qx.isNone hb22
    replace H:=H.call hE
    refine zj O (zN (zh (zP O ?_)))
    exact k _ _ H.qx hb22 hs22
   ·replace h17:=bT h17
    exact absurd h17 (by omega)
  ·replace h13:=bT h13
   exact absurd h13 (by omega)
end
section
variable {S0:St} {K:Value→St→Prop}
end
section
open Go
theorem dig_len3 {n:Nat} (h:n≤999):(dig n).length≤3:=by
 by_cases h1:n<10
 ·rw [dig_lt h1];simp
 ·rw [dig_ge h1]
  by_cases h2:n / 10<10
  ·rw [dig_lt h2];simp
  ·rw [dig_ge h2,dig_lt (by omega)];simp
theorem dig_ge3 {n:Nat} (h:100≤n):3≤(dig n).length:=by
 rw [dig_ge (by omega),dig_ge (by omega)]
 have:=dig_pos (n / 10 / 10)
 simp;omega
theorem endP_mem {es:List End} {p:Int} {e:End} (h:endP es p=some e):500≤p∧e∈es:=by
 unfold endP at h
 split at h
 ·exact ⟨by assumption,List.mem_of_getElem? h⟩
 ·cases h
theorem lineIn_le {es:List End} {l:Bs} (hT:TabP es):(lineIn es l).length≤l.length:=by
 unfold lineIn
 split
 ·exact Nat.le_refl _
 ·rename_i p hp
  split
  ·exact Nat.le_refl _
  ·rename_i e he
   obtain ⟨h5,hm⟩:=endP_mem he
   have hi:=hT.2.1 e hm
   unfold End.inn InE at hi
   have h1:(dig e.a.toNat).length≤1:=by rw [dig_lt (by omega)];simp
   have h2:(dig e.p.toNat).length≤3:=dig_len3 (by omega)
   have h7:PORT.length=5:=rfl
   have hl:e.line.length≤10:=by
    unfold End.line End.txt eTxt
    split
    ·simp;omega
    ·simp
   unfold boxP at hp
   obtain ⟨x,hx,hx2⟩:=Option.bind_eq_some_iff.1 hp
   split at hx2
   case isFalse=>cases hx2
   rename_i hx50
   cases hx2
   unfold said at hx
   split at hx
   case isFalse=>cases hx
   rename_i hpre
   have h3:=(rd_spec hx).2
   have h4:=congrArg List.length h3
   have h8:=dig_ge3 (n:=x.p.toNat) (by omega)
   have h9:=dig_pos x.a.toNat
   have h10:=hpre.length_le
   unfold eTxt at h4
   simp at h4
   omega
theorem linesIn_le {es:List End} (hT:TabP es) (ls:List Bs):(linesIn es ls).length≤lsum ls:=by
 induction ls with
 | nil=>simp [linesIn]
 | cons l ls ih=>
  have:=lineIn_le (l:=l) hT
  simp only [linesIn,lsum,List.map_cons,List.flatten_cons,List.sum_cons,List.length_append,List.length_cons,List.length_nil] at ih ⊢
  omega
theorem lsum_le:∀ (ls ms:List Bs),ls.length=ms.length→(∀ (i:Nat) (l m:Bs),ls[i]? = some l→ms[i]? = some m→m.length≤l.length)→lsum ms≤lsum ls:=by
 intro ls
 induction ls with
 | nil=>intro ms h _;cases ms with
  | nil=>simp
  | cons=>simp at h
 | cons l ls ih=>
  intro ms h hl
  cases ms with
  | nil=>simp at h
  | cons m ms=>
   have h1:=hl 0 l m rfl rfl
   have h2:=ih ms (by simpa using h) fun i a b ha hb=>hl (i+1) a b (by simpa using ha) (by simpa using hb)
   simp only [lsum,List.map_cons,List.sum_cons] at h2 ⊢
   omega
theorem near_len {es:List End} {he ne:Bs} (hT:TabP es) (h:nearP es he ne):ne.length≤he.length:=by
 obtain ⟨h1,h2,_,h4⟩:=h
 have e1:=lsum_lines 59 ne
 have e2:=lsum_lines 59 he
 have e3:=lsum_le (zu he).1 (zu ne).1 h1 fun i l m hl hm=>by
  rcases h4 i l m hl hm with rfl | rfl
  ·exact Nat.le_refl _
  ·exact lineIn_le hT
 simp only [zu] at *
 rw [h2] at e1
 simp at e1
 omega
theorem heardC_eq (es:List End) (c:Conn) (s:Seg):heardC es c s={c with he:=vt c.he s,ne:=c.ne++linesIn es ((zu (vt c.he s)).1.drop (zu c.he).1.length)}:=by
 unfold heardC vt
 split
 ·rfl
 ·rw [List.drop_of_length_le (Nat.le_refl _)];simp [linesIn]
theorem added_lines (l:Bs) (s:Seg):(zu l).1.length≤(zu (vt l s)).1.length:=by
 unfold vt;split
 ·exact grown_mono l s
 ·exact Nat.le_refl _
theorem heard_ne_len {es:List End} {c:Conn} {s:Seg} (hT:TabP es) (h:nearP es c.he c.ne) (hs:StrP c.he):(c.ne++linesIn es ((zu (vt c.he s)).1.drop (zu c.he).1.length)).length≤240:=by
 have h1:=near_len hT h
 have h2:=hs.2.2
 have h3:=linesIn_le hT ((zu (vt c.he s)).1.drop (zu c.he).1.length)
 have h4:=lsum_drop_le (zu (vt c.he s)).1 (zu c.he).1.length
 have h5:=lsum_lines 59 (vt c.he s)
 have h6:=(addedS_ok (s:=s) hs).2.2
 simp only [zu,List.length_append] at *
 omega
theorem OwnO.ne {S0 S:St} {x:Option Addr} {e:TypeId} {k cap b:Nat} {rows:List (List Value)} (h:OwnO S0 S x e k cap rows) (hb:S b=none):∀ b' off,x=some ⟨b',off,none⟩→b'≠b:=h.sl.ne hb
theorem findC_is {e f:End}:∀ (cs:List Conn) (k:Nat) (c:Conn),vL cs e f=k→cs[k]? = some c→c.i=e∧c.o=f:=by
 intro cs
 induction cs with
 | nil=>intro k c h;simp [vL] at h
 | cons x cs ih=>
  intro k c h hc
  simp only [vL] at h
  split at h
  ·rename_i hx
   obtain rfl:k=0:=by omega
   simp only [List.getElem?_cons_zero,Option.some.injEq] at hc
   subst hc;exact hx
  ·split at h
   ·omega
   ·obtain ⟨k,rfl⟩:∃ j,k=j+1:=⟨k-1,by omega⟩
    simp only [List.getElem?_cons_succ] at hc
    exact ih k c (by omega) hc
theorem heard_take_len {es:List End} {c:Conn} {s:Seg} (i:Nat) (hT:TabP es) (h:nearP es c.he c.ne) (hs:StrP c.he):(c.ne++linesIn es (((zu (vt c.he s)).1.drop (zu c.he).1.length).take i)).length≤240:=by
 have h1:=near_len hT h
 have h2:=hs.2.2
 have h3:=linesIn_le hT (((zu (vt c.he s)).1.drop (zu c.he).1.length).take i)
 have h7:=lsum_take_le ((zu (vt c.he s)).1.drop (zu c.he).1.length) i
 have h4:=lsum_drop_le (zu (vt c.he s)).1 (zu c.he).1.length
 have h5:=lsum_lines 59 (vt c.he s)
 have h6:=(addedS_ok (s:=s) hs).2.2
 simp only [zu,List.length_append] at *
 omega
end
section
variable {S0:St} {K:Value→St→Prop}
variable {b:Box} {bx c n1 n2 n3:Nat} {x1 x2:Option Addr} {s:Seg}
theorem ct75 {m:Nat} {csm:List Value} (hG:Glob S0) (hB:BoxP b) (hg:S0.g=.sends c ((vz b s).2.map Seg.v)) (hdt:s.dt.length≤1048576) (hbx:S0 bx=some ⟨Cs [.slice x1 b.rs.length n1,.slice x2 b.es.length n2,sl m 0 b.cs.length n3] 29,true⟩) (h1:Sl S0 7 x1 (z5 b.rs)) (h2:Sl S0 2 x2 (zS b.es)) (hn2:b.es.length≤n2) (hn3:b.cs.length≤n3) (hm:S0 m=some ⟨Cs csm 49,true⟩) (hcm:b.cs.length*7≤csm.length) (hctm:csm.take (b.cs.length*7)=(zY b.cs).flatten) (hne:bx≠m) (qG_bx:bx∉[1,2,4]) (qG_m:m∉[1,2,4]) (q1_bx:∀ b off,x1=some ⟨b,off,none⟩→b≠bx) (q1_m:∀ b off,x1=some ⟨b,off,none⟩→b≠m) (q2_bx:∀ b off,x2=some ⟨b,off,none⟩→b≠bx) (q2_m:∀ b off,x2=some ⟨b,off,none⟩→b≠m) (k:∀ (x2' x3':Option Addr) (d2 d3:Nat) S',Ext [bx,m] {S0 with g:=.sends c []} S'→S' bx=some ⟨Cs [.slice x1 b.rs.length n1,.slice x2' (vz b s).1.es.length d2,.slice x3' (vz b s).1.cs.length d3] 29,true⟩→Sl S' 7 x1 (z5 b.rs)→Sl S' 2 x2' (zS (vz b s).1.es)→(vz b s).1.es.length≤d2→Sl S' 7 x3' (zY (vz b s).1.cs)→(vz b s).1.cs.length≤d3→Org S0 x2 x2'→Org S0 (some ⟨m,0,none⟩) x3'→OffS x2' x3'→K (.tuple #[]) S') :
  zC 75 #[ptr bx 0,s.v,.chan (some c)] S0 K:=by
 refine zGo (sf:=s75) Tryz.func75 ?_
 have H:=Loc.start2 hbx hm hne
 have q1:=h1
 have q2:=h2
 have qG:=hG
 obtain ⟨hz1,hz2,hz3,hz4⟩:=hB.small
 have hT:=hB.1
 have hnot:=fun h=>(boxInP_not (b:=b) (s:=s) h).1 hB
 refine zR (zBx H O O fun b4 S hb4 hE H=>?_)
 have q1_b4:=q1.ne hb4
 replace q1:=q1.mono hE
 have q2_b4:=q2.ne hb4
 replace q2:=q2.mono hE
 have qG_b4:=qG.ne hb4
 replace qG:=qG.mono hE
 refine zN ?_
 refine wpS_cut (fun E S=>∃ (b6:Nat) (e6:End) (t7:Bool),E=Env.lst [(0,ptr bx 0),(2,.chan (some c)),(4,ptr b4 0),(6,ptr b6 0),(7,.bool t7)]∧Loc [bx,m] S0 S [(b6,Cs e6.row 31),(b4,Cs s.row 33),(bx,Cs [.slice x1 b.rs.length n1,.slice x2 b.es.length n2,sl m 0 b.cs.length n3] 29),(m,Cs csm 49)]∧(t7=true→endP b.es s.d.p=some e6)∧(t7=false→endP b.es s.d.p=none∧e6=⟨0,0⟩)∧(Sl S 7 x1 (z5 b.rs))∧(Sl S 2 x2 (zS b.es))∧(Glob S)∧(∀ b off,x1=some ⟨b,off,none⟩→b≠b6)∧(∀ b off,x1=some ⟨b,off,none⟩→b≠b4)∧(∀ b off,x1=some ⟨b,off,none⟩→b≠bx)∧(∀ b off,x1=some ⟨b,off,none⟩→b≠m)∧(∀ b off,x2=some ⟨b,off,none⟩→b≠b6)∧(∀ b off,x2=some ⟨b,off,none⟩→b≠b4)∧(∀ b off,x2=some ⟨b,off,none⟩→b≠bx)∧(∀ b off,x2=some ⟨b,off,none⟩→b≠m)∧(b6∉[1,2,4])∧(b4∉[1,2,4])∧(bx∉[1,2,4])∧(m∉[1,2,4])) ?_ ?_
 ·skip
  refine vc [] (vI 0 O O O (vM 1 O O (fun _ _ hK=>W_nilchk O hK) (zLf 2 O O O (vi 3 O O (fun S' hS'=>zG fun K hK=>zV O (zM (hS' O) (by simp) (H.cells (vs:=[_]) .h1 O)) hK) (zLf 4 O O O (zLf 5 O O O (vi 6 O O (fun S' hS'=>zG fun K hK=>zF O (zH (hS' O) (by simp) (H.cell .h O)) hK) (wpD_two 7 11 (by kernel_rfl) O O O O ?_ ?_))))))))
  ·skip
   refine zv (zU O (ct25 q2 hn2 (by omega) fun e27 t27 S hE hy27 hn27=>?_))
   replace H:=H.call hE
   replace q1:=q1.mono hE
   replace q2:=q2.mono hE
   replace qG:=qG.mono hE
   refine zLd (vI 8 O O O (vM 9 O O (fun _ _ hK=>vo O O hK) (vM 10 O O (fun _ _ hK=>vo O O hK) (zB 11 (by kernel_rfl) O O (zv (W_alloc H O fun b6 S hb6 hE H=>?_))))))
   have q1_b6:=q1.ne hb6
   replace q1:=q1.mono hE
   have q2_b6:=q2.ne hb6
   replace q2:=q2.mono hE
   have qG_b6:=qG.ne hb6
   replace qG:=qG.mono hE
   refine ⟨fun _=>hE.up.ext,zB 12 (by kernel_rfl) O O (zv (zSt H O O O .h O fun S hE H=>?_))⟩
   replace q1:=q1.qy hE q1_b6
   replace q2:=q2.qy hE q2_b6
   replace qG:=qG.qy hE qG_b6
   refine zLd (vI 13 O O O (zX (ze ?_)))
   replace H:=H.front .h3
   replace H:=H.front .h3
   replace H:=H.front .h3
   replace H:=H.front .h3
   refine ⟨_,?le,b6,e27,t27,O,H,hy27,hn27,q1,q2,qG,q1_b6,q1_b4,q1_bx,q1_m,q2_b6,q2_b4,q2_bx,q2_m,qG_b6,qG_b4,qG_bx,qG_m⟩
   case le=>exact Env.qle ⟨O,O,O,O,O,⟨⟩⟩
  ·skip
   refine zv (W_alloc H O fun b6 S hb6 hE H=>?_)
   have q1_b6:=q1.ne hb6
   replace q1:=q1.mono hE
   have q2_b6:=q2.ne hb6
   replace q2:=q2.mono hE
   have qG_b6:=qG.ne hb6
   replace qG:=qG.mono hE
   refine ⟨fun _=>hE.up.ext,zB 7 (by kernel_rfl) O O (zv (zU O (ct25 q2 hn2 (by omega) fun e27 t27 S hE hy27 hn27=>?_)))⟩
   replace H:=H.call hE
   replace q1:=q1.mono hE
   replace q2:=q2.mono hE
   replace qG:=qG.mono hE
   refine zLd (vI 8 O O O (vM 9 O O (fun _ _ hK=>vo O O hK) (vM 10 O O (fun _ _ hK=>vo O O hK) (zB 12 (by kernel_rfl) O O (zv (zSt H O O O .h O fun S hE H=>?_))))))
   replace q1:=q1.qy hE q1_b6
   replace q2:=q2.qy hE q2_b6
   replace qG:=qG.qy hE qG_b6
   refine zLd (vI 13 O O O (zX (ze ?_)))
   replace H:=H.front .h3
   replace H:=H.front .h3
   replace H:=H.front .h3
   replace H:=H.front .h3
   refine ⟨_,?le,b6,e27,t27,O,H,hy27,hn27,q1,q2,qG,q1_b6,q1_b4,q1_bx,q1_m,q2_b6,q2_b4,q2_bx,q2_m,qG_b6,qG_b4,qG_bx,qG_m⟩
   case le=>exact Env.qle ⟨O,O,O,O,O,⟨⟩⟩
 ·skip
  rintro _ S ⟨b6,e6,t7,rfl,H,hy,hn,q1,q2,qG,q1_b6,q1_b4,q1_bx,q1_m,q2_b6,q2_b4,q2_bx,q2_m,qG_b6,qG_b4,qG_bx,qG_m⟩
  have h7:t7=true↔t7=true:=Iff.rfl
  refine zD (zD (vc [] (vi 0 O O (fun S' hS'=>zG fun K hK=>zV O (zM (hS' O) (by simp) (H.cells (vs:=[_,_,_,_,_,_,_]) .h1 O)) hK) (zB 1 (by kernel_rfl) O O (zv (zU O (ct31 (by omega) fun t31 S hE h31=>?_)))))))
  replace H:=H.call hE
  replace q1:=q1.mono hE
  replace q2:=q2.mono hE
  replace qG:=qG.mono hE
  refine ⟨fun _=>hE.up.ext,vM 2 O O (fun _ _ hK=>W_not O hK) (vI 3 O O O ?_)⟩
  rcases t31 with _|_
  ·replace h31:=bF h31
   refine vi 4 O O (fun S' _=>z9 O (by decide)) (vi 5 O O (fun S' _=>z9 O (by decide)) (vi 6 O O (fun S' _=>z9 O (by decide)) (vi 7 O O (fun S' _=>z9 O (by decide)) (vM 8 O O (fun _ _ hK=>vG O O O O hK) (vI 9 O O O (vi 10 O O (fun S' _=>z9 O (by decide)) (vi 11 O O (fun S' _=>z9 O (by decide)) (vM 12 O O (fun _ _ hK=>vG O O O O hK) (vI 13 O O O (vi 14 O O (fun S' _=>z9 O (by decide)) (vi 15 O O (fun S' _=>z9 O (by decide)) (vi 16 O O (fun S' _=>z9 O (by decide)) (vi 17 O O (fun S' _=>z9 O (by decide)) (vi 18 O O (fun S' _=>z9 O (by decide)) (vi 19 O O (fun S' _=>z9 O (by decide)) (vi 20 O O (fun S' _=>z9 O (by decide)) (zB 21 (by kernel_rfl) O O (step_no O (by decide) (⟨fun _=>fun _ _ _ h=>h,vi 22 O O (fun S' _=>z9 O (by decide)) (vM 23 O O (fun _ _ hK=>vG O O O O hK) (zX (ze (zr O (zh (zw (⟨trivial,_,zT,?_⟩)))))))⟩)))))))))))))))))))
   have hr:vz b s=(b,[]):=by
    exact hnot (fun h=>h31 h.2.1)
   rw [hr] at hg k
   replace H:=H.quiet (by exact hg)
   exact k x2 (some ⟨m,0,none⟩) n2 n3 S H.qx (H.get .h2) q1 q2 hn2 (vn (H.get .h3) rfl (by simpa using hctm) zZ) hn3 (.same _ _) (.same _ _) (.at q2_m)
  ·replace h31:=bT h31
   refine vi 4 O O (fun S' _=>vg O fun K hK=>zz O hK) (vi 5 O O (fun S' _=>vg O fun K hK=>zz O hK) (vi 6 O O (fun S' hS'=>vg O fun K hK=>zF O (zH (hS' O) (by simp) (H.cell .h1 O)) hK) (zCm 7 O O (fun S' _=>vg O fun K hK=>W_bin O O O hK) fun t37 h37=>vM 8 O O (fun _ _ hK=>vG O O O O hK) (vI 9 O O O ?_))))
   rcases t37 with _|_
   ·replace h37:=bF h37
    refine vi 10 O O (fun S' _=>vg O fun K hK=>vC O hK) (vi 11 O O (fun S' _=>vg O fun K hK=>W_not O hK) (vM 12 O O (fun _ _ hK=>vG O O O O hK) (vI 13 O O O ?_)))
    rcases t7 with _|_
    ·replace h7:=bF h7
     refine vi 14 O O (fun S' _=>z9 O (by decide)) (vi 15 O O (fun S' _=>z9 O (by decide)) (vi 16 O O (fun S' _=>z9 O (by decide)) (vi 17 O O (fun S' _=>z9 O (by decide)) (vi 18 O O (fun S' _=>z9 O (by decide)) (vi 19 O O (fun S' _=>z9 O (by decide)) (vi 20 O O (fun S' _=>z9 O (by decide)) (zB 21 (by kernel_rfl) O O (step_no O (by decide) (⟨fun _=>fun _ _ _ h=>h,vi 22 O O (fun S' _=>z9 O (by decide)) (vM 23 O O (fun _ _ hK=>vG O O O O hK) (zX (ze (zr O (zh (zw (⟨trivial,_,zT,?_⟩)))))))⟩)))))))))
     have hr:vz b s=(b,[]):=by
      by_cases ho:s.s.out
      ·exact boxInP_none ⟨hB,h31,ho,Classical.not_not.1 h37⟩ (hn rfl).1
      ·exact hnot (fun h=>ho h.2.2.1)
     rw [hr] at hg k
     replace H:=H.quiet (by exact hg)
     exact k x2 (some ⟨m,0,none⟩) n2 n3 S H.qx (H.get .h2) q1 q2 hn2 (vn (H.get .h3) rfl (by simpa using hctm) zZ) hn3 (.same _ _) (.same _ _) (.at q2_m)
    ·replace h7:=bT h7
     refine vi 14 O O (fun S' _=>vg O fun K hK=>vC O hK) (vi 15 O O (fun S' _=>vg O fun K hK=>W_nilchk O hK) (vi 16 O O (fun S' _=>vg O fun K hK=>zz O hK) (vi 17 O O (fun S' hS'=>vg O fun K hK=>zF O (zH (hS' O) (by simp) (H.cell .h2 O)) hK) (vi 18 O O (fun S' hS'=>vg O fun K hK=>zV O (zM (hS' O) (by simp) (H.cells (vs:=[_,_]) .h O)) hK) (vi 19 O O (fun S' _=>vg O fun K hK=>zz O hK) (vi 20 O O (fun S' hS'=>vg O fun K hK=>zV O (zM (hS' O) (by simp) (H.cells (vs:=[_,_]) .h1 O)) hK) (zB 21 (by kernel_rfl) O O (step_yes O (zU O (ct87 q1 (by omega) fun t51 S hE h51=>?_))))))))))
     replace H:=H.call hE
     replace q1:=q1.mono hE
     replace q2:=q2.mono hE
     replace qG:=qG.mono hE
     refine zLd (vi 22 O O (fun S' _=>vg O fun K hK=>W_not O hK) (vM 23 O O (fun _ _ hK=>vG O O O O hK) (zX (ze ?_))))
     rcases t51 with _|_
     ·replace h51:=bF h51
      refine zr O (zh (zw (⟨trivial,_,zT,?_⟩)))
      have hr:vz b s=(b,[]):=by
       by_cases ho:s.s.out
       ·exact boxInP_deny ⟨hB,h31,ho,Classical.not_not.1 h37⟩ (hy rfl) (fun hm2=>h51 ⟨hT.2.1 _ (endP_mem (hy rfl)).2,ho,hm2⟩)
       ·exact hnot (fun h=>ho h.2.2.1)
      rw [hr] at hg k
      replace H:=H.quiet (by exact hg)
      exact k x2 (some ⟨m,0,none⟩) n2 n3 S H.qx (H.get .h2) q1 q2 hn2 (vn (H.get .h3) rfl (by simpa using hctm) zZ) hn3 (.same _ _) (.same _ _) (.at q2_m)
     ·replace h51:=bT h51
      have hyes:BoxP b∧SegP s∧s.s.out∧s.d.a=50:=⟨hB,h31,h51.2.1,Classical.not_not.1 h37⟩
      refine zn O (zt (ze (zR (zLn (vs:=[_,_]) H O .h O (vw O (zSs H O O O .h1 O fun S hE H=>?_))))))
      replace q1:=q1.qy hE q1_b4
      replace q2:=q2.qy hE q2_b4
      replace qG:=qG.qy hE qG_b4
      refine zN (zD (vc [] (vI 0 O O O (vM 1 O O (fun _ _ hK=>W_nilchk O hK) (vi 2 O O (fun S' hS'=>zG fun K hK=>zV O (zM (hS' O) (by simp) (H.cells (vs:=[_,_,_]) .h2 O)) hK) (vi 3 O O (fun S' hS'=>zG fun K hK=>zV O (zM (hS' O) (by simp) (H.cells (vs:=[_,_]) .h O)) hK) (zLf 4 O O O (vi 5 O O (fun S' hS'=>zG fun K hK=>zV O (zM (hS' O) (by simp) (H.cells (vs:=[_,_]) .h1 O)) hK) (zB 6 (by kernel_rfl) O O (zv (zU O (ct65 (b:=b) (vn (H.get .h3) O (by simpa using hctm) zZ) (by omega) fun S hE =>?_))))))))))))
      replace H:=H.call hE
      replace q1:=q1.mono hE
      replace q2:=q2.mono hE
      replace qG:=qG.mono hE
      refine zLd (vI 7 O O O (zX (ze ?_)))
      refine wpS_cut (fun E S=>∃ (b4:Nat) (kk:Nat) (x:Conn),E=Env.lst [(0,ptr bx 0),(2,.chan (some c)),(4,ptr b4 0),(8,int kk)]∧Loc [bx,m] S0 S [(m,Cs csm 49),(b4,Cs ({s with d:=e6}:Seg).row 33),(bx,Cs [.slice x1 b.rs.length n1,.slice x2 b.es.length n2,sl m 0 b.cs.length n3] 29)]∧(b.cs[kk]? = some x)∧(vz b s=inO b s kk)∧(x.i=e6)∧(e6.ok)∧(Sl S 7 x1 (z5 b.rs))∧(Sl S 2 x2 (zS b.es))∧(Glob S)∧(∀ b off,x1=some ⟨b,off,none⟩→b≠m)∧(∀ b off,x1=some ⟨b,off,none⟩→b≠b4)∧(∀ b off,x1=some ⟨b,off,none⟩→b≠bx)∧(∀ b off,x2=some ⟨b,off,none⟩→b≠m)∧(∀ b off,x2=some ⟨b,off,none⟩→b≠b4)∧(∀ b off,x2=some ⟨b,off,none⟩→b≠bx)∧(m∉[1,2,4])∧(b4∉[1,2,4])∧(bx∉[1,2,4])) ?_ ?_
      ·skip
       refine zR (zj O (za (vq O O fun t64 h64=>zN ?_)))
       rcases t64 with _|_
       ·replace h64:=bF h64
        have hr:=boxInP_in hyes (hy rfl) h51.2.2 (by omega)
        obtain ⟨x,hx⟩:∃ x,b.cs[(vL b.cs e6 s.s).toNat]? = some x:=⟨b.cs[(vL b.cs e6 s.s).toNat]'(by have:=findC_bd b.cs e6 s.s;omega),by simp⟩
        refine zn O (zt (ze ?_))
        replace H:=H.front .h2
        replace H:=H.front .h2
        replace H:=H.front .h3
        refine ⟨_,?le,b4,(vL b.cs e6 s.s).toNat,x,O,(H.takeL 3),hx,hr,(findC_is (e:=e6) (f:=s.s) b.cs (vL b.cs e6 s.s).toNat x (by omega) hx).1,(by have h9:=hT.2.1 _ (endP_mem (hy rfl)).2;unfold End.inn InE at h9;exact ⟨.inl h9.1,h9.2⟩),q1,q2,qG,q1_m,q1_b4,q1_bx,q2_m,q2_b4,q2_bx,qG_m,qG_b4,qG_bx⟩
        case le=>exact Env.qle ⟨rfl,rfl,rfl,(by show some (int (vL b.cs e6 s.s))=_;congr 2;omega),trivial⟩
       ·replace h64:=bT h64
        refine zr O (vB (vw O (vw O (zL1 H O .h1 O (za (W_neI O O fun t68 h68=>zN ?_))))))
        rcases t68 with _|_
        ·replace h68:=bF h68
         refine zn O (zt (ze (zh (zw (⟨trivial,_,zT,?_⟩)))))
         have hr:vz b s=(b,[]):=by
          exact boxInP_ctl hyes (hy rfl) h51.2.2 (by omega) (Classical.not_not.1 h68)
         rw [hr] at hg k
         replace H:=H.quiet (by exact hg)
         exact k x2 (some ⟨m,0,none⟩) n2 n3 S H.qx (H.get .h2) q1 q2 hn2 (vn (H.get .h3) rfl (by simpa using hctm) zZ) hn3 (.same _ _) (.same _ _) (.at q2_m)
        ·replace h68:=bT h68
         have hr:=boxInP_one hyes (hy rfl) h51.2.2 (by omega) h68
         refine zr O (zJ (zj O (zLn (vs:=[_,_,_,_,_,_,_]) H O .h1 O (za (W_send (vs:=[]) O O (by rw [H.g.eq,hg,hr];rfl) ?_)))))
         replace H:=H.sent (.sends c [])
         replace q1:=q1.sent (.sends c [])
         replace q2:=q2.sent (.sends c [])
         refine zN (zh (zw (⟨trivial,_,zT,?_⟩)))
         rw [hr] at k
         exact k x2 (some ⟨m,0,none⟩) n2 n3 _ H.qx (H.get .h2) q1 q2 hn2 (vn (H.get .h3) rfl (by simpa using hctm) zZ) hn3 (.same _ _) (.same _ _) (.at q2_m)
      ·skip
       rintro _ S ⟨b4,kk,x,rfl,H,hx,hr,hx6,he6,q1,q2,qG,q1_m,q1_b4,q1_bx,q2_m,q2_b4,q2_bx,qG_m,qG_b4,qG_bx⟩
       have hkl:=(List.getElem?_eq_some_iff.1 hx).1
       have hbd:kk*7+7≤csm.length:=by have:=Nat.mul_le_mul_right 7 (show kk+1≤b.cs.length by omega);omega
       have hcx:=(hB.2.2.2 _ _ hx).1
       have hhe:=hcx.2.2.2.2.2.1
       have hkn:=hcx.2.2.2.2.1
       have hnr:=hcx.2.2.2.2.2.2.2
       have hhe1:StrP (vt x.he s):=addedS_ok hhe
       have hz5:=hz4 x (List.mem_of_getElem? hx)
       have hh2:=hhe1.2.2
       have hol:=added_lines x.he s
       have hnl3:(zu (vt x.he s)).1.length≤(vt x.he s).length:=strLines_len _
       have hdl:((zu (vt x.he s)).1.drop (zu x.he).1.length).length=(zu (vt x.he s)).1.length-(zu x.he).1.length:=List.length_drop ..
       refine zR (zj O (za (W_nilchk O (vw O (zL1 H O .h2 O (zj O (zIa O O (zj O (vE (zj O (za (W_nilchk O (vw O (za (zF O (vv (i:=5) (v:=str x.he) (cells_own (H.get .h) (row_sub (by simpa using hctm) zZ (vK hx))) O) (zCl O (ct35 (by omega) fun b82 cap82 S hE hb82 hO82=>?_)))))))))))))))))
       replace H:=H.call hE
       replace q1:=q1.mono hE
       replace q2:=q2.mono hE
       replace qG:=qG.mono hE
       refine zj O (zEx O O (zEx O O (zj O (zj O (zN (zD (vc [] (vI 0 O O O (vI 1 O O O (vM 2 O O (fun _ _ hK=>W_nilchk O hK) (zLf 3 O O O (vi 4 O O (fun S' hS'=>zG fun K hK=>zF O (zH (hS' O) (by simp) (vv (i:=5) (v:=str x.he) (cells_own (H.get .h) (row_sub (by simpa using hctm) zZ (vK hx))) O)) hK) (vi 5 O O (fun S' hS'=>zG fun K hK=>zV O (zM (hS' O) (by simp) (H.cells (vs:=[_,_,_,_,_,_,_]) .h1 O)) hK) (zB 6 (by kernel_rfl) O O (zv (zU O (ct130 (s:=({s with d:=e6}:Seg)) (by omega) hdt (by have h9:=h31.2.2.1;show -1099511627776≤s.sq∧s.sq≤1099511627776;omega) fun S hE =>?_)))))))))))))))))
       replace H:=H.call hE
       have e91:vt x.he ({s with d:=e6}:Seg)=vt x.he s:=rfl
       rw [e91]
       replace q1:=q1.mono hE
       replace q2:=q2.mono hE
       replace qG:=qG.mono hE
       refine zLd (vM 7 O O (fun _ _ hK=>W_nilchk O hK) (zLf 8 O O O (zB 9 (by kernel_rfl) O O (zv (W_store H O O O O O (by decide) .h (by show 0+kk*7+5+1≤csm.length;omega) O fun S hE H=>?_)))))
       have hct1:(setl csm (0+kk*7+5) [str (vt x.he s)]).take ((b.cs.set kk {x with he:=(vt x.he s)}).length*7)=(zY (b.cs.set kk {x with he:=(vt x.he s)})).flatten:=by
        have h9:=row_cell (j:=5) (v:=str (vt x.he s)) (k:=7) (rows:=zY b.cs) (by simpa using hctm) zZ (vK hx) (by decide)
        simpa [zY,List.map_set] using h9
       have hx1:(b.cs.set kk {x with he:=(vt x.he s)})[kk]? = some {x with he:=(vt x.he s)}:=by simp [hkl]
       replace q1:=q1.qy hE q1_m
       replace q2:=q2.qy hE q2_m
       replace qG:=qG.qy hE qG_m
       refine zLd (zX (ze (zR (zj O (za (W_nilchk O (vw O (za (zF O (vv (i:=5) (v:=str (vt x.he s)) (cells_own (H.get .h) (row_sub (by simpa using hct1) zZ (vK hx1))) O) (zCl O (ct35 (by omega) fun b99 cap99 S hE hb99 hO99=>?_)))))))))))
       obtain ⟨cs99,ho99,hn99,hcl99,hct99,_⟩:=hO99
       replace H:=H.adopt hE hb99 ho99
       replace q1:=q1.mono hE
       replace q2:=q2.mono hE
       replace qG:=qG.mono hE
       refine zj O (zEx O O (zEx O O (zj O (zj O (zN (vB (zj O (zj O (zLl O (za (W_slDrop (l:=(zu (vt x.he s)).1) (f:=strRows) O O hol (by simpa using hn99) (vn (H.get .h) (n:=(zu (vt x.he s)).1.length*1) (by simp) (by simpa using hct99) strRows_one) (by simp [strRows]) (by simp) fun a105 cap105 hs105 hc105 hf105=>?_)))))))))))
       have hs105_m:=hf105 m (by rintro _ _ e rfl;cases e;exact absurd H.nodup (by simp))
       have hs105_b4:=hf105 b4 (by rintro _ _ e rfl;cases e;exact absurd H.nodup (by simp))
       have hs105_bx:=hf105 bx (by rintro _ _ e rfl;cases e;exact absurd H.nodup (by simp))
       refine zLl O (zj O (zN (zE ?_)))
       refine vj (fun E S m_=>∃ (i:Nat) (csb:List Value),E=Env.lst [(0,ptr bx 0),(2,.chan (some c)),(4,ptr b4 0),(8,int kk),(9,ptr m (0+kk*7)),(105,.slice a105 ((zu (vt x.he s)).1.drop (zu x.he).1.length).length cap105),(106,int ((zu (vt x.he s)).1.drop (zu x.he).1.length).length),(107,int i)]∧Loc [bx,m] S0 S [(m,Cs csb 49),(b4,Cs ({s with d:=e6}:Seg).row 33),(bx,Cs [.slice x1 b.rs.length n1,.slice x2 b.es.length n2,sl m 0 b.cs.length n3] 29)]∧(i≤((zu (vt x.he s)).1.drop (zu x.he).1.length).length)∧(csb.length=csm.length)∧(csb.take ((b.cs.set kk ({x with he:=(vt x.he s),ne:=x.ne++linesIn b.es (((zu (vt x.he s)).1.drop (zu x.he).1.length).take i)}:Conn)).length*7)=(zY (b.cs.set kk ({x with he:=(vt x.he s),ne:=x.ne++linesIn b.es (((zu (vt x.he s)).1.drop (zu x.he).1.length).take i)}:Conn))).flatten)∧(Sl S 1 a105 (strRows ((zu (vt x.he s)).1.drop (zu x.he).1.length)))∧(Sl S 7 x1 (z5 b.rs))∧(Sl S 2 x2 (zS b.es))∧(Glob S)∧(∀ b off,x1=some ⟨b,off,none⟩→b≠m)∧(∀ b off,x1=some ⟨b,off,none⟩→b≠b4)∧(∀ b off,x1=some ⟨b,off,none⟩→b≠bx)∧(∀ b off,x2=some ⟨b,off,none⟩→b≠m)∧(∀ b off,x2=some ⟨b,off,none⟩→b≠b4)∧(∀ b off,x2=some ⟨b,off,none⟩→b≠bx)∧(m∉[1,2,4])∧(b4∉[1,2,4])∧(bx∉[1,2,4])∧(∀ b off,a105=some ⟨b,off,none⟩→b≠m)∧(∀ b off,a105=some ⟨b,off,none⟩→b≠b4)∧(∀ b off,a105=some ⟨b,off,none⟩→b≠bx)∧m_=((zu (vt x.he s)).1.drop (zu x.he).1.length).length-i) ?_ ?_
       ·skip
        replace H:=H.front .h3
        replace H:=H.front .h3
        replace H:=H.front .h3
        refine ⟨_,_,?le,0,(setl csm (0+kk*7+5) [str (vt x.he s)]),O,(H.takeL 3),(by omega),(by rw [setl_len (by simp;omega)]),(by simpa [linesIn] using hct1),hs105,q1,q2,qG,q1_m,q1_b4,q1_bx,q2_m,q2_b4,q2_bx,qG_m,qG_b4,qG_bx,hs105_m,hs105_b4,hs105_bx,O⟩
        case le=>exact Env.qle ⟨O,O,O,O,O,O,O,O,⟨⟩⟩
       ·skip
        rintro _ S _ ⟨i,csb,rfl,H,hi,hcb,hct,hs105,q1,q2,qG,q1_m,q1_b4,q1_bx,q2_m,q2_b4,q2_bx,qG_m,qG_b4,qG_bx,hs105_m,hs105_b4,hs105_bx,rfl⟩
        refine zR (za (vq O O fun t108 h108=>zN (zD ?_)))
        rcases t108 with _|_
        ·replace h108:=bF h108
         refine zn O (vh (zK (zK (vp (ze (zD ?_))))))
         obtain ⟨xk,hxd⟩:∃ y:Conn,y=({x with he:=(vt x.he s),ne:=x.ne++linesIn b.es ((zu (vt x.he s)).1.drop (zu x.he).1.length)}:Conn):=⟨_,rfl⟩
         have hie:i=((zu (vt x.he s)).1.drop (zu x.he).1.length).length:=by omega
         rw [hie,List.take_length] at hct
         have hxe:xk=heardC b.es x s:=by rw [hxd,heardC_eq]
         rw [show ({x with he:=(vt x.he s),ne:=x.ne++linesIn b.es ((zu (vt x.he s)).1.drop (zu x.he).1.length)}:Conn)=xk by rw [hxd]] at hct
         have hxk:(b.cs.set kk xk)[kk]? = some xk:=by simp [hkl]
         have hk1:xk.kn=x.kn:=by rw [hxd]
         have hk2:xk.he=(vt x.he s):=by rw [hxd]
         have hk3:xk.ne=x.ne++linesIn b.es ((zu (vt x.he s)).1.drop (zu x.he).1.length):=by rw [hxd]
         have hk4:xk.i=x.i:=by rw [hxd]
         have hk5:=congrArg List.length hk1
         have hk6:=congrArg List.length hk2
         have hk7:xk.ne.length≤240:=by rw [hk3];exact heard_ne_len hT hnr hhe
         have hfl:=streamO_grow (es:=b.es) hz2 (l:=xk.kn) (by omega)
         have hbk:=backO_bd xk.kn (streamO b.es xk.kn).2 s.ak
         have hat:=outO_bd xk.he xk.ne s.sq
         have hr2:=inO_at (b:=b) (s:=s) hx hxe
         rw [hk4,hx6] at hr2
         rw [hr2] at hr
         have hS2:SegP ({s with d:=e6,ak:=backD 0 (spansO xk.kn (streamO b.es xk.kn).2) s.ak}:Seg):=⟨h31.1,he6,h31.2.2.1,by show 0≤backD 0 (spansO xk.kn (streamO b.es xk.kn).2) s.ak∧backD 0 (spansO xk.kn (streamO b.es xk.kn).2) s.ak≤240;have:=hkn.2.2;omega,h31.2.2.2.2⟩
         refine vc [] (vI 0 O O O (vM 1 O O (fun _ _ hK=>W_nilchk O hK) (zLf 2 O O O (vi 3 O O (fun S' hS'=>zG fun K hK=>zF O (zH (hS' O) (by simp) (vv (i:=5) (v:=str xk.he) (cells_own (H.get .h) (row_sub (by simpa using hct) zZ (vK hxk))) O)) hK) (vI 4 O O O (vM 5 O O (fun _ _ hK=>W_nilchk O hK) (zLf 6 O O O (vi 7 O O (fun S' hS'=>zG fun K hK=>zF O (zH (hS' O) (by simp) (vv (i:=6) (v:=str xk.ne) (cells_own (H.get .h) (row_sub (by simpa using hct) zZ (vK hxk))) O)) hK) (zLf 9 O O O (vi 10 O O (fun S' hS'=>zG fun K hK=>zF O (zH (hS' O) (by simp) (H.cell .h1 O)) hK) (zB 8 (by kernel_rfl) O O (zv (zU O (ct99 (by omega) (by omega) fun b134 cap134 S hE hb134 hO134=>?_))))))))))))))
         replace H:=H.call hE
         replace q1:=q1.mono hE
         replace q2:=q2.mono hE
         replace qG:=qG.mono hE
         refine ⟨fun _=>hE.up.ext,zB 11 (by kernel_rfl) O O (zv (zU O (ct132 hO134.sl (by have:=spansO_len xk.he xk.ne;omega) (SpM_spansO _ _) fun S hE =>?_)))⟩
         replace H:=H.call hE
         replace q1:=q1.mono hE
         replace q2:=q2.mono hE
         replace qG:=qG.mono hE
         refine zLd (vI 12 O O O (zX (ze (zD (vc [] (vI 0 O O O (vM 1 O O (fun _ _ hK=>W_nilchk O hK) (zLf 2 O O O (vi 3 O O (fun S' hS'=>zG fun K hK=>zF O (zH (hS' O) (by simp) (vv (i:=4) (v:=str xk.kn) (cells_own (H.get .h) (row_sub (by simpa using hct) zZ (vK hxk))) O)) hK) (vI 4 O O O (vM 5 O O (fun _ _ hK=>W_nilchk O hK) (vi 6 O O (fun S' hS'=>zG fun K hK=>zV O (zM (hS' O) (by simp) (H.cells (vs:=[_,_,_]) .h2 O)) hK) (vI 7 O O O (zLf 9 O O O (vi 10 O O (fun S' hS'=>zG fun K hK=>zF O (zH (hS' O) (by simp) (H.cell .h1 O)) hK) (zB 8 (by kernel_rfl) O O (zv (zU O (ct101 (es:=b.es) (cs:=b.cs.set kk xk) (j:=kk) (x:=xk) qG q2 (vn (H.get .h) O (by simpa using hct) zZ) hn2 (by omega) (by simp [hkl]) hkl (by omega) (by rw [hk1];exact hkn.lines) fun S hE =>?_)))))))))))))))))))
         replace H:=H.call hE
         replace q1:=q1.mono hE
         replace q2:=q2.mono hE
         refine ⟨fun _=>hE.up.ext,zB 11 (by kernel_rfl) O O (zv (zU O (ct38 (by omega) (by omega) (by have h9:=h31.2.2.2.1;show -1099511627776≤s.ak∧s.ak≤1099511627776;omega) fun S hE =>?_)))⟩
         replace H:=H.call hE
         replace q1:=q1.mono hE
         replace q2:=q2.mono hE
         refine zLd (zLf 12 O O O (zB 13 (by kernel_rfl) O O (zv (zSt H O O O .h1 O fun S hE H=>?_))))
         replace q1:=q1.qy hE q1_b4
         replace q2:=q2.qy hE q2_b4
         refine zLd (zX (ze (zD (vc [] (vi 0 O O (fun S' hS'=>zG fun K hK=>zV O (zM (hS' O) (by simp) (H.cells (vs:=[_,_,_,_,_,_,_]) .h1 O)) hK) (vI 1 O O O (vM 2 O O (fun _ _ hK=>W_nilchk O hK) (zLf 3 O O O (vi 4 O O (fun S' hS'=>zG fun K hK=>zF O (zH (hS' O) (by simp) (vv (i:=6) (v:=str xk.ne) (cells_own (H.get .h) (row_sub (by simpa using hct) zZ (vK hxk))) O)) hK) (vI 5 O O O (vI 8 O O O (zB 6 (by kernel_rfl) O O (zv (zU O (ct133 (s:=({s with d:=e6,ak:=backD 0 (spansO xk.kn (streamO b.es xk.kn).2) s.ak}:Seg)) hS2 (by omega) ⟨hat.1,Int.le_trans hat.2 (by omega)⟩ fun b157 S hE hb157 hs157=>?_)))))))))))))))
         have hs157_m:∀ b off,(some ⟨b157,0,none⟩:Option Addr)=some ⟨b,off,none⟩→b≠m:=by
          rintro _ _ e rfl;cases e;exact absurd (H.get .h) (by rw [hb157];nofun)
         have hs157_b4:∀ b off,(some ⟨b157,0,none⟩:Option Addr)=some ⟨b,off,none⟩→b≠b4:=by
          rintro _ _ e rfl;cases e;exact absurd (H.get .h1) (by rw [hb157];nofun)
         have hs157_bx:∀ b off,(some ⟨b157,0,none⟩:Option Addr)=some ⟨b,off,none⟩→b≠bx:=by
          rintro _ _ e rfl;cases e;exact absurd (H.get .h2) (by rw [hb157];nofun)
         replace H:=H.call hE
         obtain ⟨L2,hL2⟩:∃ L2,L2=cutO ({s with d:=e6,ak:=backD 0 (spansO xk.kn (streamO b.es xk.kn).2) s.ak}:Seg) xk.ne (outD 0 (spansO xk.he xk.ne) s.sq).toNat:=⟨_,rfl⟩
         have hL2b:L2.length≤1000:=by rw [hL2];have:=cutO_len ({s with d:=e6,ak:=backD 0 (spansO xk.kn (streamO b.es xk.kn).2) s.ak}:Seg) xk.ne (outD 0 (spansO xk.he xk.ne) s.sq).toNat;omega
         rw [← hL2] at hs157 hr ⊢
         replace q1:=q1.mono hE
         replace q2:=q2.mono hE
         refine zLd (vM 7 O O (fun _ _ hK=>W_lenL O hK) (zX (ze (zE ?_))))
         refine vj (fun E S m_=>∃ (i:Nat),E=Env.lst [(2,.chan (some c)),(157,sl b157 0 L2.length L2.length),(158,int L2.length),(159,int i)]∧Loc [bx,m] {S0 with g:=.sends c ((L2.drop i).map Seg.v)} S [(bx,Cs [.slice x1 b.rs.length n1,.slice x2 b.es.length n2,sl m 0 b.cs.length n3] 29),(m,Cs csb 49)]∧(i≤L2.length)∧(Sl S 7 (some ⟨b157,0,none⟩) (segRows L2))∧(Sl S 7 x1 (z5 b.rs))∧(Sl S 2 x2 (zS b.es))∧m_=L2.length-i) ?_ ?_
         ·skip
          replace H:=H.quiet (show S0.g=.sends c ((L2.drop 0).map Seg.v) by rw [hg,hr];rfl)
          replace H:=H.front .h
          replace H:=H.front .h2
          refine ⟨_,_,?le,0,O,(H.takeL 2),(by omega),hs157,q1,q2,O⟩
          case le=>exact Env.qle ⟨O,O,O,O,⟨⟩⟩
         ·skip
          rintro _ S _ ⟨i,rfl,H,hi,hs157,q1,q2,rfl⟩
          refine zR (za (vq O O fun t160 h160=>zN (zD ?_)))
          rcases t160 with _|_
          ·replace h160:=bF h160
           refine zn O (vh (zK (zK (vp (⟨trivial,_,zT,?_⟩)))))
           rw [show i=L2.length by omega,List.drop_length] at H
           rw [hr] at k
           exact k x2 (some ⟨m,0,none⟩) n2 n3 _ H.qx (by have:=H.get .h;rw [List.length_set];exact this) q1 q2 hn2 (vn (H.get .h1) rfl (by simpa using hct) zZ) (by rw [List.length_set];exact hn3) (.same _ _) (.same _ _) (.at q2_m)
          ·replace h160:=bT h160
           obtain ⟨z,hz⟩:∃ z,L2[i]? = some z:=⟨L2[i]'(by omega),by simp⟩
           obtain ⟨p,off,he,hcz⟩:=hs157.row i _ (segRows_at hz)
           cases he
           refine zr O (zt (ze (zD (zE (zR (zIa O O (za (zV (vs:=[_,_,_,_,_,_,_]) O hcz (zAl H O fun b18 S hb18 hE H=>?_)))))))))
           have hs157_b18:=hs157.ne hb18
           replace hs157:=hs157.mono hE
           have q1_b18:=q1.ne hb18
           replace q1:=q1.mono hE
           have q2_b18:=q2.ne hb18
           replace q2:=q2.mono hE
           refine zSs H O O O .h O fun S hE H=>?_
           replace hs157:=hs157.qy hE hs157_b18
           replace q1:=q1.qy hE q1_b18
           replace q2:=q2.qy hE q2_b18
           refine zN (zJ (zj O (zLn (vs:=[_,_,_,_,_,_,_]) H O .h O (za (W_send (vs:=(L2.drop (i+1)).map Seg.v) O O (by rw [H.g.eq];show Gh.sends _ _=_;rw [List.drop_eq_getElem_cons (by omega),show L2[i]=z from (List.getElem?_eq_some_iff.1 hz).2];rfl) ?_)))))
           replace H:=H.sent (.sends c ((L2.drop (i+1)).map Seg.v))
           replace q1:=q1.sent (.sends c ((L2.drop (i+1)).map Seg.v))
           replace q2:=q2.sent (.sends c ((L2.drop (i+1)).map Seg.v))
           replace hs157:=hs157.sent (.sends c ((L2.drop (i+1)).map Seg.v))
           refine vf (z_ (ze (zJ (zAd O O (zj O (zN ?_))))))
           replace H:=H.front .h2
           replace H:=H.front .h2
           refine ⟨_,_,?lt,?le,(i+1),O,(H.takeL 2),(by omega),hs157,q1,q2,O⟩
           case lt=>omega
           case le=>exact Env.qle ⟨O,O,O,O,⟨⟩⟩
        ·replace h108:=bT h108
         obtain ⟨y,hy9⟩:∃ y,((zu (vt x.he s)).1.drop (zu x.he).1.length)[i]? = some y:=⟨((zu (vt x.he s)).1.drop (zu x.he).1.length)[i]'(by omega),by simp⟩
         obtain ⟨p,off,he,hcy⟩:=hs105.row i _ (strRows_at hy9)
         subst he
         have hyl:=hhe1.lines y (List.mem_of_mem_drop (List.mem_of_getElem? hy9))
         have hneb:=heard_take_len (c:=x) (s:=s) i hT hnr hhe
         have hxi:(b.cs.set kk ({x with he:=(vt x.he s),ne:=x.ne++linesIn b.es (((zu (vt x.he s)).1.drop (zu x.he).1.length).take i)}:Conn))[kk]? = some ({x with he:=(vt x.he s),ne:=x.ne++linesIn b.es (((zu (vt x.he s)).1.drop (zu x.he).1.length).take i)}:Conn):=by simp [hkl]
         refine zr O (zt (ze (zD (zE (zR (zIa O O (za (zF O (vv (i:=0) hcy O) (zj O (zN (vc [] (vI 0 O O O (vM 1 O O (fun _ _ hK=>W_nilchk O hK) (zLf 2 O O O (vi 3 O O (fun S' hS'=>zG fun K hK=>zF O (zH (hS' O) (by simp) (vv (i:=6) (v:=str (x.ne++linesIn b.es (((zu (vt x.he s)).1.drop (zu x.he).1.length).take i))) (cells_own (H.get .h) (row_sub (by simpa using hct) zZ (vK hxi))) O)) hK) (vI 4 O O O (vM 5 O O (fun _ _ hK=>W_nilchk O hK) (zLf 6 O O O (vi 7 O O (fun S' hS'=>zG fun K hK=>zV O (zM (hS' O) (by simp) (H.cells (vs:=[_]) .h2 O)) hK) (vI 8 O O O (zB 9 (by kernel_rfl) O O (zv (zU O (ct98 qG q2 hn2 (by omega) (hhe1.lines y (List.mem_of_mem_drop (List.mem_of_getElem? hy9))) fun S hE =>?_))))))))))))))))))))))))
         replace H:=H.call hE
         replace q1:=q1.mono hE
         replace q2:=q2.mono hE
         replace qG:=qG.mono hE
         replace hs105:=hs105.mono hE
         refine ⟨fun _=>hE.up.ext,vM 10 O O (fun _ _ hK=>W_catS O O (by have:=lineIn_le (l:=y) hT;simp;omega) hK) (vM 11 O O (fun _ _ hK=>W_catS O O (by have:=lineIn_le (l:=y) hT;simp only [List.length_append,List.length_cons,List.length_nil] at hneb ⊢;omega) hK) (vM 12 O O (fun _ _ hK=>W_nilchk O hK) (zLf 13 O O O (zB 14 (by kernel_rfl) O O (zv (W_store H O O O O O (by decide) .h (by show 0+kk*7+6+1≤csb.length;omega) O fun S hE H=>?_))))))⟩
         replace q1:=q1.qy hE q1_m
         replace q2:=q2.qy hE q2_m
         replace qG:=qG.qy hE qG_m
         replace hs105:=hs105.qy hE hs105_m
         refine zLd (zX (z_ (ze (zJ (zAd O O (zj O (zN ?_)))))))
         replace H:=H.front .h2
         replace H:=H.front .h2
         replace H:=H.front .h2
         refine ⟨_,_,?lt,?le,(i+1),_,O,H,(by omega),(by rw [setl_len (by simp;omega)];exact hcb),(by
          have h9:=row_cell (j:=6) (v:=str (x.ne++linesIn b.es (((zu (vt x.he s)).1.drop (zu x.he).1.length).take i)++(lineIn b.es y++[59]))) (k:=7) (rows:=zY (b.cs.set kk ({x with he:=(vt x.he s),ne:=x.ne++linesIn b.es (((zu (vt x.he s)).1.drop (zu x.he).1.length).take i)}:Conn))) (by simpa using hct) zZ (vK hxi) (by decide)
          rw [vA hy9,linesIn_snoc]
          simpa [zY,List.map_set] using h9),hs105,q1,q2,qG,q1_m,q1_b4,q1_bx,q2_m,q2_b4,q2_bx,qG_m,qG_b4,qG_bx,hs105_m,hs105_b4,hs105_bx,rfl⟩
         case lt=>omega
         case le=>exact Env.qle ⟨O,O,O,O,O,O,O,O,⟨⟩⟩
   ·replace h37:=bT h37
    refine vi 10 O O (fun S' _=>z9 O (by decide)) (vi 11 O O (fun S' _=>z9 O (by decide)) (vM 12 O O (fun _ _ hK=>vG O O O O hK) (vI 13 O O O (vi 14 O O (fun S' _=>z9 O (by decide)) (vi 15 O O (fun S' _=>z9 O (by decide)) (vi 16 O O (fun S' _=>z9 O (by decide)) (vi 17 O O (fun S' _=>z9 O (by decide)) (vi 18 O O (fun S' _=>z9 O (by decide)) (vi 19 O O (fun S' _=>z9 O (by decide)) (vi 20 O O (fun S' _=>z9 O (by decide)) (zB 21 (by kernel_rfl) O O (step_no O (by decide) (⟨fun _=>fun _ _ _ h=>h,vi 22 O O (fun S' _=>z9 O (by decide)) (vM 23 O O (fun _ _ hK=>vG O O O O hK) (zX (ze (zr O (zh (zw (⟨trivial,_,zT,?_⟩)))))))⟩)))))))))))))
    have hr:vz b s=(b,[]):=by
     exact hnot (fun h=>h37 h.2.2.2)
    rw [hr] at hg k
    replace H:=H.quiet (by exact hg)
    exact k x2 (some ⟨m,0,none⟩) n2 n3 S H.qx (H.get .h2) q1 q2 hn2 (vn (H.get .h3) rfl (by simpa using hctm) zZ) hn3 (.same _ _) (.same _ _) (.at q2_m)
theorem ct75n (hG:Glob S0) (hB:BoxP b) (hg:S0.g=.sends c ((vz b s).2.map Seg.v)) (hdt:s.dt.length≤1048576) (hbx:S0 bx=some ⟨Cs [.slice x1 b.rs.length n1,.slice x2 b.es.length n2,.slice none b.cs.length n3] 29,true⟩) (h1:Sl S0 7 x1 (z5 b.rs)) (h2:Sl S0 2 x2 (zS b.es)) (hn2:b.es.length≤n2) (hn3:b.cs.length≤n3) (hcs0:b.cs=[]) (qG_bx:bx∉[1,2,4]) (q1_bx:∀ b off,x1=some ⟨b,off,none⟩→b≠bx) (q2_bx:∀ b off,x2=some ⟨b,off,none⟩→b≠bx) (k:∀ (x2' x3':Option Addr) (d2 d3:Nat) S',Ext [bx] {S0 with g:=.sends c []} S'→S' bx=some ⟨Cs [.slice x1 b.rs.length n1,.slice x2' (vz b s).1.es.length d2,.slice x3' (vz b s).1.cs.length d3] 29,true⟩→Sl S' 7 x1 (z5 b.rs)→Sl S' 2 x2' (zS (vz b s).1.es)→(vz b s).1.es.length≤d2→Sl S' 7 x3' (zY (vz b s).1.cs)→(vz b s).1.cs.length≤d3→Org S0 x2 x2'→Org S0 none x3'→OffS x2' x3'→K (.tuple #[]) S') :
  zC 75 #[ptr bx 0,s.v,.chan (some c)] S0 K:=by
 refine zGo (sf:=s75) Tryz.func75 ?_
 have H:=Loc.start1 hbx
 have q1:=h1
 have q2:=h2
 have qG:=hG
 obtain ⟨hz1,hz2,hz3,hz4⟩:=hB.small
 have hT:=hB.1
 have hnot:=fun h=>(boxInP_not (b:=b) (s:=s) h).1 hB
 refine zR (zBx H O O fun b4 S hb4 hE H=>?_)
 have q1_b4:=q1.ne hb4
 replace q1:=q1.mono hE
 have q2_b4:=q2.ne hb4
 replace q2:=q2.mono hE
 have qG_b4:=qG.ne hb4
 replace qG:=qG.mono hE
 refine zN ?_
 refine wpS_cut (fun E S=>∃ (b6:Nat) (e6:End) (t7:Bool),E=Env.lst [(0,ptr bx 0),(2,.chan (some c)),(4,ptr b4 0),(6,ptr b6 0),(7,.bool t7)]∧Loc [bx] S0 S [(b6,Cs e6.row 31),(b4,Cs s.row 33),(bx,Cs [.slice x1 b.rs.length n1,.slice x2 b.es.length n2,.slice none b.cs.length n3] 29)]∧(t7=true→endP b.es s.d.p=some e6)∧(t7=false→endP b.es s.d.p=none∧e6=⟨0,0⟩)∧(Sl S 7 x1 (z5 b.rs))∧(Sl S 2 x2 (zS b.es))∧(Glob S)∧(∀ b off,x1=some ⟨b,off,none⟩→b≠b6)∧(∀ b off,x1=some ⟨b,off,none⟩→b≠b4)∧(∀ b off,x1=some ⟨b,off,none⟩→b≠bx)∧(∀ b off,x2=some ⟨b,off,none⟩→b≠b6)∧(∀ b off,x2=some ⟨b,off,none⟩→b≠b4)∧(∀ b off,x2=some ⟨b,off,none⟩→b≠bx)∧(b6∉[1,2,4])∧(b4∉[1,2,4])∧(bx∉[1,2,4])) ?_ ?_
 ·skip
  refine vc [] (vI 0 O O O (vM 1 O O (fun _ _ hK=>W_nilchk O hK) (zLf 2 O O O (vi 3 O O (fun S' hS'=>zG fun K hK=>zV O (zM (hS' O) (by simp) (H.cells (vs:=[_]) .h1 O)) hK) (zLf 4 O O O (zLf 5 O O O (vi 6 O O (fun S' hS'=>zG fun K hK=>zF O (zH (hS' O) (by simp) (H.cell .h O)) hK) (wpD_two 7 11 (by kernel_rfl) O O O O ?_ ?_))))))))
  ·skip
   refine zv (zU O (ct25 q2 hn2 (by omega) fun e27 t27 S hE hy27 hn27=>?_))
   replace H:=H.call hE
   replace q1:=q1.mono hE
   replace q2:=q2.mono hE
   replace qG:=qG.mono hE
   refine zLd (vI 8 O O O (vM 9 O O (fun _ _ hK=>vo O O hK) (vM 10 O O (fun _ _ hK=>vo O O hK) (zB 11 (by kernel_rfl) O O (zv (W_alloc H O fun b6 S hb6 hE H=>?_))))))
   have q1_b6:=q1.ne hb6
   replace q1:=q1.mono hE
   have q2_b6:=q2.ne hb6
   replace q2:=q2.mono hE
   have qG_b6:=qG.ne hb6
   replace qG:=qG.mono hE
   refine ⟨fun _=>hE.up.ext,zB 12 (by kernel_rfl) O O (zv (zSt H O O O .h O fun S hE H=>?_))⟩
   replace q1:=q1.qy hE q1_b6
   replace q2:=q2.qy hE q2_b6
   replace qG:=qG.qy hE qG_b6
   refine zLd (vI 13 O O O (zX (ze ?_)))
   replace H:=H.front .h2
   replace H:=H.front .h2
   replace H:=H.front .h2
   refine ⟨_,?le,b6,e27,t27,O,H,hy27,hn27,q1,q2,qG,q1_b6,q1_b4,q1_bx,q2_b6,q2_b4,q2_bx,qG_b6,qG_b4,qG_bx⟩
   case le=>exact Env.qle ⟨O,O,O,O,O,⟨⟩⟩
  ·skip
   refine zv (W_alloc H O fun b6 S hb6 hE H=>?_)
   have q1_b6:=q1.ne hb6
   replace q1:=q1.mono hE
   have q2_b6:=q2.ne hb6
   replace q2:=q2.mono hE
   have qG_b6:=qG.ne hb6
   replace qG:=qG.mono hE
   refine ⟨fun _=>hE.up.ext,zB 7 (by kernel_rfl) O O (zv (zU O (ct25 q2 hn2 (by omega) fun e27 t27 S hE hy27 hn27=>?_)))⟩
   replace H:=H.call hE
   replace q1:=q1.mono hE
   replace q2:=q2.mono hE
   replace qG:=qG.mono hE
   refine zLd (vI 8 O O O (vM 9 O O (fun _ _ hK=>vo O O hK) (vM 10 O O (fun _ _ hK=>vo O O hK) (zB 12 (by kernel_rfl) O O (zv (zSt H O O O .h O fun S hE H=>?_))))))
   replace q1:=q1.qy hE q1_b6
   replace q2:=q2.qy hE q2_b6
   replace qG:=qG.qy hE qG_b6
   refine zLd (vI 13 O O O (zX (ze ?_)))
   replace H:=H.front .h2
   replace H:=H.front .h2
   replace H:=H.front .h2
   refine ⟨_,?le,b6,e27,t27,O,H,hy27,hn27,q1,q2,qG,q1_b6,q1_b4,q1_bx,q2_b6,q2_b4,q2_bx,qG_b6,qG_b4,qG_bx⟩
   case le=>exact Env.qle ⟨O,O,O,O,O,⟨⟩⟩
 ·skip
  rintro _ S ⟨b6,e6,t7,rfl,H,hy,hn,q1,q2,qG,q1_b6,q1_b4,q1_bx,q2_b6,q2_b4,q2_bx,qG_b6,qG_b4,qG_bx⟩
  have h7:t7=true↔t7=true:=Iff.rfl
  refine zD (zD (vc [] (vi 0 O O (fun S' hS'=>zG fun K hK=>zV O (zM (hS' O) (by simp) (H.cells (vs:=[_,_,_,_,_,_,_]) .h1 O)) hK) (zB 1 (by kernel_rfl) O O (zv (zU O (ct31 (by omega) fun t31 S hE h31=>?_)))))))
  replace H:=H.call hE
  replace q1:=q1.mono hE
  replace q2:=q2.mono hE
  refine ⟨fun _=>hE.up.ext,vM 2 O O (fun _ _ hK=>W_not O hK) (vI 3 O O O ?_)⟩
  rcases t31 with _|_
  ·replace h31:=bF h31
   refine vi 4 O O (fun S' _=>z9 O (by decide)) (vi 5 O O (fun S' _=>z9 O (by decide)) (vi 6 O O (fun S' _=>z9 O (by decide)) (vi 7 O O (fun S' _=>z9 O (by decide)) (vM 8 O O (fun _ _ hK=>vG O O O O hK) (vI 9 O O O (vi 10 O O (fun S' _=>z9 O (by decide)) (vi 11 O O (fun S' _=>z9 O (by decide)) (vM 12 O O (fun _ _ hK=>vG O O O O hK) (vI 13 O O O (vi 14 O O (fun S' _=>z9 O (by decide)) (vi 15 O O (fun S' _=>z9 O (by decide)) (vi 16 O O (fun S' _=>z9 O (by decide)) (vi 17 O O (fun S' _=>z9 O (by decide)) (vi 18 O O (fun S' _=>z9 O (by decide)) (vi 19 O O (fun S' _=>z9 O (by decide)) (vi 20 O O (fun S' _=>z9 O (by decide)) (zB 21 (by kernel_rfl) O O (step_no O (by decide) (⟨fun _=>fun _ _ _ h=>h,vi 22 O O (fun S' _=>z9 O (by decide)) (vM 23 O O (fun _ _ hK=>vG O O O O hK) (zX (ze (zr O (zh (zw (⟨trivial,_,zT,?_⟩)))))))⟩)))))))))))))))))))
   have hr:vz b s=(b,[]):=by
    exact hnot (fun h=>h31 h.2.1)
   rw [hr] at hg k
   replace H:=H.quiet (by exact hg)
   exact k x2 none n2 n3 S H.qx (H.get .h2) q1 q2 hn2 (by rw [hcs0];exact Sl.nil 7) hn3 (.same _ _) (.same _ _) .nil
  ·replace h31:=bT h31
   refine vi 4 O O (fun S' _=>vg O fun K hK=>zz O hK) (vi 5 O O (fun S' _=>vg O fun K hK=>zz O hK) (vi 6 O O (fun S' hS'=>vg O fun K hK=>zF O (zH (hS' O) (by simp) (H.cell .h1 O)) hK) (zCm 7 O O (fun S' _=>vg O fun K hK=>W_bin O O O hK) fun t37 h37=>vM 8 O O (fun _ _ hK=>vG O O O O hK) (vI 9 O O O ?_))))
   rcases t37 with _|_
   ·replace h37:=bF h37
    refine vi 10 O O (fun S' _=>vg O fun K hK=>vC O hK) (vi 11 O O (fun S' _=>vg O fun K hK=>W_not O hK) (vM 12 O O (fun _ _ hK=>vG O O O O hK) (vI 13 O O O ?_)))
    rcases t7 with _|_
    ·replace h7:=bF h7
     refine vi 14 O O (fun S' _=>z9 O (by decide)) (vi 15 O O (fun S' _=>z9 O (by decide)) (vi 16 O O (fun S' _=>z9 O (by decide)) (vi 17 O O (fun S' _=>z9 O (by decide)) (vi 18 O O (fun S' _=>z9 O (by decide)) (vi 19 O O (fun S' _=>z9 O (by decide)) (vi 20 O O (fun S' _=>z9 O (by decide)) (zB 21 (by kernel_rfl) O O (step_no O (by decide) (⟨fun _=>fun _ _ _ h=>h,vi 22 O O (fun S' _=>z9 O (by decide)) (vM 23 O O (fun _ _ hK=>vG O O O O hK) (zX (ze (zr O (zh (zw (⟨trivial,_,zT,?_⟩)))))))⟩)))))))))
     have hr:vz b s=(b,[]):=by
      by_cases ho:s.s.out
      ·exact boxInP_none ⟨hB,h31,ho,Classical.not_not.1 h37⟩ (hn rfl).1
      ·exact hnot (fun h=>ho h.2.2.1)
     rw [hr] at hg k
     replace H:=H.quiet (by exact hg)
     exact k x2 none n2 n3 S H.qx (H.get .h2) q1 q2 hn2 (by rw [hcs0];exact Sl.nil 7) hn3 (.same _ _) (.same _ _) .nil
    ·replace h7:=bT h7
     refine vi 14 O O (fun S' _=>vg O fun K hK=>vC O hK) (vi 15 O O (fun S' _=>vg O fun K hK=>W_nilchk O hK) (vi 16 O O (fun S' _=>vg O fun K hK=>zz O hK) (vi 17 O O (fun S' hS'=>vg O fun K hK=>zF O (zH (hS' O) (by simp) (H.cell .h2 O)) hK) (vi 18 O O (fun S' hS'=>vg O fun K hK=>zV O (zM (hS' O) (by simp) (H.cells (vs:=[_,_]) .h O)) hK) (vi 19 O O (fun S' _=>vg O fun K hK=>zz O hK) (vi 20 O O (fun S' hS'=>vg O fun K hK=>zV O (zM (hS' O) (by simp) (H.cells (vs:=[_,_]) .h1 O)) hK) (zB 21 (by kernel_rfl) O O (step_yes O (zU O (ct87 q1 (by omega) fun t51 S hE h51=>?_))))))))))
     replace H:=H.call hE
     replace q1:=q1.mono hE
     replace q2:=q2.mono hE
     refine zLd (vi 22 O O (fun S' _=>vg O fun K hK=>W_not O hK) (vM 23 O O (fun _ _ hK=>vG O O O O hK) (zX (ze ?_))))
     rcases t51 with _|_
     ·replace h51:=bF h51
      refine zr O (zh (zw (⟨trivial,_,zT,?_⟩)))
      have hr:vz b s=(b,[]):=by
       by_cases ho:s.s.out
       ·exact boxInP_deny ⟨hB,h31,ho,Classical.not_not.1 h37⟩ (hy rfl) (fun hm2=>h51 ⟨hT.2.1 _ (endP_mem (hy rfl)).2,ho,hm2⟩)
       ·exact hnot (fun h=>ho h.2.2.1)
      rw [hr] at hg k
      replace H:=H.quiet (by exact hg)
      exact k x2 none n2 n3 S H.qx (H.get .h2) q1 q2 hn2 (by rw [hcs0];exact Sl.nil 7) hn3 (.same _ _) (.same _ _) .nil
     ·replace h51:=bT h51
      have hyes:BoxP b∧SegP s∧s.s.out∧s.d.a=50:=⟨hB,h31,h51.2.1,Classical.not_not.1 h37⟩
      refine zn O (zt (ze (zR (zLn (vs:=[_,_]) H O .h O (vw O (zSs H O O O .h1 O fun S hE H=>?_))))))
      replace q1:=q1.qy hE q1_b4
      replace q2:=q2.qy hE q2_b4
      refine zN (zD (vc [] (vI 0 O O O (vM 1 O O (fun _ _ hK=>W_nilchk O hK) (vi 2 O O (fun S' hS'=>zG fun K hK=>zV O (zM (hS' O) (by simp) (H.cells (vs:=[_,_,_]) .h2 O)) hK) (vi 3 O O (fun S' hS'=>zG fun K hK=>zV O (zM (hS' O) (by simp) (H.cells (vs:=[_,_]) .h O)) hK) (zLf 4 O O O (vi 5 O O (fun S' hS'=>zG fun K hK=>zV O (zM (hS' O) (by simp) (H.cells (vs:=[_,_]) .h1 O)) hK) (zB 6 (by kernel_rfl) O O (zv (zU O (ct65 (b:=b) (by rw [hcs0];exact Sl.nil 7) (by omega) fun S hE =>?_))))))))))))
      replace H:=H.call hE
      replace q1:=q1.mono hE
      replace q2:=q2.mono hE
      refine zLd (vI 7 O O O (zX (ze (vB (zj O (za (vq O O fun t64 h64=>zN ?_)))))))
      rcases t64 with _|_
      ·replace h64:=bF h64
       exact absurd (show vL b.cs e6 s.s<0 by rw [hcs0];simp [vL]) h64
      ·replace h64:=bT h64
       refine zr O (vB (vw O (vw O (zL1 H O .h1 O (za (W_neI O O fun t68 h68=>zN ?_))))))
       rcases t68 with _|_
       ·replace h68:=bF h68
        refine zn O (zt (ze (zh (zw (⟨trivial,_,zT,?_⟩)))))
        have hr:vz b s=(b,[]):=by
         exact boxInP_ctl hyes (hy rfl) h51.2.2 (by omega) (Classical.not_not.1 h68)
        rw [hr] at hg k
        replace H:=H.quiet (by exact hg)
        exact k x2 none n2 n3 S H.qx (H.get .h2) q1 q2 hn2 (by rw [hcs0];exact Sl.nil 7) hn3 (.same _ _) (.same _ _) .nil
       ·replace h68:=bT h68
        have hr:=boxInP_one hyes (hy rfl) h51.2.2 (by omega) h68
        refine zr O (zJ (zj O (zLn (vs:=[_,_,_,_,_,_,_]) H O .h1 O (za (W_send (vs:=[]) O O (by rw [H.g.eq,hg,hr];rfl) ?_)))))
        replace H:=H.sent (.sends c [])
        replace q1:=q1.sent (.sends c [])
        replace q2:=q2.sent (.sends c [])
        refine zN (zh (zw (⟨trivial,_,zT,?_⟩)))
        rw [hr] at k
        exact k x2 none n2 n3 _ H.qx (H.get .h2) q1 q2 hn2 (by rw [hcs0];exact Sl.nil 7) hn3 (.same _ _) (.same _ _) .nil
   ·replace h37:=bT h37
    refine vi 10 O O (fun S' _=>z9 O (by decide)) (vi 11 O O (fun S' _=>z9 O (by decide)) (vM 12 O O (fun _ _ hK=>vG O O O O hK) (vI 13 O O O (vi 14 O O (fun S' _=>z9 O (by decide)) (vi 15 O O (fun S' _=>z9 O (by decide)) (vi 16 O O (fun S' _=>z9 O (by decide)) (vi 17 O O (fun S' _=>z9 O (by decide)) (vi 18 O O (fun S' _=>z9 O (by decide)) (vi 19 O O (fun S' _=>z9 O (by decide)) (vi 20 O O (fun S' _=>z9 O (by decide)) (zB 21 (by kernel_rfl) O O (step_no O (by decide) (⟨fun _=>fun _ _ _ h=>h,vi 22 O O (fun S' _=>z9 O (by decide)) (vM 23 O O (fun _ _ hK=>vG O O O O hK) (zX (ze (zr O (zh (zw (⟨trivial,_,zT,?_⟩)))))))⟩)))))))))))))
    have hr:vz b s=(b,[]):=by
     exact hnot (fun h=>h37 h.2.2.2)
    rw [hr] at hg k
    replace H:=H.quiet (by exact hg)
    exact k x2 none n2 n3 S H.qx (H.get .h2) q1 q2 hn2 (by rw [hcs0];exact Sl.nil 7) hn3 (.same _ _) (.same _ _) .nil
end
section
variable {S0:St} {K:Value→St→Prop}
theorem ct135 {a:Option Addr} {n c:Nat} (hn:n≤c) (k:∀  S',Ext [] S0 S'→K (.slice a n n) S') :
  zC 135 #[.slice a n c] S0 K:=by
 refine zGh (sf:=s135) Tryz.func135 fun H=>zR (zj O (vE (zj O (zj O (zLl O (zj O (zLl O (za (W_clip O O O hn (zj O (zN (zh (zP O ?_)))))))))))))
 exact k _ H.qx
def Seg.nil:Seg:=⟨⟨0,0⟩,⟨0,0⟩,0,0,[]⟩
end
section
open Go
open Go.Conc (G born)
def base (P:Program):Frame:={(default:Frame) with fn:=P.funcs.size,defers:=[],mode:=.panicking [goexitEntry]}
theorem step_born {P:Program} {f:FuncId} {fn:Func} {cap:Array Value} (hf:P.funcs[f]? = some fn) (hb:fn.body.isSome=true) (hn:(fn.name == "runtime.NumGoroutine")=false) (w:World) :
    stepG P false (born P {target:=.fn (.func f) cap,args:=#[]}) w=.go (G (Frame.enter P f cap .deferred) [base P]) w:=by
  have hbn:fn.body.isNone=false:=by cases h:fn.body<;>simp_all
  have hse:seen P P.funcs.size #[]=#[]:=by first | rfl | simp [seen]
  have hr:(invoke (.fn (.func f) cap) #[]).runT P w #[]=(.ok (.enter f cap) w,#[]):=by
    simp only [invoke,callFunc,program,bind,pure,Sem.bind,Sem.runT,hf,hn,hbn,Bool.false_eq_true,if_false,Array.empty_append]
  simp only [born,stepG,unwind,callDeferred,hr]
  simp [GStep.after,G,base,hse]
def shutD (ats:Array TypeId) (ty:TypeId) (cs:Array Bool) (c:Nat):Deferred:={target:=.builtin .close ats ty cs,args:=#[.chan (some c)]}
theorem run_close {P:Program} {ats:Array TypeId} {ty:TypeId} {cs:Array Bool} {c s r:Nat} {tm:Bool} {w:World} (hc:w.heap[c]? = some (.chan 0 #[] false s r tm)) :
    (invoke (.builtin .close ats ty cs) #[.chan (some c)]).runT P w #[]=(.ok (.value (.tuple #[])) (w.shut c s r tm),Conc.closeEvents c):=by
  simp only [invoke,builtin,close_some,getObj,setObj,bind,pure,Sem.bind,Sem.runT,hc,Bool.false_eq_true,if_false]
  rfl
theorem atShut_ret {P:Program} {fr:Frame} {c n:Nat} {cs:List Frame} {ats:Array TypeId} {ty:TypeId} {ks:Array Bool} (hm:fr.mode=.returning) (hd:fr.defers=[shutD ats ty ks c]) (hq:(P.funcs[fr.fn]?).any (·.norace)=false)
    (h:Conc.QuitsIn P n (G {fr with defers:=[]} cs)):AtShut1 P c (G fr cs):=by
  refine ⟨rfl,?_,G {fr with defers:=[]} cs,n,fun w s r tm hc=>?_,h⟩
  · simp [mayWake,G,hm]
  · have hr:=run_close (P:=P) (ats:=ats) (ty:=ty) (cs:=ks) hc
    simp only [G,stepG,unwind,hm,hd,shutD,callDeferred,hr]
    rw [Conc.seen_eq hq (by intro e he f;simp only [Conc.closeEvents,List.mem_toArray,List.mem_cons,List.not_mem_nil,or_false] at he;rcases he with rfl | rfl<;>simp)]
    simp [GStep.after,hm]
theorem step_base {P:Program} (w:World):stepG P false (G (base P) []) w=.go {frame:=base P,callers:=[],status:=.finished,dying:=none} w:=by
 have hn:P.funcs[P.funcs.size]? = none:=by simp
 have ht:(default:Frame).todo=[]:=rfl
 simp only [G,stepG,base,unwind,Frame.catches,hn,ht]
 simp [goexitEntry]
theorem quits_base {P:Program}:Conc.QuitsIn P 1 (G (base P) []):=
 .inr ⟨rfl,_,fun w=>step_base w,rfl⟩
theorem quits_ret {P:Program} {fr:Frame} {fn:Func} (hm:fr.mode=.returning) (hd:fr.defers=[]) (hk:fr.kind=.deferred) (hf:P.funcs[fr.fn]? = some fn) (hr:fn.results=#[]):Conc.QuitsIn P 2 (G fr [base P]):=by
 refine .inr ⟨rfl,G (base P) [],fun w=>?_,quits_base⟩
 have hse:seen P fr.fn #[]=#[]:=by first | rfl | simp [seen]
 have hres:(results fn fr.tmps).runT P w #[]=(.ok (.tuple #[]) w,#[]):=by
  rw [Sem.runT_eq,results_none hr _ P w,(by simp [results,hr]:(results fn fr.tmps).events P w #[]=#[])]
 simp only [G,stepG,unwind,hm,hd,hf,hres,doReturn,hk]
 simp [GStep.after,base,hse,goexitEntry]
structure PassFn (P:Program) (f:FuncId) (fn:Func) (is:List SI):Prop where
 hf:P.funcs[f]? = some fn
 hn:(fn.name == "runtime.NumGoroutine")=false
 hr:fn.results=#[]
 ht:fn.ntmps=10
 hq:fn.norace=false
 hb:∃ (i0 i1:Nat) (o0 o1:Array Oper) (p0 p1:Oper) (ats:Array TypeId),fn.body=some (.seq (.region i0 o0 false) (.region i1 o1 false))∧o0.size=2∧o0[0]? = some p0∧o0[1]? = some p1∧slimI P 10 false o0 p0=some ⟨some 4,.load1 (.tmp 0),none,[]⟩ ∧
  p1.op=.defer {callee:=.builtin .close,args:=#[.tmp 4],argTypes:=ats}∧p1.dst=none∧p1.guard=none∧p0.guard=none∧p0.dst=some 4∧slimCode P 10 (.region i1 o1 false)=some (.run is)
theorem pass_child {P:Program} {f:FuncId} {fn:Func} {is:List SI} (h:PassFn P f fn is) {v0 v1 v2 v3:Value} {S:St} {c:Nat} {Fin:Goroutine→St→Prop}
    (hc:∀ K:Value→St→Prop,K (.chan (some c)) S→(SOp.load1 (.tmp 0)).W P (Env.of [v0,v1,v2,v3]) S K)
    (hw:wpS P (.run is) ((Env.of [v0,v1,v2,v3]).set (some 4) (.chan (some c))) S fun e _ S'=>e=.normal∧∀ g,AtShut1 P c g→Fin g S'):Go1 P false Fin (born P {target:=.fn (.func f) #[v0,v1,v2,v3],args:=#[]}) S:=by
  obtain ⟨i0,i1,o0,o1,p0,p1,ats,hb,hs0,hp0,hp1,hl0,hop1,hd1,hg1,hg0,hd0,hsl⟩:=h.hb
  have hbs:fn.body.isSome=true:=by rw [hb];rfl
  refine .step' rfl fun w hin=>⟨_,w,#[],S,step_born h.hf hbs h.hn w,rfl,.refl hin,by simp,?_⟩
  let b:Frame:={fn:=f,tmps:=#[],todo:=[],defers:=[],mode:=.run,kind:=.deferred}
  have he:Frame.enter P f #[v0,v1,v2,v3] .deferred=b.atR {tmps:=#[v0,v1,v2,v3]++Array.replicate 6 undef,defers:=[]} [.code (.seq (.region i0 o0 false) (.region i1 o1 false))]:=by
    simp [Frame.enter,Frame.atR,h.hf,hb,h.ht,b]
  rw [he]
  refine .ctl (cs':=[base P]) (fr':=b.atR {tmps:=#[v0,v1,v2,v3]++Array.replicate 6 undef,defers:=[]} [.code (.region i0 o0 false),.code (.region i1 o1 false)]) (fun w=>by simp [G,stepG,stepG.exec,Frame.atR]) ?_
  refine .ctl (cs':=[base P]) (fr':=b.atR {tmps:=#[v0,v1,v2,v3]++Array.replicate 6 undef,defers:=[]} [.inRegion o0 [0,1],.code (.region i1 o1 false)]) (fun w=>by simp [G,stepG,stepG.exec,Frame.atR,hs0,List.range,List.range.loop]) ?_
  have hfit:Fits {tmps:=#[v0,v1,v2,v3]++Array.replicate 6 undef,defers:=[]} 10 (Env.of [v0,v1,v2,v3]):=by
    refine ⟨by simp,fun t v ht=>?_⟩
    rw [Env.get_of] at ht
    have hlt:t<4:=by have:=(List.getElem?_eq_some_iff.1 ht).1;simpa using this
    simp only
    rw [Array.getElem?_append_left (by simpa using hlt)]
    simpa using ht
  have hk:b.kind≠.early:=by simp [b]
  refine .op hp0 (by simp [Region.wanted,hg0]) hk (.inl rfl) ?_
  have hop:=slimI_op hl0 (Env.of [v0,v1,v2,v3]) (Act.eval {tmps:=#[v0,v1,v2,v3]++Array.replicate 6 undef,defers:=[]}) S (fun v S'=>v=.chan (some c)∧S'=S) p0 rfl rfl (fun x v hx=>hfit.ev hx) (hc _ ⟨rfl,rfl⟩)
  have hop2:vu P (execOp (Act.eval {tmps:=#[v0,v1,v2,v3]++Array.replicate 6 undef,defers:=[]}) p0) S (UponS P fun v S'=>v=.chan (some c)∧S'=S) (fun _ _=>False):=by
    rcases hop with hop | hop
    · exact hop
    · exfalso
      unfold slimI at hl0
      split at hl0
      case isFalse=>cases hl0
      simp only [Option.some.injEq,SI.mk.injEq] at hl0
      have hl:=hl0.2.1
      unfold CommO at hop
      cases hpo:p0.op<;>simp only [hpo] at hop hl<;>first | exact hop.elim | (simp [slimOp?] at hl)
  have rest:Go1 P false Fin (G (b.atR (({tmps:=#[v0,v1,v2,v3]++Array.replicate 6 undef,defers:=[]}:Act).put p0.dst (.chan (some c))) (.inRegion o0 [1]::[.code (.region i1 o1 false)])) [base P]) S:=?_
  · refine semW_mono (fun nx S' hu=>?_) (fun _ _ q=>q) _ _ hop2
    cases nx<;>simp only [UponS] at hu<;>first | (obtain ⟨rfl,rfl⟩:=hu;exact rest) | (exact absurd hu.1 (by intro e;cases e)) | (exact hu _ _ _ _ fun v S'' q=>by obtain ⟨rfl,rfl⟩:=q;rw [Frame.finish_atR,hp0];exact rest) | exact hu.elim
  rw [hd0]
  have hfit4:=hfit.put (d:=some 4) (by simp) (.chan (some c))
  refine .op hp1 (by simp [Region.wanted,hg1]) hk (.inl rfl) ?_
  have h4:Act.eval (({tmps:=#[v0,v1,v2,v3]++Array.replicate 6 undef,defers:=[]}:Act).put (some 4) (.chan (some c))) (.tmp 4)=.chan (some c):=rfl
  simp only [execOp,hop1,resolve,List.map_toArray,List.map_cons,List.map_nil,h4,zy,zA,UponOp]
  rw [hd1]
  refine .ctl (cs':=[base P]) (fr':=b.atR ({(({tmps:=#[v0,v1,v2,v3]++Array.replicate 6 undef,defers:=[]}:Act).put (some 4) (.chan (some c))) with defers:=shutD ats p1.type #[false] c::[]}:Act) [.code (.region i1 o1 false)]) (fun w=>by simp [G,stepG,stepG.exec,Frame.atR,Act.put,shutD]) ?_
  have hfit5:Fits ({(({tmps:=#[v0,v1,v2,v3]++Array.replicate 6 undef,defers:=[]}:Act).put (some 4) (.chan (some c))) with defers:=shutD ats p1.type #[false] c::[]}:Act) 10 ((Env.of [v0,v1,v2,v3]).set (some 4) (.chan (some c))):=⟨hfit4.1,hfit4.2⟩
  refine wpS_sound (n:=10) _ _ _ _ S _ (fun e a' S2=>e=.normal∧a'.defers=[shutD ats p1.type #[false] c]∧∀ g,AtShut1 P c g→Fin g S2) hsl hfit5 hw (fun e a' E' S2 _ hd q=>?_) false Fin b [] [base P] hk (fun e a' S2 q=>?_)
  · obtain ⟨rfl,q⟩:=q
    exact ⟨rfl,hd,q⟩
  · obtain ⟨rfl,hd,q⟩:=q
    refine .off (fun todo=>.fin (q _ (atShut_ret (n:=2) rfl (by exact hd) ?_ ?_)))
    · show (P.funcs[f]?).any (·.norace)=false
      rw [h.hf];simp [h.hq]
    · exact quits_ret rfl rfl rfl h.hf h.hr
end
section
open Go
def rpass:List SI:=[i_ 5 (.fieldAddr 3 (t_ 1)),i_ 6 (.load1 (t_ 5)),i_ 7 (.loadN 7 (t_ 3)),i_ 8 (.load1 (t_ 0)),i_ 9 (.callv (t_ 6) [t_ 2,t_ 7,t_ 8])]
theorem pf160:PassFn Tryz.prog 160 Tryz.f160 rpass where
 hf:=Tryz.func160
 hn:=by rfl
 hr:=by rfl
 ht:=by rfl
 hq:=by rfl
 hb:=⟨_,_,_,_,_,_,_,rfl,rfl,rfl,rfl,by kernel_rfl,rfl,rfl,rfl,rfl,rfl,by kernel_rfl⟩
end
section
open Go
open Go.Conc (born recvd)
section
variable {E:Env} {S S0:St} {K:Value→St→Prop} {X:List Nat} {L:List (Nat × Obj)}
theorem W_makeChan (H:Loc X S0 S L) (k:∀ c S',S c=none→Ext [] S S'→Loc X S0 S' ((c,.chan 0 #[] false 0 0 false)::L)→K (.chan (some c)) S'):(SOp.raw (.makeChan 158 (.const (int 0))) 158).W Tryz.prog E S K:=by
 refine .mk fun ρ hρ=>?_
 have h1:=hρ (.const (int 0)) (by simp [Op.operands]) _ rfl
 obtain ⟨i,hi⟩:∃ i,Tryz.prog.info? 33=some i:=Option.isSome_iff_exists.1 (by kernel_rfl)
 have hm:¬ ((0:Int)<0∨(0:Int)>IntKind.i64.max∨(i.bytes:Int)*0>2 ^ 48-112):=by
  have:IntKind.i64.max=9223372036854775807:=rfl
  omega
 simp only [execOp,h1,Instr.makeChan,asInt,zy,zA,zO Tryz.underlying158,semW_typeInfo hi]
 refine semW_ite_neg hm ?_
 intro c hc
 exact k c _ hc (.put_new hc _) (H.alloc hc _)
theorem zero33:∃ i,Tryz.prog.info? 33=some i∧i.zero=some Seg.nil.v:=by
 have h:((Tryz.prog.info? 33).bind (·.zero))=some Seg.nil.v:=by kernel_rfl
 exact Option.bind_eq_some_iff.1 h
theorem W_recv {ty:TypeId} {x:Operand} {c:Nat} {v:Value} {vs:List Value} {J:Hp→Prop} {D:Nat→Prop} (hx:E.ev x=some (.chan (some c))) (hg:S.g=.hears c (v::vs) J D) (k:K (.tuple #[v,.bool true]) {S with g:=.hears c vs J D}):(SOp.raw (.recv 158 x true) ty).W Tryz.prog E S K:=by
 obtain ⟨i,hi,hz⟩:=zero33
 exact .comm fun ρ hρ=>⟨rfl,c,_,_,i,_,hρ x (by simp [Op.operands]) _ hx,Tryz.underlying158,hi,hz,.inl ⟨v,vs,J,D,hg,k⟩⟩
theorem W_recvEnd {ty:TypeId} {x:Operand} {c:Nat} {J:Hp→Prop} {D:Nat→Prop} (hx:E.ev x=some (.chan (some c))) (hg:S.g=.hears c [] J D) (k:∀ H:Hp,J H→(∀ b e e',S b=some e→H b=some e'→e=e'∧e.wr=false∧D b)→K (.tuple #[Seg.nil.v,.bool false]) ⟨fun b=>(S b).or (H b),.idle⟩):(SOp.raw (.recv 158 x true) ty).W Tryz.prog E S K:=by
 obtain ⟨i,hi,hz⟩:=zero33
 exact .comm fun ρ hρ=>⟨rfl,c,_,_,i,_,hρ x (by simp [Op.operands]) _ hx,Tryz.underlying158,hi,hz,.inr ⟨J,D,hg,k⟩⟩
theorem W_go {ty:TypeId} {x:Operand} {f:FuncId} {cap:Array Value} {c:Nat} {vs:List Value} {J:Hp→Prop} {Hw Hm:Hp} (hx:E.ev x=some (.func (.func f) #[] cap)) (hg:S.g=.idle) (hc:S c=some ⟨.chan 0 #[] false 0 0 false,true⟩) (hwc:Hw c=none) (hmc:Hm c=none)
    (hws:∀ b e,Hw b=some e→∃ e0,S b=some e0∧e.o=e0.o∧(e.wr=true→e0.wr=true)) (hms:∀ b e,Hm b=some e→∃ e0,S b=some e0∧e.o=e0.o∧(e.wr=true→e0.wr=true)) (hcp:∀ b e e',Hw b=some e→Hm b=some e'→e.wr=false∧e'.wr=false)
    (hch:Go1 Tryz.prog false (fun g S=>S.g=.sends c []∧J S.h∧AtShut1 Tryz.prog c g) (born Tryz.prog {target:=.fn (.func f) cap,args:=#[]}) ⟨Hw,.sends c vs⟩) (k:K undef ⟨Hm,.hears c vs J (fun b=>∃ e,Hw b=some e)⟩):(SOp.raw (.go ⟨.value x,#[],#[]⟩) ty).W Tryz.prog E S K:=
  .comm fun ρ hρ=>⟨rfl,x,f,cap,c,vs,J,Hw,Hm,rfl,hρ x (by simp [Op.operands,Call.operands]) _ hx,hg,hc,hwc,hmc,hws,hms,hcp,hch,k⟩
end
structure GlobR (S:St):Prop where
 g:Glob S
 ro:∀ b∈[1,2,4],∀ e,S b=some e→e.wr=false
theorem cell_there {S:St} {a:Addr} {v:Value} (h:S.cell? a=some v):∃ e,S a.block=some e:=by
 unfold St.cell? at h
 split at h
 ·exact ⟨_,‹_›⟩
 ·cases h
theorem Glob.there {S:St} (h:Glob S):∀ b∈[1,2,4],∃ e,S b=some e:=by
 intro b hb
 simp only [List.mem_cons,List.not_mem_nil,or_false] at hb
 rcases hb with rfl | rfl | rfl
 ·obtain ⟨t,a,h1⟩:=h.e1;exact cell_there h1
 ·obtain ⟨t,a,h1⟩:=h.e2;exact cell_there h1
 ·exact cell_there h.p2
theorem GlobR.mono {S S':St} (h:GlobR S) (he:Ext [] S S'):GlobR S':=by
 refine ⟨h.g.mono he,fun b hb e hs=>?_⟩
 obtain ⟨e0,h0⟩:=h.g.there b hb
 have:=he.get h0
 rw [hs] at this;cases this
 exact h.ro b hb e h0
theorem cell_agree {S T:St} {a:Addr} {v:Value} (h:S.cell? a=some v) (ht:∀ o w,S a.block=some ⟨o,w⟩→∃ w',T a.block=some ⟨o,w'⟩):T.cell? a=some v:=by
 unfold St.cell? at h ⊢
 split at h
 ·rename_i c e f wr hs
  obtain ⟨w',h1⟩:=ht _ _ hs
  rw [h1];exact h
 ·cases h
theorem cells_agree {S T:St} {a:Addr} {n:Nat} {vs:List Value} (h:S.cells? a n=some vs) (ht:∀ o w,S a.block=some ⟨o,w⟩→∃ w',T a.block=some ⟨o,w'⟩):T.cells? a n=some vs:=by
 unfold St.cells? at h ⊢
 split at h
 ·rename_i c e f wr hs
  obtain ⟨w',h1⟩:=ht _ _ hs
  rw [h1];exact h
 ·cases h
theorem Glob.agree {S T:St} (h:Glob S) (ht:∀ b∈[1,2,4],∀ o w,S b=some ⟨o,w⟩→∃ w',T b=some ⟨o,w'⟩):Glob T:=
 ⟨cell_agree h.p2 (ht 4 (by simp)),cell_agree h.p3 (ht 4 (by simp)),let ⟨t,a,h1⟩:=h.e1;⟨t,a,cell_agree h1 (ht 1 (by simp))⟩,let ⟨t,a,h1⟩:=h.e2;⟨t,a,cell_agree h1 (ht 2 (by simp))⟩⟩
theorem Sl.agree {S T:St} {k:Nat} {a:Option Addr} {rows:List (List Value)} (h:Sl S k a rows) (ht:∀ b off,a=some ⟨b,off,none⟩→∀ e,S b=some e→T b=some e):Sl T k a rows where
 row i r hr:=by
  obtain ⟨b,off,h1,h2⟩:=h.row i r hr
  exact ⟨b,off,h1,cells_agree h2 fun o w hs=>⟨w,ht b off h1 _ hs⟩⟩
 base ad ha:=by
  obtain ⟨b,off,c,e,f,wr,h1,h2,h3⟩:=h.base ad ha
  subst h1
  exact ⟨b,off,c,e,f,wr,rfl,ht b off ha _ h2,h3⟩
def giveW (S0 S:St) (c r v:Nat):Hp:=fun b=>if b=c∨b=r then none else if b=v then (S b).map (fun e=>⟨e.o,false⟩) else if (S0 b).isSome∧b∉[1,2,4] then none else S b
def keepM (S0 S:St) (c r v:Nat):Hp:=fun b=>if b=c then none else if b=v then (S b).map (fun e=>⟨e.o,false⟩) else if (S0 b).isSome∨b=r then S b else none
section
variable {S0 S:St} {c r v:Nat}
theorem giveW_c:giveW S0 S c r v c=none:=by simp [giveW]
theorem giveW_r:giveW S0 S c r v r=none:=by simp [giveW]
theorem keepM_c:keepM S0 S c r v c=none:=by simp [keepM]
theorem giveW_sub:∀ b e,giveW S0 S c r v b=some e→∃ e0,S b=some e0∧e.o=e0.o∧(e.wr=true→e0.wr=true):=by
 intro b e h
 unfold giveW at h
 split at h
 ·cases h
 ·split at h
  ·obtain ⟨e0,h0,rfl⟩:=Option.map_eq_some_iff.1 h
   exact ⟨e0,h0,rfl,nofun⟩
  ·split at h
   ·cases h
   ·exact ⟨e,h,rfl,id⟩
theorem keepM_sub:∀ b e,keepM S0 S c r v b=some e→∃ e0,S b=some e0∧e.o=e0.o∧(e.wr=true→e0.wr=true):=by
 intro b e h
 unfold keepM at h
 split at h
 ·cases h
 ·split at h
  ·obtain ⟨e0,h0,rfl⟩:=Option.map_eq_some_iff.1 h
   exact ⟨e0,h0,rfl,nofun⟩
  ·split at h
   ·exact ⟨e,h,rfl,id⟩
   ·cases h
theorem give_keep (hR:GlobR S):∀ b e e',giveW S0 S c r v b=some e→keepM S0 S c r v b=some e'→e.wr=false∧e'.wr=false:=by
 intro b e e' h h'
 unfold giveW at h
 unfold keepM at h'
 split at h
 ·cases h
 ·rename_i hn
  simp only [not_or] at hn
  rw [if_neg hn.1] at h'
  split at h
  ·rename_i hv
   rw [if_pos hv] at h'
   obtain ⟨_,_,rfl⟩:=Option.map_eq_some_iff.1 h
   obtain ⟨_,_,rfl⟩:=Option.map_eq_some_iff.1 h'
   exact ⟨rfl,rfl⟩
  ·rename_i hv
   rw [if_neg hv] at h'
   split at h
   ·cases h
   ·rename_i hs
    split at h'
    ·rename_i hk
     have hk:(S0 b).isSome:=hk.resolve_right hn.2
     have hm:b∈[1,2,4]:=Classical.byContradiction fun hm=>hs ⟨hk,hm⟩
     have h1:S b=some e:=h
     have h2:S b=some e':=h'
     exact ⟨hR.ro b hm e h1,hR.ro b hm e' h2⟩
    ·cases h'
theorem giveW_new {b:Nat} (h0:S0 b=none) (h1:b≠c) (h2:b≠r) (h3:b≠v):giveW S0 S c r v b=S b:=by
 unfold giveW;rw [if_neg (by simp [h1,h2]),if_neg h3,if_neg (by simp [h0])]
theorem giveW_glob {b:Nat} (hb:b∈[1,2,4]) (h1:b≠c) (h2:b≠r) (h3:b≠v):giveW S0 S c r v b=S b:=by
 unfold giveW;rw [if_neg (by simp [h1,h2]),if_neg h3,if_neg (by simp only [not_and,Classical.not_not];exact fun _=>hb)]
theorem giveW_v {e:Ent} (h:S v=some e) (h1:v≠c) (h2:v≠r):giveW S0 S c r v v=some ⟨e.o,false⟩:=by
 unfold giveW;rw [if_neg (by simp [h1,h2]),if_pos rfl,h];rfl
theorem keepM_v {e:Ent} (h:S v=some e) (h1:v≠c):keepM S0 S c r v v=some ⟨e.o,false⟩:=by
 unfold keepM;rw [if_neg h1,if_pos rfl,h];rfl
theorem keepM_old {b:Nat} {e:Ent} (h0:S0 b=some e) (h1:b≠c) (h2:b≠v):keepM S0 S c r v b=S b:=by
 unfold keepM;rw [if_neg h1,if_neg h2,if_pos (by simp [h0])]
theorem keepM_r (h1:r≠c) (h2:r≠v):keepM S0 S c r v r=S r:=by
 unfold keepM;rw [if_neg h1,if_neg h2,if_pos (by simp)]
theorem keepM_none {b:Nat} (h0:S0 b=none) (h2:b≠r) (h3:b≠v):keepM S0 S c r v b=none:=by
 unfold keepM
 by_cases hc:b=c
 ·rw [if_pos hc]
 ·rw [if_neg hc,if_neg h3,if_neg (by simp [h0,h2])]
end
def TurnPost (b r:Box) (bx:Nat) (x1 x2 x3:Option Addr) (S0 S':St):Prop:=∃ (x2' x3':Option Addr) (d2 d3:Nat),S' bx=some ⟨Cs [.slice x1 b.rs.length b.rs.length,.slice x2' r.es.length d2,.slice x3' r.cs.length d3] 29,true⟩∧Sl S' 7 x1 (z5 b.rs)∧Sl S' 2 x2' (zS r.es)∧r.es.length≤d2 ∧
 Sl S' 7 x3' (zY r.cs)∧r.cs.length≤d3∧Org S0 x2 x2'∧Org S0 x3 x3'∧OffS x2' x3'
structure TurnC (tf:FuncId) (b:Box) (s:Seg) (r:Box × List Seg):Prop where
 h:∀ (x1 x2 x3:Option Addr) (bx c d3:Nat) (S00 S0:St) (K:Value→St→Prop),Glob S0→S0.g=.sends c (r.2.map Seg.v)→S0 bx=some ⟨Cs [.slice x1 b.rs.length b.rs.length,.slice x2 b.es.length b.es.length,.slice x3 b.cs.length b.cs.length] 29,true⟩→Sl S0 7 x1 (z5 b.rs)→Sl S0 2 x2 (zS b.es) →
  OwnO S00 S0 x3 49 7 d3 (zY b.cs)→bx∉[1,2,4]→(∀ b off,x3=some ⟨b,off,none⟩→b∉[1,2,4]∧b≠bx)→(∀ b off,x1=some ⟨b,off,none⟩→b≠bx)→(∀ b off,x2=some ⟨b,off,none⟩→b≠bx)→OffB x1 x3→OffB x2 x3 →
  (∀ S',Gro {S0 with g:=.sends c []} S'→TurnPost b r.1 bx x1 x2 x3 S0 S'→K (.tuple #[]) S')→Calls1 Tryz.prog tf #[ptr bx 0,s.v,.chan (some c)] S0 K
theorem connRows_nil {cs:List Conn} (h:zY cs=[]):cs=[]:=by cases cs with
 | nil=>rfl
 | cons=>simp [zY] at h
theorem turn75 {b:Box} {s:Seg} (hB:BoxP b) (hdt:s.dt.length≤1048576):TurnC 75 b s (vz b s) where
 h x1 x2 x3 bx c d3 S00 S0 K hG hg hbx h1 h2 hO q0 q3 q1 q2 o1 o2 k:=by
  rcases hO with ⟨rfl,hr0,hd⟩ | ⟨m,rfl,hm0,cs,hm,hle,hcl,hct,h7⟩
  ·have hcs0:=connRows_nil hr0
   exact ct75n hG hB hg hdt hbx h1 h2 (Nat.le_refl _) (Nat.le_refl _) hcs0 q0 q1 q2 fun x2' x3' d2 d3 S' hE p1 p2 p3 p4 p5 p6 p7 p8 p9=>k S' hE.g ⟨x2',x3',d2,d3,p1,p2,p3,p4,p5,p6,p7,p8,p9⟩
  ·have hl:(zY b.cs).length=b.cs.length:=by simp
   rw [hl] at hle hct
   have hm2:=q3 m 0 rfl
   exact ct75 hG hB hg hdt hbx h1 h2 (Nat.le_refl _) (Nat.le_refl _) hm (by rw [hcl];exact Nat.mul_le_mul_right _ hle) hct hm2.2.symm q0 hm2.1 q1 (fun b off e=>o1 b off m e rfl) q2 (fun b off e=>o2 b off m e rfl) fun x2' x3' d2 d3 S' hE p1 p2 p3 p4 p5 p6 p7 p8 p9=>k S' hE.g ⟨x2',x3',d2,d3,p1,p2,p3,p4,p5,p6,p7,p8,p9⟩
end
section
open Go
open Go.Conc (born recvd)
theorem TurnPost.ghost {b r:Box} {bx:Nat} {x1 x2 x3:Option Addr} {S0 S':St} (h:TurnPost b r bx x1 x2 x3 S0 S') (g g':Gh):TurnPost b r bx x1 x2 x3 {S0 with g:=g} {S' with g:=g'}:=by
 obtain ⟨x2',x3',d2,d3,p1,p2,p3,p4,p5,p6,p7,p8,p9⟩:=h
 exact ⟨x2',x3',d2,d3,p1,p2.sent g',p3.sent g',p4,p5.sent g',p6,p7,p8,p9⟩
def JP (b r:Box) (bx:Nat) (x1 x2 x3:Option Addr) (Hw:Hp):Hp→Prop:=fun H=>Gro ⟨Hw,.idle⟩ ⟨H,.idle⟩∧TurnPost b r bx x1 x2 x3 ⟨Hw,.idle⟩ ⟨H,.idle⟩
theorem pass_worker {f:FuncId} {fn:Func} (hf:PassFn Tryz.prog f fn rpass) {tf:FuncId} {tfn:Func} (htf:Tryz.prog.funcs[tf]? = some tfn) (hb:tfn.body.isSome=true) (hn:(tfn.name == "runtime.NumGoroutine")=false) {b:Box} {s:Seg} {r:Box × List Seg} (hT:TurnC tf b s r)
    {S00:St} {Hw:Hp} {c b2 b3 b6 b7 d3:Nat} {x1 x2 x3:Option Addr} (hG:Glob ⟨Hw,.sends c (r.2.map Seg.v)⟩) (h7:(⟨Hw,.sends c (r.2.map Seg.v)⟩:St).cell? ⟨b7,0,none⟩=some (.chan (some c))) (h2:(⟨Hw,.sends c (r.2.map Seg.v)⟩:St).cell? ⟨b2,3,none⟩=some (.func (.func tf) #[] #[]))
    (h3:(⟨Hw,.sends c (r.2.map Seg.v)⟩:St).cells? ⟨b3,0,none⟩ 7=some s.row) (h6:Hw b6=some ⟨Cs [.slice x1 b.rs.length b.rs.length,.slice x2 b.es.length b.es.length,.slice x3 b.cs.length b.cs.length] 29,true⟩)
    (s1:Sl ⟨Hw,.sends c (r.2.map Seg.v)⟩ 7 x1 (z5 b.rs)) (s2:Sl ⟨Hw,.sends c (r.2.map Seg.v)⟩ 2 x2 (zS b.es)) (hO:OwnO S00 ⟨Hw,.sends c (r.2.map Seg.v)⟩ x3 49 7 d3 (zY b.cs))
    (q0:b6∉[1,2,4]) (q3:∀ b off,x3=some ⟨b,off,none⟩→b∉[1,2,4]∧b≠b6) (q1:∀ b off,x1=some ⟨b,off,none⟩→b≠b6) (q2:∀ b off,x2=some ⟨b,off,none⟩→b≠b6) (o1:OffB x1 x3) (o2:OffB x2 x3) :
    Go1 Tryz.prog false (fun g S'=>S'.g=.sends c []∧JP b r.1 b6 x1 x2 x3 Hw S'.h∧AtShut1 Tryz.prog c g) (born Tryz.prog {target:=.fn (.func f) #[ptr b7 0,ptr b2 0,ptr b6 0,ptr b3 0],args:=#[]}) ⟨Hw,.sends c (r.2.map Seg.v)⟩:=by
  refine pass_child hf (c:=c) (fun K k=>zF rfl h7 k) ?_
  refine zJ ?_
  refine za (zz rfl ?_)
  refine za (zF rfl h2 ?_)
  refine za (zV (vs:=s.row) rfl h3 ?_)
  refine za (zF rfl h7 ?_)
  refine za (W_callv (vs:=[ptr b6 0,s.v,.chan (some c)]) rfl rfl htf hb hn ?_)
  rw [show (#[]++[ptr b6 0,s.v,Value.chan (some c)].toArray++#[]:Array Value)=#[ptr b6 0,s.v,.chan (some c)] by rfl]
  refine hT.h x1 x2 x3 b6 c d3 S00 ⟨Hw,.sends c (r.2.map Seg.v)⟩ _ hG rfl h6 s1 s2 hO q0 q3 q1 q2 o1 o2 fun S' hE hP=>?_
  exact vf ⟨rfl,fun g hgs=>⟨hE.eq,⟨⟨rfl,hE.keep,hE.ro,hE.new⟩,hP.ghost .idle .idle⟩,hgs⟩⟩
def lpass:SCode:=.loop (.seq (.run r56_6) (.seq (.cond (t_ 18) .skip (.exit 0)) (.block 1 (.seq (.run r56_7) (.run r56_8)))))
def cpass (ty f:Nat):SCode:=.seq (.run [i_ 2 (.box ty (t_ 0)),i_ 3 (.box 33 (t_ 1)),i_ 4 (.alloc 29 (.agg #[.slice none 0 0,.slice none 0 0,.slice none 0 0])),i_ 5 (.mv (.const (.slice none 0 0)))]) (.seq (.run r56_1) (.seq (.run r56_2) (.seq (.run [i_ 14 (.mkFunc (.func f) [] [t_ 7,t_ 2,t_ 6,t_ 3]),n_ (.raw (.go ⟨.value (t_ 14),#[],#[]⟩) 0)]) (.seq (.run r56_4) (.seq (.seq (.run r56_5) (.block 0 lpass)) (.seq (.draw r56_9) .ret))))))
theorem c76_eq:c76=cpass 111 160:=rfl
theorem join_ext {S0 Sp Sm S:St} {H:Hp} {c r v:Nat} (hi:S0.g=.idle) (hR:GlobR Sp) (hE:Ext [] S0 Sp) (hc0:S0 c=none) (hr0:S0 r=none) (hv0:S0 v=none) (hcv:v≠c) (hcr:r≠c) (hrv:r≠v) (hv:∃ e,Sp v=some e∧Odd e.o) (hr:∃ o,Sp r=some ⟨o,true⟩)
    (hSm:Sm.h=keepM S0 Sp c r v) (hM:Ext [r] Sm S) (hW:Gro ⟨giveW S0 Sp c r v,.idle⟩ ⟨H,.idle⟩) (hcp:∀ b e e',S b=some e→H b=some e'→e=e'∧e.wr=false∧∃ e,giveW S0 Sp c r v b=some e) :
    Ext [] S0 ⟨fun b=>(S b).or (H b),.idle⟩∧Stays [] ⟨H,.idle⟩ ⟨fun b=>(S b).or (H b),.idle⟩∧(∀ b,H b≠none→giveW S0 Sp c r v b=none→S0 b=none):=by
  have hm:∀ b,Sm b=keepM S0 Sp c r v b:=fun b=>by rw [show Sm b=Sm.h b from rfl,hSm]
  have stay:∀ b e,S0 b=some e→S b=some e:=by
    intro b e hb
    have h1:b≠c:=by rintro rfl;rw [hc0] at hb;cases hb
    have h2:b≠v:=by rintro rfl;rw [hv0] at hb;cases hb
    have h3:b≠r:=by rintro rfl;rw [hr0] at hb;cases hb
    refine hM.ext b e (by simpa using h3) ?_
    rw [hm,keepM_old hb h1 h2]
    exact hE.get hb
  have newM:∀ b e,S0 b=none→S b=some e→e.wr=true∨Odd e.o:=by
    intro b e hb he
    by_cases h2:b=r
    · subst h2
      obtain ⟨o,ho⟩:=hr
      obtain ⟨o',ho'⟩:=hM.g.keep b ⟨o,true⟩ (by rw [hm,keepM_r hcr hrv];exact ho)
      rw [he] at ho';cases ho'
      exact .inl rfl
    · by_cases h3:b=v
      · subst h3
        obtain ⟨e0,h0,hodd⟩:=hv
        have:=hM.g.ro b ⟨e0.o,false⟩ (by rw [hm];exact keepM_v h0 hcv) rfl
        rw [he] at this;cases this
        exact .inr hodd
      · exact hM.g.new b e (by rw [hm];exact keepM_none hb h2 h3) he
  have newW:∀ b e,S0 b=none→S b=none→H b=some e→e.wr=true∨Odd e.o:=by
    intro b e hb hs he
    cases hg:giveW S0 Sp c r v b with
    | none=>exact hW.new b e hg he
    | some e1=>
      have h2:b≠r:=by rintro rfl;rw [giveW_r] at hg;cases hg
      have h1:b≠c:=by rintro rfl;rw [giveW_c] at hg;cases hg
      have h3:b≠v:=by
        rintro rfl
        obtain ⟨e0,h0,_⟩:=hv
        obtain ⟨o,ho⟩:=hM.g.keep b ⟨e0.o,false⟩ (by rw [hm];exact keepM_v h0 hcv)
        rw [hs] at ho;cases ho
      rw [giveW_new hb h1 h2 h3] at hg
      rcases hE.g.new b e1 hb hg with hw | hodd
      · obtain ⟨o,ho⟩:=hW.keep b e1 (by show giveW S0 Sp c r v b=_;rw [giveW_new hb h1 h2 h3];exact hg)
        have h9:(⟨H,.idle⟩:St) b=some e:=he
        rw [h9] at ho;cases ho
        exact .inl hw
      · cases hw:e1.wr with
        | false=>
          have:=hW.ro b e1 (by show giveW S0 Sp c r v b=_;rw [giveW_new hb h1 h2 h3];exact hg) hw
          have h9:(⟨H,.idle⟩:St) b=some e:=he
          rw [h9] at this;cases this
          exact .inr hodd
        | true=>
          obtain ⟨o,ho⟩:=hW.keep b e1 (by show giveW S0 Sp c r v b=_;rw [giveW_new hb h1 h2 h3];exact hg)
          have h9:(⟨H,.idle⟩:St) b=some e:=he
          rw [h9] at ho;cases ho
          exact .inl hw
  have st:Stays [] S0 ⟨fun b=>(S b).or (H b),.idle⟩:=fun b e _ hb=>by
    show (S b).or (H b)=_
    rw [stay b e hb];rfl
  refine ⟨⟨⟨hi.symm ▸ rfl,fun b e hb=>⟨e.o,st b e (by simp) hb⟩,fun b e hb _=>st b e (by simp) hb,fun b e hb he=>?_⟩,st⟩,fun b e _ hb=>?_,fun b hb hg=>?_⟩
  · have he:(S b).or (H b)=some e:=he
    cases hs:S b with
    | some e1=>rw [hs] at he;cases he;exact newM b _ hb hs
    | none=>rw [hs] at he;exact newW b e hb hs he
  · show (S b).or (H b)=_
    cases hs:S b with
    | none=>exact hb
    | some e1=>
      obtain ⟨h1,_⟩:=hcp b e1 e hs hb
      rw [h1];rfl
  · cases h0:S0 b with
    | none=>rfl
    | some e=>
      cases hh:H b with
      | none=>exact absurd hh hb
      | some e'=>
        obtain ⟨_,_,e2,h2⟩:=hcp b e e' (stay b e h0) hh
        rw [hg] at h2;cases h2
end
section
open Go
open Go.Conc (born recvd)
theorem Sl.stays {S S':St} {k:Nat} {a:Option Addr} {rows:List (List Value)} (h:Sl S k a rows) (he:Stays [] S S'):Sl S' k a rows:=h.agree fun b off _ e hb=>he b e (by simp) hb
theorem Loc.rest {S0 S1 S S':St} {X:List Nat} {L:List (Nat × Obj)} (hE:Ext [] S0 S') (hs:Stays [] S S') (H:Loc X S1 S L) (h0:∀ b o,(b,o)∈L→S0 b=none):Loc [] S0 S' L:=
 ⟨hE.g,hE.ext,fun b o hb=>hs b _ (by simp) (H.own b o hb),fun b o hb=>.inl (h0 b o hb),H.nodup⟩
theorem offS_of {S0 S:St} {a x:Option Addr} {e:TypeId} {k cap:Nat} {rows:List (List Value)} (h:OwnO S0 S x e k cap rows) (ho:OffB a x):OffS a x:=by
 rintro b off b' off' ha rfl
 rcases h with ⟨h,_⟩ | ⟨m,h,_⟩
 ·cases h
 ·cases h;exact ho b off b' ha rfl
theorem Sl.in_ {S:St} {k:Nat} {a:Option Addr} {rows:List (List Value)} (h:Sl S k a rows):∀ b off,a=some ⟨b,off,none⟩→∃ e,S b=some e:=by
 rintro b off rfl
 obtain ⟨_,_,c,e,f,wr,e1,h2,_⟩:=h.base _ rfl
 cases e1
 exact ⟨_,h2⟩
theorem pass_code {ty:Nat} {f:FuncId} {fn:Func} (hf:PassFn Tryz.prog f fn rpass) {tf:FuncId} {tfn:Func} (htf:Tryz.prog.funcs[tf]? = some tfn) (hb:tfn.body.isSome=true) (hn:(tfn.name == "runtime.NumGoroutine")=false) {b:Box} {s:Seg} {r:Box × List Seg} (hT:TurnC tf b s r)
    (hrs:r.1.rs=b.rs) (hr2:r.2.length≤100000) {S0:St} {a1 a2 a3:Option Addr} {c1 c2 c3:Nat} (hR:GlobR S0) (hi:S0.g=.idle) (h1:Sl S0 7 a1 (z5 b.rs)) (h2:Sl S0 2 a2 (zS b.es)) (h3:Sl S0 7 a3 (zY b.cs)) (hc2:b.es.length≤c2) (hz:BoxZ b)
    {Q:SEx→Env→St→Prop} (k:∀ (x1 x2 x3 x4:Option Addr) (d2 d3:Nat) E S',Ext [] S0 S'→Sl S' 7 x1 (z5 r.1.rs)→Sl S' 2 x2 (zS r.1.es)→r.1.es.length≤d2→Sl S' 7 x3 (zY r.1.cs)→r.1.cs.length≤d3→Sl S' 7 x4 (segRows r.2) →
      Org S0 none x1→Org S0 none x2→Org S0 none x3→Org S0 none x4→OffS x1 x2→OffS x1 x3→OffS x2 x3→OffS x1 x4→OffS x2 x4→OffS x3 x4→(∃ vs,resVals E S' [.cellN 4 3,.tmp 5]=some vs∧resVal vs=.tuple #[.agg #[.slice x1 r.1.rs.length r.1.rs.length,.slice x2 r.1.es.length d2,.slice x3 r.1.cs.length d3],.slice x4 r.2.length r.2.length])→Q .ret E S') :
    wpS Tryz.prog (cpass ty f) (Env.of [.agg #[.slice a1 b.rs.length c1,.slice a2 b.es.length c2,.slice a3 b.cs.length c3,.func (.func tf) #[] #[]],s.v]) S0 Q:=by
  have H:=Loc.start [] S0
  refine zD ?_
  refine zJ ?_
  refine za (W_box H rfl rfl fun b2 S hb2 hE H=>?_)
  refine za (W_box H rfl rfl fun b3 S hb3 hE H=>?_)
  refine za (W_alloc H rfl fun b4 S hb4 hE H=>?_)
  refine za (vC rfl ?_)
  refine vf ?_
  refine ze ?_
  refine zD ?_
  refine zJ ?_
  refine za (zz rfl ?_)
  refine za (W_loadN (vs:=[_,_,_]) H rfl (.tail (.tail .head)) rfl ?_)
  refine za (zU rfl (ct66 (h1.mono H.qx) (h2.mono H.qx) (h3.mono H.qx) hc2 hz fun x1 x2 x3 d3 S hE hx1 hx2 hO o1 o2 of1 of2 of3=>?_))
  have n1_b4:=o1.ne nofun (H.get .head)
  have n2_b4:=o2.ne nofun (H.get .head)
  have n3_b4:=hO.off (H.get .head)
  replace o1:=o1.back H.qx
  replace o2:=o2.back H.qx
  replace hO:=hO.back H.qx
  replace H:=H.call hE
  refine za (W_alloc H rfl fun b6 S hb6 hE H=>?_)
  have n1_b6:=hx1.ne hb6
  have n2_b6:=hx2.ne hb6
  have n3_b6:=hO.sl.ne hb6
  replace hx1:=hx1.mono hE
  replace hx2:=hx2.mono hE
  replace hO:=hO.mono hE
  refine za (W_store H rfl rfl rfl rfl rfl (by decide) .head (of_decide_eq_true rfl) rfl fun S hE H=>?_)
  replace hx1:=hx1.qy hE n1_b6
  replace hx2:=hx2.qy hE n2_b6
  replace hO:=hO.qy hE n3_b6
  refine vf ?_
  refine ze ?_
  refine zD ?_
  refine zJ ?_
  refine za (W_makeChan H fun c S hc hE H=>?_)
  have n1_c:=hx1.ne hc
  have n2_c:=hx2.ne hc
  have n3_c:=hO.sl.ne hc
  replace hx1:=hx1.mono hE
  replace hx2:=hx2.mono hE
  replace hO:=hO.mono hE
  refine za (W_alloc H rfl fun b7 S hb7 hE H=>?_)
  have n1_b7:=hx1.ne hb7
  have n2_b7:=hx2.ne hb7
  have n3_b7:=hO.sl.ne hb7
  replace hx1:=hx1.mono hE
  replace hx2:=hx2.mono hE
  replace hO:=hO.mono hE
  refine za (W_store H rfl rfl rfl rfl rfl (by decide) .head (of_decide_eq_true rfl) rfl fun S hE H=>?_)
  replace hx1:=hx1.qy hE n1_b7
  replace hx2:=hx2.qy hE n2_b7
  replace hO:=hO.qy hE n3_b7
  refine vf ?_
  refine ze ?_
  refine zD ?_
  refine zJ ?_
  refine za (W_mkFunc rfl rfl ?_)
  have hE0:=H.qx
  have hRp:=hR.mono hE0
  have z7:=H.new1 .head
  have zc:=H.new1 (.tail .head)
  have z6:=H.new1 (.tail (.tail .head))
  have z4:=H.new1 (.tail (.tail (.tail .head)))
  have z3:=H.new1 (.tail (.tail (.tail (.tail .head))))
  have z2:=H.new1 (.tail (.tail (.tail (.tail (.tail .head)))))
  have nd:=H.nodup
  simp only [List.map_cons,List.map_nil,List.nodup_cons,List.mem_cons,List.not_mem_nil,or_false,not_or,not_false_eq_true,and_true,List.nodup_nil] at nd
  obtain ⟨⟨d7c,d76,d74,d73,d72⟩,⟨dc6,dc4,dc3,dc2⟩,⟨d64,d63,d62⟩,⟨d43,d42⟩,d32⟩:=nd
  have g7:=hR.g.ne z7
  have gc:=hR.g.ne zc
  have g6:=hR.g.ne z6
  have g4:=hR.g.ne z4
  have hgl:∀ x∈[1,2,4],giveW S0 S c b4 b7 x=S x:=fun x hx=>giveW_glob hx (by rintro rfl;exact gc hx) (by rintro rfl;exact g4 hx) (by rintro rfl;exact g7 hx)
  have hnw:∀ {x:Nat},S0 x=none→x≠c→x≠b4→x≠b7→giveW S0 S c b4 b7 x=S x:=fun h0 h1 h2 h3=>giveW_new h0 h1 h2 h3
  have w7:giveW S0 S c b4 b7 b7=some ⟨Cs [.chan (some c)] 158,false⟩:=giveW_v (H.get .head) d7c d74
  have w2:=(hnw z2 (fun e=>dc2 e.symm) (fun e=>d42 e.symm) (fun e=>d72 e.symm)).trans (H.get (.tail (.tail (.tail (.tail (.tail .head))))))
  have w3:=(hnw z3 (fun e=>dc3 e.symm) (fun e=>d43 e.symm) (fun e=>d73 e.symm)).trans (H.get (.tail (.tail (.tail (.tail .head)))))
  have w6:=(hnw z6 (fun e=>dc6 e.symm) d64 (fun e=>d76 e.symm)).trans (H.get (.tail (.tail .head)))
  have m1:∀ x off,x1=some ⟨x,off,none⟩→S0 x=none:=fun x off e=>by
    rcases o1 with rfl | o1
    · cases e
    · exact o1 x off e
  have m2:∀ x off,x2=some ⟨x,off,none⟩→S0 x=none:=fun x off e=>by
    rcases o2 with rfl | o2
    · cases e
    · exact o2 x off e
  have m3:∀ x off,x3=some ⟨x,off,none⟩→S0 x=none:=fun x off e=>by
    rcases hO with ⟨rfl,_⟩ | ⟨m,rfl,h0,_⟩
    · cases e
    · cases e;exact h0
  have o3:Org S0 none x3:=.inr m3
  have wx1:Sl ⟨giveW S0 S c b4 b7,.sends c (r.2.map Seg.v)⟩ 7 x1 (z5 b.rs):=hx1.agree fun x off e en hen=>(hnw (m1 x off e) (n1_c x off e) (n1_b4 x off e) (n1_b7 x off e)).trans hen
  have wx2:Sl ⟨giveW S0 S c b4 b7,.sends c (r.2.map Seg.v)⟩ 2 x2 (zS b.es):=hx2.agree fun x off e en hen=>(hnw (m2 x off e) (n2_c x off e) (n2_b4 x off e) (n2_b7 x off e)).trans hen
  have wx3:OwnO S0 ⟨giveW S0 S c b4 b7,.sends c (r.2.map Seg.v)⟩ x3 49 7 d3 (zY b.cs):=by
    rcases hO with h | ⟨m,rfl,h0,cs,h4,h5⟩
    · exact .inl h
    · exact .inr ⟨m,rfl,h0,cs,(hnw h0 (n3_c m 0 rfl) (n3_b4 m 0 rfl) (n3_b7 m 0 rfl)).trans h4,h5⟩
  have hch:=pass_worker hf htf hb hn hT (S00:=S0) (Hw:=giveW S0 S c b4 b7) (c:=c) (b2:=b2) (b3:=b3) (b6:=b6) (b7:=b7) (d3:=d3) (x1:=x1) (x2:=x2) (x3:=x3)
    (hRp.g.agree fun x hx o w hs=>⟨w,(hgl x hx).trans hs⟩) (by simp [St.cell?,w7]) (by simp [St.cell?,w2]) (by simp [St.cells?,w3]) w6 wx1 wx2 wx3 g6 (fun x off e=>⟨hR.g.ne (m3 x off e),n3_b6 x off e⟩) n1_b6 n2_b6 of1 of2
  refine za (W_go (Hw:=giveW S0 S c b4 b7) (Hm:=keepM S0 S c b4 b7) (J:=JP b r.1 b6 x1 x2 x3 (giveW S0 S c b4 b7)) rfl (H.g.eq.trans hi) (H.get (.tail .head)) giveW_c keepM_c giveW_sub keepM_sub (give_keep hRp) hch ?_)
  refine vf ?_
  refine ze ?_
  have hm4:keepM S0 S c b4 b7 b4=some ⟨Cs [.slice none 0 0,.slice none 0 0,.slice none 0 0] 29,true⟩:=(keepM_r (fun e=>dc4 e.symm) (fun e=>d74 e.symm)).trans (H.get (.tail (.tail (.tail .head))))
  have hm7:keepM S0 S c b4 b7 b7=some ⟨Cs [.chan (some c)] 158,false⟩:=keepM_v (H.get .head) d7c
  have hmo:∀ x,keepM S0 S c b4 b7 x=none→S0 x=none:=fun x hx=>by
    cases h0:S0 x with
    | none=>rfl
    | some e=>
      rw [keepM_old h0 (by rintro rfl;rw [zc] at h0;cases h0) (by rintro rfl;rw [z7] at h0;cases h0)] at hx
      have h9:=hE0.get h0
      have h8:S x=none:=hx
      rw [h8] at h9;cases h9
  generalize hKM:keepM S0 S c b4 b7=KM at hm4 hm7 hmo
  generalize hJ0:JP b r.1 b6 x1 x2 x3 (giveW S0 S c b4 b7)=J
  generalize hD0:(fun b=>∃ e,giveW S0 S c b4 b7 b=some e)=D
  have M:Loc [b4] ⟨KM,.hears c (r.2.map Seg.v) J D⟩ ⟨KM,.hears c (r.2.map Seg.v) J D⟩ [(b4,Cs [.slice none 0 0,.slice none 0 0,.slice none 0 0] 29)]:=Loc.start1 hm4
  refine zD ?_
  refine zJ ?_
  refine za (vd (cs:=[]) M rfl rfl fun b8 S1 hb8 hE1 M=>?_)
  refine za (vC rfl ?_)
  refine vf ?_
  refine ze ?_
  refine zD ?_
  refine zD ?_
  refine zJ ?_
  have h17:S1 b7=some ⟨Cs [.chan (some c)] 158,false⟩:=hE1.get hm7
  refine za (zF (v:=.chan (some c)) rfl (by simp [St.cell?,h17]) ?_)
  refine vf ?_
  refine ze ?_
  refine zE ?_
  refine vj (fun E S m_=>∃ (i b8 cap:Nat) (cs:List Value),E=Env.lst [(4,ptr b4 0),(6,ptr b6 0),(8,sl b8 0 i cap),(16,.chan (some c))]∧Loc [b4] ⟨KM,.hears c ((r.2.map Seg.v).drop i) J D⟩ S [(b8,Cs cs 33),(b4,Cs [.slice none 0 0,.slice none 0 0,.slice none 0 0] 29)]∧i≤r.2.length∧i≤cap∧cs.length=cap*7∧cs.take (i*7)=(segRows (r.2.take i)).flatten∧m_=r.2.length-i) ?_ ?_
  · refine ⟨_,_,?le,0,b8,0,[],rfl,M,(by omega),(by omega),(by simp),(by simp),rfl⟩
    case le=>exact Env.qle ⟨rfl,rfl,rfl,rfl,trivial⟩
  · rintro _ S2 _ ⟨i,b8,cap,cs,rfl,M,hil,hic,hcl,hct,rfl⟩
    refine zD ?_
    refine zJ ?_
    by_cases hlt:i<r.2.length
    · obtain ⟨y,hy⟩:∃ y,r.2[i]? = some y:=⟨r.2[i],by simp⟩
      refine za (W_recv (v:=y.v) (vs:=(r.2.map Seg.v).drop (i+1)) (J:=J) (D:=D) rfl (by rw [M.g.eq];show Gh.hears _ _ _ _=_;rw [List.drop_eq_getElem_cons (by simpa using hlt)];simp only [List.getElem_map,(List.getElem?_eq_some_iff.1 hy).2]) ?_)
      replace M:=M.sent (.hears c ((r.2.map Seg.v).drop (i+1)) J D)
      refine za (vo rfl rfl ?_)
      refine vf ?_
      refine ze ?_
      refine zD ?_
      refine zr rfl ?_
      refine zt ?_
      refine ze ?_
      refine zE ?_
      refine zD ?_
      refine zJ ?_
      refine za (vo rfl rfl ?_)
      refine za (W_alloc M rfl fun b9 S3 hb9 hE3 M=>?_)
      refine za (W_store M rfl rfl rfl rfl rfl (by decide) .head (of_decide_eq_true rfl) rfl fun S3 hE3 M=>?_)
      refine vf ?_
      refine ze ?_
      refine zJ ?_
      refine za (vC rfl ?_)
      refine za (W_loadN (vs:=[_,_,_,_,_,_,_]) M rfl .head rfl ?_)
      refine za (vd (cs:=[_,_,_,_,_,_,_]) M rfl rfl fun b22 S3 hb22 hE3 M=>?_)
      refine za (W_append M rfl rfl (.tail (.tail .head)) hcl hic (Src.own M (n:=1) .head rfl) (by simp [oneCell,setl]) rfl (by decide) (by omega) rfl fun b23 cap23 cs23 S3 hb23 M hE3 hn23 hcl23 hct23=>?_)
      refine za (vC rfl ?_)
      refine vf ?_
      refine z_ ?_
      refine ze ?_
      refine ⟨_,_,?lt,?le,i+1,b23,cap23,cs23,rfl,M.sub (.cons_cons _ (.cons _ (.cons _ (.cons_cons _ .slnil)))),(by omega),hn23,hcl23,?_,rfl⟩
      case lt=>omega
      case le=>exact Env.qle ⟨rfl,rfl,rfl,rfl,trivial⟩
      refine hct23.trans ?_
      rw [hct,vA hy]
      simp [segRows]
    · obtain rfl:i=r.2.length:=by omega
      rw [List.take_length] at hct
      refine za (W_recvEnd (J:=J) (D:=D) rfl (by rw [M.g.eq];show Gh.hears _ _ _ _=_;rw [List.drop_of_length_le (by simp)]) fun HH hJ hcp=>?_)
      subst hJ0 hD0
      obtain ⟨hW,x2',x3',d2,d3',p1,p2,p3,p4,p5,p6,p7,p8,p9⟩:=hJ
      obtain ⟨hF,hst,hnone⟩:=join_ext (Sm:=⟨KM,_⟩) hi hRp hE0 zc z4 z7 d7c (fun e=>dc4 e.symm) (fun e=>d74 e.symm) ⟨_,H.get .head,⟨_,rfl⟩⟩ ⟨_,H.get (.tail (.tail (.tail .head)))⟩ hKM.symm M.qx hW hcp
      have z8:S0 b8=none:=hmo b8 ((M.fresh b8 _ (Has.mem .head)).resolve_right (by
        intro hm
        obtain rfl:=List.mem_singleton.1 hm
        exact absurd M.nodup (by simp)))
      have n8:∀ x e,HH x=some e→x≠b8:=by
        rintro x e hx rfl
        have:=(hcp x _ e (M.get .head) hx).2.1
        cases this
      have hstS:Stays [] S2 ⟨fun b=>(S2 b).or (HH b),.idle⟩:=fun x e _ hx=>by
        show (S2 x).or (HH x)=_
        rw [hx];rfl
      have F:=Loc.rest hF hstS M (fun x o hx=>by
        simp only [List.mem_cons,Prod.mk.injEq,List.not_mem_nil,or_false] at hx
        rcases hx with ⟨rfl,_⟩ | ⟨rfl,_⟩
        · exact z8
        · exact z4)
      replace F:=F.also (.inl z6) (by
        simp only [List.map_cons,List.map_nil,List.mem_cons,List.not_mem_nil,or_false,not_or]
        exact ⟨n8 b6 _ p1,d64⟩) (hst b6 _ (by simp) p1)
      have hg1:=p2.stays hst
      have hg2:=p3.stays hst
      have hg3:=p5.stays hst
      have i1:=p2.in_
      have i2:=p3.in_
      have i3:=p5.in_
      have Q2:Org S0 none x2':=by
        rcases p7 with rfl | p7
        · exact o2
        · exact .inr fun x off e=>hnone x (by obtain ⟨en,hen⟩:=i2 x off e;intro hc;have h9:HH x=some en:=hen;rw [hc] at h9;cases h9) (p7 x off e)
      have Q3:Org S0 none x3':=by
        rcases p8 with rfl | p8
        · exact o3
        · exact .inr fun x off e=>hnone x (by obtain ⟨en,hen⟩:=i3 x off e;intro hc;have h9:HH x=some en:=hen;rw [hc] at h9;cases h9) (p8 x off e)
      have T12:OffS x1 x2':=by
        rcases p7 with rfl | p7
        · exact of3
        · exact OffS.new (wx1.sent .idle) (.inr p7)
      have T13:OffS x1 x3':=by
        rcases p8 with rfl | p8
        · exact offS_of hO of1
        · exact OffS.new (wx1.sent .idle) (.inr p8)
      have T14:OffS x1 (some ⟨b8,0,none⟩):=.at fun x off e=>by obtain ⟨en,hen⟩:=i1 x off e;exact n8 x en hen
      have T24:OffS x2' (some ⟨b8,0,none⟩):=.at fun x off e=>by obtain ⟨en,hen⟩:=i2 x off e;exact n8 x en hen
      have T34:OffS x3' (some ⟨b8,0,none⟩):=.at fun x off e=>by obtain ⟨en,hen⟩:=i3 x off e;exact n8 x en hen
      have u1:∀ x off,x1=some ⟨x,off,none⟩→x≠b4:=fun x off e=>n1_b4 x off e
      have u2:∀ x off,x2'=some ⟨x,off,none⟩→x≠b4:=by
        rintro x off e rfl
        obtain ⟨en,hen⟩:=i2 x off e
        have:=(hcp x _ en (M.get (.tail .head)) hen).2.1
        cases this
      have u3:∀ x off,x3'=some ⟨x,off,none⟩→x≠b4:=by
        rintro x off e rfl
        obtain ⟨en,hen⟩:=i3 x off e
        have:=(hcp x _ en (M.get (.tail .head)) hen).2.1
        cases this
      refine za (vo rfl rfl ?_)
      refine vf ?_
      refine ze ?_
      refine zD ?_
      refine zn rfl ?_
      refine vh ?_
      refine zK ?_
      refine zK ?_
      refine vp ?_
      refine ze ?_
      refine zD ?_
      refine vc [b4] ?_
      refine wpD_lt 0 rfl (by kernel_rfl) rfl (fun S' hS'=>zG fun K hK=>zV rfl (zM (hS' rfl) (nin1 d64) (F.cells (vs:=[_,_,_]) .head rfl)) hK) ?_
      refine wpD_lt 1 rfl (by kernel_rfl) rfl (fun S' _=>zG fun K hK=>vC rfl hK) ?_
      refine zB 2 (by kernel_rfl) rfl rfl ?_
      refine zv (zU rfl (ct135 hic fun S4 hE4=>?_))
      replace F:=F.call hE4
      replace hg1:=hg1.mono hE4
      replace hg2:=hg2.mono hE4
      replace hg3:=hg3.mono hE4
      refine ⟨fun _=>hE4.up.ext,?_⟩
      refine zB 3 (by kernel_rfl) rfl rfl ?_
      refine zv (W_store F rfl rfl rfl rfl rfl (by decide) (.tail (.tail .head)) (of_decide_eq_true rfl) rfl fun S5 hE5 F=>?_)
      replace hg1:=hg1.qy hE5 u1
      replace hg2:=hg2.qy hE5 u2
      replace hg3:=hg3.qy hE5 u3
      refine ⟨ldNo (by kernel_rfl),?_⟩
      refine zB 4 (by kernel_rfl) rfl rfl ?_
      refine zv (vC rfl ?_)
      refine ⟨ldNo (by kernel_rfl),?_⟩
      refine zX ?_
      refine ze ?_
      refine zh ?_
      rw [← hrs] at hg1
      refine k x1 x2' x3' (some ⟨b8,0,none⟩) d2 d3' _ _ F.qx hg1 hg2 p4 hg3 p6 (vn (F.get (.tail .head)) (n:=r.2.length*7) (by simp) hct segRows_seven) o1 Q2 Q3 (.new z8) T12 T13 p9 T14 T24 T34 ⟨_,z0 (ws:=[_,_,_]) F rfl (.tail (.tail .head)) rfl (zW rfl zT),?_⟩
      rw [hrs];rfl
end
section
theorem spl_app {s:UInt8} (a b:Bs):∃ r,(spl s (a++b)).1=(spl s a).1++r:=by
 induction a with
 | nil=>exact ⟨_,rfl⟩
 | cons c a ih=>
  obtain ⟨r,hr⟩:=ih
  simp only [List.cons_append,spl]
  split
  ·exact ⟨r,by simp [hr]⟩
  ·rcases h1:spl s a with ⟨ls,x⟩
   rcases h2:spl s (a++b) with ⟨ms,y⟩
   rw [h1,h2] at hr
   simp only at hr
   cases ls with
   | nil=>simp only [List.nil_append] at hr;exact ⟨_,rfl⟩
   | cons l ls=>
    cases ms with
    | nil=>simp at hr
    | cons m ms=>
     simp only [List.cons_append,List.cons.injEq] at hr
     exact ⟨r,by simp [hr.1,hr.2]⟩
theorem spl_app0 {s:UInt8} (a b:Bs) (h:(spl s a).2=[]):spl s (a++b)=((spl s a).1++(spl s b).1,(spl s b).2):=by
 induction a with
 | nil=>rfl
 | cons c a ih=>
  simp only [List.cons_append,spl] at h ⊢
  split at h
  ·rename_i hc
   simp only at h
   rw [if_pos hc,if_pos hc,ih h]
   simp
  ·rename_i hc
   rw [if_neg hc,if_neg hc]
   rcases h1:spl s a with ⟨ls,x⟩
   rw [h1] at h ih
   cases ls with
   | nil=>simp at h
   | cons l ls=>
    simp only at h ih
    rw [ih h]
    simp
theorem grown_pre (l:Bs) (s:Seg):l <+: grown l s:=by
 unfold grown;split
 ·exact List.prefix_rfl
 ·exact List.prefix_append _ _
theorem addedS_pre (l:Bs) (s:Seg):l <+: vt l s:=by
 unfold vt;split
 ·exact grown_pre l s
 ·exact List.prefix_rfl
theorem added_old (l:Bs) (s:Seg):(zu (vt l s)).1=(zu l).1++(zu (vt l s)).1.drop (zu l).1.length:=by
 obtain ⟨r,hr⟩:=addedS_pre l s
 rw [← hr]
 obtain ⟨q,hq⟩:=spl_app (s:=59) l r
 simp only [zu]
 rw [hq]
 simp
theorem grown_again (l:Bs) (s:Seg):grown (grown l s) s=grown l s:=by
 by_cases h:s.sq<0∨(l.length:Int)<s.sq∨s.sq+s.dt.length≤l.length
 ·have e:grown l s=l:=by unfold grown;rw [if_pos h]
  rw [e,e]
 ·have e:grown l s=l++s.dt.drop ((l.length:Int)-s.sq).toNat:=by unfold grown;rw [if_neg h]
  rw [e]
  unfold grown
  rw [if_pos]
  simp only [not_or] at h
  refine .inr (.inr ?_)
  rw [List.length_append,List.length_drop]
  omega
theorem addedS_again (l:Bs) (s:Seg):vt (vt l s) s=vt l s:=by
 unfold vt
 split
 ·rename_i h
  simp only [grown_again,if_pos h,ite_self]
 ·rename_i h
  simp [h]
theorem no59_dig (n:Nat):(59:UInt8)∉dig n:=fun h=>by
 have:=dig_mem h
 have e:(59:UInt8).toNat=59:=rfl
 omega
theorem no59_eTxt (a p:Int):(59:UInt8)∉eTxt a p:=by
 unfold eTxt
 simp only [List.mem_append,not_or]
 exact ⟨⟨no59_dig _,by decide⟩,no59_dig _⟩
theorem no59_line (e:End):(59:UInt8)∉e.line:=by
 unfold End.line
 split
 ·simp only [List.mem_append,not_or]
  exact ⟨by decide,no59_eTxt _ _⟩
 ·simp
theorem no59_in {es:List End} {l:Bs} (h:(59:UInt8)∉l):(59:UInt8)∉lineIn es l:=by
 unfold lineIn
 split
 ·exact h
 ·split
  ·exact h
  ·exact no59_line _
theorem spl_linesIn (es:List End) (ls:List Bs) (h:∀ l∈ls,(59:UInt8)∉l):zu (linesIn es ls)=(ls.map (lineIn es),[]):=by
 induction ls with
 | nil=>rfl
 | cons l ls ih=>
  have e:linesIn es (l::ls)=lineIn es l++59::linesIn es ls:=by simp [linesIn]
  rw [e]
  simp only [zu] at ih ⊢
  rw [spl_cons (no59_in (h l (by simp))),ih fun x hx=>h x (by simp [hx])]
  rfl
theorem StrP.clean {l:Bs}:∀ x∈(zu l).1,(59:UInt8)∉x:=(spl_clean 59 l).1
theorem near_heard {es:List End} {c:Conn} {s:Seg} (hT:TabP es) (h:nearP es c.he c.ne) (hs:StrP c.he):nearP es (heardC es c s).he (heardC es c s).ne:=by
 rw [heardC_eq]
 have hl:=heard_ne_len (s:=s) hT h hs
 have hold:=added_old c.he s
 generalize hnew:(zu (vt c.he s)).1.drop (zu c.he).1.length=new at *
 have hcl:∀ l∈new,(59:UInt8)∉l:=fun l hl=>StrP.clean (l:=vt c.he s) l (by rw [← hnew] at hl;exact List.mem_of_mem_drop hl)
 have hne:zu (c.ne++linesIn es new)=((zu c.ne).1++new.map (lineIn es),[]):=by
  have h1:=spl_linesIn es new hcl
  simp only [zu] at h1 ⊢
  rw [spl_app0 _ _ h.2.1,h1]
 refine ⟨?_,?_,hl,fun i l m hi hm=>?_⟩
 ·show (zu (vt c.he s)).1.length=(zu (c.ne++linesIn es new)).1.length
  rw [hne,hold];simp only [List.length_append,List.length_map];rw [h.1]
 ·show (zu (c.ne++linesIn es new)).2=[]
  rw [hne]
 ·have hi:(zu (vt c.he s)).1[i]? = some l:=hi
  have hm:(zu (c.ne++linesIn es new)).1[i]? = some m:=hm
  rw [hold] at hi
  rw [hne] at hm
  simp only at hm
  by_cases h1:i<(zu c.he).1.length
  ·rw [List.getElem?_append_left h1] at hi
   rw [List.getElem?_append_left (by rw [← h.1];exact h1)] at hm
   exact h.2.2.2 i l m hi hm
  ·rw [List.getElem?_append_right (by omega)] at hi
   rw [List.getElem?_append_right (by rw [← h.1];omega),List.getElem?_map,← h.1,hi] at hm
   simp only [Option.map_some,Option.some.injEq] at hm
   exact .inr hm.symm
theorem heardC_io (es:List End) (c:Conn) (s:Seg):(heardC es c s).i=c.i∧(heardC es c s).o=c.o∧(heardC es c s).kn=c.kn:=by rw [heardC_eq];exact ⟨rfl,rfl,rfl⟩
theorem ConnP_heard {es:List End} {c:Conn} {s:Seg} (hT:TabP es) (h:ConnP es c):ConnP es (heardC es c s):=by
 obtain ⟨h1,h2,h3⟩:=heardC_io es c s
 refine ⟨by rw [h1];exact h.1,by rw [h2];exact h.2.1,by rw [h2];exact h.2.2.1,by rw [h1];exact h.2.2.2.1,by rw [h3];exact h.2.2.2.2.1,?_,by rw [h3];exact h.2.2.2.2.2.2.1,near_heard hT h.2.2.2.2.2.2.2 h.2.2.2.2.2.1⟩
 rw [heardC_eq];exact addedS_ok h.2.2.2.2.2.1
theorem heardC_again {es:List End} {c:Conn} {s:Seg}:heardC es (heardC es c s) s=heardC es c s:=by
 rw [heardC_eq es c s,heardC_eq]
 simp only [addedS_again,List.drop_of_length_le (Nat.le_refl _)]
 simp [linesIn]
theorem findC_set {cs:List Conn} {k:Nat} {c c0:Conn} (hx:cs[k]? = some c0) (hi:c.i=c0.i∧c.o=c0.o) (e f:End):vL (cs.set k c) e f=vL cs e f:=by
 induction cs generalizing k with
 | nil=>simp at hx
 | cons x cs ih=>
  cases k with
  | zero=>simp at hx;subst hx;simp [vL,hi.1,hi.2]
  | succ k=>simp only [List.getElem?_cons_succ] at hx;simp only [List.set_cons_succ,vL,ih hx]
theorem findC_set_take {cs:List Conn} {k j:Nat} {c c0:Conn} (hx:cs[k]? = some c0) (hi:c.i=c0.i∧c.o=c0.o) (e f:End):vL ((cs.set k c).take j) e f=vL (cs.take j) e f:=by
 rw [List.take_set]
 by_cases h:k<j
 ·exact findC_set (by rw [List.getElem?_take,if_pos h];exact hx) hi e f
 ·rw [List.set_eq_of_length_le (by simp;omega)]
end
section
@[ext] theorem Box.ext' {a b:Box} (h1:a.rs=b.rs) (h2:a.es=b.es) (h3:a.cs=b.cs):a=b:=by
 cases a;cases b;simp_all
theorem in_box {b:Box} {s:Seg} {k:Nat} {c0:Conn} (h:BoxP b) (hx:b.cs[k]? = some c0):inO b s k=({b with cs:=b.cs.set k (heardC b.es c0 s)},cutO {s with d:=c0.i,ak:=backD 0 (spansO c0.kn (streamO b.es c0.kn).2) s.ak} (heardC b.es c0 s).ne (outD 0 (spansO (heardC b.es c0 s).he (heardC b.es c0 s).ne) s.sq).toNat) ∧
    BoxP {b with cs:=b.cs.set k (heardC b.es c0 s)}∧(heardC b.es c0 s).ne.length≤240:=by
  obtain ⟨k1,k2,k3⟩:=heardC_io b.es c0 s
  have hc:=h.2.2.2 k c0 hx
  have hC:=ConnP_heard (s:=s) h.1 hc.1
  have e:=inO_at (b:=b) (s:=s) hx rfl
  rw [k1,k3] at e
  refine ⟨e,⟨h.1,h.2.1,by simpa using h.2.2.1,fun j c hj=>?_⟩,hC.2.2.2.2.2.2.2.2.2.1⟩
  have hkl:=(List.getElem?_eq_some_iff.1 hx).1
  have hj:(b.cs.set k (heardC b.es c0 s))[j]? = some c:=hj
  show ConnP b.es c∧vL ((b.cs.set k (heardC b.es c0 s)).take j) c.i c.o<0
  rw [findC_set_take hx ⟨k1,k2⟩]
  by_cases hjk:j=k
  · subst hjk
    have:(b.cs.set j (heardC b.es c0 s))[j]? = some (heardC b.es c0 s):=by simp [hkl]
    rw [this] at hj;cases hj
    rw [k1,k2]
    exact ⟨hC,hc.2⟩
  · rw [List.getElem?_set_ne (fun e=>hjk e.symm)] at hj
    exact h.2.2.2 j c hj
open Classical in
theorem boxInP_ok {b:Box} {s:Seg} (h:BoxP b):BoxP (vz b s).1∧(vz b s).1.rs=b.rs∧(vz b s).1.es=b.es∧(vz b s).2.length≤1000∧vz (vz b s).1 s=vz b s:=by
 have idle:vz b s=(b,[])→BoxP (vz b s).1∧(vz b s).1.rs=b.rs∧(vz b s).1.es=b.es∧(vz b s).2.length≤1000∧vz (vz b s).1 s=vz b s:=fun e=>by
  rw [e];exact ⟨h,rfl,rfl,by simp,e⟩
 by_cases hy:BoxP b∧SegP s∧s.s.out∧s.d.a=50
 case neg=>exact idle ((boxInP_not hy).1 h)
 cases he:endP b.es s.d.p with
 | none=>exact idle (boxInP_none hy he)
 | some e=>
  by_cases hm:mayR b.rs e s.s=true
  case neg=>exact idle (boxInP_deny hy he hm)
  by_cases hf:0≤vL b.cs e s.s
  ·have hE:=boxInP_in hy he hm hf
   have hb:=findC_bd b.cs e s.s
   obtain ⟨c0,hx⟩:∃ c0,b.cs[(vL b.cs e s.s).toNat]? = some c0:=⟨b.cs[(vL b.cs e s.s).toNat]'(by omega),by simp⟩
   obtain ⟨q1,q2,q3⟩:=in_box (s:=s) h hx
   obtain ⟨k1,k2,k3⟩:=heardC_io b.es c0 s
   rw [q1] at hE
   rw [hE]
   refine ⟨q2,rfl,rfl,?_,?_⟩
   ·have:=cutO_len {s with d:=c0.i,ak:=backD 0 (spansO c0.kn (streamO b.es c0.kn).2) s.ak} (heardC b.es c0 s).ne (outD 0 (spansO (heardC b.es c0 s).he (heardC b.es c0 s).ne) s.sq).toNat
    show (cutO _ _ _).length≤1000
    omega
   ·have hf2:vL (b.cs.set (vL b.cs e s.s).toNat (heardC b.es c0 s)) e s.s=vL b.cs e s.s:=findC_set hx ⟨k1,k2⟩ e s.s
    have hkl:=(List.getElem?_eq_some_iff.1 hx).1
    have hx2:(b.cs.set (vL b.cs e s.s).toNat (heardC b.es c0 s))[(vL b.cs e s.s).toNat]? = some (heardC b.es c0 s):=by simp [hkl]
    have hE2:=boxInP_in (b:={b with cs:=b.cs.set (vL b.cs e s.s).toNat (heardC b.es c0 s)}) (s:=s) (e:=e) ⟨q2,hy.2⟩ he hm (by show 0≤vL (b.cs.set _ _) e s.s;rw [hf2];exact hf)
    have hE3:vz {b with cs:=b.cs.set (vL b.cs e s.s).toNat (heardC b.es c0 s)} s=inO {b with cs:=b.cs.set (vL b.cs e s.s).toNat (heardC b.es c0 s)} s (vL b.cs e s.s).toNat:=by
     rw [hE2];show inO _ _ (vL (b.cs.set _ _) e s.s).toNat=_;rw [hf2]
    obtain ⟨p1,_⟩:=in_box (b:={b with cs:=b.cs.set (vL b.cs e s.s).toNat (heardC b.es c0 s)}) (s:=s) q2 hx2
    rw [hE3,p1]
    simp only [heardC_again,k1,k3,List.set_set]
  ·by_cases hc:s.s.p=21
   ·exact idle (boxInP_ctl hy he hm hf hc)
   ·have hE:=boxInP_one hy he hm hf hc
    rw [hE]
    exact ⟨h,rfl,rfl,by simp,hE⟩
end
section
open Go
structure BoxR (S0 S:St) (x1 x2 x3 x4:Option Addr) (d2 d3:Nat) (r:Box × List Seg):Prop where
 h1:Sl S 7 x1 (z5 r.1.rs)
 h2:Sl S 2 x2 (zS r.1.es)
 h3:Sl S 7 x3 (zY r.1.cs)
 h4:Sl S 7 x4 (segRows r.2)
 l2:r.1.es.length≤d2
 l3:r.1.cs.length≤d3
 o1:Org S0 none x1
 o2:Org S0 none x2
 o3:Org S0 none x3
 o4:Org S0 none x4
 t12:OffS x1 x2
 t13:OffS x1 x3
 t23:OffS x2 x3
 t14:OffS x1 x4
 t24:OffS x2 x4
 t34:OffS x3 x4
theorem OffS.nil' {a:Option Addr}:OffS none a:=fun b off b' off' e _=>by cases e
theorem BoxR.nil (S0 S:St):BoxR S0 S none none none none 0 0 (Box.nil,[]):=⟨.nil _,.nil _,.nil _,.nil _,Nat.le_refl _,Nat.le_refl _,.same _ _,.same _ _,.same _ _,.same _ _,.nil,.nil,.nil,.nil,.nil,.nil⟩
theorem BoxR.mono {S0 S S':St} {x1 x2 x3 x4:Option Addr} {d2 d3:Nat} {r:Box × List Seg} (h:BoxR S0 S x1 x2 x3 x4 d2 d3 r) (he:Ext [] S S'):BoxR S0 S' x1 x2 x3 x4 d2 d3 r:=
 {h with h1:=h.h1.mono he,h2:=h.h2.mono he,h3:=h.h3.mono he,h4:=h.h4.mono he}
theorem BoxR.qy {S0 S S':St} {x1 x2 x3 x4:Option Addr} {d2 d3 b:Nat} {r:Box × List Seg} (h:BoxR S0 S x1 x2 x3 x4 d2 d3 r) (he:Ext [b] S S') (n:(∀ b' off,x1=some ⟨b',off,none⟩→b'≠b)∧(∀ b' off,x2=some ⟨b',off,none⟩→b'≠b)∧(∀ b' off,x3=some ⟨b',off,none⟩→b'≠b)∧(∀ b' off,x4=some ⟨b',off,none⟩→b'≠b)):BoxR S0 S' x1 x2 x3 x4 d2 d3 r:=
 {h with h1:=h.h1.qy he n.1,h2:=h.h2.qy he n.2.1,h3:=h.h3.qy he n.2.2.1,h4:=h.h4.qy he n.2.2.2}
theorem BoxR.back {S00 S0 S:St} {x1 x2 x3 x4:Option Addr} {d2 d3:Nat} {r:Box × List Seg} (h:BoxR S0 S x1 x2 x3 x4 d2 d3 r) (he:Ext [] S00 S0):BoxR S00 S x1 x2 x3 x4 d2 d3 r:=
 {h with o1:=h.o1.back he,o2:=h.o2.back he,o3:=h.o3.back he,o4:=h.o4.back he}
theorem BoxR.ne {S0 S:St} {x1 x2 x3 x4:Option Addr} {d2 d3 b:Nat} {r:Box × List Seg} (h:BoxR S0 S x1 x2 x3 x4 d2 d3 r) (hb:S b=none):(∀ b' off,x1=some ⟨b',off,none⟩→b'≠b)∧(∀ b' off,x2=some ⟨b',off,none⟩→b'≠b)∧(∀ b' off,x3=some ⟨b',off,none⟩→b'≠b)∧(∀ b' off,x4=some ⟨b',off,none⟩→b'≠b):=
 ⟨h.h1.ne hb,h.h2.ne hb,h.h3.ne hb,h.h4.ne hb⟩
theorem BoxR.old {S0 S:St} {x1 x2 x3 x4:Option Addr} {d2 d3 b:Nat} {e:Ent} {r:Box × List Seg} (h:BoxR S0 S x1 x2 x3 x4 d2 d3 r) (hb:S0 b=some e):(∀ b' off,x1=some ⟨b',off,none⟩→b'≠b)∧(∀ b' off,x2=some ⟨b',off,none⟩→b'≠b)∧(∀ b' off,x3=some ⟨b',off,none⟩→b'≠b)∧(∀ b' off,x4=some ⟨b',off,none⟩→b'≠b):=
 ⟨h.o1.ne nofun hb,h.o2.ne nofun hb,h.o3.ne nofun hb,h.o4.ne nofun hb⟩
structure GlobI (S:St):Prop where
 r:GlobR S
 i:S.g=.idle
theorem GlobI.mono {S S':St} (h:GlobI S) (he:Ext [] S S'):GlobI S':=⟨h.r.mono he,he.g.eq.trans h.i⟩
theorem GlobI.g {S:St} (h:GlobI S):Glob S:=h.r.g
section
variable {S0:St} {K:Value→St→Prop} {a1 a2 a3:Option Addr} {c1 c2 c3:Nat} {b:Box} {s:Seg}
theorem ct76 (hG:GlobI S0) (h1:Sl S0 7 a1 (z5 b.rs)) (h2:Sl S0 2 a2 (zS b.es)) (h3:Sl S0 7 a3 (zY b.cs)) (hc2:b.es.length≤c2) (hz:BoxZ b) (hB:BoxP b) (hdt:s.dt.length≤1048576)
    (k:∀ (x1 x2 x3 x4:Option Addr) (d2 d3:Nat) (r:Box × List Seg) S',Ext [] S0 S'→r=vz b s→BoxR S0 S' x1 x2 x3 x4 d2 d3 r→K (.tuple #[.agg #[.slice x1 r.1.rs.length r.1.rs.length,.slice x2 r.1.es.length d2,.slice x3 r.1.cs.length d3],.slice x4 r.2.length r.2.length]) S') :
    Calls1 Tryz.prog 76 #[.agg #[.slice a1 b.rs.length c1,.slice a2 b.es.length c2,.slice a3 b.cs.length c3,.func (.func 75) #[] #[]],s.v] S0 K:=by
  refine calls1_slim (sf:=s76) Tryz.func76 k76 (of_decide_eq_true rfl) ?_
  show wpS Tryz.prog c76 (Env.of [.agg #[.slice a1 b.rs.length c1,.slice a2 b.es.length c2,.slice a3 b.cs.length c3,.func (.func 75) #[] #[]],s.v]) S0 _
  rw [c76_eq]
  obtain ⟨_,q2,_,q4,_⟩:=boxInP_ok (s:=s) hB
  refine pass_code pf160 Tryz.func75 (by kernel_rfl) (by kernel_rfl) (turn75 hB hdt) q2 (by omega) hG.r hG.i h1 h2 h3 hc2 hz fun x1 x2 x3 x4 d2 d3 E S' hE p1 p2 p3 p4 p5 p6 o1 o2 o3 o4 t12 t13 t23 t14 t24 t34 hv=>?_
  obtain ⟨vs,hv1,hv2⟩:=hv
  exact ⟨trivial,vs,hv1,by rw [hv2];exact k x1 x2 x3 x4 d2 d3 _ S' hE rfl ⟨p1,p2,p4,p6,p3,p5,o1,o2,o3,o4,t12,t13,t23,t14,t24,t34⟩⟩
end
end
section
variable {S0:St} {K:Value→St→Prop}
variable {b:Box} {s:Seg}
theorem boxInP_no (h:¬ BoxP b):vz b s=(Box.nil,[]):=(boxInP_not (fun h2=>h h2.1)).2 h
theorem ct24 {a1 a2 a3:Option Addr} {c1 c2 c3:Nat} (hG:GlobI S0) (h1:Sl S0 7 a1 (z5 b.rs)) (h2:Sl S0 2 a2 (zS b.es)) (h3:Sl S0 7 a3 (zY b.cs)) (hc2:b.es.length≤c2) (hc3:b.cs.length≤c3) (hz:BoxZ b) (hl:s.dt.length≤1048576) (k:∀ (x1 x2 x3 x4:Option Addr) (d2 d3:Nat) (r:Box × List Seg) S',Ext [] S0 S'→(r=vz b s)→(BoxR S0 S' x1 x2 x3 x4 d2 d3 r)→K (.tuple #[.agg #[.slice x1 r.1.rs.length r.1.rs.length,.slice x2 r.1.es.length d2,.slice x3 r.1.cs.length d3],.slice x4 r.2.length r.2.length]) S') :
  zC 24 #[.agg #[.slice a1 b.rs.length c1,.slice a2 b.es.length c2,.slice a3 b.cs.length c3],s.v] S0 K:=by
 refine zGh (sf:=s24) Tryz.func24 fun H=>?_
 have hzz:=hz
 obtain ⟨z1,z2,z3,hz4⟩:=hz
 refine zR (zBx H O O fun b2 S hb2 hE H=>zBx H O O fun b3 S hb3 hE H=>zAl H O fun b4 S hb4 hE H=>zj O (zN (vB (zLn (vs:=[_,_,_]) H O .h2 O (zCl O (ct17 (hG.mono H.qx).g (h1.mono H.qx) (h2.mono H.qx) (h3.mono H.qx) hc2 hc3 hzz fun t7 S hE h7=>?_))))))
 replace H:=H.call hE
 refine zNt O (zN ?_)
 rcases t7 with _|_
 ·replace h7:=bF h7
  refine zr O (zR (za (W_build (cs:=[_,_,_]) O O (zSs H O O O .h O fun S hE H=>zj O (zN (zh (zw (⟨trivial,_,(z0 (ws:=[_,_,_]) H O .h O (zW O zT)),?_⟩))))))))
  exact k none none none none 0 0 _ _ H.qx (boxInP_no h7).symm (BoxR.nil _ _)
 ·replace h7:=bT h7
  refine zn O (zt (ze (zR (zLn (vs:=[_,_,_]) H O .h2 O (za (W_build (cs:=[_,_,_,_]) O O (zLn (vs:=[_,_,_,_,_,_,_]) H O .h1 O (zCl O (ct76 (hG.mono H.qx) (h1.mono H.qx) (h2.mono H.qx) (h3.mono H.qx) hc2 hzz h7 hl fun x113 x213 x313 x413 d213 d313 r13 S hE hr13 hR13=>?_)))))))))
  have hR13_b4:=hR13.old (H.get .h)
  replace hR13:=hR13.back H.qx
  replace H:=H.call hE
  refine zEx O O (zEx O O (zSs H O O O .h O fun S hE H=>?_))
  replace hR13:=hR13.qy hE hR13_b4
  refine zj O (zN (zh (⟨trivial,_,(z0 (ws:=[_,_,_]) H O .h O (zW O zT)),?_⟩)))
  exact k x113 x213 x313 x413 d213 d313 _ _ H.qx hr13 hR13
end
section
open Go
section
variable {P:Program} {X:List Nat} {S0 S S':St} {L L':List (Nat × Obj)} {E:Env} {K:Value→St→Prop}
theorem Sl.at {k:Nat} {b off:Nat} {rows:List (List Value)} (h:Sl S k (some ⟨b,off,none⟩) rows) {i:Nat} {r:List Value} (hr:rows[i]? = some r):S.cells? ⟨b,off+i*k,none⟩ k=some r:=by
 obtain ⟨b',off',e,h2⟩:=h.row i r hr
 cases e;exact h2
end
end
section
variable {S0:St} {K:Value→St→Prop}
end
section
open Go
section
variable {P:Program} {X:List Nat} {S0 S S':St} {L L':List (Nat × Obj)} {E:Env} {K:Value→St→Prop}
theorem BoxM.t13 {x1 x2 x3:Option Addr} {d2 d3:Nat} {q:Box} (h:BoxM S0 S x1 x2 x3 d2 d3 q):∀ m,x3=some ⟨m,0,none⟩→∀ b off,x1=some ⟨b,off,none⟩→b≠m:=by
 intro m e
 rcases h.c with ⟨h1,_⟩ | ⟨m',h1,_,_,h4,_⟩
 ·rw [h1] at e;cases e
 ·rw [h1] at e;cases e;exact h4
theorem BoxM.t23 {x1 x2 x3:Option Addr} {d2 d3:Nat} {q:Box} (h:BoxM S0 S x1 x2 x3 d2 d3 q):∀ m,x3=some ⟨m,0,none⟩→∀ b off,x2=some ⟨b,off,none⟩→b≠m:=by
 intro m e
 rcases h.c with ⟨h1,_⟩ | ⟨m',h1,_,_,_,h4⟩
 ·rw [h1] at e;cases e
 ·rw [h1] at e;cases e;exact h4
theorem BoxP.z {b:Box} (h:BoxP b):BoxZ b:=by
 obtain ⟨h1,h2,h3,h4⟩:=h
 refine ⟨by have:=h2.1;omega,by have:=h1.1;omega,by omega,fun c hc=>?_⟩
 obtain ⟨k,hk⟩:=List.getElem?_of_mem hc
 obtain ⟨_,_,_,_,p5,p6,_,p8⟩:=(h4 k c hk).1
 have:=p5.2.2;have:=p6.2.2;have:=p8.2.2.1
 omega
def BoxY (b:Box):Prop:=b.rs.length≤20∧b.es.length≤20∧b.cs.length≤3∧∀ c∈b.cs,c.kn.length≤300∧c.he.length≤300∧c.ne.length≤300
theorem BoxY.z {b:Box} (h:BoxY b):BoxZ b:=by
 obtain ⟨h1,h2,h3,h4⟩:=h
 exact ⟨by omega,by omega,by omega,fun c hc=>by have:=h4 c hc;omega⟩
theorem BoxP.y {b:Box} (h:BoxP b):BoxY b:=by
 obtain ⟨h1,h2,h3,h4⟩:=h
 refine ⟨by have:=h2.1;omega,by have:=h1.1;omega,by omega,fun c hc=>?_⟩
 obtain ⟨k,hk⟩:=List.getElem?_of_mem hc
 obtain ⟨_,_,_,_,p5,p6,_,p8⟩:=(h4 k c hk).1
 have:=p5.2.2;have:=p6.2.2;have:=p8.2.2.1
 omega
theorem nil_y:BoxY Box.nil:=⟨by decide,by decide,by decide,by simp [Box.nil]⟩
theorem boxInP_Y (b:Box) (s:Seg):BoxY (vz b s).1:=by
 by_cases h:BoxP b
 ·exact (boxInP_ok h).1.y
 ·rw [(boxInP_not (fun h2=>h h2.1)).2 h];exact nil_y
theorem take_eq_succ {α:Type} {l m:List α} {i:Nat} {x y:α} (hx:l[i]? = some x) (hy:m[i]? = some y) (h:l.take i=m.take i) (e:x=y):l.take (i+1)=m.take (i+1):=by
 rw [vA hx,vA hy,h,e]
theorem eq_of_take {α:Type} {l m:List α} {i:Nat} (hl:l.length=m.length) (hi:l.length≤i) (h:l.take i=m.take i):l=m:=by
 rwa [List.take_of_length_le hi,List.take_of_length_le (by omega)] at h
theorem ne_at {α:Type} {l m:List α} {i:Nat} {x y:α} (hx:l[i]? = some x) (hy:m[i]? = some y) (e:x≠y):l≠m:=by
 rintro rfl;rw [hx] at hy;cases hy;exact e rfl
theorem box_eq {b c:Box} (h1:b.rs=c.rs) (h2:b.es=c.es) (h3:b.cs=c.cs):b=c:=by cases b;cases c;simp_all
end
end
section
variable {S0:St} {K:Value→St→Prop}
end
section
variable {S0:St} {K:Value→St→Prop}
end
section
open Go
end
section
variable {S0:St} {K:Value→St→Prop}
end
section
open Go
section
variable {E:Env} {S:St} {K:Value→St→Prop}
theorem grd4:Tryz.prog.eqGuardType Tryz.prog.depth 4=false:=by kernel_rfl
theorem W_eqvBP {P:Program} {ty:TypeId} {x y:Operand} {t u r neg:Bool} (hx:E.ev x=some (.bool t)) (hy:E.ev y=some (.bool u)) (hg:P.eqGuardType P.depth ty=false) (he:EqF P Op.maxDepth ty (.bool t) (.bool u) r) (k:K (.bool (r != neg)) S):(SOp.eqv neg ty x y).W P E S K:=by
 simp only [SOp.W,hx,hy]
 refine ⟨rfl,?_⟩
 have hge:∀ (op:BinOp) (K':Unit→St→Prop),K' () S→vu P (Go.eqGuard op ty x y (.bool t) (.bool u)) S K' (fun _ _=>False):=by
  intro op K' h
  unfold Go.eqGuard
  cases op<;>first
   | exact h
   | (simp only [zy,program,vu,hg,Bool.not_true,Bool.not_false,Bool.false_eq_true,if_true,if_false,zA];exact h)
 simp only [zy]
 exact hge _ _ (he.go _ _ _ k)
theorem W_eqvB {x y:Operand} {t u neg:Bool} (hx:E.ev x=some (.bool t)) (hy:E.ev y=some (.bool u)) (k:K (.bool ((decide (t=u)) != neg)) S):(SOp.eqv neg 4 x y).W Tryz.prog E S K:=
 W_eqvBP hx hy grd4 (e4 (d:=9999) t u) k
theorem W_neB {x y:Operand} {t u:Bool} (hx:E.ev x=some (.bool t)) (hy:E.ev y=some (.bool u)) (k:K (.bool (decide (t≠u))) S):(SOp.eqv true 4 x y).W Tryz.prog E S K:=
  W_eqvB hx hy (by have e:(decide (t=u) != true)=decide (t≠u):=by cases t<;>cases u<;>rfl
                   rw [e];exact k)
theorem W_neBv {x y:Operand} {t u:Bool} (hx:E.ev x=some (.bool t)) (hy:E.ev y=some (.bool u)) (k:∀ w:Bool,(w=true↔t≠u)→K (.bool w) S):(SOp.eqv true 4 x y).W Tryz.prog E S K:=W_neB hx hy (k _ decide_eq_true_iff)
end
end
section
open Go
structure SlR (S:St) (k:Nat) (a:Option Addr) (rows:List (List Value)):Prop where
 row:∀ i r,rows[i]? = some r→∃ b off,a=some ⟨b,off,none⟩∧S.cells? ⟨b,off+i*k,none⟩ k=some r
theorem SlR.mono {S S':St} {k:Nat} {a:Option Addr} {rows:List (List Value)} (h:SlR S k a rows) (he:Ext [] S S'):SlR S' k a rows:=⟨fun i r hr=>by
 obtain ⟨b,off,h1,h2⟩:=h.row i r hr
 exact ⟨b,off,h1,he.cells h2⟩⟩
theorem Rule.eq7 {x y:Rule} (h0:x.al=y.al) (h1:x.i=y.i) (h2:x.j=y.j) (h3:x.o=y.o) (h4:x.q=y.q) (h5:x.p=y.p) (h6:x.r=y.r):x=y:=by cases x;cases y;simp_all
theorem Conn.eq5 {x y:Conn} (h0:x.i=y.i) (h1:x.o=y.o) (h2:x.kn=y.kn) (h3:x.he=y.he) (h4:x.ne=y.ne):x=y:=by cases x;cases y;simp_all
theorem Seg.eq5 {x y:Seg} (h0:x.s=y.s) (h1:x.d=y.d) (h2:x.sq=y.sq) (h3:x.ak=y.ak) (h4:x.dt=y.dt):x=y:=by cases x;cases y;simp_all
theorem End.eq2 {x y:End} (h0:x.a=y.a) (h1:x.p=y.p):x=y:=by cases x;cases y;simp_all
theorem setl_row {cs r:List Value} {i k:Nat} (hr:r.length=k) (hb:i*k+k≤cs.length):(setl cs (0+i*k) r).take ((i+1)*k)=cs.take (i*k)++r:=by
 have h1:(cs.take (0+i*k)).length=i*k:=by rw [List.length_take];omega
 have h2:(cs.take (0+i*k)++r).length=(i+1)*k:=by rw [List.length_append,h1,hr,Nat.add_mul,Nat.one_mul]
 unfold setl
 rw [List.take_append_of_le_length (by omega),List.take_of_length_le (by omega),Nat.zero_add]
def csz (cs:List Conn):Nat:=(cs.map fun c=>c.kn.length+c.he.length+c.ne.length).sum
theorem csz_take {cs:List Conn} {i:Nat} {x:Conn} (h:cs[i]? = some x):csz (cs.take (i+1))=csz (cs.take i)+(x.kn.length+x.he.length+x.ne.length):=by
 rw [vA h];simp [csz]
theorem csz_mem {cs:List Conn} {c:Conn} (h:c∈cs):c.kn.length+c.he.length+c.ne.length≤csz cs:=by
 induction cs with
 | nil=>simp at h
 | cons x l ih=>
  simp only [csz,List.map_cons,List.sum_cons]
  rcases List.mem_cons.1 h with rfl | h
  ·omega
  ·have:=ih h;simp only [csz] at this;omega
end
section
variable {S0:St} {K:Value→St→Prop}
variable {x:Conn} {n:Int} {l:List End} {c:Nat} {a:Option Addr} {s:Seg}
theorem ct102 {l:List Rule} (n0:0≤n) (n1:n≤1048576) (hl:l.length≤9223372036854775807) (k:∀ (r:Int) S',Ext [] S0 S'→(r<0∨(0≤r∧r+l.length=n))→K (int r) S') :
  zC 102 #[.slice a l.length c,int n] S0 K:=by
 refine zGh (sf:=s102) Tryz.func102 fun H=>zR (zj O (vE (zj O (zj O (zLl O (zSb O O (zj O (zN (vB (zj O (za (vq O O fun t10 h10=>zN ?_))))))))))))
 rcases t10 with _|_
 ·replace h10:=bF h10
  refine zn O (zt (ze (zR (zj O (zj O (zN (zh (zP O ?_))))))))
  exact k _ _ H.qx (by omega)
 ·replace h10:=bT h10
  refine zr O (zR (zj O (zN (zh (zw (zP O ?_))))))
  exact k _ _ H.qx (by omega)
theorem ct187 (n0:0≤n) (n1:n≤1048576) (hl:l.length≤9223372036854775807) (k:∀ (r:Int) S',Ext [] S0 S'→(r<0∨(0≤r∧r+l.length=n))→K (int r) S') :
  zC 187 #[.slice a l.length c,int n] S0 K:=by
 refine zGh (sf:=s187) Tryz.func187 fun H=>zR (zj O (vE (zj O (zj O (zLl O (zSb O O (zj O (zN (vB (zj O (za (vq O O fun t10 h10=>zN ?_))))))))))))
 rcases t10 with _|_
 ·replace h10:=bF h10
  refine zn O (zt (ze (zR (zj O (zj O (zN (zh (zP O ?_))))))))
  exact k _ _ H.qx (by omega)
 ·replace h10:=bT h10
  refine zr O (zR (zj O (zN (zh (zw (zP O ?_))))))
  exact k _ _ H.qx (by omega)
theorem ct103 (n0:0≤n) (n1:n≤1048576) (hl:l.length≤9223372036854775807) (k:∀ (r:Int) S',Ext [] S0 S'→(r<0∨(0≤r∧r+l.length=n))→K (int r) S') :
  zC 103 #[.agg #[.slice a l.length c],int n] S0 K:=by
 refine zGh (sf:=s103) Tryz.func103 fun H=>zR (zBx H O O fun b2 S hb2 hE H=>zj O (vE (vw O (zL1 H O .h O (zj O (zCl O (ct187 (by omega) (by omega) hl fun r8 S hE hr8=>?_)))))))
 replace H:=H.call hE
 refine zj O (zN (vB (zj O (za (vq O O fun t10 h10=>zN ?_)))))
 rcases t10 with _|_
 ·replace h10:=bF h10
  refine zn O (zt (ze (zR (zj O (zj O (zN (zh (zP O ?_))))))))
  exact k _ _ H.qx (by omega)
 ·replace h10:=bT h10
  refine zr O (zR (zj O (zN (zh (zw (zP O ?_))))))
  exact k _ _ H.qx (by omega)
theorem ct188 (n0:0≤n) (n1:n≤1048576) (h4:x.kn.length≤9223372036854775807) (h5:x.he.length≤9223372036854775807) (h6:x.ne.length≤9223372036854775807) (k:∀ (r:Int) S',Ext [] S0 S'→(r<0∨(0≤r∧r+(x.kn.length+x.he.length+x.ne.length:Nat)=n))→K (int r) S') :
  zC 188 #[x.v,int n] S0 K:=by
 refine zGh (sf:=s188) Tryz.func188 fun H=>zR (zBx H O O fun b2 S hb2 hE H=>zj O (vE (zj O (vw O (zL1 H O .h O (za (vF O (zSb O O (zj O (zN (vB (zj O (za (vq O O fun t11 h11=>zN ?_))))))))))))))
 rcases t11 with _|_
 ·replace h11:=bF h11
  refine zn O (zt (ze (zR (zj O (vw O (zL1 H O .h O (za (vF O (zSb O O (zj O (zN (vB (zj O (za (vq O O fun t18 h18=>zN ?_)))))))))))))))
  rcases t18 with _|_
  ·replace h18:=bF h18
   refine zn O (zt (ze (zR (zj O (vw O (zL1 H O .h O (za (vF O (zSb O O (zj O (zN (vB (zj O (za (vq O O fun t25 h25=>zN ?_)))))))))))))))
   rcases t25 with _|_
   ·replace h25:=bF h25
    refine zn O (zt (ze (zR (zj O (zj O (zN (zh (zP O ?_))))))))
    exact k _ _ H.qx (by omega)
   ·replace h25:=bT h25
    refine zr O (zR (zj O (zN (zh (zw (zP O ?_))))))
    exact k _ _ H.qx (by omega)
  ·replace h18:=bT h18
   refine zr O (zR (zj O (zN (zh (zw (zP O ?_))))))
   exact k _ _ H.qx (by omega)
 ·replace h11:=bT h11
  refine zr O (zR (zj O (zN (zh (zw (zP O ?_))))))
  exact k _ _ H.qx (by omega)
theorem ct104 {l:List Conn} (n0:0≤n) (n1:n≤1048576) (hs:SlR S0 7 a (zY l)) (hl:l.length≤9223372036854775807) (hx:∀ x∈l,x.kn.length≤9223372036854775807∧x.he.length≤9223372036854775807∧x.ne.length≤9223372036854775807) (k:∀ (r:Int) S',Ext [] S0 S'→(r<0∨(0≤r∧r+l.length+csz l=n))→K (int r) S') :
  zC 104 #[.slice a l.length c,int n] S0 K:=by
 refine zGh (sf:=s104) Tryz.func104 fun H=>zR (zj O (vE (zj O (zj O (zLl O (zSb O O (zj O (zN (vB (zj O (za (vq O O fun t11 h11=>zN ?_))))))))))))
 rcases t11 with _|_
 ·replace h11:=bF h11
  refine zn O (zt (ze (vB (zj O (zN (zE ?_))))))
  refine vj (fun E S m_=>∃ (i:Nat) (m:Int),E=Env.lst [(0,.slice a l.length c),(1,int m),(5,int i)]∧Loc [] S0 S []∧(i≤l.length)∧(0≤m)∧(m+l.length+csz (l.take i)=n)∧m_=l.length-i) ?_ ?_
  ·skip
   refine ⟨_,_,?le,0,(n-l.length),O,H,(by omega),(by omega),(by simp [csz]),O⟩
   case le=>exact Env.qle ⟨O,O,O,⟨⟩⟩
  ·skip
   rintro _ S _ ⟨i,m,rfl,H,hi,hm,he,rfl⟩
   refine vB (zj O (zj O (zLl O (za (vq O O fun t15 h15=>zN ?_)))))
   rcases t15 with _|_
   ·replace h15:=bF h15
    refine zn O (vh (zK (zK (vp (ze (zR (zj O (zj O (zN (zh (zP O ?_)))))))))))
    exact k _ _ H.qx (by rw [show i=l.length by omega,List.take_length] at he;omega)
   ·replace h15:=bT h15
    obtain ⟨x,hx9⟩:∃ x,l[i]? = some x:=⟨l[i]'(by omega),by simp⟩
    obtain ⟨p,f,rfl,hc⟩:=hs.row i _ (vK hx9)
    obtain ⟨u1,u2,u3⟩:=hx x (List.mem_of_getElem? hx9)
    have hcz:=csz_take hx9
    refine zr O (zt (ze (zD (zE (zR (zj O (zj O (zIa O O (za (zV (vs:=[_,_,_,_,_,_,_]) O (H.qx.cells hc) (zj O (zCl O (ct188 (by omega) (by omega) u1 u2 u3 fun r23 S hE hr23=>?_)))))))))))))
    replace H:=H.call hE
    refine zj O (vE (zj O (za (vq O O fun t25 h25=>zN ?_))))
    rcases t25 with _|_
    ·replace h25:=bF h25
     refine zn O (zt (z_ (ze (zJ (zj O (zAd O O (zj O (zN ?_))))))))
     refine ⟨_,_,?lt,?le,(i+1),r23,O,H,(by omega),(by omega),(by omega),O⟩
     case lt=>omega
     case le=>exact Env.qle ⟨O,O,O,⟨⟩⟩
    ·replace h25:=bT h25
     refine zr O (zR (zj O (zN (zh (ve (zw (zw (ve (zw (zP O ?_))))))))))
     exact k _ _ H.qx (by omega)
 ·replace h11:=bT h11
  refine zr O (zR (zj O (zN (zh (zw (zP O ?_))))))
  exact k _ _ H.qx (by omega)
theorem ct40 {a1 a2 a3:Option Addr} {c1 c2 c3:Nat} {b:Box} (n0:0≤n) (n1:n≤1048576) (h3:SlR S0 7 a3 (zY b.cs)) (l1:b.rs.length≤9223372036854775807) (l2:b.es.length≤9223372036854775807) (l3:b.cs.length≤9223372036854775807) (lx:∀ x∈b.cs,x.kn.length≤9223372036854775807∧x.he.length≤9223372036854775807∧x.ne.length≤9223372036854775807) (k:∀ (r:Int) S',Ext [] S0 S'→(r<0∨(0≤r∧r+b.rs.length+b.es.length+b.cs.length+csz b.cs=n))→K (int r) S') :
  zC 40 #[.agg #[.slice a1 b.rs.length c1,.slice a2 b.es.length c2,.slice a3 b.cs.length c3],int n] S0 K:=by
 refine zGh (sf:=s40) Tryz.func40 fun H=>zR (zBx H O O fun b2 S hb2 hE H=>zj O (vE (vw O (zL1 H O .h O (zj O (zCl O (ct102 (by omega) (by omega) l1 fun r8 S hE hr8=>?_)))))))
 replace H:=H.call hE
 refine zj O (zN (vB (zj O (za (vq O O fun t10 h10=>zN ?_)))))
 rcases t10 with _|_
 ·replace h10:=bF h10
  refine zn O (zt (ze (zR (vw O (zLn (vs:=[_]) H O .h O (zj O (zCl O (ct103 (by omega) (by omega) l2 fun r14 S hE hr14=>?_))))))))
  replace H:=H.call hE
  refine zj O (zN (vB (zj O (za (vq O O fun t16 h16=>zN ?_)))))
  rcases t16 with _|_
  ·replace h16:=bF h16
   refine zn O (zt (ze (zR (vw O (zL1 H O .h O (zj O (zCl O (ct104 (by omega) (by omega) (h3.mono H.qx) l3 lx fun r20 S hE hr20=>?_))))))))
   replace H:=H.call hE
   refine zj O (zN (vB (zj O (za (vq O O fun t22 h22=>zN ?_)))))
   rcases t22 with _|_
   ·replace h22:=bF h22
    refine zn O (zt (ze (zR (zj O (zj O (zN (zh (zP O ?_))))))))
    exact k _ _ H.qx (by omega)
   ·replace h22:=bT h22
    refine zr O (zR (zj O (zN (zh (zw (zP O ?_))))))
    exact k _ _ H.qx (by omega)
  ·replace h16:=bT h16
   refine zr O (zR (zj O (zN (zh (zw (zP O ?_))))))
   exact k _ _ H.qx (by omega)
 ·replace h10:=bT h10
  refine zr O (zR (zj O (zN (zh (zw (zP O ?_))))))
  exact k _ _ H.qx (by omega)
theorem ct41 (n0:0≤n) (n1:n≤1048576) (hl:s.dt.length≤9223372036854775807) (k:∀ (r:Int) S',Ext [] S0 S'→(r<0∨(0≤r∧r+s.dt.length=n))→K (int r) S') :
  zC 41 #[s.v,int n] S0 K:=by
 refine zGh (sf:=s41) Tryz.func41 fun H=>zR (zBx H O O fun b2 S hb2 hE H=>zj O (vE (zj O (vw O (zL1 H O .h O (za (vF O (zSb O O (zj O (zN (vB (zj O (za (vq O O fun t11 h11=>zN ?_))))))))))))))
 rcases t11 with _|_
 ·replace h11:=bF h11
  refine zn O (zt (ze (zR (zj O (zj O (zN (zh (zP O ?_))))))))
  exact k _ _ H.qx (by omega)
 ·replace h11:=bT h11
  refine zr O (zR (zj O (zN (zh (zw (zP O ?_))))))
  exact k _ _ H.qx (by omega)
theorem ct108 {e:End}  (k:∀  S',Ext [] S0 S'→K (e.v) S') :
  zC 108 #[e.v] S0 K:=by
 refine zGh (sf:=s108) Tryz.func108 fun H=>zR (zBx H O O fun b1 S hb1 hE H=>zAl H O fun b2 S hb2 hE H=>vE (zAl H O fun b3 S hb3 hE H=>vE (vw O (zL1 H O .h2 O (vw O (zSs H O O O .h O fun S hE H=>vE (vw O (zL1 H O .h2 O (vw O (zSs H O O O .h O fun S hE H=>vE (zLn (vs:=[_,_]) H O .h O (zSs H O O O .h1 O fun S hE H=>zN (zh (⟨trivial,_,(z0 (ws:=[_,_]) H O .h1 O zT),?_⟩))))))))))))))
 exact k _ H.qx
theorem ct189 {x:Rule}  (k:∀  S',Ext [] S0 S'→K (x.v) S') :
  zC 189 #[x.v] S0 K:=by
 refine zGh (sf:=s189) Tryz.func189 fun H=>zR (zBx H O O fun b1 S hb1 hE H=>zAl H O fun b2 S hb2 hE H=>vE (zAl H O fun b3 S hb3 hE H=>vE (vw O (zL1 H O .h2 O (vw O (zSs H O O O .h O fun S hE H=>vE (vw O (zL1 H O .h2 O (vw O (zSs H O O O .h O fun S hE H=>vE (vw O (zL1 H O .h2 O (vw O (zSs H O O O .h O fun S hE H=>vE (vw O (zL1 H O .h2 O (vw O (zSs H O O O .h O fun S hE H=>vE (vw O (zL1 H O .h2 O ?_))))))))))))))))))))
 refine vw O (zSs H O O O .h O fun S hE H=>vE (vw O (zL1 H O .h2 O (vw O (zSs H O O O .h O fun S hE H=>vE (vw O (zL1 H O .h2 O (vw O (zSs H O O O .h O fun S hE H=>vE (zLn (vs:=[_,_,_,_,_,_,_]) H O .h O (zSs H O O O .h1 O fun S hE H=>zN (zh (⟨trivial,_,(z0 (ws:=[_,_,_,_,_,_,_]) H O .h1 O zT),?_⟩)))))))))))))
 exact k _ H.qx
theorem ct191  (k:∀  S',Ext [] S0 S'→K (x.v) S') :
  zC 191 #[x.v] S0 K:=by
 refine zGh (sf:=s191) Tryz.func191 fun H=>zR (zBx H O O fun b1 S hb1 hE H=>zAl H O fun b2 S hb2 hE H=>vE (zAl H O fun b3 S hb3 hE H=>vE (vw O (zLn (vs:=[_,_]) H O .h2 O (zCl O (ct108 (e:=x.i) fun S hE =>?_))))))
 replace H:=H.call hE
 refine vw O (zSs H O O O .h O fun S hE H=>vE (vw O (zLn (vs:=[_,_]) H O .h2 O (zCl O (ct108 (e:=x.o) fun S hE =>?_)))))
 replace H:=H.call hE
 refine vw O (zSs H O O O .h O fun S hE H=>vE (vw O (zL1 H O .h2 O (vw O (zSs H O O O .h O fun S hE H=>vE (vw O (zL1 H O .h2 O (vw O (zSs H O O O .h O fun S hE H=>vE (vw O (zL1 H O .h2 O (vw O (zSs H O O O .h O fun S hE H=>vE (zLn (vs:=[_,_,_,_,_,_,_]) H O .h O (zSs H O O O .h1 O fun S hE H=>zN (zh (⟨trivial,_,(z0 (ws:=[_,_,_,_,_,_,_]) H O .h1 O zT),?_⟩)))))))))))))))))
 exact k _ H.qx
theorem ct43  (k:∀  S',Ext [] S0 S'→K (s.v) S') :
  zC 43 #[s.v] S0 K:=by
 refine zGh (sf:=s43) Tryz.func43 fun H=>zR (zBx H O O fun b1 S hb1 hE H=>zAl H O fun b2 S hb2 hE H=>vE (zAl H O fun b3 S hb3 hE H=>vE (vw O (zLn (vs:=[_,_]) H O .h2 O (zCl O (ct108 (e:=s.s) fun S hE =>?_))))))
 replace H:=H.call hE
 refine vw O (zSs H O O O .h O fun S hE H=>vE (vw O (zLn (vs:=[_,_]) H O .h2 O (zCl O (ct108 (e:=s.d) fun S hE =>?_)))))
 replace H:=H.call hE
 refine vw O (zSs H O O O .h O fun S hE H=>vE (vw O (zL1 H O .h2 O (vw O (zSs H O O O .h O fun S hE H=>vE (vw O (zL1 H O .h2 O (vw O (zSs H O O O .h O fun S hE H=>vE (vw O (zL1 H O .h2 O (vw O (zSs H O O O .h O fun S hE H=>vE (zLn (vs:=[_,_,_,_,_,_,_]) H O .h O (zSs H O O O .h1 O fun S hE H=>zN (zh (⟨trivial,_,(z0 (ws:=[_,_,_,_,_,_,_]) H O .h1 O zT),?_⟩)))))))))))))))))
 exact k _ H.qx
theorem ct195 {x y:End}  (k:∀ (t:Bool) S',Ext [] S0 S'→(t=true↔x=y)→K (.bool t) S') :
  zC 195 #[x.v,y.v] S0 K:=by
 refine zGh (sf:=s195) Tryz.func195 fun H=>zR (zBx H O O fun b2 S hb2 hE H=>zBx H O O fun b3 S hb3 hE H=>zj O (zN (vB (vw O (zL1 H O .h1 O (vw O (zL1 H O .h O (za (W_neI O O fun t9 h9=>zN ?_)))))))))
 rcases t9 with _|_
 ·replace h9:=bF h9
  refine zn O (zt (ze (vB (vw O (zL1 H O .h1 O (vw O (zL1 H O .h O (za (W_neI O O fun t14 h14=>zN ?_)))))))))
  rcases t14 with _|_
  ·replace h14:=bF h14
   refine zn O (zt (ze (zR (zj O (zN (zh (zP O ?_)))))))
   exact k _ _ H.qx ⟨fun _=>End.eq2 (Classical.not_not.1 h9) (Classical.not_not.1 h14),fun _=>rfl⟩
  ·replace h14:=bT h14
   refine zr O (zR (zj O (zN (zh (zw (zP O ?_))))))
   exact k _ _ H.qx ⟨nofun,fun h=>by subst h;first | exact absurd rfl h9 | exact absurd rfl h14⟩
 ·replace h9:=bT h9
  refine zr O (zR (zj O (zN (zh (zw (zP O ?_))))))
  exact k _ _ H.qx ⟨nofun,fun h=>by subst h;first | exact absurd rfl h9 | exact absurd rfl h14⟩
theorem ct192 {x y:Rule}  (k:∀ (t:Bool) S',Ext [] S0 S'→(t=true↔x=y)→K (.bool t) S') :
  zC 192 #[x.v,y.v] S0 K:=by
 refine zGh (sf:=s192) Tryz.func192 fun H=>zR (zBx H O O fun b2 S hb2 hE H=>zBx H O O fun b3 S hb3 hE H=>zj O (zN (vB (vw O (zL1 H O .h1 O (vw O (zL1 H O .h O (za (W_neBv O O fun t9 h9=>zN ?_)))))))))
 rcases t9 with _|_
 ·replace h9:=bF h9
  refine zn O (zt (ze (vB (vw O (zL1 H O .h1 O (vw O (zL1 H O .h O (za (W_neI O O fun t14 h14=>zN ?_)))))))))
  rcases t14 with _|_
  ·replace h14:=bF h14
   refine zn O (zt (ze (vB (vw O (zL1 H O .h1 O (vw O (zL1 H O .h O (za (W_neI O O fun t19 h19=>zN ?_)))))))))
   rcases t19 with _|_
   ·replace h19:=bF h19
    refine zn O (zt (ze (vB (vw O (zL1 H O .h1 O (vw O (zL1 H O .h O (za (W_neI O O fun t24 h24=>zN ?_)))))))))
    rcases t24 with _|_
    ·replace h24:=bF h24
     refine zn O (zt (ze (vB (vw O (zL1 H O .h1 O (vw O (zL1 H O .h O (za (W_neI O O fun t29 h29=>zN ?_)))))))))
     rcases t29 with _|_
     ·replace h29:=bF h29
      refine zn O (zt (ze (vB (vw O (zL1 H O .h1 O (vw O (zL1 H O .h O (za (W_neI O O fun t34 h34=>zN ?_)))))))))
      rcases t34 with _|_
      ·replace h34:=bF h34
       refine zn O (zt (ze (vB (vw O (zL1 H O .h1 O (vw O (zL1 H O .h O (za (W_neI O O fun t39 h39=>zN ?_)))))))))
       rcases t39 with _|_
       ·replace h39:=bF h39
        refine zn O (zt (ze (zR (zj O (zN (zh (zP O ?_)))))))
        exact k _ _ H.qx ⟨fun _=>Rule.eq7 (Classical.not_not.1 h9) (Classical.not_not.1 h14) (Classical.not_not.1 h19) (Classical.not_not.1 h24) (Classical.not_not.1 h29) (Classical.not_not.1 h34) (Classical.not_not.1 h39),fun _=>rfl⟩
       ·replace h39:=bT h39
        refine zr O (zR (zj O (zN (zh (zw (zP O ?_))))))
        exact k _ _ H.qx ⟨nofun,fun h=>by subst h;first | exact absurd rfl h9 | exact absurd rfl h14 | exact absurd rfl h19 | exact absurd rfl h24 | exact absurd rfl h29 | exact absurd rfl h34 | exact absurd rfl h39⟩
      ·replace h34:=bT h34
       refine zr O (zR (zj O (zN (zh (zw (zP O ?_))))))
       exact k _ _ H.qx ⟨nofun,fun h=>by subst h;first | exact absurd rfl h9 | exact absurd rfl h14 | exact absurd rfl h19 | exact absurd rfl h24 | exact absurd rfl h29 | exact absurd rfl h34 | exact absurd rfl h39⟩
     ·replace h29:=bT h29
      refine zr O (zR (zj O (zN (zh (zw (zP O ?_))))))
      exact k _ _ H.qx ⟨nofun,fun h=>by subst h;first | exact absurd rfl h9 | exact absurd rfl h14 | exact absurd rfl h19 | exact absurd rfl h24 | exact absurd rfl h29 | exact absurd rfl h34 | exact absurd rfl h39⟩
    ·replace h24:=bT h24
     refine zr O (zR (zj O (zN (zh (zw (zP O ?_))))))
     exact k _ _ H.qx ⟨nofun,fun h=>by subst h;first | exact absurd rfl h9 | exact absurd rfl h14 | exact absurd rfl h19 | exact absurd rfl h24 | exact absurd rfl h29 | exact absurd rfl h34 | exact absurd rfl h39⟩
   ·replace h19:=bT h19
    refine zr O (zR (zj O (zN (zh (zw (zP O ?_))))))
    exact k _ _ H.qx ⟨nofun,fun h=>by subst h;first | exact absurd rfl h9 | exact absurd rfl h14 | exact absurd rfl h19 | exact absurd rfl h24 | exact absurd rfl h29 | exact absurd rfl h34 | exact absurd rfl h39⟩
  ·replace h14:=bT h14
   refine zr O (zR (zj O (zN (zh (zw (zP O ?_))))))
   exact k _ _ H.qx ⟨nofun,fun h=>by subst h;first | exact absurd rfl h9 | exact absurd rfl h14 | exact absurd rfl h19 | exact absurd rfl h24 | exact absurd rfl h29 | exact absurd rfl h34 | exact absurd rfl h39⟩
 ·replace h9:=bT h9
  refine zr O (zR (zj O (zN (zh (zw (zP O ?_))))))
  exact k _ _ H.qx ⟨nofun,fun h=>by subst h;first | exact absurd rfl h9 | exact absurd rfl h14 | exact absurd rfl h19 | exact absurd rfl h24 | exact absurd rfl h29 | exact absurd rfl h34 | exact absurd rfl h39⟩
end
end Go.Proofs.YtnccejlibbgpkaaGreatDoor
