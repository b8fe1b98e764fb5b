/-
  The law FnBoxTwice answers true at every input that its row allows, at every start that lays its variables: part 6 of 8.
-/
import GoSem.Step
import Derived.Conc.Token
import Derived.AtR
import Derived.Conc.Own2
import Derived.Conc.CrowdComm
import Derived.Conc.CrowdTrace
import Derived.Conc.Fork
import Derived.Conc.CrowdStepC
import Derived.Below
import Derived.Laws.Append
import Derived.Test.YtnccejlibbgpkaaGreatDoorChecked
import Derived.Test.YtnccejlibbgpkaaGreatDoorProg
import Derived.MapKept
import Derived.Conc.EventLaws
import Derived.Test.YtnccejlibbgpkaaGreatDoorW7e
set_option linter.unusedSimpArgs false
set_option linter.unusedVariables false
set_option linter.unusedSectionVars false
namespace Go.Proofs.YtnccejlibbgpkaaGreatDoor
set_option maxHeartbeats 1000000
section
variable {S0:St} {K:Value→St→Prop}
variable {c1 c2:Nat} {a1 a2:Option Addr}
theorem ct15   (k:∀  S',Ext [] S0 S'→K (.bool true) S') :
  zC 15 #[] S0 K:=by
 refine zGh (sf:=s15) Tryz.func15 fun H=>zR (zt O (v4 (vK O (ct60 (by simp) fun t1 S hE h1=>?_))))
 replace H:=H.call hE
 refine zt O (zN (zi (z9 O ?_)))
 rw [show t1=true from h1.2 linP_a]
 exact k _ H.qx
theorem ct28 {l1 l2:List End} (h1:Sl S0 2 a1 (zV l1)) (h2:Sl S0 2 a2 (zV l2)) (hl1:l1.length≤1099511627776) (hl2:l2.length≤1099511627776) (k:∀ (t:Bool) S',Ext [] S0 S'→(t=true↔l1=l2)→K (.bool t) S') :
  zC 28 #[.slice a1 l1.length c1,.slice a2 l2.length c2] S0 K:=by
 refine zGh (sf:=s28) Tryz.func28 fun H=>zR (zt O (zN (zSS (zt O (zLl O (zt O (zLl O (za (W_neI O O fun t10 h10=>zN ?_)))))))))
 rcases t10 with _|_
 ·replace h10:=bF h10
  refine zr O (zv (ze (zSS (zt O (zN (zK ?_))))))
  refine vA (fun E S m_=>∃ (i:Nat),E=Env.lst [(0,.slice a1 l1.length c1),(1,.slice a2 l2.length c2),(5,int i)]∧Loc [] S0 S []∧(i≤l1.length)∧(l1.length=l2.length)∧(l1.take i=l2.take i)∧m_=l1.length-i) ?_ ?_
  ·skip
   refine ⟨_,_,?le,0,O,H,(by omega),(by omega),O,O⟩
   case le=>exact Env.qle ⟨O,O,O,⟨⟩⟩
  ·skip
   rintro _ S _ ⟨i,rfl,H,hi,hlen,hp,rfl⟩
   refine zSS (zt O (zt O (zLl O (za (vT O O fun t14 h14=>zN ?_)))))
   rcases t14 with _|_
   ·replace h14:=bF h14
    refine zr O (vz (zZ (zZ (vH (ze (zR (zt O (zN (zi (z9 O ?_))))))))))
    exact k _ _ H.qx ⟨fun _=>eq_of_take hlen (by omega) hp,fun _=>rfl⟩
   ·replace h14:=bT h14
    obtain ⟨x,hx⟩:∃ x,l1[i]? = some x:=⟨l1[i]'(by omega),by simp⟩
    obtain ⟨y,hy⟩:∃ y,l2[i]? = some y:=⟨l2[i]'(by omega),by simp⟩
    obtain ⟨p1,f1,rfl,hc1⟩:=h1.row i _ (endRows_at hx)
    obtain ⟨p2,f2,rfl,hc2⟩:=h2.row i _ (endRows_at hy)
    refine zj O (zv (ze (zJ (zK (zJ (zY [] (vC 0 O O O (vC 1 O O O (vF 2 O O (fun _ _ hK=>vq O O (by omega) (by omega) hK) (ve 3 O O (fun S' hS'=>zA fun K hK=>zO (vs:=[_,_]) O (zF (hS' O) (by simp) (H.qx.cells hc1)) hK) (vC 4 O O O (vC 5 O O O (vF 6 O O (fun _ _ hK=>vq O O (by omega) (by omega) hK) (ve 7 O O (fun S' hS'=>zA fun K hK=>zO (vs:=[_,_]) O (zF (hS' O) (by simp) (H.qx.cells hc2)) hK) (zCm 8 O O (fun S' _=>zA fun K hK=>W_neE O O hK) fun t25 h25=>zT (ze ?_))))))))))))))))
    rcases t25 with _|_
    ·replace h25:=bF h25
     refine zr O (zv (z_ (ze (zU (zt O (zAd O O (zt O (zN ?_))))))))
     refine ⟨_,_,?lt,?le,(i+1),O,H,(by omega),(by omega),(take_eq_succ hx hy hp (End.ext' (Classical.not_not.1 h25))),O⟩
     case lt=>omega
     case le=>exact Env.qle ⟨O,O,O,⟨⟩⟩
    ·replace h25:=bT h25
     refine zj O (zR (zt O (zN (zi (vg (zw (zw (vg (zw (z9 O ?_))))))))))
     exact k _ _ H.qx ⟨nofun,fun h=>absurd h (ne_at hx hy (End.ne' h25))⟩
 ·replace h10:=bT h10
  refine zj O (zR (zt O (zN (zi (zw (z9 O ?_))))))
  exact k _ _ H.qx ⟨nofun,fun h=>absurd (congrArg List.length h) (by omega)⟩
theorem ct27 {l1 l2:List Seg} (h1:Sl S0 7 a1 (segRows l1)) (h2:Sl S0 7 a2 (segRows l2)) (hl1:l1.length≤1099511627776) (hl2:l2.length≤1099511627776) (k:∀ (t:Bool) S',Ext [] S0 S'→(t=true↔l1=l2)→K (.bool t) S') :
  zC 27 #[.slice a1 l1.length c1,.slice a2 l2.length c2] S0 K:=by
 refine zGh (sf:=s27) Tryz.func27 fun H=>zR (zt O (zN (zSS (zt O (zLl O (zt O (zLl O (za (W_neI O O fun t10 h10=>zN ?_)))))))))
 rcases t10 with _|_
 ·replace h10:=bF h10
  refine zr O (zv (ze (zSS (zt O (zN (zK ?_))))))
  refine vA (fun E S m_=>∃ (i:Nat),E=Env.lst [(0,.slice a1 l1.length c1),(1,.slice a2 l2.length c2),(5,int i)]∧Loc [] S0 S []∧(i≤l1.length)∧(l1.length=l2.length)∧(l1.take i=l2.take i)∧m_=l1.length-i) ?_ ?_
  ·skip
   refine ⟨_,_,?le,0,O,H,(by omega),(by omega),O,O⟩
   case le=>exact Env.qle ⟨O,O,O,⟨⟩⟩
  ·skip
   rintro _ S _ ⟨i,rfl,H,hi,hlen,hp,rfl⟩
   refine zSS (zt O (zt O (zLl O (za (vT O O fun t14 h14=>zN ?_)))))
   rcases t14 with _|_
   ·replace h14:=bF h14
    refine zr O (vz (zZ (zZ (vH (ze (zR (zt O (zN (zi (z9 O ?_))))))))))
    exact k _ _ H.qx ⟨fun _=>eq_of_take hlen (by omega) hp,fun _=>rfl⟩
   ·replace h14:=bT h14
    obtain ⟨x,hx⟩:∃ x,l1[i]? = some x:=⟨l1[i]'(by omega),by simp⟩
    obtain ⟨y,hy⟩:∃ y,l2[i]? = some y:=⟨l2[i]'(by omega),by simp⟩
    obtain ⟨p1,f1,rfl,hc1⟩:=h1.row i _ (segRows_at hx)
    obtain ⟨p2,f2,rfl,hc2⟩:=h2.row i _ (segRows_at hy)
    refine zj O (zv (ze (zJ (zK (zJ (zY [] (vC 0 O O O (vC 1 O O O (vF 2 O O (fun _ _ hK=>vq O O (by omega) (by omega) hK) (ve 3 O O (fun S' hS'=>zA fun K hK=>zO (vs:=[_,_,_,_,_,_,_]) O (zF (hS' O) (by simp) (H.qx.cells hc1)) hK) (vC 4 O O O (vC 5 O O O (vF 6 O O (fun _ _ hK=>vq O O (by omega) (by omega) hK) (ve 7 O O (fun S' hS'=>zA fun K hK=>zO (vs:=[_,_,_,_,_,_,_]) O (zF (hS' O) (by simp) (H.qx.cells hc2)) hK) (zCm 8 O O (fun S' _=>zA fun K hK=>W_neG O O hK) fun t25 h25=>zT (ze ?_))))))))))))))))
    rcases t25 with _|_
    ·replace h25:=bF h25
     refine zr O (zv (z_ (ze (zU (zt O (zAd O O (zt O (zN ?_))))))))
     refine ⟨_,_,?lt,?le,(i+1),O,H,(by omega),(by omega),(take_eq_succ hx hy hp (Classical.not_not.1 h25)),O⟩
     case lt=>omega
     case le=>exact Env.qle ⟨O,O,O,⟨⟩⟩
    ·replace h25:=bT h25
     refine zj O (zR (zt O (zN (zi (vg (zw (zw (vg (zw (z9 O ?_))))))))))
     exact k _ _ H.qx ⟨nofun,fun h=>absurd h (ne_at hx hy h25)⟩
 ·replace h10:=bT h10
  refine zj O (zR (zt O (zN (zi (zw (z9 O ?_))))))
  exact k _ _ H.qx ⟨nofun,fun h=>absurd (congrArg List.length h) (by omega)⟩
theorem ct69 {l1 l2:List Rule} (h1:Sl S0 7 a1 (vf l1)) (h2:Sl S0 7 a2 (vf l2)) (hl1:l1.length≤1099511627776) (hl2:l2.length≤1099511627776) (k:∀ (t:Bool) S',Ext [] S0 S'→(t=true↔l1=l2)→K (.bool t) S') :
  zC 69 #[.slice a1 l1.length c1,.slice a2 l2.length c2] S0 K:=by
 refine zGh (sf:=s69) Tryz.func69 fun H=>zR (zt O (zN (zSS (zt O (zLl O (zt O (zLl O (za (W_neI O O fun t10 h10=>zN ?_)))))))))
 rcases t10 with _|_
 ·replace h10:=bF h10
  refine zr O (zv (ze (zSS (zt O (zN (zK ?_))))))
  refine vA (fun E S m_=>∃ (i:Nat),E=Env.lst [(0,.slice a1 l1.length c1),(1,.slice a2 l2.length c2),(5,int i)]∧Loc [] S0 S []∧(i≤l1.length)∧(l1.length=l2.length)∧(l1.take i=l2.take i)∧m_=l1.length-i) ?_ ?_
  ·skip
   refine ⟨_,_,?le,0,O,H,(by omega),(by omega),O,O⟩
   case le=>exact Env.qle ⟨O,O,O,⟨⟩⟩
  ·skip
   rintro _ S _ ⟨i,rfl,H,hi,hlen,hp,rfl⟩
   refine zSS (zt O (zt O (zLl O (za (vT O O fun t14 h14=>zN ?_)))))
   rcases t14 with _|_
   ·replace h14:=bF h14
    refine zr O (vz (zZ (zZ (vH (ze (zR (zt O (zN (zi (z9 O ?_))))))))))
    exact k _ _ H.qx ⟨fun _=>eq_of_take hlen (by omega) hp,fun _=>rfl⟩
   ·replace h14:=bT h14
    obtain ⟨x,hx⟩:∃ x,l1[i]? = some x:=⟨l1[i]'(by omega),by simp⟩
    obtain ⟨y,hy⟩:∃ y,l2[i]? = some y:=⟨l2[i]'(by omega),by simp⟩
    obtain ⟨p1,f1,rfl,hc1⟩:=h1.row i _ (ruleRows_at hx)
    obtain ⟨p2,f2,rfl,hc2⟩:=h2.row i _ (ruleRows_at hy)
    refine zj O (zv (ze (zJ (zK (zJ (zY [] (vC 0 O O O (vC 1 O O O (vF 2 O O (fun _ _ hK=>vq O O (by omega) (by omega) hK) (ve 3 O O (fun S' hS'=>zA fun K hK=>zO (vs:=[_,_,_,_,_,_,_]) O (zF (hS' O) (by simp) (H.qx.cells hc1)) hK) (vC 4 O O O (vC 5 O O O (vF 6 O O (fun _ _ hK=>vq O O (by omega) (by omega) hK) (ve 7 O O (fun S' hS'=>zA fun K hK=>zO (vs:=[_,_,_,_,_,_,_]) O (zF (hS' O) (by simp) (H.qx.cells hc2)) hK) (zCm 8 O O (fun S' _=>zA fun K hK=>W_neR O O hK) fun t25 h25=>zT (ze ?_))))))))))))))))
    rcases t25 with _|_
    ·replace h25:=bF h25
     refine zr O (zv (z_ (ze (zU (zt O (zAd O O (zt O (zN ?_))))))))
     refine ⟨_,_,?lt,?le,(i+1),O,H,(by omega),(by omega),(take_eq_succ hx hy hp (Classical.not_not.1 h25)),O⟩
     case lt=>omega
     case le=>exact Env.qle ⟨O,O,O,⟨⟩⟩
    ·replace h25:=bT h25
     refine zj O (zR (zt O (zN (zi (vg (zw (zw (vg (zw (z9 O ?_))))))))))
     exact k _ _ H.qx ⟨nofun,fun h=>absurd h (ne_at hx hy h25)⟩
 ·replace h10:=bT h10
  refine zj O (zR (zt O (zN (zi (zw (z9 O ?_))))))
  exact k _ _ H.qx ⟨nofun,fun h=>absurd (congrArg List.length h) (by omega)⟩
theorem ct19 {a3:Option Addr} {c3:Nat} {b:Box} {x1 x2 x3:Option Addr} {d1 d2 d3:Nat} {c:Box} (h1:Sl S0 7 a1 (vf b.rs)) (h2:Sl S0 2 a2 (zV b.es)) (h3:Sl S0 7 a3 (z5 b.cs)) (hz:BoxZ b) (k1:Sl S0 7 x1 (vf c.rs)) (k2:Sl S0 2 x2 (zV c.es)) (k3:Sl S0 7 x3 (z5 c.cs)) (hy:BoxZ c) (k:∀ (t:Bool) S',Ext [] S0 S'→(t=true↔b=c)→K (.bool t) S') :
  zC 19 #[.agg #[.slice a1 b.rs.length c1,.slice a2 b.es.length c2,.slice a3 b.cs.length c3],.agg #[.slice x1 c.rs.length d1,.slice x2 c.es.length d2,.slice x3 c.cs.length d3]] S0 K:=by
 refine zGh (sf:=s19) Tryz.func19 fun H=>?_
 obtain ⟨z1,z2,z3,_⟩:=id hz
 obtain ⟨w1,w2,w3,_⟩:=id hy
 refine zR (zBx H O O fun b2 S hb2 hE H=>zBx H O O fun b3 S hb3 hE H=>zt O (zN (zSS (vZ O (vZ O (zL1 H O .h1 O (vZ O (vZ O (zL1 H O .h O (vK O (ct28 (h2.mono H.qx) (k2.mono H.qx) (by omega) (by omega) fun t12 S hE h12=>?_)))))))))))
 replace H:=H.call hE
 refine zNt O (zt O ?_)
 rcases t12 with _|_
 ·replace h12:=bF h12
  refine zL O (zL O (zL O (zL O (zL O (zL O (zL O (vw O O O O (zt O (zL O (zL O (zL O (zL O (zL O (zL O (vw O O O O (zN (zj O (zR (zt O (zN (zi (zw (z9 O ?_)))))))))))))))))))))))
  exact k _ _ H.qx ⟨nofun,fun h=>absurd (congrArg Box.es h) h12⟩
 ·replace h12:=bT h12
  refine zh O (zD O (zh O (vr H O .h1 O (zh O (W_lenL O (zh O (zD O (zh O (vr H O .h O (zh O (W_lenL O (zh O (W_neI O O fun t21 h21=>vw O O O O (zt O ?_))))))))))))))
  rcases t21 with _|_
  ·replace h21:=bF h21
   refine zh O (zD O (zh O (vr H O .h1 O (zh O (zD O (zh O (vr H O .h O (zh O (zP O (ct69 (h1.mono H.qx) (k1.mono H.qx) (by omega) (by omega) fun t28 S hE h28=>?_))))))))))
   replace H:=H.call hE
   refine zh O (W_not O (vw O O O O (zN ?_)))
   rcases t28 with _|_
   ·replace h28:=bF h28
    refine zj O (zR (zt O (zN (zi (zw (z9 O ?_))))))
    exact k _ _ H.qx ⟨nofun,fun h=>absurd (congrArg Box.rs h) h28⟩
   ·replace h28:=bT h28
    refine zr O (zv (ze (zSS (zt O (zN (zK ?_))))))
    refine vA (fun E S m_=>∃ (i:Nat),E=Env.lst [(2,vN b2 0),(3,vN b3 0),(5,int i)]∧Loc [] S0 S [(b3,Cs [.slice x1 c.rs.length d1,.slice x2 c.es.length d2,.slice x3 c.cs.length d3] 29),(b2,Cs [.slice a1 b.rs.length c1,.slice a2 b.es.length c2,.slice a3 b.cs.length c3] 29)]∧(i≤b.cs.length)∧(b.es=c.es)∧(b.rs=c.rs)∧(b.cs.length=c.cs.length)∧(b.cs.take i=c.cs.take i)∧m_=b.cs.length-i) ?_ ?_
    ·skip
     refine ⟨_,_,?le,0,O,H,(by omega),h12,h28,(by omega),O,O⟩
     case le=>exact Env.qle ⟨O,O,O,⟨⟩⟩
    ·skip
     rintro _ S _ ⟨i,rfl,H,hi,hes,hrs,hlen,hp,rfl⟩
     refine zSS (zt O (vZ O (zL1 H O .h1 O (zLl O (za (vT O O fun t35 h35=>zN ?_))))))
     rcases t35 with _|_
     ·replace h35:=bF h35
      refine zr O (vz (zZ (zZ (vH (ze (zR (zt O (zN (zi (z9 O ?_))))))))))
      exact k _ _ H.qx ⟨fun _=>box_eq hrs hes (eq_of_take hlen (by omega) hp),fun _=>rfl⟩
     ·replace h35:=bT h35
      obtain ⟨x,hx⟩:∃ x,b.cs[i]? = some x:=⟨b.cs[i]'(by omega),by simp⟩
      obtain ⟨y,hy2⟩:∃ y,c.cs[i]? = some y:=⟨c.cs[i]'(by omega),by simp⟩
      obtain ⟨p1,f1,rfl,hc1⟩:=h3.row i _ (vp hx)
      obtain ⟨p2,f2,rfl,hc2⟩:=k3.row i _ (vp hy2)
      refine zj O (zv (ze (zJ (zK (zJ (zY [] (zLf 0 O O O (ve 1 O O (fun S' hS'=>zA fun K hK=>zE O (zB (hS' O) (by simp) (H.cell .h1 O)) hK) (vC 2 O O O (vF 3 O O (fun _ _ hK=>vq O O (by omega) (by omega) hK) (ve 4 O O (fun S' hS'=>zA fun K hK=>zO (vs:=[_,_,_,_,_,_,_]) O (zF (hS' O) (by simp) (H.qx.cells hc1)) hK) (zLf 5 O O O (ve 6 O O (fun S' hS'=>zA fun K hK=>zE O (zB (hS' O) (by simp) (H.cell .h O)) hK) (vC 7 O O O (vF 8 O O (fun _ _ hK=>vq O O (by omega) (by omega) hK) (ve 9 O O (fun S' hS'=>zA fun K hK=>zO (vs:=[_,_,_,_,_,_,_]) O (zF (hS' O) (by simp) (H.qx.cells hc2)) hK) (zCm 10 O O (fun S' _=>zA fun K hK=>W_neC O O hK) fun t48 h48=>zT (ze ?_))))))))))))))))))
      rcases t48 with _|_
      ·replace h48:=bF h48
       refine zr O (zv (z_ (ze (zU (zt O (zAd O O (zt O (zN ?_))))))))
       refine ⟨_,_,?lt,?le,(i+1),O,H,(by omega),hes,hrs,hlen,(take_eq_succ hx hy2 hp (Classical.not_not.1 h48)),O⟩
       case lt=>omega
       case le=>exact Env.qle ⟨O,O,O,⟨⟩⟩
      ·replace h48:=bT h48
       refine zj O (zR (zt O (zN (zi (vg (zw (zw (vg (zw (z9 O ?_))))))))))
       exact k _ _ H.qx ⟨nofun,fun h=>absurd (congrArg Box.cs h) (ne_at hx hy2 h48)⟩
  ·replace h21:=bT h21
   refine zL O (zL O (zL O (zL O (zL O (zL O (vw O O O O (zN (zj O (zR (zt O (zN (zi (zw (z9 O ?_))))))))))))))
   exact k _ _ H.qx ⟨nofun,fun h=>absurd (congrArg (fun x=>x.cs.length) h) (by show ¬ b.cs.length=c.cs.length;omega)⟩
end
section
open Go
end
section
open Go
section
variable {E:Env} {S:St} {K:Value→St→Prop}
end
end
section
variable {S0:St} {K:Value→St→Prop}
set_option maxRecDepth 100000
theorem walk7 {a a1:Option Addr} {n0 cap n1 cap1:Nat} {S0:St} (hG:GlobI S0) (hy0:By S0 a n0) (hc:n0≤cap) (hy1:By S0 a1 n1) (hc1:n1≤cap1) :
  Go1 Tryz.prog true (FinR Tryz.prog fun v S=>v=.bool true∧S.g=.idle) (Go.Conc.G (Frame.enter Tryz.prog 7 [.slice a n0 cap,.slice a1 n1 cap1].toArray .normal) []) S0:=by
 refine go1_slim (sf:=s7) (args:=[.slice a n0 cap,.slice a1 n1 cap1]) (fun _ _ h=>h.2) (by kernel_rfl) Tryz.func7 (by kernel_rfl) (of_decide_eq_true O) ?_
 have H:=Loc.start [] S0
 refine zR (zt O (zN (zSS (zt O (zLl O (za (W_gtr O O fun t21 h21=>zt O ?_)))))))
 rcases t21 with _|_
 ·replace h21:=bF h21
  refine zh O (vP O (zh O (W_lenL O (zh O (W_gtr O O fun t25 h25=>vw O O O O (zN ?_))))))
  rcases t25 with _|_
  ·replace h25:=bF h25
   refine zr O (zv (ze (zR (zt O (vK O (ct12 (hy0.mono H.qx) hc fun x129 x229 x329 d129 d229 d329 b29 s29 S hE k129 k229 k329 lc229 lc329 hz29 hl29 o129 o229 o329=>?_))))))
   replace H:=H.call hE
   refine zt O (zEx O O (zEx O O (zAl H O fun b5 S hb5 hE H=>?_)))
   have k129_b5:=k129.ne hb5
   replace k129:=k129.mono hE
   have k229_b5:=k229.ne hb5
   replace k229:=k229.mono hE
   have k329_b5:=k329.ne hb5
   replace k329:=k329.mono hE
   refine zAl H O fun b6 S hb6 hE H=>?_
   have k129_b6:=k129.ne hb6
   replace k129:=k129.mono hE
   have k229_b6:=k229.ne hb6
   replace k229:=k229.mono hE
   have k329_b6:=k329.ne hb6
   replace k329:=k329.mono hE
   refine zSs H O O O .h1 O fun S hE H=>?_
   replace k129:=k129.qy hE k129_b5
   replace k229:=k229.qy hE k229_b5
   replace k329:=k329.qy hE k329_b5
   refine zSs H O O O .h O fun S hE H=>?_
   replace k129:=k129.qy hE k129_b6
   replace k229:=k229.qy hE k229_b6
   replace k329:=k329.qy hE k329_b6
   refine v4 (zt O (vK O (ct23 (hy1.mono H.qx) hc1 fun x134 x234 x334 d134 d234 d334 b34 s34 S hE k134 k234 k334 lc234 lc334 hz34 hl34 o134 o234 o334=>?_)))
   replace H:=H.call hE
   replace k129:=k129.mono hE
   replace k229:=k229.mono hE
   replace k329:=k329.mono hE
   refine zt O (zEx O O (zEx O O (zAl H O fun b7 S hb7 hE H=>?_)))
   have k129_b7:=k129.ne hb7
   replace k129:=k129.mono hE
   have k229_b7:=k229.ne hb7
   replace k229:=k229.mono hE
   have k329_b7:=k329.ne hb7
   replace k329:=k329.mono hE
   have k134_b7:=k134.ne hb7
   replace k134:=k134.mono hE
   have k234_b7:=k234.ne hb7
   replace k234:=k234.mono hE
   have k334_b7:=k334.ne hb7
   replace k334:=k334.mono hE
   refine zAl H O fun b8 S hb8 hE H=>?_
   have k129_b8:=k129.ne hb8
   replace k129:=k129.mono hE
   have k229_b8:=k229.ne hb8
   replace k229:=k229.mono hE
   have k329_b8:=k329.ne hb8
   replace k329:=k329.mono hE
   have k134_b8:=k134.ne hb8
   replace k134:=k134.mono hE
   have k234_b8:=k234.ne hb8
   replace k234:=k234.mono hE
   have k334_b8:=k334.ne hb8
   replace k334:=k334.mono hE
   refine zSs H O O O .h1 O fun S hE H=>?_
   replace k129:=k129.qy hE k129_b7
   replace k229:=k229.qy hE k229_b7
   replace k329:=k329.qy hE k329_b7
   replace k134:=k134.qy hE k134_b7
   replace k234:=k234.qy hE k234_b7
   replace k334:=k334.qy hE k334_b7
   refine zSs H O O O .h O fun S hE H=>?_
   replace k129:=k129.qy hE k129_b8
   replace k229:=k229.qy hE k229_b8
   replace k329:=k329.qy hE k329_b8
   replace k134:=k134.qy hE k134_b8
   replace k234:=k234.qy hE k234_b8
   replace k334:=k334.qy hE k334_b8
   refine zN (zSS (zLn (vs:=[_,_,_]) H O .h3 O (vK O (ct14 k129 k229 k329 lc229 lc329 hz29 fun t38 S hE h38=>?_))))
   replace H:=H.call hE
   replace k129:=k129.mono hE
   replace k229:=k229.mono hE
   replace k329:=k329.mono hE
   replace k134:=k134.mono hE
   replace k234:=k234.mono hE
   replace k334:=k334.mono hE
   refine zNt O (zt O ?_)
   rcases t38 with _|_
   ·replace h38:=bF h38
    refine zL O (zL O (zL O (vw O O O O (zN (zj O (zR (zLn (vs:=[_,_,_]) H O .h3 O (zLn (vs:=[_,_,_,_,_,_,_]) H O .h2 O (vK O (ct13 (hG.mono H.qx) k129 k229 k329 lc229 lc329 hz29 (by omega) fun x148 x248 x348 x448 d248 d348 r48 S hE hr48 hR48=>?_))))))))))
    replace hR48:=hR48.back H.qx
    have hZ48:BoxZ r48.1:=by rw [hr48];exact (boxOutP_Y _ _).z
    replace H:=H.call hE
    replace k129:=k129.mono hE
    replace k229:=k229.mono hE
    replace k329:=k329.mono hE
    refine zt O (zEx O O (zEx O O (zAl H O fun b9 S hb9 hE H=>?_)))
    have k129_b9:=k129.ne hb9
    replace k129:=k129.mono hE
    have k229_b9:=k229.ne hb9
    replace k229:=k229.mono hE
    have k329_b9:=k329.ne hb9
    replace k329:=k329.mono hE
    refine zSs H O O O .h O fun S hE H=>?_
    replace k129:=k129.qy hE k129_b9
    replace k229:=k229.qy hE k229_b9
    replace k329:=k329.qy hE k329_b9
    refine zt O (v4 (zLn (vs:=[_,_,_]) H O .h4 O (vK O (ct14 k129 k229 k329 lc229 lc329 hz29 fun t52 S hE h52=>?_))))
    replace H:=H.call hE
    refine zt O ?_
    rcases t52 with _|_
    ·replace h52:=bF h52
     refine zh O (vP O (zh O (W_lenL O (zh O (vW O O fun t56 h56=>vw O O O O (zt O ?_))))))
     rcases t56 with _|_
     ·replace h56:=bF h56
      exact absurd (by rw [hr48,boxOutP_no h52];rfl) h56
     ·replace h56:=bT h56
      refine zh O (zP O (ct15  fun S hE =>?_))
      replace H:=H.call hE
      refine vw O O O O (zt O (zN (zi (zw (z9 O ?_)))))
      first | exact ⟨rfl,H.g.eq.trans hG.i⟩ | exact ⟨congrArg Value.bool (h101.2 (by rw [hE92])),H.g.eq.trans hG.i⟩
    ·replace h52:=bT h52
     refine zL O (zL O (zL O (vw O O O O (zt O (zh O (zP O (ct15  fun S hE =>?_)))))))
     replace H:=H.call hE
     refine vw O O O O (zt O (zN (zi (zw (z9 O ?_)))))
     first | exact ⟨rfl,H.g.eq.trans hG.i⟩ | exact ⟨congrArg Value.bool (h101.2 (by rw [hE92])),H.g.eq.trans hG.i⟩
   ·replace h38:=bT h38
    refine zh O (W_loadN (vs:=[_,_,_]) H O .h1 O (zh O (zP O (ct14 k134 k234 k334 lc234 lc334 hz34 fun t42 S hE h42=>?_))))
    replace H:=H.call hE
    replace k129:=k129.mono hE
    replace k229:=k229.mono hE
    replace k329:=k329.mono hE
    replace k134:=k134.mono hE
    replace k234:=k234.mono hE
    replace k334:=k334.mono hE
    refine zh O (W_not O (vw O O O O (zN ?_)))
    rcases t42 with _|_
    ·replace h42:=bF h42
     refine zj O (zR (zLn (vs:=[_,_,_]) H O .h3 O (zLn (vs:=[_,_,_,_,_,_,_]) H O .h2 O (vK O (ct13 (hG.mono H.qx) k129 k229 k329 lc229 lc329 hz29 (by omega) fun x148 x248 x348 x448 d248 d348 r48 S hE hr48 hR48=>?_)))))
     replace hR48:=hR48.back H.qx
     have hZ48:BoxZ r48.1:=by rw [hr48];exact (boxOutP_Y _ _).z
     replace H:=H.call hE
     replace k129:=k129.mono hE
     replace k229:=k229.mono hE
     replace k329:=k329.mono hE
     refine zt O (zEx O O (zEx O O (zAl H O fun b9 S hb9 hE H=>?_)))
     have k129_b9:=k129.ne hb9
     replace k129:=k129.mono hE
     have k229_b9:=k229.ne hb9
     replace k229:=k229.mono hE
     have k329_b9:=k329.ne hb9
     replace k329:=k329.mono hE
     refine zSs H O O O .h O fun S hE H=>?_
     replace k129:=k129.qy hE k129_b9
     replace k229:=k229.qy hE k229_b9
     replace k329:=k329.qy hE k329_b9
     refine zt O (v4 (zLn (vs:=[_,_,_]) H O .h4 O (vK O (ct14 k129 k229 k329 lc229 lc329 hz29 fun t52 S hE h52=>?_))))
     replace H:=H.call hE
     refine zt O ?_
     rcases t52 with _|_
     ·replace h52:=bF h52
      refine zh O (vP O (zh O (W_lenL O (zh O (vW O O fun t56 h56=>vw O O O O (zt O ?_))))))
      rcases t56 with _|_
      ·replace h56:=bF h56
       exact absurd (by rw [hr48,boxOutP_no h52];rfl) h56
      ·replace h56:=bT h56
       refine zh O (zP O (ct15  fun S hE =>?_))
       replace H:=H.call hE
       refine vw O O O O (zt O (zN (zi (zw (z9 O ?_)))))
       first | exact ⟨rfl,H.g.eq.trans hG.i⟩ | exact ⟨congrArg Value.bool (h101.2 (by rw [hE92])),H.g.eq.trans hG.i⟩
     ·replace h52:=bT h52
      refine zL O (zL O (zL O (vw O O O O (zt O (zh O (zP O (ct15  fun S hE =>?_)))))))
      replace H:=H.call hE
      refine vw O O O O (zt O (zN (zi (zw (z9 O ?_)))))
      first | exact ⟨rfl,H.g.eq.trans hG.i⟩ | exact ⟨congrArg Value.bool (h101.2 (by rw [hE92])),H.g.eq.trans hG.i⟩
    ·replace h42:=bT h42
     refine zr O (zv (ze (zR (zLn (vs:=[_,_,_]) H O .h3 O (zLn (vs:=[_,_,_,_,_,_,_]) H O .h2 O (vK O (ct13 (hG.mono H.qx) k129 k229 k329 lc229 lc329 hz29 (by omega) fun x164 x264 x364 x464 d264 d364 r64 S hE hr64 hR64=>?_)))))))
     replace hR64:=hR64.back H.qx
     have hZ64:BoxZ r64.1:=by rw [hr64];exact (boxOutP_Y _ _).z
     replace H:=H.call hE
     replace k134:=k134.mono hE
     replace k234:=k234.mono hE
     replace k334:=k334.mono hE
     refine zt O (zEx O O (zEx O O (zAl H O fun b11 S hb11 hE H=>?_)))
     have k134_b11:=k134.ne hb11
     replace k134:=k134.mono hE
     have k234_b11:=k234.ne hb11
     replace k234:=k234.mono hE
     have k334_b11:=k334.ne hb11
     replace k334:=k334.mono hE
     have hR64_b11:=hR64.ne hb11
     replace hR64:=hR64.mono hE
     refine zSs H O O O .h O fun S hE H=>?_
     replace k134:=k134.qy hE k134_b11
     replace k234:=k234.qy hE k234_b11
     replace k334:=k334.qy hE k334_b11
     replace hR64:=hR64.qy hE hR64_b11
     refine zt O (v4 (zLn (vs:=[_,_,_]) H O .h O (zLn (vs:=[_,_,_,_,_,_,_]) H O .h3 O (vK O (ct13 (hG.mono H.qx) hR64.h1 hR64.h2 hR64.h3 hR64.l2 hR64.l3 hZ64 (by omega) fun x170 x270 x370 x470 d270 d370 r70 S hE hr70 hR70=>?_)))))
     replace hR70:=hR70.back H.qx
     have hZ70:BoxZ r70.1:=by rw [hr70];exact (boxOutP_Y _ _).z
     replace H:=H.call hE
     replace k134:=k134.mono hE
     replace k234:=k234.mono hE
     replace k334:=k334.mono hE
     replace hR64:=hR64.mono hE
     have hI70:=boxOutP_ok (s:=s29) h38
     have hE70:r70=r64:=by rw [hr70,hr64];exact hI70.2.2.2.2
     have hL64:r64.2.length≤1000:=by rw [hr64];exact hI70.2.2.2.1
     refine zt O (zEx O O (zEx O O (zAl H O fun b13 S hb13 hE H=>?_)))
     have k134_b13:=k134.ne hb13
     replace k134:=k134.mono hE
     have k234_b13:=k234.ne hb13
     replace k234:=k234.mono hE
     have k334_b13:=k334.ne hb13
     replace k334:=k334.mono hE
     have hR64_b13:=hR64.ne hb13
     replace hR64:=hR64.mono hE
     have hR70_b13:=hR70.ne hb13
     replace hR70:=hR70.mono hE
     refine zSs H O O O .h O fun S hE H=>?_
     replace k134:=k134.qy hE k134_b13
     replace k234:=k234.qy hE k234_b13
     replace k334:=k334.qy hE k334_b13
     replace hR64:=hR64.qy hE hR64_b13
     replace hR70:=hR70.qy hE hR70_b13
     refine zt O (zN (zSS (zLn (vs:=[_,_,_]) H O .h O (zLn (vs:=[_,_,_]) H O .h1 O (vK O (ct19 hR70.h1 hR70.h2 hR70.h3 hZ70 hR64.h1 hR64.h2 hR64.h3 hZ64 fun t75 S hE h75=>?_))))))
     replace H:=H.call hE
     replace k134:=k134.mono hE
     replace k234:=k234.mono hE
     replace k334:=k334.mono hE
     replace hR64:=hR64.mono hE
     replace hR70:=hR70.mono hE
     refine zNt O (zt O ?_)
     rcases t75 with _|_
     ·replace h75:=bF h75
      exact absurd (by rw [hE70]) h75
     ·replace h75:=bT h75
      refine zh O (vP O (zh O (vP O (zh O (zP O (ct27 hR70.h4 hR64.h4 (by rw [hE70];omega) (by omega) fun t80 S hE h80=>?_))))))
      replace H:=H.call hE
      replace k134:=k134.mono hE
      replace k234:=k234.mono hE
      replace k334:=k334.mono hE
      refine zh O (W_not O (vw O O O O (zN ?_)))
      rcases t80 with _|_
      ·replace h80:=bF h80
       exact absurd (by rw [hE70]) h80
      ·replace h80:=bT h80
       refine zr O (zv (ze (zR (zLn (vs:=[_,_,_]) H O .h3 O (zLn (vs:=[_,_,_,_,_,_,_]) H O .h2 O (vK O (ct24 (hG.mono H.qx) k134 k234 k334 lc234 lc334 hz34 (by omega) fun x186 x286 x386 x486 d286 d386 r86 S hE hr86 hR86=>?_)))))))
       replace hR86:=hR86.back H.qx
       have hZ86:BoxZ r86.1:=by rw [hr86];exact (boxInP_Y _ _).z
       replace H:=H.call hE
       refine zt O (zEx O O (zEx O O (zAl H O fun b15 S hb15 hE H=>?_)))
       have hR86_b15:=hR86.ne hb15
       replace hR86:=hR86.mono hE
       refine zSs H O O O .h O fun S hE H=>?_
       replace hR86:=hR86.qy hE hR86_b15
       refine zt O (v4 (zLn (vs:=[_,_,_]) H O .h O (zLn (vs:=[_,_,_,_,_,_,_]) H O .h3 O (vK O (ct24 (hG.mono H.qx) hR86.h1 hR86.h2 hR86.h3 hR86.l2 hR86.l3 hZ86 (by omega) fun x192 x292 x392 x492 d292 d392 r92 S hE hr92 hR92=>?_)))))
       replace hR92:=hR92.back H.qx
       have hZ92:BoxZ r92.1:=by rw [hr92];exact (boxInP_Y _ _).z
       replace H:=H.call hE
       replace hR86:=hR86.mono hE
       have hI92:=boxInP_ok (s:=s34) h42
       have hE92:r92=r86:=by rw [hr92,hr86];exact hI92.2.2.2.2
       have hL86:r86.2.length≤1000:=by rw [hr86];exact hI92.2.2.2.1
       refine zt O (zEx O O (zEx O O (zAl H O fun b17 S hb17 hE H=>?_)))
       have hR86_b17:=hR86.ne hb17
       replace hR86:=hR86.mono hE
       have hR92_b17:=hR92.ne hb17
       replace hR92:=hR92.mono hE
       refine zSs H O O O .h O fun S hE H=>?_
       replace hR86:=hR86.qy hE hR86_b17
       replace hR92:=hR92.qy hE hR92_b17
       refine zt O (v4 (zLn (vs:=[_,_,_]) H O .h O (zLn (vs:=[_,_,_]) H O .h1 O (vK O (ct19 hR92.h1 hR92.h2 hR92.h3 hZ92 hR86.h1 hR86.h2 hR86.h3 hZ86 fun t97 S hE h97=>?_)))))
       replace H:=H.call hE
       replace hR86:=hR86.mono hE
       replace hR92:=hR92.mono hE
       refine zt O ?_
       rcases t97 with _|_
       ·replace h97:=bF h97
        exact absurd (by rw [hE92]) h97
       ·replace h97:=bT h97
        refine zh O (vP O (zh O (vP O (zh O (zP O (ct27 hR92.h4 hR86.h4 (by rw [hE92];omega) (by omega) fun t101 S hE h101=>?_))))))
        replace H:=H.call hE
        refine vw O O O O (zt O (zN (zi (z9 O ?_))))
        first | exact ⟨rfl,H.g.eq.trans hG.i⟩ | exact ⟨congrArg Value.bool (h101.2 (by rw [hE92])),H.g.eq.trans hG.i⟩
  ·replace h25:=bT h25
   refine zj O (zR (zt O (zN (zi (zw (z9 O ?_))))))
   first | exact ⟨rfl,H.g.eq.trans hG.i⟩ | exact ⟨congrArg Value.bool (h101.2 (by rw [hE92])),H.g.eq.trans hG.i⟩
 ·replace h21:=bT h21
  refine zL O (zL O (zL O (vw O O O O (zN (zj O (zR (zt O (zN (zi (zw (z9 O ?_)))))))))))
  first | exact ⟨rfl,H.g.eq.trans hG.i⟩ | exact ⟨congrArg Value.bool (h101.2 (by rw [hE92])),H.g.eq.trans hG.i⟩
end
end Go.Proofs.YtnccejlibbgpkaaGreatDoor
