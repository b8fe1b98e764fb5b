/-
  The law FnExactBoxIn answers true at every input that its row allows, at every start that lays its variables: part 5 of 7.
-/
import GoSem.Step
import Derived.Conc.Token
import Derived.AtR
import Derived.Conc.Own2
import Derived.Conc.CrowdComm
import Derived.Conc.CrowdTrace
import Derived.Conc.Fork
import Derived.Conc.CrowdStepC
import Derived.Below
import Derived.Laws.Append
import Derived.Test.YtnccejlibbgpkaaGreatDoorChecked
import Derived.Test.YtnccejlibbgpkaaGreatDoorProg
import Derived.MapKept
import Derived.Conc.EventLaws
import Derived.Test.YtnccejlibbgpkaaGreatDoorWAd
set_option linter.unusedSimpArgs false
set_option linter.unusedVariables false
set_option linter.unusedSectionVars false
namespace Go.Proofs.YtnccejlibbgpkaaGreatDoor
set_option maxHeartbeats 1000000
section
variable {S0:St} {K:Value→St→Prop}
variable {b:Box} {l l1 l2:List End} {c c1 c2 c3:Nat} {a a1 a2 a3:Option Addr}
theorem ct105 {l:List Rule} (hs:SlR S0 7 a (z5 l)) (hl:l.length≤1048576) (k:∀ (b:Nat) S',Ext [] S0 S'→(S0 b=none)→(OwnB S' b 162 7 l.length (z5 l))→K (sl b 0 l.length l.length) S') :
  zC 105 #[.slice a l.length c] S0 K:=by
 refine zGh (sf:=s105) Tryz.func105 fun H=>zR (zj O (vE (zj O (zLl O (za (W_mkSlice H O O (Nat.le_refl _) (by omega) (by omega) fun b7 cs7 S hb7 H hE hcl7=>zj O (zN (vB (zj O (zN (zE ?_)))))))))))
 refine vj (fun E S m_=>∃ (i:Nat) (csb:List Value),E=Env.lst [(0,.slice a l.length c),(3,sl b7 0 l.length l.length),(4,int i)]∧Loc [] S0 S [(b7,Cs csb 162)]∧(i≤l.length)∧(csb.length=l.length*7)∧(csb.take (i*7)=(z5 (l.take i)).flatten)∧m_=l.length-i) ?_ ?_
 ·skip
  refine ⟨_,_,?le,0,cs7,O,H,(by omega),hcl7,(by simp),O⟩
  case le=>exact Env.qle ⟨O,O,O,⟨⟩⟩
 ·skip
  rintro _ S _ ⟨i,csb,rfl,H,hi,hcl,hct,rfl⟩
  refine vB (zj O (zj O (zLl O (za (vq O O fun t11 h11=>zN ?_)))))
  rcases t11 with _|_
  ·replace h11:=bF h11
   refine zn O (vh (zK (zK (vp (ze (zR (zj O (zj O (zN (zh (zP O ?_)))))))))))
   have hie:i=l.length:=by omega
   rw [hie,List.take_length] at hct
   exact k b7 _ H.qx (H.new1 .h) ⟨csb,H.get .h,by simp,hcl,by simpa using hct,vJ⟩
  ·replace h11:=bT h11
   obtain ⟨x,hx⟩:∃ x,l[i]? = some x:=⟨l[i]'(by omega),by simp⟩
   obtain ⟨p,f,rfl,hc⟩:=hs.row i _ (ruleRows_at hx)
   refine zr O (zt (ze (zD (zE (zJ (zj O (zj O (zj O (zj O (zIa O O (za (zV (vs:=[_,_,_,_,_,_,_]) O (H.qx.cells hc) (zCl O (ct189 (x:=x) fun S hE =>?_))))))))))))))
   replace H:=H.call hE
   refine zIa O O (za (W_store H O O O O O (by decide) .h (by show 0+i*7+7≤csb.length;have:=Nat.mul_le_mul_right 7 (show i+1≤l.length by omega);omega) O fun S hE H=>vf (z_ (ze (zJ (zj O (zAd O O (zj O (zN ?_)))))))))
   refine ⟨_,_,?lt,?le,(i+1),_,O,H,(by omega),((setl_len (by show 0+i*7+7≤csb.length;have:=Nat.mul_le_mul_right 7 (show i+1≤l.length by omega);omega)).trans hcl),((setl_row (i:=i) (k:=7) O (by have:=Nat.mul_le_mul_right 7 (show i+1≤l.length by omega);omega)).trans (by rw [hct,vA hx];simp [z5])),O⟩
   case lt=>omega
   case le=>exact Env.qle ⟨O,O,O,⟨⟩⟩
theorem ct190 (hs:SlR S0 2 a (zS l)) (hl:l.length≤1048576) (k:∀ (b:Nat) S',Ext [] S0 S'→(S0 b=none)→(OwnB S' b 31 2 l.length (zS l))→K (sl b 0 l.length l.length) S') :
  zC 190 #[.slice a l.length c] S0 K:=by
 refine zGh (sf:=s190) Tryz.func190 fun H=>zR (zj O (vE (zj O (zLl O (za (W_mkSlice H O O (Nat.le_refl _) (by omega) (by omega) fun b7 cs7 S hb7 H hE hcl7=>zj O (zN (vB (zj O (zN (zE ?_)))))))))))
 refine vj (fun E S m_=>∃ (i:Nat) (csb:List Value),E=Env.lst [(0,.slice a l.length c),(3,sl b7 0 l.length l.length),(4,int i)]∧Loc [] S0 S [(b7,Cs csb 31)]∧(i≤l.length)∧(csb.length=l.length*2)∧(csb.take (i*2)=(zS (l.take i)).flatten)∧m_=l.length-i) ?_ ?_
 ·skip
  refine ⟨_,_,?le,0,cs7,O,H,(by omega),hcl7,(by simp),O⟩
  case le=>exact Env.qle ⟨O,O,O,⟨⟩⟩
 ·skip
  rintro _ S _ ⟨i,csb,rfl,H,hi,hcl,hct,rfl⟩
  refine vB (zj O (zj O (zLl O (za (vq O O fun t11 h11=>zN ?_)))))
  rcases t11 with _|_
  ·replace h11:=bF h11
   refine zn O (vh (zK (zK (vp (ze (zR (zj O (zj O (zN (zh (zP O ?_)))))))))))
   have hie:i=l.length:=by omega
   rw [hie,List.take_length] at hct
   exact k b7 _ H.qx (H.new1 .h) ⟨csb,H.get .h,by simp,hcl,by simpa using hct,vH⟩
  ·replace h11:=bT h11
   obtain ⟨x,hx⟩:∃ x,l[i]? = some x:=⟨l[i]'(by omega),by simp⟩
   obtain ⟨p,f,rfl,hc⟩:=hs.row i _ (endRows_at hx)
   refine zr O (zt (ze (zD (zE (zJ (zj O (zj O (zj O (zj O (zIa O O (za (zV (vs:=[_,_]) O (H.qx.cells hc) (zCl O (ct108 (e:=x) fun S hE =>?_))))))))))))))
   replace H:=H.call hE
   refine zIa O O (za (W_store H O O O O O (by decide) .h (by show 0+i*2+2≤csb.length;have:=Nat.mul_le_mul_right 2 (show i+1≤l.length by omega);omega) O fun S hE H=>vf (z_ (ze (zJ (zj O (zAd O O (zj O (zN ?_)))))))))
   refine ⟨_,_,?lt,?le,(i+1),_,O,H,(by omega),((setl_len (by show 0+i*2+2≤csb.length;have:=Nat.mul_le_mul_right 2 (show i+1≤l.length by omega);omega)).trans hcl),((setl_row (i:=i) (k:=2) O (by have:=Nat.mul_le_mul_right 2 (show i+1≤l.length by omega);omega)).trans (by rw [hct,vA hx];simp [zS])),O⟩
   case lt=>omega
   case le=>exact Env.qle ⟨O,O,O,⟨⟩⟩
theorem ct107 {l:List Conn} (hs:SlR S0 7 a (zY l)) (hl:l.length≤1048576) (k:∀ (b:Nat) S',Ext [] S0 S'→(S0 b=none)→(OwnB S' b 49 7 l.length (zY l))→K (sl b 0 l.length l.length) S') :
  zC 107 #[.slice a l.length c] S0 K:=by
 refine zGh (sf:=s107) Tryz.func107 fun H=>zR (zj O (vE (zj O (zLl O (za (W_mkSlice H O O (Nat.le_refl _) (by omega) (by omega) fun b7 cs7 S hb7 H hE hcl7=>zj O (zN (vB (zj O (zN (zE ?_)))))))))))
 refine vj (fun E S m_=>∃ (i:Nat) (csb:List Value),E=Env.lst [(0,.slice a l.length c),(3,sl b7 0 l.length l.length),(4,int i)]∧Loc [] S0 S [(b7,Cs csb 49)]∧(i≤l.length)∧(csb.length=l.length*7)∧(csb.take (i*7)=(zY (l.take i)).flatten)∧m_=l.length-i) ?_ ?_
 ·skip
  refine ⟨_,_,?le,0,cs7,O,H,(by omega),hcl7,(by simp),O⟩
  case le=>exact Env.qle ⟨O,O,O,⟨⟩⟩
 ·skip
  rintro _ S _ ⟨i,csb,rfl,H,hi,hcl,hct,rfl⟩
  refine vB (zj O (zj O (zLl O (za (vq O O fun t11 h11=>zN ?_)))))
  rcases t11 with _|_
  ·replace h11:=bF h11
   refine zn O (vh (zK (zK (vp (ze (zR (zj O (zj O (zN (zh (zP O ?_)))))))))))
   have hie:i=l.length:=by omega
   rw [hie,List.take_length] at hct
   exact k b7 _ H.qx (H.new1 .h) ⟨csb,H.get .h,by simp,hcl,by simpa using hct,zZ⟩
  ·replace h11:=bT h11
   obtain ⟨x,hx⟩:∃ x,l[i]? = some x:=⟨l[i]'(by omega),by simp⟩
   obtain ⟨p,f,rfl,hc⟩:=hs.row i _ (vK hx)
   refine zr O (zt (ze (zD (zE (zJ (zj O (zj O (zj O (zj O (zIa O O (za (zV (vs:=[_,_,_,_,_,_,_]) O (H.qx.cells hc) (zCl O (ct191 (x:=x) fun S hE =>?_))))))))))))))
   replace H:=H.call hE
   refine zIa O O (za (W_store H O O O O O (by decide) .h (by show 0+i*7+7≤csb.length;have:=Nat.mul_le_mul_right 7 (show i+1≤l.length by omega);omega) O fun S hE H=>vf (z_ (ze (zJ (zj O (zAd O O (zj O (zN ?_)))))))))
   refine ⟨_,_,?lt,?le,(i+1),_,O,H,(by omega),((setl_len (by show 0+i*7+7≤csb.length;have:=Nat.mul_le_mul_right 7 (show i+1≤l.length by omega);omega)).trans hcl),((setl_row (i:=i) (k:=7) O (by have:=Nat.mul_le_mul_right 7 (show i+1≤l.length by omega);omega)).trans (by rw [hct,vA hx];simp [zY])),O⟩
   case lt=>omega
   case le=>exact Env.qle ⟨O,O,O,⟨⟩⟩
theorem ct106 (hs:SlR S0 2 a (zS l)) (hl:l.length≤1048576) (k:∀ (b:Nat) S',Ext [] S0 S'→(S0 b=none)→(OwnB S' b 31 2 l.length (zS l))→K (.agg #[sl b 0 l.length l.length]) S') :
  zC 106 #[.agg #[.slice a l.length c]] S0 K:=by
 refine zGh (sf:=s106) Tryz.func106 fun H=>zR (zBx H O O fun b1 S hb1 hE H=>zAl H O fun b2 S hb2 hE H=>vE (zAl H O fun b3 S hb3 hE H=>vE (vw O (zL1 H O .h2 O (zCl O (ct190 (hs.mono H.qx) hl fun b6 S hE hb6 hO6=>?_))))))
 have hnb6:=H.qx.isNone hb6
 obtain ⟨cs6,ho6,hp6⟩:=hO6
 replace H:=H.adopt hE hb6 ho6
 refine vw O (zSs H O O O .h1 O fun S hE H=>vE (zLn (vs:=[_]) H O .h1 O (zSs H O O O .h2 O fun S hE H=>zN (zh (⟨trivial,_,(z0 (ws:=[_]) H O .h2 O zT),?_⟩)))))
 exact k b6 _ H.qx hnb6 ⟨cs6,H.get .h,hp6⟩
theorem ct42 (h1:SlR S0 7 a1 (z5 b.rs)) (h2:SlR S0 2 a2 (zS b.es)) (h3:SlR S0 7 a3 (zY b.cs)) (l1:b.rs.length≤1048576) (l2:b.es.length≤1048576) (l3:b.cs.length≤1048576) (k:∀ (m1 m2 m3:Nat) S',Ext [] S0 S'→(S0 m1=none)→(S0 m2=none)→(S0 m3=none)→(OwnB S' m1 162 7 b.rs.length (z5 b.rs))→(OwnB S' m2 31 2 b.es.length (zS b.es))→(OwnB S' m3 49 7 b.cs.length (zY b.cs))→(m1≠m2)→(m1≠m3)→(m2≠m3)→K (.agg #[sl m1 0 b.rs.length b.rs.length,sl m2 0 b.es.length b.es.length,sl m3 0 b.cs.length b.cs.length]) S') :
  zC 42 #[.agg #[.slice a1 b.rs.length c1,.slice a2 b.es.length c2,.slice a3 b.cs.length c3]] S0 K:=by
 refine zGh (sf:=s42) Tryz.func42 fun H=>zR (zBx H O O fun b1 S hb1 hE H=>zAl H O fun b2 S hb2 hE H=>vE (zAl H O fun b3 S hb3 hE H=>vE (vw O (zL1 H O .h2 O (zCl O (ct105 (h1.mono H.qx) l1 fun b6 S hE hb6 hO6=>?_))))))
 have hnb6:=H.qx.isNone hb6
 obtain ⟨cs6,ho6,hp6⟩:=hO6
 replace H:=H.adopt hE hb6 ho6
 refine vw O (zSs H O O O .h1 O fun S hE H=>vE (vw O (zLn (vs:=[_]) H O .h3 O (zCl O (ct106 (h2.mono H.qx) l2 fun b10 S hE hb10 hO10=>?_)))))
 have hnb10:=H.qx.isNone hb10
 obtain ⟨cs10,ho10,hp10⟩:=hO10
 replace H:=H.adopt hE hb10 ho10
 refine vw O (zSs H O O O .h2 O fun S hE H=>vE (vw O (zL1 H O .h4 O (zCl O (ct107 (h3.mono H.qx) l3 fun b14 S hE hb14 hO14=>?_)))))
 have hnb14:=H.qx.isNone hb14
 obtain ⟨cs14,ho14,hp14⟩:=hO14
 replace H:=H.adopt hE hb14 ho14
 refine vw O (zSs H O O O .h3 O fun S hE H=>vE (zLn (vs:=[_,_,_]) H O .h3 O (zSs H O O O .h4 O fun S hE H=>zN (zh (⟨trivial,_,(z0 (ws:=[_,_,_]) H O .h4 O zT),?_⟩)))))
 exact k b6 b10 b14 _ H.qx hnb6 hnb10 hnb14 ⟨cs6,H.get .h2,hp6⟩ ⟨cs10,H.get .h1,hp10⟩ ⟨cs14,H.get .h,hp14⟩ (by rintro rfl;exact absurd H.nodup (by simp)) (by rintro rfl;exact absurd H.nodup (by simp)) (by rintro rfl;exact absurd H.nodup (by simp))
theorem ct109 {l1 l2:List Rule} (h1:Sl S0 7 a1 (z5 l1)) (h2:Sl S0 7 a2 (z5 l2)) (hl1:l1.length≤1099511627776) (hl2:l2.length≤1099511627776) (k:∀ (t:Bool) S',Ext [] S0 S'→(t=true↔l1=l2)→K (.bool t) S') :
  zC 109 #[.slice a1 l1.length c1,.slice a2 l2.length c2] S0 K:=by
 refine zGh (sf:=s109) Tryz.func109 fun H=>zR (zj O (zN (vB (zj O (zLl O (zj O (zLl O (za (W_neI O O fun t10 h10=>zN ?_)))))))))
 rcases t10 with _|_
 ·replace h10:=bF h10
  refine zn O (zt (ze (vB (zj O (zN (zE ?_))))))
  refine vj (fun E S m_=>∃ (i:Nat),E=Env.lst [(0,.slice a1 l1.length c1),(1,.slice a2 l2.length c2),(5,int i)]∧Loc [] S0 S []∧(i≤l1.length)∧(l1.length=l2.length)∧(l1.take i=l2.take i)∧m_=l1.length-i) ?_ ?_
  ·skip
   refine ⟨_,_,?le,0,O,H,(by omega),(by omega),O,O⟩
   case le=>exact Env.qle ⟨O,O,O,⟨⟩⟩
  ·skip
   rintro _ S _ ⟨i,rfl,H,hi,hlen,hp,rfl⟩
   refine vB (zj O (zj O (zLl O (za (vq O O fun t14 h14=>zN ?_)))))
   rcases t14 with _|_
   ·replace h14:=bF h14
    refine zn O (vh (zK (zK (vp (ze (zR (zj O (zN (zh (zP O ?_))))))))))
    exact k _ _ H.qx ⟨fun _=>eq_of_take hlen (by omega) hp,fun _=>rfl⟩
   ·replace h14:=bT h14
    obtain ⟨x,hx⟩:∃ x,l1[i]? = some x:=⟨l1[i]'(by omega),by simp⟩
    obtain ⟨y,hy⟩:∃ y,l2[i]? = some y:=⟨l2[i]'(by omega),by simp⟩
    obtain ⟨p1,f1,rfl,hc1⟩:=h1.row i _ (ruleRows_at hx)
    obtain ⟨p2,f2,rfl,hc2⟩:=h2.row i _ (ruleRows_at hy)
    refine zr O (zt (ze (zD (zE (zD (vc [] (vI 0 O O O (vI 1 O O O (vM 2 O O (fun _ _ hK=>vl O O (by omega) (by omega) hK) (vi 3 O O (fun S' hS'=>zG fun K hK=>zV (vs:=[_,_,_,_,_,_,_]) O (zM (hS' O) (by simp) (H.qx.cells hc1)) hK) (vI 4 O O O (vI 5 O O O (vM 6 O O (fun _ _ hK=>vl O O (by omega) (by omega) hK) (vi 7 O O (fun S' hS'=>zG fun K hK=>zV (vs:=[_,_,_,_,_,_,_]) O (zM (hS' O) (by simp) (H.qx.cells hc2)) hK) (zB 8 (by kernel_rfl) O O (zv (zU O (ct192 (x:=x) (y:=y) fun t25 S hE h25=>?_))))))))))))))))))
    replace H:=H.call hE
    refine zLd (vM 9 O O (fun _ _ hK=>W_not O hK) (zX (ze ?_)))
    rcases t25 with _|_
    ·replace h25:=bF h25
     refine zr O (zR (zj O (zN (zh (ve (zw (zw (ve (zw (zP O ?_))))))))))
     exact k _ _ H.qx ⟨nofun,fun h=>absurd h (ne_at hx hy h25)⟩
    ·replace h25:=bT h25
     refine zn O (zt (z_ (ze (zJ (zj O (zAd O O (zj O (zN ?_))))))))
     refine ⟨_,_,?lt,?le,(i+1),O,H,(by omega),(by omega),(take_eq_succ hx hy hp h25),O⟩
     case lt=>omega
     case le=>exact Env.qle ⟨O,O,O,⟨⟩⟩
 ·replace h10:=bT h10
  refine zr O (zR (zj O (zN (zh (zw (zP O ?_))))))
  exact k _ _ H.qx ⟨nofun,fun h=>absurd (congrArg List.length h) (by omega)⟩
theorem ct193 (h1:Sl S0 2 a1 (zS l1)) (h2:Sl S0 2 a2 (zS l2)) (hl1:l1.length≤1099511627776) (hl2:l2.length≤1099511627776) (k:∀ (t:Bool) S',Ext [] S0 S'→(t=true↔l1=l2)→K (.bool t) S') :
  zC 193 #[.slice a1 l1.length c1,.slice a2 l2.length c2] S0 K:=by
 refine zGh (sf:=s193) Tryz.func193 fun H=>zR (zj O (zN (vB (zj O (zLl O (zj O (zLl O (za (W_neI O O fun t10 h10=>zN ?_)))))))))
 rcases t10 with _|_
 ·replace h10:=bF h10
  refine zn O (zt (ze (vB (zj O (zN (zE ?_))))))
  refine vj (fun E S m_=>∃ (i:Nat),E=Env.lst [(0,.slice a1 l1.length c1),(1,.slice a2 l2.length c2),(5,int i)]∧Loc [] S0 S []∧(i≤l1.length)∧(l1.length=l2.length)∧(l1.take i=l2.take i)∧m_=l1.length-i) ?_ ?_
  ·skip
   refine ⟨_,_,?le,0,O,H,(by omega),(by omega),O,O⟩
   case le=>exact Env.qle ⟨O,O,O,⟨⟩⟩
  ·skip
   rintro _ S _ ⟨i,rfl,H,hi,hlen,hp,rfl⟩
   refine vB (zj O (zj O (zLl O (za (vq O O fun t14 h14=>zN ?_)))))
   rcases t14 with _|_
   ·replace h14:=bF h14
    refine zn O (vh (zK (zK (vp (ze (zR (zj O (zN (zh (zP O ?_))))))))))
    exact k _ _ H.qx ⟨fun _=>eq_of_take hlen (by omega) hp,fun _=>rfl⟩
   ·replace h14:=bT h14
    obtain ⟨x,hx⟩:∃ x,l1[i]? = some x:=⟨l1[i]'(by omega),by simp⟩
    obtain ⟨y,hy⟩:∃ y,l2[i]? = some y:=⟨l2[i]'(by omega),by simp⟩
    obtain ⟨p1,f1,rfl,hc1⟩:=h1.row i _ (endRows_at hx)
    obtain ⟨p2,f2,rfl,hc2⟩:=h2.row i _ (endRows_at hy)
    refine zr O (zt (ze (zD (zE (zD (vc [] (vI 0 O O O (vI 1 O O O (vM 2 O O (fun _ _ hK=>vl O O (by omega) (by omega) hK) (vi 3 O O (fun S' hS'=>zG fun K hK=>zV (vs:=[_,_]) O (zM (hS' O) (by simp) (H.qx.cells hc1)) hK) (vI 4 O O O (vI 5 O O O (vM 6 O O (fun _ _ hK=>vl O O (by omega) (by omega) hK) (vi 7 O O (fun S' hS'=>zG fun K hK=>zV (vs:=[_,_]) O (zM (hS' O) (by simp) (H.qx.cells hc2)) hK) (zB 8 (by kernel_rfl) O O (zv (zU O (ct195 (x:=x) (y:=y) fun t25 S hE h25=>?_))))))))))))))))))
    replace H:=H.call hE
    refine zLd (vM 9 O O (fun _ _ hK=>W_not O hK) (zX (ze ?_)))
    rcases t25 with _|_
    ·replace h25:=bF h25
     refine zr O (zR (zj O (zN (zh (ve (zw (zw (ve (zw (zP O ?_))))))))))
     exact k _ _ H.qx ⟨nofun,fun h=>absurd h (ne_at hx hy h25)⟩
    ·replace h25:=bT h25
     refine zn O (zt (z_ (ze (zJ (zj O (zAd O O (zj O (zN ?_))))))))
     refine ⟨_,_,?lt,?le,(i+1),O,H,(by omega),(by omega),(take_eq_succ hx hy hp h25),O⟩
     case lt=>omega
     case le=>exact Env.qle ⟨O,O,O,⟨⟩⟩
 ·replace h10:=bT h10
  refine zr O (zR (zj O (zN (zh (zw (zP O ?_))))))
  exact k _ _ H.qx ⟨nofun,fun h=>absurd (congrArg List.length h) (by omega)⟩
theorem ct194 {x y:Conn}  (k:∀ (t:Bool) S',Ext [] S0 S'→(t=true↔x=y)→K (.bool t) S') :
  zC 194 #[x.v,y.v] S0 K:=by
 refine zGh (sf:=s194) Tryz.func194 fun H=>zR (zBx H O O fun b2 S hb2 hE H=>zBx H O O fun b3 S hb3 hE H=>zj O (zN (vB (vw O (zLn (vs:=[_,_]) H O .h1 O (vw O (zLn (vs:=[_,_]) H O .h O (zCl O (ct195 (x:=x.i) (y:=y.i) fun t9 S hE h9=>?_)))))))))
 replace H:=H.call hE
 refine zNt O (zN ?_)
 rcases t9 with _|_
 ·replace h9:=bF h9
  refine zr O (zR (zj O (zN (zh (zw (zP O ?_))))))
  exact k _ _ H.qx ⟨nofun,fun h=>by subst h;first | exact absurd rfl h9 | exact absurd rfl h15 | exact absurd rfl h21 | exact absurd rfl h26 | exact absurd rfl h31⟩
 ·replace h9:=bT h9
  refine zn O (zt (ze (vB (vw O (zLn (vs:=[_,_]) H O .h1 O (vw O (zLn (vs:=[_,_]) H O .h O (zCl O (ct195 (x:=x.o) (y:=y.o) fun t15 S hE h15=>?_)))))))))
  replace H:=H.call hE
  refine zNt O (zN ?_)
  rcases t15 with _|_
  ·replace h15:=bF h15
   refine zr O (zR (zj O (zN (zh (zw (zP O ?_))))))
   exact k _ _ H.qx ⟨nofun,fun h=>by subst h;first | exact absurd rfl h9 | exact absurd rfl h15 | exact absurd rfl h21 | exact absurd rfl h26 | exact absurd rfl h31⟩
  ·replace h15:=bT h15
   refine zn O (zt (ze (vB (vw O (zL1 H O .h1 O (vw O (zL1 H O .h O (za (W_neS O O fun t21 h21=>zN ?_)))))))))
   rcases t21 with _|_
   ·replace h21:=bF h21
    refine zn O (zt (ze (vB (vw O (zL1 H O .h1 O (vw O (zL1 H O .h O (za (W_neS O O fun t26 h26=>zN ?_)))))))))
    rcases t26 with _|_
    ·replace h26:=bF h26
     refine zn O (zt (ze (vB (vw O (zL1 H O .h1 O (vw O (zL1 H O .h O (za (W_neS O O fun t31 h31=>zN ?_)))))))))
     rcases t31 with _|_
     ·replace h31:=bF h31
      refine zn O (zt (ze (zR (zj O (zN (zh (zP O ?_)))))))
      exact k _ _ H.qx ⟨fun _=>Conn.eq5 h9 h15 (Classical.not_not.1 h21) (Classical.not_not.1 h26) (Classical.not_not.1 h31),fun _=>rfl⟩
     ·replace h31:=bT h31
      refine zr O (zR (zj O (zN (zh (zw (zP O ?_))))))
      exact k _ _ H.qx ⟨nofun,fun h=>by subst h;first | exact absurd rfl h9 | exact absurd rfl h15 | exact absurd rfl h21 | exact absurd rfl h26 | exact absurd rfl h31⟩
    ·replace h26:=bT h26
     refine zr O (zR (zj O (zN (zh (zw (zP O ?_))))))
     exact k _ _ H.qx ⟨nofun,fun h=>by subst h;first | exact absurd rfl h9 | exact absurd rfl h15 | exact absurd rfl h21 | exact absurd rfl h26 | exact absurd rfl h31⟩
   ·replace h21:=bT h21
    refine zr O (zR (zj O (zN (zh (zw (zP O ?_))))))
    exact k _ _ H.qx ⟨nofun,fun h=>by subst h;first | exact absurd rfl h9 | exact absurd rfl h15 | exact absurd rfl h21 | exact absurd rfl h26 | exact absurd rfl h31⟩
theorem ct111 {l1 l2:List Conn} (h1:Sl S0 7 a1 (zY l1)) (h2:Sl S0 7 a2 (zY l2)) (hl1:l1.length≤1099511627776) (hl2:l2.length≤1099511627776) (k:∀ (t:Bool) S',Ext [] S0 S'→(t=true↔l1=l2)→K (.bool t) S') :
  zC 111 #[.slice a1 l1.length c1,.slice a2 l2.length c2] S0 K:=by
 refine zGh (sf:=s111) Tryz.func111 fun H=>zR (zj O (zN (vB (zj O (zLl O (zj O (zLl O (za (W_neI O O fun t10 h10=>zN ?_)))))))))
 rcases t10 with _|_
 ·replace h10:=bF h10
  refine zn O (zt (ze (vB (zj O (zN (zE ?_))))))
  refine vj (fun E S m_=>∃ (i:Nat),E=Env.lst [(0,.slice a1 l1.length c1),(1,.slice a2 l2.length c2),(5,int i)]∧Loc [] S0 S []∧(i≤l1.length)∧(l1.length=l2.length)∧(l1.take i=l2.take i)∧m_=l1.length-i) ?_ ?_
  ·skip
   refine ⟨_,_,?le,0,O,H,(by omega),(by omega),O,O⟩
   case le=>exact Env.qle ⟨O,O,O,⟨⟩⟩
  ·skip
   rintro _ S _ ⟨i,rfl,H,hi,hlen,hp,rfl⟩
   refine vB (zj O (zj O (zLl O (za (vq O O fun t14 h14=>zN ?_)))))
   rcases t14 with _|_
   ·replace h14:=bF h14
    refine zn O (vh (zK (zK (vp (ze (zR (zj O (zN (zh (zP O ?_))))))))))
    exact k _ _ H.qx ⟨fun _=>eq_of_take hlen (by omega) hp,fun _=>rfl⟩
   ·replace h14:=bT h14
    obtain ⟨x,hx⟩:∃ x,l1[i]? = some x:=⟨l1[i]'(by omega),by simp⟩
    obtain ⟨y,hy⟩:∃ y,l2[i]? = some y:=⟨l2[i]'(by omega),by simp⟩
    obtain ⟨p1,f1,rfl,hc1⟩:=h1.row i _ (vK hx)
    obtain ⟨p2,f2,rfl,hc2⟩:=h2.row i _ (vK hy)
    refine zr O (zt (ze (zD (zE (zD (vc [] (vI 0 O O O (vI 1 O O O (vM 2 O O (fun _ _ hK=>vl O O (by omega) (by omega) hK) (vi 3 O O (fun S' hS'=>zG fun K hK=>zV (vs:=[_,_,_,_,_,_,_]) O (zM (hS' O) (by simp) (H.qx.cells hc1)) hK) (vI 4 O O O (vI 5 O O O (vM 6 O O (fun _ _ hK=>vl O O (by omega) (by omega) hK) (vi 7 O O (fun S' hS'=>zG fun K hK=>zV (vs:=[_,_,_,_,_,_,_]) O (zM (hS' O) (by simp) (H.qx.cells hc2)) hK) (zB 8 (by kernel_rfl) O O (zv (zU O (ct194 (x:=x) (y:=y) fun t25 S hE h25=>?_))))))))))))))))))
    replace H:=H.call hE
    refine zLd (vM 9 O O (fun _ _ hK=>W_not O hK) (zX (ze ?_)))
    rcases t25 with _|_
    ·replace h25:=bF h25
     refine zr O (zR (zj O (zN (zh (ve (zw (zw (ve (zw (zP O ?_))))))))))
     exact k _ _ H.qx ⟨nofun,fun h=>absurd h (ne_at hx hy h25)⟩
    ·replace h25:=bT h25
     refine zn O (zt (z_ (ze (zJ (zj O (zAd O O (zj O (zN ?_))))))))
     refine ⟨_,_,?lt,?le,(i+1),O,H,(by omega),(by omega),(take_eq_succ hx hy hp h25),O⟩
     case lt=>omega
     case le=>exact Env.qle ⟨O,O,O,⟨⟩⟩
 ·replace h10:=bT h10
  refine zr O (zR (zj O (zN (zh (zw (zP O ?_))))))
  exact k _ _ H.qx ⟨nofun,fun h=>absurd (congrArg List.length h) (by omega)⟩
theorem ct112 {x y:Seg}  (k:∀ (t:Bool) S',Ext [] S0 S'→(t=true↔x=y)→K (.bool t) S') :
  zC 112 #[x.v,y.v] S0 K:=by
 refine zGh (sf:=s112) Tryz.func112 fun H=>zR (zBx H O O fun b2 S hb2 hE H=>zBx H O O fun b3 S hb3 hE H=>zj O (zN (vB (vw O (zLn (vs:=[_,_]) H O .h1 O (vw O (zLn (vs:=[_,_]) H O .h O (zCl O (ct195 (x:=x.s) (y:=y.s) fun t9 S hE h9=>?_)))))))))
 replace H:=H.call hE
 refine zNt O (zN ?_)
 rcases t9 with _|_
 ·replace h9:=bF h9
  refine zr O (zR (zj O (zN (zh (zw (zP O ?_))))))
  exact k _ _ H.qx ⟨nofun,fun h=>by subst h;first | exact absurd rfl h9 | exact absurd rfl h15 | exact absurd rfl h21 | exact absurd rfl h26 | exact absurd rfl h31⟩
 ·replace h9:=bT h9
  refine zn O (zt (ze (vB (vw O (zLn (vs:=[_,_]) H O .h1 O (vw O (zLn (vs:=[_,_]) H O .h O (zCl O (ct195 (x:=x.d) (y:=y.d) fun t15 S hE h15=>?_)))))))))
  replace H:=H.call hE
  refine zNt O (zN ?_)
  rcases t15 with _|_
  ·replace h15:=bF h15
   refine zr O (zR (zj O (zN (zh (zw (zP O ?_))))))
   exact k _ _ H.qx ⟨nofun,fun h=>by subst h;first | exact absurd rfl h9 | exact absurd rfl h15 | exact absurd rfl h21 | exact absurd rfl h26 | exact absurd rfl h31⟩
  ·replace h15:=bT h15
   refine zn O (zt (ze (vB (vw O (zL1 H O .h1 O (vw O (zL1 H O .h O (za (W_neI O O fun t21 h21=>zN ?_)))))))))
   rcases t21 with _|_
   ·replace h21:=bF h21
    refine zn O (zt (ze (vB (vw O (zL1 H O .h1 O (vw O (zL1 H O .h O (za (W_neI O O fun t26 h26=>zN ?_)))))))))
    rcases t26 with _|_
    ·replace h26:=bF h26
     refine zn O (zt (ze (vB (vw O (zL1 H O .h1 O (vw O (zL1 H O .h O (za (W_neS O O fun t31 h31=>zN ?_)))))))))
     rcases t31 with _|_
     ·replace h31:=bF h31
      refine zn O (zt (ze (zR (zj O (zN (zh (zP O ?_)))))))
      exact k _ _ H.qx ⟨fun _=>Seg.eq5 h9 h15 (Classical.not_not.1 h21) (Classical.not_not.1 h26) (Classical.not_not.1 h31),fun _=>rfl⟩
     ·replace h31:=bT h31
      refine zr O (zR (zj O (zN (zh (zw (zP O ?_))))))
      exact k _ _ H.qx ⟨nofun,fun h=>by subst h;first | exact absurd rfl h9 | exact absurd rfl h15 | exact absurd rfl h21 | exact absurd rfl h26 | exact absurd rfl h31⟩
    ·replace h26:=bT h26
     refine zr O (zR (zj O (zN (zh (zw (zP O ?_))))))
     exact k _ _ H.qx ⟨nofun,fun h=>by subst h;first | exact absurd rfl h9 | exact absurd rfl h15 | exact absurd rfl h21 | exact absurd rfl h26 | exact absurd rfl h31⟩
   ·replace h21:=bT h21
    refine zr O (zR (zj O (zN (zh (zw (zP O ?_))))))
    exact k _ _ H.qx ⟨nofun,fun h=>by subst h;first | exact absurd rfl h9 | exact absurd rfl h15 | exact absurd rfl h21 | exact absurd rfl h26 | exact absurd rfl h31⟩
theorem ct45 {l1 l2:List Seg} (h1:Sl S0 7 a1 (segRows l1)) (h2:Sl S0 7 a2 (segRows l2)) (hl1:l1.length≤1099511627776) (hl2:l2.length≤1099511627776) (k:∀ (t:Bool) S',Ext [] S0 S'→(t=true↔l1=l2)→K (.bool t) S') :
  zC 45 #[.slice a1 l1.length c1,.slice a2 l2.length c2] S0 K:=by
 refine zGh (sf:=s45) Tryz.func45 fun H=>zR (zj O (zN (vB (zj O (zLl O (zj O (zLl O (za (W_neI O O fun t10 h10=>zN ?_)))))))))
 rcases t10 with _|_
 ·replace h10:=bF h10
  refine zn O (zt (ze (vB (zj O (zN (zE ?_))))))
  refine vj (fun E S m_=>∃ (i:Nat),E=Env.lst [(0,.slice a1 l1.length c1),(1,.slice a2 l2.length c2),(5,int i)]∧Loc [] S0 S []∧(i≤l1.length)∧(l1.length=l2.length)∧(l1.take i=l2.take i)∧m_=l1.length-i) ?_ ?_
  ·skip
   refine ⟨_,_,?le,0,O,H,(by omega),(by omega),O,O⟩
   case le=>exact Env.qle ⟨O,O,O,⟨⟩⟩
  ·skip
   rintro _ S _ ⟨i,rfl,H,hi,hlen,hp,rfl⟩
   refine vB (zj O (zj O (zLl O (za (vq O O fun t14 h14=>zN ?_)))))
   rcases t14 with _|_
   ·replace h14:=bF h14
    refine zn O (vh (zK (zK (vp (ze (zR (zj O (zN (zh (zP O ?_))))))))))
    exact k _ _ H.qx ⟨fun _=>eq_of_take hlen (by omega) hp,fun _=>rfl⟩
   ·replace h14:=bT h14
    obtain ⟨x,hx⟩:∃ x,l1[i]? = some x:=⟨l1[i]'(by omega),by simp⟩
    obtain ⟨y,hy⟩:∃ y,l2[i]? = some y:=⟨l2[i]'(by omega),by simp⟩
    obtain ⟨p1,f1,rfl,hc1⟩:=h1.row i _ (segRows_at hx)
    obtain ⟨p2,f2,rfl,hc2⟩:=h2.row i _ (segRows_at hy)
    refine zr O (zt (ze (zD (zE (zD (vc [] (vI 0 O O O (vI 1 O O O (vM 2 O O (fun _ _ hK=>vl O O (by omega) (by omega) hK) (vi 3 O O (fun S' hS'=>zG fun K hK=>zV (vs:=[_,_,_,_,_,_,_]) O (zM (hS' O) (by simp) (H.qx.cells hc1)) hK) (vI 4 O O O (vI 5 O O O (vM 6 O O (fun _ _ hK=>vl O O (by omega) (by omega) hK) (vi 7 O O (fun S' hS'=>zG fun K hK=>zV (vs:=[_,_,_,_,_,_,_]) O (zM (hS' O) (by simp) (H.qx.cells hc2)) hK) (zB 8 (by kernel_rfl) O O (zv (zU O (ct112 (x:=x) (y:=y) fun t25 S hE h25=>?_))))))))))))))))))
    replace H:=H.call hE
    refine zLd (vM 9 O O (fun _ _ hK=>W_not O hK) (zX (ze ?_)))
    rcases t25 with _|_
    ·replace h25:=bF h25
     refine zr O (zR (zj O (zN (zh (ve (zw (zw (ve (zw (zP O ?_))))))))))
     exact k _ _ H.qx ⟨nofun,fun h=>absurd h (ne_at hx hy h25)⟩
    ·replace h25:=bT h25
     refine zn O (zt (z_ (ze (zJ (zj O (zAd O O (zj O (zN ?_))))))))
     refine ⟨_,_,?lt,?le,(i+1),O,H,(by omega),(by omega),(take_eq_succ hx hy hp h25),O⟩
     case lt=>omega
     case le=>exact Env.qle ⟨O,O,O,⟨⟩⟩
 ·replace h10:=bT h10
  refine zr O (zR (zj O (zN (zh (zw (zP O ?_))))))
  exact k _ _ H.qx ⟨nofun,fun h=>absurd (congrArg List.length h) (by omega)⟩
theorem ct110 (h1:Sl S0 2 a1 (zS l1)) (h2:Sl S0 2 a2 (zS l2)) (hl1:l1.length≤1099511627776) (hl2:l2.length≤1099511627776) (k:∀ (t:Bool) S',Ext [] S0 S'→(t=true↔l1=l2)→K (.bool t) S') :
  zC 110 #[.agg #[.slice a1 l1.length c1],.agg #[.slice a2 l2.length c2]] S0 K:=by
 refine zGh (sf:=s110) Tryz.func110 fun H=>zR (zBx H O O fun b2 S hb2 hE H=>zBx H O O fun b3 S hb3 hE H=>zj O (zN (vB (vw O (zL1 H O .h1 O (vw O (zL1 H O .h O (zCl O (ct193 (h1.mono H.qx) (h2.mono H.qx) hl1 hl2 fun t9 S hE h9=>?_)))))))))
 replace H:=H.call hE
 refine zNt O (zN ?_)
 rcases t9 with _|_
 ·replace h9:=bF h9
  refine zr O (zR (zj O (zN (zh (zw (zP O ?_))))))
  exact k _ _ H.qx ⟨nofun,fun h=>absurd h h9⟩
 ·replace h9:=bT h9
  refine zn O (zt (ze (zR (zj O (zN (zh (zP O ?_)))))))
  exact k _ _ H.qx ⟨fun _=>h9,fun _=>rfl⟩
theorem ct44 {x1 x2 x3:Option Addr} {d1 d2 d3:Nat} {c:Box} (h1:Sl S0 7 a1 (z5 b.rs)) (h2:Sl S0 2 a2 (zS b.es)) (h3:Sl S0 7 a3 (zY b.cs)) (hz:BoxZ b) (k1:Sl S0 7 x1 (z5 c.rs)) (k2:Sl S0 2 x2 (zS c.es)) (k3:Sl S0 7 x3 (zY c.cs)) (hy:BoxZ c) (k:∀ (t:Bool) S',Ext [] S0 S'→(t=true↔b=c)→K (.bool t) S') :
  zC 44 #[.agg #[.slice a1 b.rs.length c1,.slice a2 b.es.length c2,.slice a3 b.cs.length c3],.agg #[.slice x1 c.rs.length d1,.slice x2 c.es.length d2,.slice x3 c.cs.length d3]] S0 K:=by
 refine zGh (sf:=s44) Tryz.func44 fun H=>?_
 obtain ⟨z1,z2,z3,_⟩:=id hz
 obtain ⟨w1,w2,w3,_⟩:=id hy
 refine zR (zBx H O O fun b2 S hb2 hE H=>zBx H O O fun b3 S hb3 hE H=>zj O (zN (vB (vw O (zL1 H O .h1 O (vw O (zL1 H O .h O (zCl O (ct109 (h1.mono H.qx) (k1.mono H.qx) (by omega) (by omega) fun t9 S hE h9=>?_)))))))))
 replace H:=H.call hE
 refine zNt O (zN ?_)
 rcases t9 with _|_
 ·replace h9:=bF h9
  refine zr O (zR (zj O (zN (zh (zw (zP O ?_))))))
  exact k _ _ H.qx ⟨nofun,fun h=>by subst h;first | exact absurd rfl h9 | exact absurd rfl h15 | exact absurd rfl h21⟩
 ·replace h9:=bT h9
  refine zn O (zt (ze (vB (vw O (zLn (vs:=[_]) H O .h1 O (vw O (zLn (vs:=[_]) H O .h O (zCl O (ct110 (h2.mono H.qx) (k2.mono H.qx) (by omega) (by omega) fun t15 S hE h15=>?_)))))))))
  replace H:=H.call hE
  refine zNt O (zN ?_)
  rcases t15 with _|_
  ·replace h15:=bF h15
   refine zr O (zR (zj O (zN (zh (zw (zP O ?_))))))
   exact k _ _ H.qx ⟨nofun,fun h=>by subst h;first | exact absurd rfl h9 | exact absurd rfl h15 | exact absurd rfl h21⟩
  ·replace h15:=bT h15
   refine zn O (zt (ze (vB (vw O (zL1 H O .h1 O (vw O (zL1 H O .h O (zCl O (ct111 (h3.mono H.qx) (k3.mono H.qx) (by omega) (by omega) fun t21 S hE h21=>?_)))))))))
   replace H:=H.call hE
   refine zNt O (zN ?_)
   rcases t21 with _|_
   ·replace h21:=bF h21
    refine zr O (zR (zj O (zN (zh (zw (zP O ?_))))))
    exact k _ _ H.qx ⟨nofun,fun h=>by subst h;first | exact absurd rfl h9 | exact absurd rfl h15 | exact absurd rfl h21⟩
   ·replace h21:=bT h21
    refine zn O (zt (ze (zR (zj O (zN (zh (zP O ?_)))))))
    exact k _ _ H.qx ⟨fun _=>box_eq h9 h15 h21,fun _=>rfl⟩
end
section
open Go
def mkT (n:Nat):Bs:=109::dig n
def mkE (n:Nat):End:=⟨(n:Nat),(n+1:Nat)⟩
def mkR (n:Nat):Rule:=⟨decide (n % 3=0),(n+1:Nat),(n+2:Nat),(n+3:Nat),(n+4:Nat),(n+5:Nat),(n+6:Nat)⟩
def mkC (n:Nat):Conn:=⟨mkE n,mkE (n+2),mkT (n+4),mkT (n+5),mkT (n+6)⟩
def mkS (n:Nat):Seg:=⟨mkE n,mkE (n+2),(n+4:Nat),(n+5:Nat),mkT (n+6)⟩
def Marked {α:Type} (k:Nat) (mk:Nat→α) (n:Nat) (l:List α):Prop:=∀ i x,l[i]? = some x→x=mk (n+k*i)
theorem mkT_eq {n:Nat} {q:Int} (h:q=n):mkT n=109::dig q.toNat:=by subst h;rfl
end
section
variable {S0:St} {K:Value→St→Prop}
variable {l:List End} {c n:Nat} {a:Option Addr}
theorem ct116 {q:Int} (h0:1≤q) (hq:q≤1099511627776) (k:∀  S',Ext [] S0 S'→K (str (109::dig q.toNat)) S') :
  zC 116 #[int q] S0 K:=by
 refine zGh (sf:=s116) Tryz.func116 fun H=>?_
 obtain ⟨n0,rfl⟩:∃ n:Nat,q=n:=⟨q.toNat,by omega⟩
 rw [Int.toNat_natCast] at k
 refine zR (zj O (zN (vB (zj O (za (W_leq O O fun t5 h5=>zN ?_))))))
 rcases t5 with _|_
 ·replace h5:=bF h5
  refine zn O (zt (ze (zR (zj O (zN (zD (zE ?_)))))))
  refine vj (fun E S m_=>∃ (n:Nat) (o:Bs),E=Env.lst [(0,int n),(3,str o)]∧Loc [] S0 S []∧(n≤1099511627776)∧((0<n∧dig n0=dig n++o)∨(n=0∧dig n0=o))∧(o.length+n≤n0)∧m_=2*n) ?_ ?_
  ·skip
   refine ⟨_,_,?le,n0,[],O,H,(by omega),(.inl ⟨by omega,by simp⟩),(by simp),O⟩
   case le=>exact Env.qle ⟨O,O,⟨⟩⟩
  ·skip
   rintro _ S _ ⟨n,o,rfl,H,hn,ho,hol,rfl⟩
   refine vB (zj O (za (W_gtr O O fun t7 h7=>zN ?_)))
   rcases t7 with _|_
   ·replace h7:=bF h7
    refine zn O (vh (zK (zK (vp (ze (zR (zj O (za (W_catS O O (by simp;omega) (zj O (zN (zh (zP O ?_)))))))))))))
    rcases ho with ⟨h9,_⟩ | ⟨_,ho⟩
    ·omega
    ·rw [ho] at k;exact k _ H.qx
   ·replace h7:=bT h7
    refine zr O (zt (ze (zE (zR (zj O (za (W_rem (m:=10) O O (by decide) (zAd O O (za (W_conv (m:=((dg (n % 10)).toNat:Nat)) O (by rw [dg_nat (by omega),wrapu8_in (by omega) (by omega)];omega) (za (vd (cs:=[_]) H O O fun b12 S hb12 hE H=>za (W_bytesStr (l:=[dg (n % 10)]) O (H.cells .h O) (zj O (za (W_catS (l:=[dg (n % 10)]) O O (by simp;omega) (zj O (zN (zJ (zj O (za (W_quo (m:=10) O O (by decide) (by omega) (zj O (vf (z_ (ze ?_))))))))))))))))))))))))))
    refine ⟨_,_,?lt,?le,(n / 10),(dg (n % 10)::o),O,(H.sub (.cons _ .slnil)),(by omega),(by
     rcases ho with ⟨_,ho⟩ | ⟨h9,_⟩
     ·by_cases h8:n<10
      ·exact .inr ⟨by omega,by rw [ho,dig_lt h8,Nat.mod_eq_of_lt h8];rfl⟩
      ·exact .inl ⟨by omega,by rw [ho,dig_ge h8];simp⟩
     ·omega),(by simp;omega),rfl⟩
    case lt=>omega
    case le=>exact Env.qle ⟨O,O,⟨⟩⟩
 ·replace h5:=bT h5
  exact absurd h5 (by omega)
theorem ct197 (hs:Sl S0 2 a (zS l)) (n0:1≤n) (hn:n+2*l.length≤1099511627776) (hm:Marked 2 mkE n l) (k:∀  S',Ext [] S0 S'→K (int (n+2*l.length:Nat)) S') :
  zC 197 #[.slice a l.length c,int n] S0 K:=by
 refine zGh (sf:=s197) Tryz.func197 fun H=>zR (zj O (zN (vB (zj O (zN (zE ?_))))))
 refine vj (fun E S m_=>∃ (i:Nat),E=Env.lst [(0,.slice a l.length c),(1,int (n+2*i:Nat)),(5,int i)]∧Loc [] S0 S []∧(i≤l.length)∧m_=l.length-i) ?_ ?_
 ·skip
  refine ⟨_,_,?le,0,O,H,(by omega),O⟩
  case le=>exact Env.qle ⟨O,O,O,⟨⟩⟩
 ·skip
  rintro _ S _ ⟨i,rfl,H,hi,rfl⟩
  refine vB (zj O (zj O (zLl O (za (vq O O fun t9 h9=>zN ?_)))))
  rcases t9 with _|_
  ·replace h9:=bF h9
   refine zn O (vh (zK (zK (vp (ze (zR (zj O (zj O (zN (zh (zP O ?_)))))))))))
   rw [show i=l.length by omega]
   exact k _ H.qx
  ·replace h9:=bT h9
   obtain ⟨x,hx⟩:∃ x,l[i]? = some x:=⟨l[i]'(by omega),by simp⟩
   obtain ⟨p,f,rfl,hc⟩:=hs.row i _ (endRows_at hx)
   obtain rfl:=hm i x hx
   have hni:n+2*i+2≤1099511627776:=by omega
   obtain ⟨m,hmm⟩:∃ m,m=n+2*i:=⟨_,rfl⟩
   rw [← hmm] at hc hni ⊢
   refine zr O (zt (ze (zD (zE (vB (zj O (zj O (zIa O O (vw O (za (zF O (vv (i:=0) (H.qx.cells hc) O) (zj O (za (W_neI O O fun t18 h18=>zN ?_))))))))))))))
   rcases t18 with _|_
   ·replace h18:=bF h18
    refine zn O (zt (ze (zR (zj O (zAd O O (zj O (zN (vB (zj O (zj O (zIa O O (vw O (za (zF O (vv (i:=1) (H.qx.cells hc) O) (zj O (za (W_neI O O fun t27 h27=>zN ?_)))))))))))))))))
    rcases t27 with _|_
    ·replace h27:=bF h27
     refine zn O (zt (ze (zJ (zj O (zAd O O (zj O (vf (z_ (ze (zJ (zj O (zAd O O (zj O (zN ?_))))))))))))))
     refine ⟨_,_,?lt,?le,(i+1),O,H,(by omega),O⟩
     case lt=>omega
     case le=>exact Env.qle ⟨rfl,(by show some (int _)=some (int _);congr 2;omega),rfl,trivial⟩
    ·replace h27:=bT h27
     exact absurd (by simp only [mkE,mkE]<;>omega) h27
   ·replace h18:=bT h18
    exact absurd (by simp only [mkE,mkE]<;>omega) h18
theorem ct117 {l:List Rule} (hs:Sl S0 7 a (z5 l)) (n0:1≤n) (hn:n+7*l.length≤1099511627776) (hm:Marked 7 mkR n l) (k:∀  S',Ext [] S0 S'→K (int (n+7*l.length:Nat)) S') :
  zC 117 #[.slice a l.length c,int n] S0 K:=by
 refine zGh (sf:=s117) Tryz.func117 fun H=>zR (zj O (zN (vB (zj O (zN (zE ?_))))))
 refine vj (fun E S m_=>∃ (i:Nat),E=Env.lst [(0,.slice a l.length c),(1,int (n+7*i:Nat)),(5,int i)]∧Loc [] S0 S []∧(i≤l.length)∧m_=l.length-i) ?_ ?_
 ·skip
  refine ⟨_,_,?le,0,O,H,(by omega),O⟩
  case le=>exact Env.qle ⟨O,O,O,⟨⟩⟩
 ·skip
  rintro _ S _ ⟨i,rfl,H,hi,rfl⟩
  refine vB (zj O (zj O (zLl O (za (vq O O fun t9 h9=>zN ?_)))))
  rcases t9 with _|_
  ·replace h9:=bF h9
   refine zn O (vh (zK (zK (vp (ze (zR (zj O (zj O (zN (zh (zP O ?_)))))))))))
   rw [show i=l.length by omega]
   exact k _ H.qx
  ·replace h9:=bT h9
   obtain ⟨x,hx⟩:∃ x,l[i]? = some x:=⟨l[i]'(by omega),by simp⟩
   obtain ⟨p,f,rfl,hc⟩:=hs.row i _ (ruleRows_at hx)
   obtain rfl:=hm i x hx
   have hni:n+7*i+7≤1099511627776:=by omega
   obtain ⟨m,hmm⟩:∃ m,m=n+7*i:=⟨_,rfl⟩
   rw [← hmm] at hc hni ⊢
   refine zr O (zt (ze (zD (zE (vB (zj O (zj O (zIa O O (vw O (za (zF O (vv (i:=0) (H.qx.cells hc) O) (zj O (za (W_rem (m:=3) O O (by decide) (za (W_eqI O O fun t19 h19=>za (W_neBv O O fun t20 h20=>zN ?_)))))))))))))))))
   rcases t20 with _|_
   ·replace h20:=bF h20
    refine zn O (zt (ze (zR (zj O (zAd O O (zj O (zN (vB (zj O (zj O (zIa O O (vw O (za (zF O (vv (i:=1) (H.qx.cells hc) O) (zj O (za (W_neI O O fun t29 h29=>zN ?_)))))))))))))))))
    rcases t29 with _|_
    ·replace h29:=bF h29
     refine zn O (zt (ze (zR (zj O (zAd O O (zj O (zN (vB (zj O (zj O (zIa O O (vw O (za (zF O (vv (i:=2) (H.qx.cells hc) O) (zj O (za (W_neI O O fun t38 h38=>zN ?_)))))))))))))))))
     rcases t38 with _|_
     ·replace h38:=bF h38
      refine zn O (zt (ze (zR (zj O (zAd O O (zj O (zN (vB (zj O (zj O (zIa O O (vw O (za (zF O (vv (i:=3) (H.qx.cells hc) O) (zj O (za (W_neI O O fun t47 h47=>zN ?_)))))))))))))))))
      rcases t47 with _|_
      ·replace h47:=bF h47
       refine zn O (zt (ze (zR (zj O (zAd O O (zj O (zN (vB (zj O (zj O (zIa O O (vw O (za (zF O (vv (i:=4) (H.qx.cells hc) O) (zj O (za (W_neI O O fun t56 h56=>zN ?_)))))))))))))))))
       rcases t56 with _|_
       ·replace h56:=bF h56
        refine zn O (zt (ze (zR (zj O (zAd O O (zj O (zN (vB (zj O (zj O (zIa O O (vw O (za (zF O (vv (i:=5) (H.qx.cells hc) O) (zj O (za (W_neI O O fun t65 h65=>zN ?_)))))))))))))))))
        rcases t65 with _|_
        ·replace h65:=bF h65
         refine zn O (zt (ze (zR (zj O (zAd O O (zj O (zN (vB (zj O (zj O (zIa O O (vw O (za (zF O (vv (i:=6) (H.qx.cells hc) O) (zj O (za (W_neI O O fun t74 h74=>zN ?_)))))))))))))))))
         rcases t74 with _|_
         ·replace h74:=bF h74
          refine zn O (zt (ze (zJ (zj O (zAd O O (zj O (vf (z_ (ze (zJ (zj O (zAd O O (zj O (zN ?_))))))))))))))
          refine ⟨_,_,?lt,?le,(i+1),O,H,(by omega),O⟩
          case lt=>omega
          case le=>exact Env.qle ⟨rfl,(by show some (int _)=some (int _);congr 2;omega),rfl,trivial⟩
         ·replace h74:=bT h74
          exact absurd (by simp only [mkR,mkE]<;>omega) h74
        ·replace h65:=bT h65
         exact absurd (by simp only [mkR,mkE]<;>omega) h65
       ·replace h56:=bT h56
        exact absurd (by simp only [mkR,mkE]<;>omega) h56
      ·replace h47:=bT h47
       exact absurd (by simp only [mkR,mkE]<;>omega) h47
     ·replace h38:=bT h38
      exact absurd (by simp only [mkR,mkE]<;>omega) h38
    ·replace h29:=bT h29
     exact absurd (by simp only [mkR,mkE]<;>omega) h29
   ·replace h20:=bT h20
    exact absurd (by rw [Bool.eq_iff_iff,h19];simp only [mkR,decide_eq_true_iff];omega) h20
theorem ct119 {l:List Conn} (hs:Sl S0 7 a (zY l)) (n0:1≤n) (hn:n+7*l.length≤1099511627776) (hm:Marked 7 mkC n l) (k:∀  S',Ext [] S0 S'→K (int (n+7*l.length:Nat)) S') :
  zC 119 #[.slice a l.length c,int n] S0 K:=by
 refine zGh (sf:=s119) Tryz.func119 fun H=>zR (zj O (zN (vB (zj O (zN (zE ?_))))))
 refine vj (fun E S m_=>∃ (i:Nat),E=Env.lst [(0,.slice a l.length c),(1,int (n+7*i:Nat)),(5,int i)]∧Loc [] S0 S []∧(i≤l.length)∧m_=l.length-i) ?_ ?_
 ·skip
  refine ⟨_,_,?le,0,O,H,(by omega),O⟩
  case le=>exact Env.qle ⟨O,O,O,⟨⟩⟩
 ·skip
  rintro _ S _ ⟨i,rfl,H,hi,rfl⟩
  refine vB (zj O (zj O (zLl O (za (vq O O fun t9 h9=>zN ?_)))))
  rcases t9 with _|_
  ·replace h9:=bF h9
   refine zn O (vh (zK (zK (vp (ze (zR (zj O (zj O (zN (zh (zP O ?_)))))))))))
   rw [show i=l.length by omega]
   exact k _ H.qx
  ·replace h9:=bT h9
   obtain ⟨x,hx⟩:∃ x,l[i]? = some x:=⟨l[i]'(by omega),by simp⟩
   obtain ⟨p,f,rfl,hc⟩:=hs.row i _ (vK hx)
   obtain rfl:=hm i x hx
   have hni:n+7*i+7≤1099511627776:=by omega
   obtain ⟨m,hmm⟩:∃ m,m=n+7*i:=⟨_,rfl⟩
   rw [← hmm] at hc hni ⊢
   refine zr O (zt (ze (zD (zE (vB (zj O (zj O (zIa O O (vw O (vw O (za (zF O (vv (i:=0) (H.qx.cells hc) O) (zj O (za (W_neI O O fun t19 h19=>zN ?_)))))))))))))))
   rcases t19 with _|_
   ·replace h19:=bF h19
    refine zn O (zt (ze (zR (zj O (zAd O O (zj O (zN (vB (zj O (zj O (zIa O O (vw O (vw O (za (zF O (vv (i:=1) (H.qx.cells hc) O) (zj O (za (W_neI O O fun t29 h29=>zN ?_))))))))))))))))))
    rcases t29 with _|_
    ·replace h29:=bF h29
     refine zn O (zt (ze (zR (zj O (zAd O O (zj O (zN (vB (zj O (zj O (zIa O O (vw O (vw O (za (zF O (vv (i:=2) (H.qx.cells hc) O) (zj O (za (W_neI O O fun t39 h39=>zN ?_))))))))))))))))))
     rcases t39 with _|_
     ·replace h39:=bF h39
      refine zn O (zt (ze (zR (zj O (zAd O O (zj O (zN (vB (zj O (zj O (zIa O O (vw O (vw O (za (zF O (vv (i:=3) (H.qx.cells hc) O) (zj O (za (W_neI O O fun t49 h49=>zN ?_))))))))))))))))))
      rcases t49 with _|_
      ·replace h49:=bF h49
       refine zn O (zt (ze (zR (zj O (zAd O O (zj O (zN (zD (zD (vc [] (vI 0 O O O (vI 1 O O O (vM 2 O O (fun _ _ hK=>vl O O (by omega) (by omega) hK) (zLf 3 O O O (vi 4 O O (fun S' hS'=>zG fun K hK=>zF O (zH (hS' O) (by simp) (vv (i:=4) (H.qx.cells hc) O)) hK) (vI 5 O O O (zB 6 (by kernel_rfl) O O (zv (zU O (ct116 (by omega) (by omega) fun S hE =>?_))))))))))))))))))))
       replace H:=H.call hE
       refine ⟨fun _=>hE.up.ext,zCm 7 O O (fun S' _=>zG fun K hK=>W_neSd O O hK) fun t59 h59=>zX (ze ?_)⟩
       rcases t59 with _|_
       ·replace h59:=bF h59
        refine zn O (zt (ze (zR (zj O (zAd O O (zj O (zN (zD (zD (vc [] (vI 0 O O O (vI 1 O O O (vM 2 O O (fun _ _ hK=>vl O O (by omega) (by omega) hK) (zLf 3 O O O (vi 4 O O (fun S' hS'=>zG fun K hK=>zF O (zH (hS' O) (by simp) (vv (i:=5) (H.qx.cells hc) O)) hK) (vI 5 O O O (zB 6 (by kernel_rfl) O O (zv (zU O (ct116 (by omega) (by omega) fun S hE =>?_))))))))))))))))))))
        replace H:=H.call hE
        refine ⟨fun _=>hE.up.ext,zCm 7 O O (fun S' _=>zG fun K hK=>W_neSd O O hK) fun t69 h69=>zX (ze ?_)⟩
        rcases t69 with _|_
        ·replace h69:=bF h69
         refine zn O (zt (ze (zR (zj O (zAd O O (zj O (zN (zD (zD (vc [] (vI 0 O O O (vI 1 O O O (vM 2 O O (fun _ _ hK=>vl O O (by omega) (by omega) hK) (zLf 3 O O O (vi 4 O O (fun S' hS'=>zG fun K hK=>zF O (zH (hS' O) (by simp) (vv (i:=6) (H.qx.cells hc) O)) hK) (vI 5 O O O (zB 6 (by kernel_rfl) O O (zv (zU O (ct116 (by omega) (by omega) fun S hE =>?_))))))))))))))))))))
         replace H:=H.call hE
         refine ⟨fun _=>hE.up.ext,zCm 7 O O (fun S' _=>zG fun K hK=>W_neSd O O hK) fun t79 h79=>zX (ze ?_)⟩
         rcases t79 with _|_
         ·replace h79:=bF h79
          refine zn O (zt (ze (zJ (zj O (zAd O O (zj O (vf (z_ (ze (zJ (zj O (zAd O O (zj O (zN ?_))))))))))))))
          refine ⟨_,_,?lt,?le,(i+1),O,H,(by omega),O⟩
          case lt=>omega
          case le=>exact Env.qle ⟨rfl,(by show some (int _)=some (int _);congr 2;omega),rfl,trivial⟩
         ·replace h79:=bT h79
          exact absurd (mkT_eq (by omega)) h79
        ·replace h69:=bT h69
         exact absurd (mkT_eq (by omega)) h69
       ·replace h59:=bT h59
        exact absurd (mkT_eq (by omega)) h59
      ·replace h49:=bT h49
       exact absurd (by simp only [mkC,mkE]<;>omega) h49
     ·replace h39:=bT h39
      exact absurd (by simp only [mkC,mkE]<;>omega) h39
    ·replace h29:=bT h29
     exact absurd (by simp only [mkC,mkE]<;>omega) h29
   ·replace h19:=bT h19
    exact absurd (by simp only [mkC,mkE]<;>omega) h19
theorem ct49 {l:List Seg} (hs:Sl S0 7 a (segRows l)) (n0:1≤n) (hn:n+7*l.length≤1099511627776) (hm:Marked 7 mkS n l) (k:∀  S',Ext [] S0 S'→K (int (n+7*l.length:Nat)) S') :
  zC 49 #[.slice a l.length c,int n] S0 K:=by
 refine zGh (sf:=s49) Tryz.func49 fun H=>zR (zj O (zN (vB (zj O (zN (zE ?_))))))
 refine vj (fun E S m_=>∃ (i:Nat),E=Env.lst [(0,.slice a l.length c),(1,int (n+7*i:Nat)),(5,int i)]∧Loc [] S0 S []∧(i≤l.length)∧m_=l.length-i) ?_ ?_
 ·skip
  refine ⟨_,_,?le,0,O,H,(by omega),O⟩
  case le=>exact Env.qle ⟨O,O,O,⟨⟩⟩
 ·skip
  rintro _ S _ ⟨i,rfl,H,hi,rfl⟩
  refine vB (zj O (zj O (zLl O (za (vq O O fun t9 h9=>zN ?_)))))
  rcases t9 with _|_
  ·replace h9:=bF h9
   refine zn O (vh (zK (zK (vp (ze (zR (zj O (zj O (zN (zh (zP O ?_)))))))))))
   rw [show i=l.length by omega]
   exact k _ H.qx
  ·replace h9:=bT h9
   obtain ⟨x,hx⟩:∃ x,l[i]? = some x:=⟨l[i]'(by omega),by simp⟩
   obtain ⟨p,f,rfl,hc⟩:=hs.row i _ (segRows_at hx)
   obtain rfl:=hm i x hx
   have hni:n+7*i+7≤1099511627776:=by omega
   obtain ⟨m,hmm⟩:∃ m,m=n+7*i:=⟨_,rfl⟩
   rw [← hmm] at hc hni ⊢
   refine zr O (zt (ze (zD (zE (vB (zj O (zj O (zIa O O (vw O (vw O (za (zF O (vv (i:=0) (H.qx.cells hc) O) (zj O (za (W_neI O O fun t19 h19=>zN ?_)))))))))))))))
   rcases t19 with _|_
   ·replace h19:=bF h19
    refine zn O (zt (ze (zR (zj O (zAd O O (zj O (zN (vB (zj O (zj O (zIa O O (vw O (vw O (za (zF O (vv (i:=1) (H.qx.cells hc) O) (zj O (za (W_neI O O fun t29 h29=>zN ?_))))))))))))))))))
    rcases t29 with _|_
    ·replace h29:=bF h29
     refine zn O (zt (ze (zR (zj O (zAd O O (zj O (zN (vB (zj O (zj O (zIa O O (vw O (vw O (za (zF O (vv (i:=2) (H.qx.cells hc) O) (zj O (za (W_neI O O fun t39 h39=>zN ?_))))))))))))))))))
     rcases t39 with _|_
     ·replace h39:=bF h39
      refine zn O (zt (ze (zR (zj O (zAd O O (zj O (zN (vB (zj O (zj O (zIa O O (vw O (vw O (za (zF O (vv (i:=3) (H.qx.cells hc) O) (zj O (za (W_neI O O fun t49 h49=>zN ?_))))))))))))))))))
      rcases t49 with _|_
      ·replace h49:=bF h49
       refine zn O (zt (ze (zR (zj O (zAd O O (zj O (zN (vB (zj O (zj O (zIa O O (vw O (za (zF O (vv (i:=4) (H.qx.cells hc) O) (zj O (za (W_neI O O fun t58 h58=>zN ?_)))))))))))))))))
       rcases t58 with _|_
       ·replace h58:=bF h58
        refine zn O (zt (ze (zR (zj O (zAd O O (zj O (zN (vB (zj O (zj O (zIa O O (vw O (za (zF O (vv (i:=5) (H.qx.cells hc) O) (zj O (za (W_neI O O fun t67 h67=>zN ?_)))))))))))))))))
        rcases t67 with _|_
        ·replace h67:=bF h67
         refine zn O (zt (ze (zR (zj O (zAd O O (zj O (zN (zD (zD (vc [] (vI 0 O O O (vI 1 O O O (vM 2 O O (fun _ _ hK=>vl O O (by omega) (by omega) hK) (zLf 3 O O O (vi 4 O O (fun S' hS'=>zG fun K hK=>zF O (zH (hS' O) (by simp) (vv (i:=6) (H.qx.cells hc) O)) hK) (vI 5 O O O (zB 6 (by kernel_rfl) O O (zv (zU O (ct116 (by omega) (by omega) fun S hE =>?_))))))))))))))))))))
         replace H:=H.call hE
         refine ⟨fun _=>hE.up.ext,zCm 7 O O (fun S' _=>zG fun K hK=>W_neSd O O hK) fun t77 h77=>zX (ze ?_)⟩
         rcases t77 with _|_
         ·replace h77:=bF h77
          refine zn O (zt (ze (zJ (zj O (zAd O O (zj O (vf (z_ (ze (zJ (zj O (zAd O O (zj O (zN ?_))))))))))))))
          refine ⟨_,_,?lt,?le,(i+1),O,H,(by omega),O⟩
          case lt=>omega
          case le=>exact Env.qle ⟨rfl,(by show some (int _)=some (int _);congr 2;omega),rfl,trivial⟩
         ·replace h77:=bT h77
          exact absurd (mkT_eq (by omega)) h77
        ·replace h67:=bT h67
         exact absurd (by simp only [mkS,mkE]<;>omega) h67
       ·replace h58:=bT h58
        exact absurd (by simp only [mkS,mkE]<;>omega) h58
      ·replace h49:=bT h49
       exact absurd (by simp only [mkS,mkE]<;>omega) h49
     ·replace h39:=bT h39
      exact absurd (by simp only [mkS,mkE]<;>omega) h39
    ·replace h29:=bT h29
     exact absurd (by simp only [mkS,mkE]<;>omega) h29
   ·replace h19:=bT h19
    exact absurd (by simp only [mkS,mkE]<;>omega) h19
theorem ct118 (hs:Sl S0 2 a (zS l)) (n0:1≤n) (hn:n+2*l.length≤1099511627776) (hm:Marked 2 mkE n l) (k:∀  S',Ext [] S0 S'→K (int (n+2*l.length:Nat)) S') :
  zC 118 #[.agg #[.slice a l.length c],int n] S0 K:=by
 refine zGh (sf:=s118) Tryz.func118 fun H=>zR (zBx H O O fun b2 S hb2 hE H=>zj O (vE (vw O (zL1 H O .h O (zj O (zCl O (ct197 (hs.mono H.qx) n0 hn hm fun S hE =>?_)))))))
 replace H:=H.call hE
 refine zj O (zN (vB (zj O (za (vq O O fun t10 h10=>zN ?_)))))
 rcases t10 with _|_
 ·replace h10:=bF h10
  refine zn O (zt (ze (zR (zj O (zj O (zN (zh (zP O ?_))))))))
  exact k _ H.qx
 ·replace h10:=bT h10
  exact absurd h10 (by omega)
theorem ct48 {a1 a2 a3:Option Addr} {c1 c2 c3:Nat} {b:Box} (h1:Sl S0 7 a1 (z5 b.rs)) (h2:Sl S0 2 a2 (zS b.es)) (h3:Sl S0 7 a3 (zY b.cs)) (n0:1≤n) (hn:n+7*b.rs.length+2*b.es.length+7*b.cs.length≤1099511627776) (m1:Marked 7 mkR n b.rs) (m2:Marked 2 mkE (n+7*b.rs.length) b.es) (m3:Marked 7 mkC (n+7*b.rs.length+2*b.es.length) b.cs) (k:∀  S',Ext [] S0 S'→K (int (n+7*b.rs.length+2*b.es.length+7*b.cs.length:Nat)) S') :
  zC 48 #[.agg #[.slice a1 b.rs.length c1,.slice a2 b.es.length c2,.slice a3 b.cs.length c3],int n] S0 K:=by
 refine zGh (sf:=s48) Tryz.func48 fun H=>zR (zBx H O O fun b2 S hb2 hE H=>zj O (vE (vw O (zL1 H O .h O (zj O (zCl O (ct117 (h1.mono H.qx) n0 (by omega) m1 fun S hE =>?_)))))))
 replace H:=H.call hE
 refine zj O (zN (vB (zj O (za (vq O O fun t10 h10=>zN ?_)))))
 rcases t10 with _|_
 ·replace h10:=bF h10
  refine zn O (zt (ze (zR (vw O (zLn (vs:=[_]) H O .h O (zj O (zCl O (ct118 (h2.mono H.qx) (by omega) (by omega) m2 fun S hE =>?_))))))))
  replace H:=H.call hE
  refine zj O (zN (vB (zj O (za (vq O O fun t16 h16=>zN ?_)))))
  rcases t16 with _|_
  ·replace h16:=bF h16
   refine zn O (zt (ze (zR (vw O (zL1 H O .h O (zj O (zCl O (ct119 (h3.mono H.qx) (by omega) (by omega) m3 fun S hE =>?_))))))))
   replace H:=H.call hE
   refine zj O (zN (vB (zj O (za (vq O O fun t22 h22=>zN ?_)))))
   rcases t22 with _|_
   ·replace h22:=bF h22
    refine zn O (zt (ze (zR (zj O (zj O (zN (zh (zP O ?_))))))))
    exact k _ H.qx
   ·replace h22:=bT h22
    exact absurd h22 (by omega)
  ·replace h16:=bT h16
   exact absurd h16 (by omega)
 ·replace h10:=bT h10
  exact absurd h10 (by omega)
end
section
open Go
theorem subl_iff {cs r:List Value} {o k:Nat}:subl cs o k=some r↔o+k≤cs.length∧r.length=k∧∀ t,t<k→r[t]? = cs[o+t]? := by
 unfold subl
 split
 ·rename_i h
  constructor
  ·intro e
   cases e
   refine ⟨h,by simp;omega,fun t ht=>?_⟩
   rw [List.getElem?_take,if_pos ht,List.getElem?_drop]
  ·rintro ⟨_,h2,h3⟩
   congr 1
   apply List.ext_getElem?
   intro t
   rw [List.getElem?_take]
   split
   ·rename_i ht
    rw [List.getElem?_drop,h3 t ht]
   ·rw [List.getElem?_eq_none (by omega)]
 ·exact ⟨nofun,fun h9=>absurd h9.1 (by assumption)⟩
def RowsAt (cs:List Value) (off k:Nat) (rows:List (List Value)):Prop:=∀ j r,rows[j]? = some r→subl cs (off+j*k) k=some r
theorem RowsAt.le {cs r:List Value} {off k j:Nat} {rows:List (List Value)} (h:RowsAt cs off k rows) (hr:rows[j]? = some r):off+j*k+k≤cs.length:=(subl_iff.1 (h j r hr)).1
theorem RowsAt.set {cs r:List Value} {off k i j:Nat} {rows:List (List Value)} {v:Value} (h:RowsAt cs off k rows) (hr:rows[i]? = some r) (hj:j<k):RowsAt (setl cs (off+i*k+j) [v]) off k (rows.set i (r.set j v)):=by
 have hle:=h.le hr
 have hrl:=(subl_iff.1 (h i r hr)).2.1
 rw [setl_one (by omega)]
 intro j' r' h'
 rw [List.getElem?_set] at h'
 split at h'
 ·rename_i e
  subst e
  split at h'
  ·cases h'
   obtain ⟨h1,h2,h3⟩:=subl_iff.1 (h i r hr)
   refine subl_iff.2 ⟨by simpa using h1,by simpa using h2,fun t ht=>?_⟩
   rw [List.getElem?_set,List.getElem?_set,h3 t ht]
   by_cases e:j=t
   ·subst e;simp [show j<r.length by omega,show off+i*k+j<cs.length by omega]
   ·rw [if_neg e,if_neg (by omega)]
  ·cases h'
 ·rename_i e
  obtain ⟨h1,h2,h3⟩:=subl_iff.1 (h j' r' h')
  refine subl_iff.2 ⟨by simpa using h1,h2,fun t ht=>?_⟩
  rw [List.getElem?_set,h3 t ht,if_neg]
  rcases Nat.lt_or_gt_of_ne e with e | e
  ·have:=Nat.mul_le_mul_right k (show i+1≤j' by omega)
   rw [Nat.add_mul] at this;omega
  ·have:=Nat.mul_le_mul_right k (show j'+1≤i by omega)
   rw [Nat.add_mul] at this;omega
theorem RowsAt.sl {S:St} {m off k:Nat} {cs:List Value} {e:TypeId} {rows:List (List Value)} (h:RowsAt cs off k rows) (hm:S m=some ⟨Cs cs e,true⟩) (j:Nat) (r:List Value) (hr:rows[j]? = some r):S.cells? ⟨m,off+j*k,none⟩ k=some r:=cells_own hm (h j r hr)
theorem set_get {α:Type} {l:List α} {i:Nat} {r:α} (h:l[i]? = some r) (r':α):(l.set i r')[i]? = some r':=by
 have:=(List.getElem?_eq_some_iff.1 h).1
 simp [this]
end
section
variable {S0:St} {K:Value→St→Prop}
variable {csm:List Value} {c m n off:Nat} {a:Option Addr} {e9:TypeId}
theorem ct196 {l:List End} (ho:S0 m=some ⟨Cs csm e9,true⟩) (n0:1≤n) (hn:n+2*l.length≤1099511627776) (hR0:RowsAt csm off 2 (zS l)) (k:∀ (l':List End) (cs':List Value) S',Ext [m] S0 S'→S' m=some ⟨Cs cs' e9,true⟩→RowsAt cs' off 2 (zS l')→l'.length=l.length→Marked 2 mkE n l'→K (int (n+2*l.length:Nat)) S') :
  zC 196 #[sl m off l.length c,int n] S0 K:=by
 refine zGo (sf:=s196) Tryz.func196 ?_
 have H:=Loc.start1 ho
 refine zR (zj O (zN (vB (zj O (zN (zE ?_))))))
 refine vj (fun E S m_=>∃ (i:Nat) (csb:List Value) (R:List End),E=Env.lst [(0,sl m off l.length c),(1,int (n+2*i:Nat)),(5,int i)]∧Loc [m] S0 S [(m,Cs csb e9)]∧(i≤l.length)∧(RowsAt csb off 2 (zS R))∧(R.length=l.length)∧(∀ j y,j<i→R[j]? = some y→y=mkE (n+2*j))∧m_=l.length-i) ?_ ?_
 ·skip
  refine ⟨_,_,?le,0,csm,l,O,H,(by omega),hR0,O,(fun j y h9=>absurd h9 (by omega)),O⟩
  case le=>exact Env.qle ⟨O,O,O,⟨⟩⟩
 ·skip
  rintro _ S _ ⟨i,csb,R,rfl,H,hi,hR,hl,hm,rfl⟩
  refine vB (zj O (zj O (zLl O (za (vq O O fun t9 h9=>zN ?_)))))
  rcases t9 with _|_
  ·replace h9:=bF h9
   refine zn O (vh (zK (zK (vp (ze (zR (zj O (zj O (zN (zh (zP O ?_)))))))))))
   rw [show i=l.length by omega] at hm ⊢
   exact k R _ _ H.qx (H.get .h) hR hl fun j y hy=>hm j y (by have:=(List.getElem?_eq_some_iff.1 hy).1;omega) hy
  ·replace h9:=bT h9
   obtain ⟨x,hx⟩:∃ x,R[i]? = some x:=⟨R[i]'(by omega),by simp⟩
   obtain ⟨q,hq⟩:∃ q,q=n+2*i:=⟨_,rfl⟩
   have hq2:q+2≤1099511627776:=by omega
   rw [← hq]
   refine zr O (zt (ze (zD (zE (zR (zj O (zj O (zj O (zIa O O (vw O (za (W_store H O O O O O (by decide) .h (Nat.le_trans (m:=off+i*2+2) (by omega) (hR.le (endRows_at hx))) O fun S hE H=>?_))))))))))))
   have hR1:=hR.set (v:=int q) (j:=0) (endRows_at hx) (by decide)
   have hr1:=set_get (endRows_at hx) ((x.row).set 0 (int q))
   refine vE (zj O (zAd O O (zj O (vE (zj O (zj O (zj O (zIa O O (vw O (za (W_store H O O O O O (by decide) .h (Nat.le_trans (m:=off+i*2+2) (by omega) (hR1.le hr1)) O fun S hE H=>?_)))))))))))
   have hR2:=hR1.set (v:=int (q+1:Nat)) (j:=1) hr1 (by decide)
   have hr2:=set_get hr1 (((x.row).set 0 (int q)).set 1 (int (q+1:Nat)))
   refine zN (zJ (zj O (zAd O O (zj O (vf (z_ (ze (zJ (zj O (zAd O O (zj O (zN ?_))))))))))))
   refine ⟨_,_,?lt,?le,(i+1),_,(R.set i (mkE q)),O,H,(by omega),(by
    have h9:=hR2
    simp only [List.set_set] at h9
    have h8:(zS R).set i (mkE q).row=zS (R.set i (mkE q)):=by simp [zS,List.map_set]
    rw [← h8]
    exact h9),(by simpa using hl),(fun j y h9 hy=>by
    rw [List.getElem?_set] at hy
    split at hy
    ·rename_i e;subst e;split at hy<;>cases hy;rw [hq]
    ·exact hm j y (by omega) hy),rfl⟩
   case lt=>omega
   case le=>exact Env.qle ⟨rfl,(by show some (int _)=some (int _);congr 2;omega),rfl,trivial⟩
theorem ct113 {l:List Rule} (ho:S0 m=some ⟨Cs csm e9,true⟩) (n0:1≤n) (hn:n+7*l.length≤1099511627776) (hR0:RowsAt csm off 7 (z5 l)) (k:∀ (l':List Rule) (cs':List Value) S',Ext [m] S0 S'→S' m=some ⟨Cs cs' e9,true⟩→RowsAt cs' off 7 (z5 l')→l'.length=l.length→Marked 7 mkR n l'→K (int (n+7*l.length:Nat)) S') :
  zC 113 #[sl m off l.length c,int n] S0 K:=by
 refine zGo (sf:=s113) Tryz.func113 ?_
 have H:=Loc.start1 ho
 refine zR (zj O (zN (vB (zj O (zN (zE ?_))))))
 refine vj (fun E S m_=>∃ (i:Nat) (csb:List Value) (R:List Rule),E=Env.lst [(0,sl m off l.length c),(1,int (n+7*i:Nat)),(5,int i)]∧Loc [m] S0 S [(m,Cs csb e9)]∧(i≤l.length)∧(RowsAt csb off 7 (z5 R))∧(R.length=l.length)∧(∀ j y,j<i→R[j]? = some y→y=mkR (n+7*j))∧m_=l.length-i) ?_ ?_
 ·skip
  refine ⟨_,_,?le,0,csm,l,O,H,(by omega),hR0,O,(fun j y h9=>absurd h9 (by omega)),O⟩
  case le=>exact Env.qle ⟨O,O,O,⟨⟩⟩
 ·skip
  rintro _ S _ ⟨i,csb,R,rfl,H,hi,hR,hl,hm,rfl⟩
  refine vB (zj O (zj O (zLl O (za (vq O O fun t9 h9=>zN ?_)))))
  rcases t9 with _|_
  ·replace h9:=bF h9
   refine zn O (vh (zK (zK (vp (ze (zR (zj O (zj O (zN (zh (zP O ?_)))))))))))
   rw [show i=l.length by omega] at hm ⊢
   exact k R _ _ H.qx (H.get .h) hR hl fun j y hy=>hm j y (by have:=(List.getElem?_eq_some_iff.1 hy).1;omega) hy
  ·replace h9:=bT h9
   obtain ⟨x,hx⟩:∃ x,R[i]? = some x:=⟨R[i]'(by omega),by simp⟩
   obtain ⟨q,hq⟩:∃ q,q=n+7*i:=⟨_,rfl⟩
   have hq2:q+7≤1099511627776:=by omega
   rw [← hq]
   refine zr O (zt (ze (zD (zE (zR (zj O (zj O (zj O (za (W_rem (m:=3) O O (by decide) (za (W_eqI O O fun t16 h16=>zIa O O (vw O (za (W_store H O O O O O (by decide) .h (Nat.le_trans (m:=off+i*7+7) (by omega) (hR.le (ruleRows_at hx))) O fun S hE H=>?_)))))))))))))))
   have hR1:=hR.set (v:=.bool t16) (j:=0) (ruleRows_at hx) (by decide)
   have hr1:=set_get (ruleRows_at hx) ((x.row).set 0 (.bool t16))
   refine vE (zj O (zAd O O (zj O (vE (zj O (zj O (zj O (zIa O O (vw O (za (W_store H O O O O O (by decide) .h (Nat.le_trans (m:=off+i*7+7) (by omega) (hR1.le hr1)) O fun S hE H=>?_)))))))))))
   have hR2:=hR1.set (v:=int (q+1:Nat)) (j:=1) hr1 (by decide)
   have hr2:=set_get hr1 (((x.row).set 0 (.bool t16)).set 1 (int (q+1:Nat)))
   refine vE (zj O (zAd O O (zj O (vE (zj O (zj O (zj O (zIa O O (vw O (za (W_store H O O O O O (by decide) .h (Nat.le_trans (m:=off+i*7+7) (by omega) (hR2.le hr2)) O fun S hE H=>?_)))))))))))
   have hR3:=hR2.set (v:=int (q+2:Nat)) (j:=2) hr2 (by decide)
   have hr3:=set_get hr2 ((((x.row).set 0 (.bool t16)).set 1 (int (q+1:Nat))).set 2 (int (q+2:Nat)))
   refine vE (zj O (zAd O O (zj O (vE (zj O (zj O (zj O (zIa O O (vw O (za (W_store H O O O O O (by decide) .h (Nat.le_trans (m:=off+i*7+7) (by omega) (hR3.le hr3)) O fun S hE H=>?_)))))))))))
   have hR4:=hR3.set (v:=int (q+3:Nat)) (j:=3) hr3 (by decide)
   have hr4:=set_get hr3 (((((x.row).set 0 (.bool t16)).set 1 (int (q+1:Nat))).set 2 (int (q+2:Nat))).set 3 (int (q+3:Nat)))
   refine vE (zj O (zAd O O (zj O (vE (zj O (zj O (zj O (zIa O O (vw O (za (W_store H O O O O O (by decide) .h (Nat.le_trans (m:=off+i*7+7) (by omega) (hR4.le hr4)) O fun S hE H=>?_)))))))))))
   have hR5:=hR4.set (v:=int (q+4:Nat)) (j:=4) hr4 (by decide)
   have hr5:=set_get hr4 ((((((x.row).set 0 (.bool t16)).set 1 (int (q+1:Nat))).set 2 (int (q+2:Nat))).set 3 (int (q+3:Nat))).set 4 (int (q+4:Nat)))
   refine vE (zj O (zAd O O (zj O (vE (zj O (zj O (zj O (zIa O O (vw O (za (W_store H O O O O O (by decide) .h (Nat.le_trans (m:=off+i*7+7) (by omega) (hR5.le hr5)) O fun S hE H=>?_)))))))))))
   have hR6:=hR5.set (v:=int (q+5:Nat)) (j:=5) hr5 (by decide)
   have hr6:=set_get hr5 (((((((x.row).set 0 (.bool t16)).set 1 (int (q+1:Nat))).set 2 (int (q+2:Nat))).set 3 (int (q+3:Nat))).set 4 (int (q+4:Nat))).set 5 (int (q+5:Nat)))
   refine vE (zj O (zAd O O (zj O (vE (zj O (zj O (zj O (zIa O O (vw O (za (W_store H O O O O O (by decide) .h (Nat.le_trans (m:=off+i*7+7) (by omega) (hR6.le hr6)) O fun S hE H=>?_)))))))))))
   have hR7:=hR6.set (v:=int (q+6:Nat)) (j:=6) hr6 (by decide)
   have hr7:=set_get hr6 ((((((((x.row).set 0 (.bool t16)).set 1 (int (q+1:Nat))).set 2 (int (q+2:Nat))).set 3 (int (q+3:Nat))).set 4 (int (q+4:Nat))).set 5 (int (q+5:Nat))).set 6 (int (q+6:Nat)))
   refine zN (zJ (zj O (zAd O O (zj O (vf (z_ (ze (zJ (zj O (zAd O O (zj O (zN ?_))))))))))))
   refine ⟨_,_,?lt,?le,(i+1),_,(R.set i (mkR q)),O,H,(by omega),(by
    obtain rfl:t16=decide (q % 3=0):=by rw [Bool.eq_iff_iff,h16,decide_eq_true_iff];omega
    have h9:=hR7
    simp only [List.set_set] at h9
    have h8:(z5 R).set i (mkR q).row=z5 (R.set i (mkR q)):=by simp [z5,List.map_set]
    rw [← h8]
    exact h9),(by simpa using hl),(fun j y h9 hy=>by
    rw [List.getElem?_set] at hy
    split at hy
    ·rename_i e;subst e;split at hy<;>cases hy;rw [hq]
    ·exact hm j y (by omega) hy),rfl⟩
   case lt=>omega
   case le=>exact Env.qle ⟨rfl,(by show some (int _)=some (int _);congr 2;omega),rfl,trivial⟩
theorem ct115 {l:List Conn} (ho:S0 m=some ⟨Cs csm e9,true⟩) (n0:1≤n) (hn:n+7*l.length≤1099511627776) (hR0:RowsAt csm off 7 (zY l)) (k:∀ (l':List Conn) (cs':List Value) S',Ext [m] S0 S'→S' m=some ⟨Cs cs' e9,true⟩→RowsAt cs' off 7 (zY l')→l'.length=l.length→Marked 7 mkC n l'→K (int (n+7*l.length:Nat)) S') :
  zC 115 #[sl m off l.length c,int n] S0 K:=by
 refine zGo (sf:=s115) Tryz.func115 ?_
 have H:=Loc.start1 ho
 refine zR (zj O (zN (vB (zj O (zN (zE ?_))))))
 refine vj (fun E S m_=>∃ (i:Nat) (csb:List Value) (R:List Conn),E=Env.lst [(0,sl m off l.length c),(1,int (n+7*i:Nat)),(5,int i)]∧Loc [m] S0 S [(m,Cs csb e9)]∧(i≤l.length)∧(RowsAt csb off 7 (zY R))∧(R.length=l.length)∧(∀ j y,j<i→R[j]? = some y→y=mkC (n+7*j))∧m_=l.length-i) ?_ ?_
 ·skip
  refine ⟨_,_,?le,0,csm,l,O,H,(by omega),hR0,O,(fun j y h9=>absurd h9 (by omega)),O⟩
  case le=>exact Env.qle ⟨O,O,O,⟨⟩⟩
 ·skip
  rintro _ S _ ⟨i,csb,R,rfl,H,hi,hR,hl,hm,rfl⟩
  refine vB (zj O (zj O (zLl O (za (vq O O fun t9 h9=>zN ?_)))))
  rcases t9 with _|_
  ·replace h9:=bF h9
   refine zn O (vh (zK (zK (vp (ze (zR (zj O (zj O (zN (zh (zP O ?_)))))))))))
   rw [show i=l.length by omega] at hm ⊢
   exact k R _ _ H.qx (H.get .h) hR hl fun j y hy=>hm j y (by have:=(List.getElem?_eq_some_iff.1 hy).1;omega) hy
  ·replace h9:=bT h9
   obtain ⟨x,hx⟩:∃ x,R[i]? = some x:=⟨R[i]'(by omega),by simp⟩
   obtain ⟨q,hq⟩:∃ q,q=n+7*i:=⟨_,rfl⟩
   have hq2:q+7≤1099511627776:=by omega
   rw [← hq]
   refine zr O (zt (ze (zD (zE (zR (zj O (zj O (zj O (zIa O O (vw O (vw O (za (W_store H O O O O O (by decide) .h (Nat.le_trans (m:=off+i*7+7) (by omega) (hR.le (vK hx))) O fun S hE H=>?_)))))))))))))
   have hR1:=hR.set (v:=int q) (j:=0) (vK hx) (by decide)
   have hr1:=set_get (vK hx) ((x.row).set 0 (int q))
   refine vE (zj O (zAd O O (zj O (vE (zj O (zj O (zj O (zIa O O (vw O (vw O (za (W_store H O O O O O (by decide) .h (Nat.le_trans (m:=off+i*7+7) (by omega) (hR1.le hr1)) O fun S hE H=>?_))))))))))))
   have hR2:=hR1.set (v:=int (q+1:Nat)) (j:=1) hr1 (by decide)
   have hr2:=set_get hr1 (((x.row).set 0 (int q)).set 1 (int (q+1:Nat)))
   refine vE (zj O (zAd O O (zj O (vE (zj O (zj O (zj O (zIa O O (vw O (vw O (za (W_store H O O O O O (by decide) .h (Nat.le_trans (m:=off+i*7+7) (by omega) (hR2.le hr2)) O fun S hE H=>?_))))))))))))
   have hR3:=hR2.set (v:=int (q+2:Nat)) (j:=2) hr2 (by decide)
   have hr3:=set_get hr2 ((((x.row).set 0 (int q)).set 1 (int (q+1:Nat))).set 2 (int (q+2:Nat)))
   refine vE (zj O (zAd O O (zj O (vE (zj O (zj O (zj O (zIa O O (vw O (vw O (za (W_store H O O O O O (by decide) .h (Nat.le_trans (m:=off+i*7+7) (by omega) (hR3.le hr3)) O fun S hE H=>?_))))))))))))
   have hR4:=hR3.set (v:=int (q+3:Nat)) (j:=3) hr3 (by decide)
   have hr4:=set_get hr3 (((((x.row).set 0 (int q)).set 1 (int (q+1:Nat))).set 2 (int (q+2:Nat))).set 3 (int (q+3:Nat)))
   refine vE (zj O (zAd O O (zj O (vE (zj O (zj O (zj O (zCl O (ct116 (by omega) (by omega) fun S hE =>?_)))))))))
   replace H:=H.call hE
   refine zIa O O (vw O (za (W_store H O O O O O (by decide) .h (Nat.le_trans (m:=off+i*7+7) (by omega) (hR4.le hr4)) O fun S hE H=>?_)))
   have hR5:=hR4.set (v:=str (mkT (q+4))) (j:=4) hr4 (by decide)
   have hr5:=set_get hr4 ((((((x.row).set 0 (int q)).set 1 (int (q+1:Nat))).set 2 (int (q+2:Nat))).set 3 (int (q+3:Nat))).set 4 (str (mkT (q+4))))
   refine vE (zj O (zAd O O (zj O (vE (zj O (zj O (zj O (zCl O (ct116 (by omega) (by omega) fun S hE =>?_)))))))))
   replace H:=H.call hE
   refine zIa O O (vw O (za (W_store H O O O O O (by decide) .h (Nat.le_trans (m:=off+i*7+7) (by omega) (hR5.le hr5)) O fun S hE H=>?_)))
   have hR6:=hR5.set (v:=str (mkT (q+5))) (j:=5) hr5 (by decide)
   have hr6:=set_get hr5 (((((((x.row).set 0 (int q)).set 1 (int (q+1:Nat))).set 2 (int (q+2:Nat))).set 3 (int (q+3:Nat))).set 4 (str (mkT (q+4)))).set 5 (str (mkT (q+5))))
   refine vE (zj O (zAd O O (zj O (vE (zj O (zj O (zj O (zCl O (ct116 (by omega) (by omega) fun S hE =>?_)))))))))
   replace H:=H.call hE
   refine zIa O O (vw O (za (W_store H O O O O O (by decide) .h (Nat.le_trans (m:=off+i*7+7) (by omega) (hR6.le hr6)) O fun S hE H=>?_)))
   have hR7:=hR6.set (v:=str (mkT (q+6))) (j:=6) hr6 (by decide)
   have hr7:=set_get hr6 ((((((((x.row).set 0 (int q)).set 1 (int (q+1:Nat))).set 2 (int (q+2:Nat))).set 3 (int (q+3:Nat))).set 4 (str (mkT (q+4)))).set 5 (str (mkT (q+5)))).set 6 (str (mkT (q+6))))
   refine zN (zJ (zj O (zAd O O (zj O (vf (z_ (ze (zJ (zj O (zAd O O (zj O (zN ?_))))))))))))
   refine ⟨_,_,?lt,?le,(i+1),_,(R.set i (mkC q)),O,H,(by omega),(by
    have h9:=hR7
    simp only [List.set_set] at h9
    have h8:(zY R).set i (mkC q).row=zY (R.set i (mkC q)):=by simp [zY,List.map_set]
    rw [← h8]
    exact h9),(by simpa using hl),(fun j y h9 hy=>by
    rw [List.getElem?_set] at hy
    split at hy
    ·rename_i e;subst e;split at hy<;>cases hy;rw [hq]
    ·exact hm j y (by omega) hy),rfl⟩
   case lt=>omega
   case le=>exact Env.qle ⟨rfl,(by show some (int _)=some (int _);congr 2;omega),rfl,trivial⟩
theorem ct47 {l:List Seg} (ho:S0 m=some ⟨Cs csm e9,true⟩) (n0:1≤n) (hn:n+7*l.length≤1099511627776) (hR0:RowsAt csm off 7 (segRows l)) (k:∀ (l':List Seg) (cs':List Value) S',Ext [m] S0 S'→S' m=some ⟨Cs cs' e9,true⟩→RowsAt cs' off 7 (segRows l')→l'.length=l.length→Marked 7 mkS n l'→K (int (n+7*l.length:Nat)) S') :
  zC 47 #[sl m off l.length c,int n] S0 K:=by
 refine zGo (sf:=s47) Tryz.func47 ?_
 have H:=Loc.start1 ho
 refine zR (zj O (zN (vB (zj O (zN (zE ?_))))))
 refine vj (fun E S m_=>∃ (i:Nat) (csb:List Value) (R:List Seg),E=Env.lst [(0,sl m off l.length c),(1,int (n+7*i:Nat)),(5,int i)]∧Loc [m] S0 S [(m,Cs csb e9)]∧(i≤l.length)∧(RowsAt csb off 7 (segRows R))∧(R.length=l.length)∧(∀ j y,j<i→R[j]? = some y→y=mkS (n+7*j))∧m_=l.length-i) ?_ ?_
 ·skip
  refine ⟨_,_,?le,0,csm,l,O,H,(by omega),hR0,O,(fun j y h9=>absurd h9 (by omega)),O⟩
  case le=>exact Env.qle ⟨O,O,O,⟨⟩⟩
 ·skip
  rintro _ S _ ⟨i,csb,R,rfl,H,hi,hR,hl,hm,rfl⟩
  refine vB (zj O (zj O (zLl O (za (vq O O fun t9 h9=>zN ?_)))))
  rcases t9 with _|_
  ·replace h9:=bF h9
   refine zn O (vh (zK (zK (vp (ze (zR (zj O (zj O (zN (zh (zP O ?_)))))))))))
   rw [show i=l.length by omega] at hm ⊢
   exact k R _ _ H.qx (H.get .h) hR hl fun j y hy=>hm j y (by have:=(List.getElem?_eq_some_iff.1 hy).1;omega) hy
  ·replace h9:=bT h9
   obtain ⟨x,hx⟩:∃ x,R[i]? = some x:=⟨R[i]'(by omega),by simp⟩
   obtain ⟨q,hq⟩:∃ q,q=n+7*i:=⟨_,rfl⟩
   have hq2:q+7≤1099511627776:=by omega
   rw [← hq]
   refine zr O (zt (ze (zD (zE (zR (zj O (zj O (zj O (zIa O O (vw O (vw O (za (W_store H O O O O O (by decide) .h (Nat.le_trans (m:=off+i*7+7) (by omega) (hR.le (segRows_at hx))) O fun S hE H=>?_)))))))))))))
   have hR1:=hR.set (v:=int q) (j:=0) (segRows_at hx) (by decide)
   have hr1:=set_get (segRows_at hx) ((x.row).set 0 (int q))
   refine vE (zj O (zAd O O (zj O (vE (zj O (zj O (zj O (zIa O O (vw O (vw O (za (W_store H O O O O O (by decide) .h (Nat.le_trans (m:=off+i*7+7) (by omega) (hR1.le hr1)) O fun S hE H=>?_))))))))))))
   have hR2:=hR1.set (v:=int (q+1:Nat)) (j:=1) hr1 (by decide)
   have hr2:=set_get hr1 (((x.row).set 0 (int q)).set 1 (int (q+1:Nat)))
   refine vE (zj O (zAd O O (zj O (vE (zj O (zj O (zj O (zIa O O (vw O (vw O (za (W_store H O O O O O (by decide) .h (Nat.le_trans (m:=off+i*7+7) (by omega) (hR2.le hr2)) O fun S hE H=>?_))))))))))))
   have hR3:=hR2.set (v:=int (q+2:Nat)) (j:=2) hr2 (by decide)
   have hr3:=set_get hr2 ((((x.row).set 0 (int q)).set 1 (int (q+1:Nat))).set 2 (int (q+2:Nat)))
   refine vE (zj O (zAd O O (zj O (vE (zj O (zj O (zj O (zIa O O (vw O (vw O (za (W_store H O O O O O (by decide) .h (Nat.le_trans (m:=off+i*7+7) (by omega) (hR3.le hr3)) O fun S hE H=>?_))))))))))))
   have hR4:=hR3.set (v:=int (q+3:Nat)) (j:=3) hr3 (by decide)
   have hr4:=set_get hr3 (((((x.row).set 0 (int q)).set 1 (int (q+1:Nat))).set 2 (int (q+2:Nat))).set 3 (int (q+3:Nat)))
   refine vE (zj O (zAd O O (zj O (vE (zj O (zj O (zj O (zIa O O (vw O (za (W_store H O O O O O (by decide) .h (Nat.le_trans (m:=off+i*7+7) (by omega) (hR4.le hr4)) O fun S hE H=>?_)))))))))))
   have hR5:=hR4.set (v:=int (q+4:Nat)) (j:=4) hr4 (by decide)
   have hr5:=set_get hr4 ((((((x.row).set 0 (int q)).set 1 (int (q+1:Nat))).set 2 (int (q+2:Nat))).set 3 (int (q+3:Nat))).set 4 (int (q+4:Nat)))
   refine vE (zj O (zAd O O (zj O (vE (zj O (zj O (zj O (zIa O O (vw O (za (W_store H O O O O O (by decide) .h (Nat.le_trans (m:=off+i*7+7) (by omega) (hR5.le hr5)) O fun S hE H=>?_)))))))))))
   have hR6:=hR5.set (v:=int (q+5:Nat)) (j:=5) hr5 (by decide)
   have hr6:=set_get hr5 (((((((x.row).set 0 (int q)).set 1 (int (q+1:Nat))).set 2 (int (q+2:Nat))).set 3 (int (q+3:Nat))).set 4 (int (q+4:Nat))).set 5 (int (q+5:Nat)))
   refine vE (zj O (zAd O O (zj O (vE (zj O (zj O (zj O (zCl O (ct116 (by omega) (by omega) fun S hE =>?_)))))))))
   replace H:=H.call hE
   refine zIa O O (vw O (za (W_store H O O O O O (by decide) .h (Nat.le_trans (m:=off+i*7+7) (by omega) (hR6.le hr6)) O fun S hE H=>?_)))
   have hR7:=hR6.set (v:=str (mkT (q+6))) (j:=6) hr6 (by decide)
   have hr7:=set_get hr6 ((((((((x.row).set 0 (int q)).set 1 (int (q+1:Nat))).set 2 (int (q+2:Nat))).set 3 (int (q+3:Nat))).set 4 (int (q+4:Nat))).set 5 (int (q+5:Nat))).set 6 (str (mkT (q+6))))
   refine zN (zJ (zj O (zAd O O (zj O (vf (z_ (ze (zJ (zj O (zAd O O (zj O (zN ?_))))))))))))
   refine ⟨_,_,?lt,?le,(i+1),_,(R.set i (mkS q)),O,H,(by omega),(by
    have h9:=hR7
    simp only [List.set_set] at h9
    have h8:(segRows R).set i (mkS q).row=segRows (R.set i (mkS q)):=by simp [segRows,List.map_set]
    rw [← h8]
    exact h9),(by simpa using hl),(fun j y h9 hy=>by
    rw [List.getElem?_set] at hy
    split at hy
    ·rename_i e;subst e;split at hy<;>cases hy;rw [hq]
    ·exact hm j y (by omega) hy),rfl⟩
   case lt=>omega
   case le=>exact Env.qle ⟨rfl,(by show some (int _)=some (int _);congr 2;omega),rfl,trivial⟩
theorem ct196n  (k:∀  S',Ext [] S0 S'→K (int n) S') :
  zC 196 #[.slice a 0 c,int n] S0 K:=by
 refine zGh (sf:=s196) Tryz.func196 fun H=>zR (zj O (zN (vB (zj O (zN (zE ?_))))))
 refine vj (fun E S m_=>E=Env.lst [(0,.slice a 0 c),(1,int n),(5,int 0)]∧Loc [] S0 S []∧m_=0) ?_ ?_
 ·skip
  refine ⟨_,_,?le,O,H,O⟩
  case le=>exact Env.qle ⟨O,O,O,⟨⟩⟩
 ·skip
  rintro _ S _ ⟨rfl,H,rfl⟩
  refine vB (zj O (zj O (zLl O (za (vq O O fun t9 h9=>zN ?_)))))
  rcases t9 with _|_
  ·replace h9:=bF h9
   refine zn O (vh (zK (zK (vp (ze (zR (zj O (zj O (zN (zh (zP O ?_)))))))))))
   exact k _ H.qx
  ·replace h9:=bT h9
   exact absurd h9 (by simp)
theorem ct113n  (k:∀  S',Ext [] S0 S'→K (int n) S') :
  zC 113 #[.slice a 0 c,int n] S0 K:=by
 refine zGh (sf:=s113) Tryz.func113 fun H=>zR (zj O (zN (vB (zj O (zN (zE ?_))))))
 refine vj (fun E S m_=>E=Env.lst [(0,.slice a 0 c),(1,int n),(5,int 0)]∧Loc [] S0 S []∧m_=0) ?_ ?_
 ·skip
  refine ⟨_,_,?le,O,H,O⟩
  case le=>exact Env.qle ⟨O,O,O,⟨⟩⟩
 ·skip
  rintro _ S _ ⟨rfl,H,rfl⟩
  refine vB (zj O (zj O (zLl O (za (vq O O fun t9 h9=>zN ?_)))))
  rcases t9 with _|_
  ·replace h9:=bF h9
   refine zn O (vh (zK (zK (vp (ze (zR (zj O (zj O (zN (zh (zP O ?_)))))))))))
   exact k _ H.qx
  ·replace h9:=bT h9
   exact absurd h9 (by simp)
theorem ct115n  (k:∀  S',Ext [] S0 S'→K (int n) S') :
  zC 115 #[.slice a 0 c,int n] S0 K:=by
 refine zGh (sf:=s115) Tryz.func115 fun H=>zR (zj O (zN (vB (zj O (zN (zE ?_))))))
 refine vj (fun E S m_=>E=Env.lst [(0,.slice a 0 c),(1,int n),(5,int 0)]∧Loc [] S0 S []∧m_=0) ?_ ?_
 ·skip
  refine ⟨_,_,?le,O,H,O⟩
  case le=>exact Env.qle ⟨O,O,O,⟨⟩⟩
 ·skip
  rintro _ S _ ⟨rfl,H,rfl⟩
  refine vB (zj O (zj O (zLl O (za (vq O O fun t9 h9=>zN ?_)))))
  rcases t9 with _|_
  ·replace h9:=bF h9
   refine zn O (vh (zK (zK (vp (ze (zR (zj O (zj O (zN (zh (zP O ?_)))))))))))
   exact k _ H.qx
  ·replace h9:=bT h9
   exact absurd h9 (by simp)
theorem ct47n  (k:∀  S',Ext [] S0 S'→K (int n) S') :
  zC 47 #[.slice a 0 c,int n] S0 K:=by
 refine zGh (sf:=s47) Tryz.func47 fun H=>zR (zj O (zN (vB (zj O (zN (zE ?_))))))
 refine vj (fun E S m_=>E=Env.lst [(0,.slice a 0 c),(1,int n),(5,int 0)]∧Loc [] S0 S []∧m_=0) ?_ ?_
 ·skip
  refine ⟨_,_,?le,O,H,O⟩
  case le=>exact Env.qle ⟨O,O,O,⟨⟩⟩
 ·skip
  rintro _ S _ ⟨rfl,H,rfl⟩
  refine vB (zj O (zj O (zLl O (za (vq O O fun t9 h9=>zN ?_)))))
  rcases t9 with _|_
  ·replace h9:=bF h9
   refine zn O (vh (zK (zK (vp (ze (zR (zj O (zj O (zN (zh (zP O ?_)))))))))))
   exact k _ H.qx
  ·replace h9:=bT h9
   exact absurd h9 (by simp)
end
section
open Go
theorem cells_subl {S:St} {b off n:Nat} {cs vs:List Value} {e:TypeId} (hs:S b=some ⟨Cs cs e,true⟩) (hv:S.cells? ⟨b,off,none⟩ n=some vs):subl cs off n=some vs:=by
 simp only [St.cells?,hs] at hv
 unfold subl
 split at hv
 ·rename_i h
  cases hv
  rw [if_pos (by simpa using h.2)]
 ·cases hv
structure OwnS (S:St) (k:Nat) (a:Option Addr) (rows:List (List Value)):Prop where
 sl:Sl S k a rows
 own:rows≠[]→∃ m off cs e,a=some ⟨m,off,none⟩∧S m=some ⟨Cs cs e,true⟩∧RowsAt cs off k rows
def blks (a:Option Addr):List Nat:=match a with | some p=>[p.block] | none=>[]
theorem OwnS.of {S S':St} {X:List Nat} {k:Nat} {a:Option Addr} {rows:List (List Value)} (h:Sl S' k a rows) (he:Ext X S S') (hn:Org S none a) (hk:2≤k):OwnS S' k a rows:=by
 refine ⟨h,fun hne=>?_⟩
 obtain ⟨r,l,rfl⟩:=List.exists_cons_of_ne_nil hne
 obtain ⟨b,off,cs,e,rfl,_,h2,_⟩:=h.own he hn hk (i:=0) rfl
 refine ⟨b,off,cs,e,rfl,h2,fun j r hr=>?_⟩
 obtain ⟨b',off',e1,h3⟩:=h.row j r hr
 cases e1
 exact cells_subl h2 h3
theorem OwnS.stays {S S':St} {X:List Nat} {k:Nat} {a:Option Addr} {rows:List (List Value)} (h:OwnS S k a rows) (he:Ext X S S') (hn:∀ b off,a=some ⟨b,off,none⟩→b∉X):OwnS S' k a rows:=by
 refine ⟨h.sl.agree fun b off e1 e h1=>he.ext b e (hn b off e1) h1,fun hne=>?_⟩
 obtain ⟨m,off,cs,e,e1,h2,h3⟩:=h.own hne
 exact ⟨m,off,cs,e,e1,he.ext m _ (hn m off e1) h2,h3⟩
theorem OwnS.wrote {S S':St} {k:Nat} {m off:Nat} {cs:List Value} {e:TypeId} {rows:List (List Value)} (hm:S m=some ⟨Cs cs e,true⟩) (hR:RowsAt cs off k rows) (hle:off≤cs.length):OwnS S k (some ⟨m,off,none⟩) rows:=
 ⟨⟨fun i r hr=>⟨m,off,rfl,hR.sl hm i r hr⟩,fun ad h=>by cases h;exact ⟨m,off,_,_,_,_,rfl,hm,by simpa using hle,rfl⟩⟩,fun _=>⟨m,off,cs,e,rfl,hm,hR⟩⟩
theorem not_blks {a c:Option Addr} (h:OffS a c) (hc:∀ ad,c=some ad→ad.spot=none):∀ b off,a=some ⟨b,off,none⟩→b∉blks c:=by
 intro b off e hb
 unfold blks at hb
 split at hb
 ·rename_i p
  obtain ⟨pb,po,ps⟩:=p
  have:=hc _ rfl
  simp only at this;subst this
  simp only [List.mem_singleton] at hb
  exact h b off pb po e rfl hb
 ·cases hb
section
variable {S0:St} {K:Value→St→Prop} {a:Option Addr} {c n:Nat}
theorem ct196any {l:List End} (hs:OwnS S0 2 a (zS l)) (n0:1≤n) (hn:n+2*l.length≤1099511627776) (k:∀ (l':List End) S',Ext (blks a) S0 S'→OwnS S' 2 a (zS l')→l'.length=l.length→Marked 2 mkE n l'→K (int (n+2*l.length:Nat)) S') :
    Calls1 Tryz.prog 196 #[.slice a l.length c,int n] S0 K:=by
  cases l with
  | nil=>
    refine ct196n fun S' hE=>?_
    have h9:=k [] S' (hE.mono (by simp)) ⟨hs.sl.mono hE,fun h=>absurd rfl h⟩ rfl (fun i x h=>by simp at h)
    simpa using h9
  | cons x l=>
    obtain ⟨m,off,cs,e,rfl,h1,h2⟩:=hs.own (by simp [zS])
    exact ct196 h1 n0 hn h2 fun l' cs' S' hE h3 h4 h5 h6=>k l' S' hE (.wrote (S':=S') h3 h4 (by
      cases l' with
      | nil=>simp at h5
      | cons y l'=>have:=h4.le (j:=0) (r:=y.row) rfl;omega)) h5 h6
theorem ct113any {l:List Rule} (hs:OwnS S0 7 a (z5 l)) (n0:1≤n) (hn:n+7*l.length≤1099511627776) (k:∀ (l':List Rule) S',Ext (blks a) S0 S'→OwnS S' 7 a (z5 l')→l'.length=l.length→Marked 7 mkR n l'→K (int (n+7*l.length:Nat)) S') :
    Calls1 Tryz.prog 113 #[.slice a l.length c,int n] S0 K:=by
  cases l with
  | nil=>
    refine ct113n fun S' hE=>?_
    have h9:=k [] S' (hE.mono (by simp)) ⟨hs.sl.mono hE,fun h=>absurd rfl h⟩ rfl (fun i x h=>by simp at h)
    simpa using h9
  | cons x l=>
    obtain ⟨m,off,cs,e,rfl,h1,h2⟩:=hs.own (by simp [z5])
    exact ct113 h1 n0 hn h2 fun l' cs' S' hE h3 h4 h5 h6=>k l' S' hE (.wrote (S':=S') h3 h4 (by
      cases l' with
      | nil=>simp at h5
      | cons y l'=>have:=h4.le (j:=0) (r:=y.row) rfl;omega)) h5 h6
theorem ct115any {l:List Conn} (hs:OwnS S0 7 a (zY l)) (n0:1≤n) (hn:n+7*l.length≤1099511627776) (k:∀ (l':List Conn) S',Ext (blks a) S0 S'→OwnS S' 7 a (zY l')→l'.length=l.length→Marked 7 mkC n l'→K (int (n+7*l.length:Nat)) S') :
    Calls1 Tryz.prog 115 #[.slice a l.length c,int n] S0 K:=by
  cases l with
  | nil=>
    refine ct115n fun S' hE=>?_
    have h9:=k [] S' (hE.mono (by simp)) ⟨hs.sl.mono hE,fun h=>absurd rfl h⟩ rfl (fun i x h=>by simp at h)
    simpa using h9
  | cons x l=>
    obtain ⟨m,off,cs,e,rfl,h1,h2⟩:=hs.own (by simp [zY])
    exact ct115 h1 n0 hn h2 fun l' cs' S' hE h3 h4 h5 h6=>k l' S' hE (.wrote (S':=S') h3 h4 (by
      cases l' with
      | nil=>simp at h5
      | cons y l'=>have:=h4.le (j:=0) (r:=y.row) rfl;omega)) h5 h6
theorem ct47any {l:List Seg} (hs:OwnS S0 7 a (segRows l)) (n0:1≤n) (hn:n+7*l.length≤1099511627776) (k:∀ (l':List Seg) S',Ext (blks a) S0 S'→OwnS S' 7 a (segRows l')→l'.length=l.length→Marked 7 mkS n l'→K (int (n+7*l.length:Nat)) S') :
    Calls1 Tryz.prog 47 #[.slice a l.length c,int n] S0 K:=by
  cases l with
  | nil=>
    refine ct47n fun S' hE=>?_
    have h9:=k [] S' (hE.mono (by simp)) ⟨hs.sl.mono hE,fun h=>absurd rfl h⟩ rfl (fun i x h=>by simp at h)
    simpa using h9
  | cons x l=>
    obtain ⟨m,off,cs,e,rfl,h1,h2⟩:=hs.own (by simp [segRows])
    exact ct47 h1 n0 hn h2 fun l' cs' S' hE h3 h4 h5 h6=>k l' S' hE (.wrote (S':=S') h3 h4 (by
      cases l' with
      | nil=>simp at h5
      | cons y l'=>have:=h4.le (j:=0) (r:=y.row) rfl;omega)) h5 h6
end
end
section
open Go
theorem Loc.callO {X Y:List Nat} {S0 S S':St} {L:List (Nat × Obj)} (H:Loc X S0 S L) (h:Ext Y S S') (hY:∀ b∈Y,b∈X) (hn:∀ b∈Y,b∉L.map (·.1)):Loc X S0 S' L where
 g:=h.g.trans H.g
 ext x e hx he:=h.ext x e (fun hy=>hx (hY x hy)) (H.ext x e hx he)
 own x u hx:=h.ext x _ (fun hy=>hn x hy (List.mem_map.2 ⟨_,hx,rfl⟩)) (H.own x u hx)
 fresh:=H.fresh
 nodup:=H.nodup
theorem Loc.callN {X Y:List Nat} {S0 S S':St} {L:List (Nat × Obj)} (H:Loc X S0 S L) (h:Ext Y S S') (hY:∀ b∈Y,S0 b=none∨b∈X) (hn:∀ b∈Y,b∉L.map (·.1)):Loc X S0 S' L where
 g:=h.g.trans H.g
 ext x e hx he:=h.ext x e (fun hy=>by
  rcases hY x hy with h9 | h9
  ·rw [h9] at he;cases he
  ·exact hx h9) (H.ext x e hx he)
 own x u hx:=h.ext x _ (fun hy=>hn x hy (List.mem_map.2 ⟨_,hx,rfl⟩)) (H.own x u hx)
 fresh:=H.fresh
 nodup:=H.nodup
theorem Org.blks {S:St} {a:Option Addr} (h:Org S none a) (hs:∀ ad,a=some ad→ad.spot=none):∀ b∈blks a,S b=none:=by
 intro b hb
 unfold Go.Proofs.YtnccejlibbgpkaaGreatDoor.blks at hb
 split at hb
 ·rename_i p
  obtain ⟨pb,po,ps⟩:=p
  have:=hs _ rfl
  simp only at this;subst this
  simp only [List.mem_singleton] at hb
  subst hb
  by_cases hN:S b=none
  ·exact hN
  ·obtain ⟨e,he⟩:=Option.ne_none_iff_exists'.1 hN
   exact absurd rfl (h.ne nofun he _ _ rfl)
 ·cases hb
theorem Sl.spot {S:St} {k:Nat} {a:Option Addr} {rows:List (List Value)} (h:Sl S k a rows):∀ ad,a=some ad→ad.spot=none:=by
 intro ad e
 obtain ⟨_,_,_,_,_,_,rfl,_⟩:=h.base ad e
 rfl
theorem blks_ne {S:St} {k b:Nat} {a:Option Addr} {rows:List (List Value)} (h:Sl S k a rows) (hb:S b=none):b∉blks a:=by
 intro hm
 cases a with
 | none=>cases hm
 | some ad=>
  obtain ⟨_,_,_,_,_,_,rfl,h2,_⟩:=h.base ad rfl
  simp only [blks,List.mem_singleton] at hm
  subst hm
  rw [hb] at h2;cases h2
section
variable {S0:St} {K:Value→St→Prop}
theorem ct114 {a:Option Addr} {c n:Nat} {l:List End} (hs:OwnS S0 2 a (zS l)) (n0:1≤n) (hn:n+2*l.length≤1099511627776) (k:∀ (l':List End) S',Ext (blks a) S0 S'→OwnS S' 2 a (zS l')→l'.length=l.length→Marked 2 mkE n l'→K (int (n+2*l.length:Nat)) S') :
    Calls1 Tryz.prog 114 #[.agg #[.slice a l.length c],int n] S0 K:=by
  refine calls1_slim (sf:=s114) Tryz.func114 k114 (of_decide_eq_true rfl) ?_
  show wpS Tryz.prog c114 (Env.of [.agg #[.slice a l.length c],int n]) S0 _
  have H:=Loc.start (blks a) S0
  refine zD ?_
  refine zJ ?_
  refine za (W_box H rfl rfl fun b2 S hb2 hE H=>?_)
  have q0:=hs.stays hE (by simp)
  have hn2:=blks_ne hs.sl hb2
  refine za (vC rfl ?_)
  refine vf ?_
  refine ze ?_
  refine zD ?_
  refine zJ ?_
  refine za (zz rfl ?_)
  refine za (vk H rfl .head rfl ?_)
  refine za (vC rfl ?_)
  refine za (zU rfl (ct196any q0 n0 hn fun l' S hE q1 hl hm=>?_))
  replace H:=H.callO hE (fun b h=>h) (fun b h=>by
    rw [show ([(b2,_)]:List (Nat × Obj)).map (·.1)=[b2] from rfl,List.mem_singleton]
    rintro rfl;exact hn2 h)
  refine za (vC rfl ?_)
  refine vf ?_
  refine ze ?_
  refine zD ?_
  refine zJ ?_
  refine za (vC rfl ?_)
  refine za (vC rfl ?_)
  refine vf ?_
  refine ze ?_
  refine zh ?_
  refine ⟨trivial,_,(zW rfl zT),?_⟩
  exact k l' _ H.qx q1 hl hm
theorem ct46 {a1 a2 a3:Option Addr} {c1 c2 c3 n:Nat} {b:Box} (s1:OwnS S0 7 a1 (z5 b.rs)) (s2:OwnS S0 2 a2 (zS b.es)) (s3:OwnS S0 7 a3 (zY b.cs)) (t12:OffS a1 a2) (t13:OffS a1 a3) (t23:OffS a2 a3) (n0:1≤n) (hn:n+7*b.rs.length+2*b.es.length+7*b.cs.length≤1099511627776)
    (k:∀ (b':Box) S',Ext (blks a1++blks a2++blks a3) S0 S'→OwnS S' 7 a1 (z5 b'.rs)→OwnS S' 2 a2 (zS b'.es)→OwnS S' 7 a3 (zY b'.cs)→b'.rs.length=b.rs.length→b'.es.length=b.es.length→b'.cs.length=b.cs.length→Marked 7 mkR n b'.rs→Marked 2 mkE (n+7*b.rs.length) b'.es→Marked 7 mkC (n+7*b.rs.length+2*b.es.length) b'.cs→K (int (n+7*b.rs.length+2*b.es.length+7*b.cs.length:Nat)) S') :
    Calls1 Tryz.prog 46 #[.agg #[.slice a1 b.rs.length c1,.slice a2 b.es.length c2,.slice a3 b.cs.length c3],int n] S0 K:=by
  refine calls1_slim (sf:=s46) Tryz.func46 k46 (of_decide_eq_true rfl) ?_
  show wpS Tryz.prog c46 (Env.of [.agg #[.slice a1 b.rs.length c1,.slice a2 b.es.length c2,.slice a3 b.cs.length c3],int n]) S0 _
  have H:=Loc.start (blks a1++blks a2++blks a3) S0
  refine zD ?_
  refine zJ ?_
  refine za (W_box H rfl rfl fun b2 S hb2 hE H=>?_)
  have p1:=s1.stays hE (by simp)
  have p2:=s2.stays hE (by simp)
  have p3:=s3.stays hE (by simp)
  have m1:=blks_ne s1.sl hb2
  have m2:=blks_ne s2.sl hb2
  have m3:=blks_ne s3.sl hb2
  have g1:=s1.sl.spot
  have g2:=s2.sl.spot
  have g3:=s3.sl.spot
  refine za (vC rfl ?_)
  refine vf ?_
  refine ze ?_
  refine zD ?_
  refine zJ ?_
  refine za (zz rfl ?_)
  refine za (vk H rfl .head rfl ?_)
  refine za (vC rfl ?_)
  refine za (zU rfl (ct113any p1 n0 (by omega) fun l1 S hE p1 hl1 hm1=>?_))
  replace p2:=p2.stays hE (not_blks t12.symm g1)
  replace p3:=p3.stays hE (not_blks t13.symm g1)
  replace H:=H.callO hE (fun b h=>by simp [h]) (fun b h=>by
    rw [show ([(b2,_)]:List (Nat × Obj)).map (·.1)=[b2] from rfl,List.mem_singleton]
    rintro rfl;exact m1 h)
  refine za (vC rfl ?_)
  refine vf ?_
  refine ze ?_
  refine zD ?_
  refine zJ ?_
  refine za (zz rfl ?_)
  refine za (W_loadN H rfl .head rfl ?_)
  refine za (vC rfl ?_)
  refine za (zU rfl (ct114 p2 (by omega) (by omega) fun l2 S hE p2 hl2 hm2=>?_))
  replace p1:=p1.stays hE (not_blks t12 g2)
  replace p3:=p3.stays hE (not_blks t23.symm g2)
  replace H:=H.callO hE (fun b h=>by simp [h]) (fun b h=>by
    rw [show ([(b2,_)]:List (Nat × Obj)).map (·.1)=[b2] from rfl,List.mem_singleton]
    rintro rfl;exact m2 h)
  refine za (vC rfl ?_)
  refine vf ?_
  refine ze ?_
  refine zD ?_
  refine zJ ?_
  refine za (zz rfl ?_)
  refine za (vk H rfl .head rfl ?_)
  refine za (vC rfl ?_)
  refine za (zU rfl (ct115any p3 (by omega) (by omega) fun l3 S hE p3 hl3 hm3=>?_))
  replace p1:=p1.stays hE (not_blks t13 g3)
  replace p2:=p2.stays hE (not_blks t23 g3)
  replace H:=H.callO hE (fun b h=>by simp [h]) (fun b h=>by
    rw [show ([(b2,_)]:List (Nat × Obj)).map (·.1)=[b2] from rfl,List.mem_singleton]
    rintro rfl;exact m3 h)
  refine za (vC rfl ?_)
  refine vf ?_
  refine ze ?_
  refine zD ?_
  refine zJ ?_
  refine za (vC rfl ?_)
  refine za (vC rfl ?_)
  refine vf ?_
  refine ze ?_
  refine zh ?_
  refine ⟨trivial,_,(zW rfl zT),?_⟩
  exact k ⟨l1,l2,l3⟩ _ H.qx p1 p2 p3 hl1 hl2 hl3 hm1 hm2 hm3
end
end
section
open Go
theorem OffS.mk' {m n:Nat} (h:m≠n):OffS (some ⟨m,0,none⟩) (some ⟨n,0,none⟩):=by
 intro b off b' off' e1 e2
 cases e1;cases e2;exact h
section
variable {S0 S S':St} {K:Value→St→Prop} {a1 a2 a3 x1 x2 x3 x4:Option Addr} {c1 c2 c3 d2 d3:Nat}
theorem ct42R {b:Box} (h1:SlR S0 7 a1 (z5 b.rs)) (h2:SlR S0 2 a2 (zS b.es)) (h3:SlR S0 7 a3 (zY b.cs)) (l1:b.rs.length≤1048576) (l2:b.es.length≤1048576) (l3:b.cs.length≤1048576)
    (k:∀ (x1 x2 x3:Option Addr) S',Ext [] S0 S'→BoxR S0 S' x1 x2 x3 none b.es.length b.cs.length (b,[])→K (.agg #[.slice x1 b.rs.length b.rs.length,.slice x2 b.es.length b.es.length,.slice x3 b.cs.length b.cs.length]) S') :
    Calls1 Tryz.prog 42 #[.agg #[.slice a1 b.rs.length c1,.slice a2 b.es.length c2,.slice a3 b.cs.length c3]] S0 K:=
  ct42 h1 h2 h3 l1 l2 l3 fun m1 m2 m3 S' hE f1 f2 f3 o1 o2 o3 n12 n13 n23=>
    k _ _ _ S' hE ⟨o1.sl,o2.sl,o3.sl,.nil _,Nat.le_refl _,Nat.le_refl _,.new f1,.new f2,.new f3,.same _ _,.mk' n12,.mk' n13,.mk' n23,OffS.nil'.symm,OffS.nil'.symm,OffS.nil'.symm⟩
theorem BoxR.w1 {r:Box × List Seg} (h:BoxR S0 S x1 x2 x3 x4 d2 d3 r) (he:Ext [] S0 S):OwnS S 7 x1 (z5 r.1.rs):=.of h.h1 he h.o1 (by decide)
theorem BoxR.w2 {r:Box × List Seg} (h:BoxR S0 S x1 x2 x3 x4 d2 d3 r) (he:Ext [] S0 S):OwnS S 2 x2 (zS r.1.es):=.of h.h2 he h.o2 (by decide)
theorem BoxR.w3 {r:Box × List Seg} (h:BoxR S0 S x1 x2 x3 x4 d2 d3 r) (he:Ext [] S0 S):OwnS S 7 x3 (zY r.1.cs):=.of h.h3 he h.o3 (by decide)
theorem BoxR.w4 {r:Box × List Seg} (h:BoxR S0 S x1 x2 x3 x4 d2 d3 r) (he:Ext [] S0 S):OwnS S 7 x4 (segRows r.2):=.of h.h4 he h.o4 (by decide)
theorem Sl.staysY {Y:List Nat} {k:Nat} {a:Option Addr} {rows:List (List Value)} (h:Sl S k a rows) (he:Ext Y S S') (hn:∀ b off,a=some ⟨b,off,none⟩→b∉Y):Sl S' k a rows:=
 h.agree fun b off e1 e h1=>he.ext b e (hn b off e1) h1
theorem BoxR.staysY {Y:List Nat} {r:Box × List Seg} (h:BoxR S0 S x1 x2 x3 x4 d2 d3 r) (he:Ext Y S S') (n1:∀ b off,x1=some ⟨b,off,none⟩→b∉Y) (n2:∀ b off,x2=some ⟨b,off,none⟩→b∉Y) (n3:∀ b off,x3=some ⟨b,off,none⟩→b∉Y) (n4:∀ b off,x4=some ⟨b,off,none⟩→b∉Y):BoxR S0 S' x1 x2 x3 x4 d2 d3 r:=
 {h with h1:=h.h1.staysY he n1,h2:=h.h2.staysY he n2,h3:=h.h3.staysY he n3,h4:=h.h4.staysY he n4}
theorem BoxR.marked {r:Box × List Seg} {b':Box} (h:BoxR S0 S x1 x2 x3 x4 d2 d3 r) (he:Ext (blks x1++blks x2++blks x3) S S') (q1:OwnS S' 7 x1 (z5 b'.rs)) (q2:OwnS S' 2 x2 (zS b'.es)) (q3:OwnS S' 7 x3 (zY b'.cs)) (e2:b'.es.length=r.1.es.length) (e3:b'.cs.length=r.1.cs.length):BoxR S0 S' x1 x2 x3 x4 d2 d3 (b',r.2):=by
 refine {h with h1:=q1.sl,h2:=q2.sl,h3:=q3.sl,h4:=h.h4.staysY he fun b off e hb=>?_,l2:=by show b'.es.length≤d2;have:=h.l2;omega,l3:=by show b'.cs.length≤d3;have:=h.l3;omega}
 rcases List.mem_append.1 hb with hb | hb
 ·rcases List.mem_append.1 hb with hb | hb
  ·exact not_blks h.t14.symm q1.sl.spot b off e hb
  ·exact not_blks h.t24.symm q2.sl.spot b off e hb
 ·exact not_blks h.t34.symm q3.sl.spot b off e hb
end
end
section
open Go
def OffL (xs ys:List (Option Addr)):Prop:=∀ x∈xs,∀ y∈ys,OffS x y
def Based (S:St) (x:Option Addr):Prop:=∃ k rows,Sl S k x rows
theorem Based.spot {S:St} {x:Option Addr} (h:Based S x):∀ ad,x=some ad→ad.spot=none:=by
 obtain ⟨k,rows,h⟩:=h
 exact h.spot
theorem OffL.new {S:St} {xs ys:List (Option Addr)} (h:∀ x∈xs,Based S x) (g:∀ y∈ys,Org S none y):OffL xs ys:=fun x hx y hy=>by
 obtain ⟨k,rows,h⟩:=h x hx
 exact .new h (g y hy)
theorem OffL.symm {xs ys:List (Option Addr)} (h:OffL xs ys):OffL ys xs:=fun y hy x hx=>(h x hx y hy).symm
theorem OffL.not3 {xs:List (Option Addr)} {y1 y2 y3 x:Option Addr} (h:OffL xs [y1,y2,y3]) (hx:x∈xs) (s1:∀ ad,y1=some ad→ad.spot=none) (s2:∀ ad,y2=some ad→ad.spot=none) (s3:∀ ad,y3=some ad→ad.spot=none):∀ b off,x=some ⟨b,off,none⟩→b∉blks y1++blks y2++blks y3:=by
 intro b off e hb
 rcases List.mem_append.1 hb with hb | hb
 ·rcases List.mem_append.1 hb with hb | hb
  ·exact not_blks (h x hx y1 (by simp)) s1 b off e hb
  ·exact not_blks (h x hx y2 (by simp)) s2 b off e hb
 ·exact not_blks (h x hx y3 (by simp)) s3 b off e hb
theorem OffL.not1 {xs:List (Option Addr)} {y x:Option Addr} (h:OffL xs [y]) (hx:x∈xs) (s1:∀ ad,y=some ad→ad.spot=none):∀ b off,x=some ⟨b,off,none⟩→b∉blks y:=
 not_blks (h x hx y (by simp)) s1
section
variable {S0 S S':St} {x1 x2 x3 x4 y1 y2 y3:Option Addr} {d2 d3:Nat}
theorem BoxR.based {r:Box × List Seg} (h:BoxR S0 S x1 x2 x3 x4 d2 d3 r):∀ x∈[x1,x2,x3,x4],Based S x:=by
 intro x hx
 simp only [List.mem_cons,List.not_mem_nil,or_false] at hx
 rcases hx with rfl | rfl | rfl | rfl
 ·exact ⟨_,_,h.h1⟩
 ·exact ⟨_,_,h.h2⟩
 ·exact ⟨_,_,h.h3⟩
 ·exact ⟨_,_,h.h4⟩
theorem BoxR.orgs {r:Box × List Seg} (h:BoxR S0 S x1 x2 x3 x4 d2 d3 r):∀ x∈[x1,x2,x3,x4],Org S0 none x:=by
 intro x hx
 simp only [List.mem_cons,List.not_mem_nil,or_false] at hx
 rcases hx with rfl | rfl | rfl | rfl
 ·exact h.o1
 ·exact h.o2
 ·exact h.o3
 ·exact h.o4
theorem BoxR.apart {r:Box × List Seg} (h:BoxR S0 S x1 x2 x3 x4 d2 d3 r) (ho:OffL [x1,x2,x3,x4] [y1,y2,y3]) (s1:∀ ad,y1=some ad→ad.spot=none) (s2:∀ ad,y2=some ad→ad.spot=none) (s3:∀ ad,y3=some ad→ad.spot=none) (he:Ext (blks y1++blks y2++blks y3) S S'):BoxR S0 S' x1 x2 x3 x4 d2 d3 r:=
 h.staysY he (ho.not3 (by simp) s1 s2 s3) (ho.not3 (by simp) s1 s2 s3) (ho.not3 (by simp) s1 s2 s3) (ho.not3 (by simp) s1 s2 s3)
theorem BoxR.apart1 {r:Box × List Seg} {y:Option Addr} (h:BoxR S0 S x1 x2 x3 x4 d2 d3 r) (ho:OffL [x1,x2,x3,x4] [y]) (s1:∀ ad,y=some ad→ad.spot=none) (he:Ext (blks y) S S'):BoxR S0 S' x1 x2 x3 x4 d2 d3 r:=
 h.staysY he (ho.not1 (by simp) s1) (ho.not1 (by simp) s1) (ho.not1 (by simp) s1) (ho.not1 (by simp) s1)
structure BoxS (S:St) (x1 x2 x3 x4:Option Addr) (r:Box × List Seg):Prop where
 h1:Sl S 7 x1 (z5 r.1.rs)
 h2:Sl S 2 x2 (zS r.1.es)
 h3:Sl S 7 x3 (zY r.1.cs)
 h4:Sl S 7 x4 (segRows r.2)
theorem BoxS.mono {r:Box × List Seg} (h:BoxS S x1 x2 x3 x4 r) (he:Ext [] S S'):BoxS S' x1 x2 x3 x4 r:=⟨h.h1.mono he,h.h2.mono he,h.h3.mono he,h.h4.mono he⟩
theorem BoxS.based {r:Box × List Seg} (h:BoxS S x1 x2 x3 x4 r):∀ x∈[x1,x2,x3,x4],Based S x:=by
 intro x hx
 simp only [List.mem_cons,List.not_mem_nil,or_false] at hx
 rcases hx with rfl | rfl | rfl | rfl
 ·exact ⟨_,_,h.h1⟩
 ·exact ⟨_,_,h.h2⟩
 ·exact ⟨_,_,h.h3⟩
 ·exact ⟨_,_,h.h4⟩
theorem BoxS.staysY {Y:List Nat} {r:Box × List Seg} (h:BoxS S x1 x2 x3 x4 r) (he:Ext Y S S') (n1:∀ b off,x1=some ⟨b,off,none⟩→b∉Y) (n2:∀ b off,x2=some ⟨b,off,none⟩→b∉Y) (n3:∀ b off,x3=some ⟨b,off,none⟩→b∉Y) (n4:∀ b off,x4=some ⟨b,off,none⟩→b∉Y):BoxS S' x1 x2 x3 x4 r:=
 ⟨h.h1.staysY he n1,h.h2.staysY he n2,h.h3.staysY he n3,h.h4.staysY he n4⟩
theorem BoxS.apart {r:Box × List Seg} (h:BoxS S x1 x2 x3 x4 r) (ho:OffL [x1,x2,x3,x4] [y1,y2,y3]) (s1:∀ ad,y1=some ad→ad.spot=none) (s2:∀ ad,y2=some ad→ad.spot=none) (s3:∀ ad,y3=some ad→ad.spot=none) (he:Ext (blks y1++blks y2++blks y3) S S'):BoxS S' x1 x2 x3 x4 r:=
 h.staysY he (ho.not3 (by simp) s1 s2 s3) (ho.not3 (by simp) s1 s2 s3) (ho.not3 (by simp) s1 s2 s3) (ho.not3 (by simp) s1 s2 s3)
theorem BoxS.apart1 {r:Box × List Seg} {y:Option Addr} (h:BoxS S x1 x2 x3 x4 r) (ho:OffL [x1,x2,x3,x4] [y]) (s1:∀ ad,y=some ad→ad.spot=none) (he:Ext (blks y) S S'):BoxS S' x1 x2 x3 x4 r:=
 h.staysY he (ho.not1 (by simp) s1) (ho.not1 (by simp) s1) (ho.not1 (by simp) s1) (ho.not1 (by simp) s1)
end
end
section
open Go
theorem Sl.past {S S':St} {k b:Nat} {x:Option Addr} {rows:List (List Value)} {cs cs':List Value} {e e':TypeId} (h:Sl S k x rows) (he:Ext [b] S S') (h1:S b=some ⟨Cs cs e,true⟩) (h2:S' b=some ⟨Cs cs' e',true⟩) (hl:cs.length<k) (hc:cs'.length=cs.length):Sl S' k x rows where
 row i r hr:=by
  obtain ⟨b',off,rfl,q⟩:=h.row i r hr
  by_cases hb:b'=b
  ·subst hb
   simp only [St.cells?,h1] at q
   split at q
   ·rename_i h6;have:=h6.2;simp at this;omega
   ·cases q
  ·exact ⟨b',off,rfl,zM he.ext (by simpa using hb) q⟩
 base ad ha:=by
  obtain ⟨b',off,c,e1,f,wr,rfl,q,q2,q3⟩:=h.base ad ha
  by_cases hb:b'=b
  ·subst hb
   rw [h1] at q;cases q
   exact ⟨b',off,_,_,_,_,rfl,h2,by simpa [hc] using q2,rfl⟩
  ·exact ⟨b',off,c,e1,f,wr,rfl,he.ext b' _ (by simpa using hb) q,q2,q3⟩
@[reducible] def Ap (x1 x2 x3 x4:Option Addr) (b:Nat):Prop:=(∀ b' off,x1=some ⟨b',off,none⟩→b'≠b)∧(∀ b' off,x2=some ⟨b',off,none⟩→b'≠b)∧(∀ b' off,x3=some ⟨b',off,none⟩→b'≠b)∧(∀ b' off,x4=some ⟨b',off,none⟩→b'≠b)
theorem ap_blks {x:Option Addr} {b:Nat} (h:∀ b' off,x=some ⟨b',off,none⟩→b'≠b) (hs:∀ ad,x=some ad→ad.spot=none):b∉blks x:=by
 intro hm
 cases x with
 | none=>cases hm
 | some ad=>
  obtain ⟨p,o,s⟩:=ad
  have:=hs _ rfl
  simp only at this;subst this
  simp only [blks,List.mem_singleton] at hm
  exact h p o rfl hm.symm
theorem fa_nil {p:Nat→Prop}:∀ b∈([]:List Nat),p b:=nofun
theorem fa_cons {p:Nat→Prop} {a:Nat} {l:List Nat} (h:p a) (k:∀ b∈l,p b):∀ b∈a::l,p b:=fun b hb=>by
 rcases List.mem_cons.1 hb with rfl | hb
 ·exact h
 ·exact k b hb
theorem mem3 {y1 y2 y3:List Nat} {b:Nat} {p:Prop} (h:b∈y1++y2++y3) (h1:b∈y1→p) (h2:b∈y2→p) (h3:b∈y3→p):p:=by
 rcases List.mem_append.1 h with h | h
 ·rcases List.mem_append.1 h with h | h
  ·exact h1 h
  ·exact h2 h
 ·exact h3 h
section
variable {T S0 S S':St} {K:Value→St→Prop} {x1 x2 x3 x4 y1 y2 y3 y4:Option Addr} {c1 c2 c3 d2 d3:Nat} {r:Box × List Seg} {L:List (Nat × Obj)}
theorem Loc.markBox (H:Loc [] S0 S L) (h:BoxR S0 S x1 x2 x3 x4 d2 d3 r) (he:Ext (blks x1++blks x2++blks x3) S S') (ha:∀ b∈L.map (·.1),Ap x1 x2 x3 x4 b):Loc [] S0 S' L:=
 H.callN he (fun b hb=>.inl (mem3 hb (h.o1.blks h.h1.spot b) (h.o2.blks h.h2.spot b) (h.o3.blks h.h3.spot b)))
  fun b hb hl=>mem3 hb (ap_blks (ha b hl).1 h.h1.spot) (ap_blks (ha b hl).2.1 h.h2.spot) (ap_blks (ha b hl).2.2.1 h.h3.spot)
theorem Loc.markSegs (H:Loc [] S0 S L) (h:BoxR S0 S x1 x2 x3 x4 d2 d3 r) (he:Ext (blks x4) S S') (ha:∀ b∈L.map (·.1),Ap x1 x2 x3 x4 b):Loc [] S0 S' L:=
 H.callN he (fun b hb=>.inl (h.o4.blks h.h4.spot b hb)) fun b hb hl=>ap_blks (ha b hl).2.2.2 h.h4.spot hb
theorem BoxR.marked4 {l:List Seg} (h:BoxR S0 S x1 x2 x3 x4 d2 d3 r) (he:Ext (blks x4) S S') (q:Sl S' 7 x4 (segRows l)):BoxR S0 S' x1 x2 x3 x4 d2 d3 (r.1,l):=
 {h with h1:=h.h1.staysY he (not_blks h.t14 h.h4.spot),h2:=h.h2.staysY he (not_blks h.t24 h.h4.spot),h3:=h.h3.staysY he (not_blks h.t34 h.h4.spot),h4:=q}
structure MkB (r y:Box):Prop where
 e1:y.rs.length=r.rs.length
 e2:y.es.length=r.es.length
 e3:y.cs.length=r.cs.length
 m1:Marked 7 mkR 1 y.rs
 m2:Marked 2 mkE (1+7*r.rs.length) y.es
 m3:Marked 7 mkC (1+7*r.rs.length+2*r.es.length) y.cs
theorem ct46R (h:BoxR T S0 x1 x2 x3 x4 d2 d3 r) (he:Ext [] T S0) (hz:BoxZ r.1)
    (k:∀ (y:Box) S',Ext (blks x1++blks x2++blks x3) S0 S'→BoxR T S' x1 x2 x3 x4 d2 d3 (y,r.2)→MkB r.1 y→K (int (1+7*r.1.rs.length+2*r.1.es.length+7*r.1.cs.length:Nat)) S') :
    Calls1 Tryz.prog 46 #[.agg #[.slice x1 r.1.rs.length c1,.slice x2 r.1.es.length c2,.slice x3 r.1.cs.length c3],int 1] S0 K:=by
  obtain ⟨z1,z2,z3,_⟩:=hz
  exact ct46 (n:=1) (h.w1 he) (h.w2 he) (h.w3 he) h.t12 h.t13 h.t23 (Nat.le_refl _) (by omega) fun y S' hE p1 p2 p3 e1 e2 e3 m1 m2 m3=>k y S' hE (h.marked hE p1 p2 p3 e2 e3) ⟨e1,e2,e3,m1,m2,m3⟩
theorem ct47R {n:Nat} (h:BoxR T S0 x1 x2 x3 x4 d2 d3 r) (he:Ext [] T S0) (n0:1≤n) (hn:n+7*r.2.length≤1099511627776)
    (k:∀ (l:List Seg) S',Ext (blks x4) S0 S'→BoxR T S' x1 x2 x3 x4 d2 d3 (r.1,l)→l.length=r.2.length→Marked 7 mkS n l→K (int (n+7*r.2.length:Nat)) S') :
    Calls1 Tryz.prog 47 #[.slice x4 r.2.length c1,int n] S0 K:=
  ct47any (h.w4 he) n0 hn fun l S' hE q e m=>k l S' hE (h.marked4 hE q.sl) e m
theorem ct48R {q:Box} (h:BoxR T S0 x1 x2 x3 x4 d2 d3 r) (hm:MkB q r.1) (hz:BoxZ q) (k:∀ S',Ext [] S0 S'→K (int (1+7*q.rs.length+2*q.es.length+7*q.cs.length:Nat)) S') :
    Calls1 Tryz.prog 48 #[.agg #[.slice x1 q.rs.length c1,.slice x2 q.es.length c2,.slice x3 q.cs.length c3],int 1] S0 K:=by
  obtain ⟨z1,z2,z3,_⟩:=hz
  obtain ⟨e1,e2,e3,m1,m2,m3⟩:=hm
  rw [← e1,← e2,← e3] at k ⊢
  rw [← e1] at m2 m3
  rw [← e2] at m3
  exact ct48 (n:=1) h.h1 h.h2 h.h3 (Nat.le_refl _) (by omega) m1 m2 m3 k
theorem ct49R {n m:Nat} (h:BoxR T S0 x1 x2 x3 x4 d2 d3 r) (e:r.2.length=m) (n0:1≤n) (hn:n+7*m≤1099511627776) (hm:Marked 7 mkS n r.2) (k:∀ S',Ext [] S0 S'→K (int (n+7*m:Nat)) S') :
    Calls1 Tryz.prog 49 #[.slice x4 m c1,int n] S0 K:=by
  subst e
  exact ct49 h.h4 n0 hn hm k
theorem BoxR.based3 (h:BoxR S0 S x1 x2 x3 x4 d2 d3 r):∀ x∈[x1,x2,x3],Based S x:=fun x hx=>h.based x (by simp only [List.mem_cons,List.not_mem_nil,or_false] at hx ⊢;rcases hx with h | h | h<;>simp [h])
theorem OffL.take3 {xs:List (Option Addr)} (h:OffL xs [y1,y2,y3,y4]):OffL xs [y1,y2,y3]:=fun x hx y hy=>h x hx y (by simp only [List.mem_cons,List.not_mem_nil,or_false] at hy ⊢;rcases hy with h | h | h<;>simp [h])
theorem OffL.last {xs:List (Option Addr)} (h:OffL xs [y1,y2,y3,y4]):OffL xs [y4]:=fun x hx y hy=>h x hx y (by simp only [List.mem_cons,List.not_mem_nil,or_false] at hy ⊢;simp [hy])
theorem BoxS.ne {b:Nat} (h:BoxS S x1 x2 x3 x4 r) (hb:S b=none):Ap x1 x2 x3 x4 b:=⟨h.h1.ne hb,h.h2.ne hb,h.h3.ne hb,h.h4.ne hb⟩
theorem BoxS.qy {b:Nat} (h:BoxS S x1 x2 x3 x4 r) (he:Ext [b] S S') (n:Ap x1 x2 x3 x4 b):BoxS S' x1 x2 x3 x4 r:=
 ⟨h.h1.qy he n.1,h.h2.qy he n.2.1,h.h3.qy he n.2.2.1,h.h4.qy he n.2.2.2⟩
theorem BoxS.markB {q:Box × List Seg} (h:BoxS S x1 x2 x3 x4 r) (hr:BoxR S0 S y1 y2 y3 y4 d2 d3 q) (ho:OffL [x1,x2,x3,x4] [y1,y2,y3]) (he:Ext (blks y1++blks y2++blks y3) S S'):BoxS S' x1 x2 x3 x4 r:=h.apart ho hr.h1.spot hr.h2.spot hr.h3.spot he
theorem BoxS.markS {q:Box × List Seg} (h:BoxS S x1 x2 x3 x4 r) (hr:BoxR S0 S y1 y2 y3 y4 d2 d3 q) (ho:OffL [x1,x2,x3,x4] [y4]) (he:Ext (blks y4) S S'):BoxS S' x1 x2 x3 x4 r:=h.apart1 ho hr.h4.spot he
theorem BoxR.markB {q:Box × List Seg} {e2 e3:Nat} (h:BoxR T S x1 x2 x3 x4 e2 e3 r) (hr:BoxR S0 S y1 y2 y3 y4 d2 d3 q) (ho:OffL [x1,x2,x3,x4] [y1,y2,y3]) (he:Ext (blks y1++blks y2++blks y3) S S'):BoxR T S' x1 x2 x3 x4 e2 e3 r:=h.apart ho hr.h1.spot hr.h2.spot hr.h3.spot he
end
end
end Go.Proofs.YtnccejlibbgpkaaGreatDoor
