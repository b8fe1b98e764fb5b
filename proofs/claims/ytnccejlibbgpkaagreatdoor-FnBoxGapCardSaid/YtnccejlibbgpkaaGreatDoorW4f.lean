/-
  The law FnBoxGap answers true at every input that its row allows, at every start that lays its variables: part 6 of 8.
-/
import GoSem.Step
import Derived.Conc.Token
import Derived.AtR
import Derived.Conc.Own2
import Derived.Conc.CrowdComm
import Derived.Conc.CrowdTrace
import Derived.Conc.Fork
import Derived.Conc.CrowdStepC
import Derived.Below
import Derived.Laws.Append
import Derived.Test.YtnccejlibbgpkaaGreatDoorChecked
import Derived.Test.YtnccejlibbgpkaaGreatDoorProg
import Derived.MapKept
import Derived.Conc.EventLaws
import Derived.Test.YtnccejlibbgpkaaGreatDoorW4e
set_option linter.unusedSimpArgs false
set_option linter.unusedVariables false
set_option linter.unusedSectionVars false
namespace Go.Proofs.YtnccejlibbgpkaaGreatDoor
set_option maxHeartbeats 1000000
section
variable {S0:St} {K:Value→St→Prop}
theorem ct15   (k:∀  S',Ext [] S0 S'→K (.bool true) S') :
  zC 15 #[] S0 K:=by
 refine zGh (sf:=s15) Tryz.func15 fun H=>zR (zt O (v4 (vK O (ct60 (by simp) fun t1 S hE h1=>?_))))
 replace H:=H.call hE
 refine zt O (zN (zi (z_ O ?_)))
 rw [show t1=true from h1.2 linP_a]
 exact k _ H.qx
theorem ct20 {a1 a2 a3:Option Addr} {c1 c2 c3:Nat} {b:Box} {e f:End} (h3:Sl S0 7 a3 (z0 b.cs)) (hl3:b.cs.length≤1099511627776) (k:∀  S',Ext [] S0 S'→K (int (vz b.cs e f)) S') :
  zC 20 #[.agg #[.slice a1 b.rs.length c1,.slice a2 b.es.length c2,.slice a3 b.cs.length c3],e.v,f.v] S0 K:=by
 refine zGh (sf:=s20) Tryz.func20 fun H=>zR (zBx H O O fun b3 S hb3 hE H=>zBx H O O fun b4 S hb4 hE H=>zBx H O O fun b5 S hb5 hE H=>zt O (zN (zSS (zt O (zN (zM ?_))))))
 refine vC (fun E S m_=>∃ (i:Nat),E=Env.lst [(3,vO b3 0),(4,vO b4 0),(5,vO b5 0),(7,int i)]∧Loc [] S0 S [(b5,Cs f.row 31),(b4,Cs e.row 31),(b3,Cs [.slice a1 b.rs.length c1,.slice a2 b.es.length c2,.slice a3 b.cs.length c3] 29)]∧(i≤b.cs.length)∧(FoundAt b.cs i e f)∧m_=b.cs.length-i) ?_ ?_
 ·skip
  refine ⟨_,_,?le,0,O,H,(by omega),(FoundAt.zero _ _ _),O⟩
  case le=>exact Env.qle ⟨O,O,O,O,⟨⟩⟩
 ·skip
  rintro _ S _ ⟨i,rfl,H,hi,hm,rfl⟩
  refine zSS (zt O (vT O (zL1 H O .h2 O (zLl O (za (vW O O fun t12 h12=>zN ?_))))))
  rcases t12 with _|_
  ·replace h12:=bF h12
   refine zr O (vB (z5 (z5 (vL (ze (zR (zt O (zN (zi (z_ O ?_))))))))))
   (rw [hm.no (by omega)] at k;exact k _ H.qx)
  ·replace h12:=bT h12
   obtain ⟨x,hx⟩:∃ x,b.cs[i]? = some x:=⟨b.cs[i]'(by omega),by simp⟩
   obtain ⟨p1,f1,rfl,hc⟩:=h3.row i _ (vf hx)
   refine zn O (zv (ze (zJ (zM (zJ (zY [] (zLf 0 O O O (ve 1 O O (fun S' hS'=>zB fun K hK=>zD O (zA (hS' O) (by simp) (H.cell .h2 O)) hK) (vE 2 O O O (vF 3 O O (fun _ _ hK=>vu O O (by omega) (by omega) hK) (zLf 4 O O O (ve 5 O O (fun S' hS'=>zB fun K hK=>zO (vs:=[_,_]) O (zF (hS' O) (by simp) (cells_at (i:=0) (m:=2) (H.qx.cells hc) O)) hK) (ve 6 O O (fun S' hS'=>zB fun K hK=>zO O (zF (hS' O) (by simp) (H.cells (vs:=[_,_]) .h1 O)) hK) (zCm 7 O O (fun S' _=>zB fun K hK=>W_eqE O O hK) fun t22 h22=>vE 8 O O O ?_))))))))))))))
   rcases t22 with _|_
   ·replace h22:=bF h22
    refine ve 9 O O (fun S' _=>vd O (by decide)) (ve 10 O O (fun S' _=>vd O (by decide)) (ve 11 O O (fun S' _=>vd O (by decide)) (ve 12 O O (fun S' _=>vd O (by decide)) (ve 13 O O (fun S' _=>vd O (by decide)) (ve 14 O O (fun S' _=>vd O (by decide)) (ve 15 O O (fun S' _=>vd O (by decide)) (ve 16 O O (fun S' _=>vd O (by decide)) (vF 17 O O (fun _ _ hK=>vN O O O O hK) (zS (ze (zr O (zv (z9 (ze (zT (zt O (zAd O O (zt O (zN ?_)))))))))))))))))))
    refine ⟨_,_,?lt,?le,(i+1),O,H,(by omega),(by first | exact hm.succ hx (fun h=>h22 (by rw [h.1];exact ⟨rfl,rfl⟩)) | exact hm.succ hx (fun h=>h31 (by rw [h.2];exact ⟨rfl,rfl⟩))),O⟩
    case lt=>omega
    case le=>exact Env.qle ⟨O,O,O,O,⟨⟩⟩
   ·replace h22:=bT h22
    refine ve 9 O O (fun S' _=>vg O fun K hK=>zE O hK) (ve 10 O O (fun S' hS'=>vg O fun K hK=>zD O (zA (hS' O) (by simp) (H.cell .h2 O)) hK) (ve 11 O O (fun S' _=>vg O fun K hK=>vQ O hK) (ve 12 O O (fun S' _=>vg O fun K hK=>vu O O (by omega) (by omega) hK) (ve 13 O O (fun S' _=>vg O fun K hK=>zE O hK) (ve 14 O O (fun S' hS'=>vg O fun K hK=>zO (vs:=[_,_]) O (zF (hS' O) (by simp) (cells_at (i:=2) (m:=2) (H.qx.cells hc) O)) hK) (ve 15 O O (fun S' hS'=>vg O fun K hK=>zO O (zF (hS' O) (by simp) (H.cells (vs:=[_,_]) .h O)) hK) (zCm 16 O O (fun S' _=>vg O fun K hK=>W_eqE O O hK) fun t31 h31=>vF 17 O O (fun _ _ hK=>vN O O O O hK) (zS (ze ?_)))))))))
    rcases t31 with _|_
    ·replace h31:=bF h31
     refine zr O (zv (z9 (ze (zT (zt O (zAd O O (zt O (zN ?_))))))))
     refine ⟨_,_,?lt,?le,(i+1),O,H,(by omega),(by first | exact hm.succ hx (fun h=>h22 (by rw [h.1];exact ⟨rfl,rfl⟩)) | exact hm.succ hx (fun h=>h31 (by rw [h.2];exact ⟨rfl,rfl⟩))),O⟩
     case lt=>omega
     case le=>exact Env.qle ⟨O,O,O,O,⟨⟩⟩
    ·replace h31:=bT h31
     refine zn O (zR (zt O (zt O (zN (zi (vo (zy (zy (vo (zy (z_ O ?_)))))))))))
     (rw [hm.hit hx ⟨End.ext' h22,End.ext' h31⟩] at k;exact k _ H.qx)
end
section
open Go
theorem gap_out {b:Box} {s:Seg} {k:Nat} {c0:Conn} (h:BoxP b) (hk:vz b.cs s.s s.d=(k:Int)) (hx:b.cs[k]? = some c0) (hr:0<(vX b s).2.length) (hc:s.d.p=21) :
    ∃ c,(vX b s).1.cs[k]? = some c∧c.kn=vq c0.kn s:=by
  by_cases hy:BoxP b∧SegP s∧s.s.inn∧s.d.out∧mayR b.rs s.s s.d=true
  case neg=>rw [(boxOutP_not hy).1 h] at hr;simp at hr
  by_cases hp:putP b.es s.s=0
  · rw [boxOutP_full hy hp] at hr;simp at hr
  have hT:=TabP_put h.1 hy.2.2.1
  have hB1:BoxP {b with es:=putE b.es s.s}:=BoxP_pre h (putE_pre _ _) hT
  have e:=boxOutP_ctl hy hp hc
  have hm:s.s∈putE b.es s.s:=putE_in hp
  obtain ⟨_,_,_,_,_,q6⟩:=ctl_box (b:=b) (port:=putP b.es s.s) hB1 hy.2.2.1 hy.2.2.2.1 hc hm
  rw [e] at hr ⊢
  have hpl:vU b.cs s.s s.d=(b.cs,(k:Int)):=by rw [placeC_old (by omega),hk]
  rcases q6 with ⟨q,_⟩ | ⟨cs1,k1,c1,q1,q2,q3,_,_,q4⟩
  · rw [q] at hr;simp at hr
  · rw [show vU ({b with es:=putE b.es s.s}:Box).cs s.s s.d=(b.cs,(k:Int)) from hpl] at q1
    injection q1 with r1 r2
    have r2':k1=k:=by omega
    subst r1;subst r2'
    rw [hx] at q2;cases q2
    rw [q4]
    have hkl:=(List.getElem?_eq_some_iff.1 hx).1
    exact ⟨vR c0 s,by simp [hkl],by rw [knownC_eq]⟩
theorem gap_seg {b:Box} {s:Seg} (h:BoxP b) (hr:0<(vX b s).2.length):SegP s:=by
 by_cases hy:BoxP b∧SegP s∧s.s.inn∧s.d.out∧mayR b.rs s.s s.d=true
 ·exact hy.2.1
 ·rw [(boxOutP_not hy).1 h] at hr;simp at hr
theorem gap_segI {b:Box} {s:Seg} (h:BoxP b) (hr:0<(vJ b s).2.length):SegP s:=by
 by_cases hy:BoxP b∧SegP s∧s.s.out∧s.d.a=50
 ·exact hy.2.1
 ·rw [(boxInP_not hy).1 h] at hr;simp at hr
theorem gap_in {b:Box} {s:Seg} {k:Nat} {c0:Conn} {e:End} (h:BoxP b) (he:endP b.es s.d.p=some e) (hk:vz b.cs e s.s=(k:Int)) (hx:b.cs[k]? = some c0) (hr:0<(vJ b s).2.length) :
    ∃ c,(vJ b s).1.cs[k]? = some c∧c.he=vq c0.he s:=by
  by_cases hy:BoxP b∧SegP s∧s.s.out∧s.d.a=50
  case neg=>rw [(boxInP_not hy).1 h] at hr;simp at hr
  by_cases hm:mayR b.rs e s.s=true
  case neg=>rw [boxInP_deny hy he hm] at hr;simp at hr
  have hE:=boxInP_in hy he hm (by omega)
  rw [hk,Int.toNat_natCast] at hE
  obtain ⟨q1,_,_⟩:=in_box (s:=s) h hx
  rw [hE,q1]
  have hkl:=(List.getElem?_eq_some_iff.1 hx).1
  exact ⟨heardC b.es c0 s,by simp [hkl],by rw [heardC_eq]⟩
end
section
variable {S0:St} {K:Value→St→Prop}
set_option maxRecDepth 100000
theorem walk4 {a a1:Option Addr} {n0 cap n1 cap1:Nat} {S0:St} (hG:GlobI S0) (hy0:By S0 a n0) (hc:n0≤cap) (hy1:By S0 a1 n1) (hc1:n1≤cap1) :
  Go1 Tryz.prog true (FinR Tryz.prog fun v S=>v=.bool true∧S.g=.idle) (Go.Conc.G (Frame.enter Tryz.prog 4 [.slice a n0 cap,.slice a1 n1 cap1].toArray .normal) []) S0:=by
 refine go1_slim (sf:=s4) (args:=[.slice a n0 cap,.slice a1 n1 cap1]) (fun _ _ h=>h.2) (by kernel_rfl) Tryz.func4 (by kernel_rfl) (of_decide_eq_true O) ?_
 have H:=Loc.start [] S0
 refine zR (zt O (zN (zSS (zt O (zLl O (za (W_gtr O O fun t21 h21=>zt O ?_)))))))
 rcases t21 with _|_
 ·replace h21:=bF h21
  refine zh O (vQ O (zh O (W_lenL O (zh O (W_gtr O O fun t25 h25=>vw O O O O (zN ?_))))))
  rcases t25 with _|_
  ·replace h25:=bF h25
   refine zr O (zv (ze (zR (zt O (vK O (ct12 (hy0.mono H.qx) hc fun x129 x229 x329 d129 d229 d329 b29 s29 S hE k129 k229 k329 lc229 lc329 hz29 hl29 o129 o229 o329=>?_))))))
   replace H:=H.call hE
   refine zt O (zEx O O (zEx O O (zAl H O fun b5 S hb5 hE H=>?_)))
   have k129_b5:=k129.ne hb5
   replace k129:=k129.mono hE
   have k229_b5:=k229.ne hb5
   replace k229:=k229.mono hE
   have k329_b5:=k329.ne hb5
   replace k329:=k329.mono hE
   refine zAl H O fun b6 S hb6 hE H=>?_
   have k129_b6:=k129.ne hb6
   replace k129:=k129.mono hE
   have k229_b6:=k229.ne hb6
   replace k229:=k229.mono hE
   have k329_b6:=k329.ne hb6
   replace k329:=k329.mono hE
   refine zSs H O O O .h1 O fun S hE H=>?_
   replace k129:=k129.qy hE k129_b5
   replace k229:=k229.qy hE k229_b5
   replace k329:=k329.qy hE k329_b5
   refine zSs H O O O .h O fun S hE H=>?_
   replace k129:=k129.qy hE k129_b6
   replace k229:=k229.qy hE k229_b6
   replace k329:=k329.qy hE k329_b6
   refine v4 (zLn (vs:=[_,_,_]) H O .h1 O (zLn (vs:=[_,_,_,_,_,_,_]) H O .h O (vK O (ct13 (hG.mono H.qx) k129 k229 k329 lc229 lc329 hz29 (by omega) fun x135 x235 x335 x435 d235 d335 r35 S hE hr35 hR35=>?_))))
   replace hR35:=hR35.back H.qx
   have hZ35:BoxZ r35.1:=by rw [hr35];exact (boxOutP_Y _ _).z
   replace H:=H.call hE
   replace k129:=k129.mono hE
   replace k229:=k229.mono hE
   replace k329:=k329.mono hE
   refine zt O (zEx O O (zEx O O (zAl H O fun b7 S hb7 hE H=>?_)))
   have k129_b7:=k129.ne hb7
   replace k129:=k129.mono hE
   have k229_b7:=k229.ne hb7
   replace k229:=k229.mono hE
   have k329_b7:=k329.ne hb7
   replace k329:=k329.mono hE
   have hR35_b7:=hR35.ne hb7
   replace hR35:=hR35.mono hE
   refine zSs H O O O .h O fun S hE H=>?_
   replace k129:=k129.qy hE k129_b7
   replace k229:=k229.qy hE k229_b7
   replace k329:=k329.qy hE k329_b7
   replace hR35:=hR35.qy hE hR35_b7
   refine zt O (v4 (zLn (vs:=[_,_,_]) H O .h2 O (vT O (zLn (vs:=[_,_]) H O .h1 O (vT O (zLn (vs:=[_,_]) H O .h1 O (vK O (ct20 k329 (by have:=hz29.2.2.1;omega) fun S hE =>?_))))))))
   replace H:=H.call hE
   replace k129:=k129.mono hE
   replace k229:=k229.mono hE
   replace k329:=k329.mono hE
   replace hR35:=hR35.mono hE
   refine zt O (zN ?_)
   refine wpS_cut (fun E S=>E=Env.lst [(1,.slice a1 n1 cap1)]∧Loc [] S0 S []) ?_ ?_
   ·skip
    refine zR (zLn (vs:=[_,_,_]) H O .h2 O (vK O (ct14 k129 k229 k329 lc229 lc329 hz29 fun t45 S hE h45=>?_)))
    replace H:=H.call hE
    replace k329:=k329.mono hE
    replace hR35:=hR35.mono hE
    refine zt O ?_
    rcases t45 with _|_
    ·replace h45:=bF h45
     refine zK O (zK O (vw O O O O (zt O (zK O (zK O (zK O (vw O O O O (zt O (zK O (zK O (zK O (zK O (vw O O O O (zN (zr O (zv (ze ?_)))))))))))))))))
     refine ⟨_,?le,O,(H.sub (.cons _ (.cons _ (.cons _ .slnil))))⟩
     case le=>exact Env.qle ⟨O,⟨⟩⟩
    ·replace h45:=bT h45
     refine zh O (vQ O (zh O (W_geq O O fun t48 h48=>vw O O O O (zt O ?_))))
     rcases t48 with _|_
     ·replace h48:=bF h48
      refine zK O (zK O (zK O (vw O O O O (zt O (zK O (zK O (zK O (zK O (vw O O O O (zN (zr O (zv (ze ?_)))))))))))))
      refine ⟨_,?le,O,(H.sub (.cons _ (.cons _ (.cons _ .slnil))))⟩
      case le=>exact Env.qle ⟨O,⟨⟩⟩
     ·replace h48:=bT h48
      refine zh O (vQ O (zh O (W_lenL O (zh O (W_gtr O O fun t53 h53=>vw O O O O (zt O ?_))))))
      rcases t53 with _|_
      ·replace h53:=bF h53
       refine zK O (zK O (zK O (zK O (vw O O O O (zN (zr O (zv (ze ?_))))))))
       refine ⟨_,?le,O,(H.sub (.cons _ (.cons _ (.cons _ .slnil))))⟩
       case le=>exact Env.qle ⟨O,⟨⟩⟩
      ·replace h53:=bT h53
       refine zh O (zE O (zh O (zE O (zh O (vt H O .h1 O (zh O (vZ O O fun t59 h59=>vw O O O O (zN ?_))))))))
       rcases t59 with _|_
       ·replace h59:=bF h59
        refine zr O (zv (ze ?_))
        refine ⟨_,?le,O,(H.sub (.cons _ (.cons _ (.cons _ .slnil))))⟩
        case le=>exact Env.qle ⟨O,⟨⟩⟩
       ·replace h59:=bT h59
        obtain ⟨kf,hkf⟩:∃ k:Nat,vz b29.cs s29.s s29.d=(k:Int):=⟨(vz b29.cs s29.s s29.d).toNat,by omega⟩
        rw [hkf]
        have hbd:=findC_bd b29.cs s29.s s29.d
        obtain ⟨c0,hx0⟩:∃ c,b29.cs[kf]? = some c:=⟨b29.cs[kf]'(by omega),by simp⟩
        have hkl:=(List.getElem?_eq_some_iff.1 hx0).1
        have hr2:0<(vX b29 s29).2.length:=by rw [← hr35];omega
        have hsg:=gap_seg h45 hr2
        obtain ⟨c1,hx1,hc1k⟩:=gap_out h45 hkf hx0 hr2 h59
        rw [← hr35] at hx1
        have hkl1:=(List.getElem?_eq_some_iff.1 hx1).1
        obtain ⟨pa,fa,rfl,_⟩:=k329.row kf _ (vf hx0)
        obtain ⟨pb,fb,rfl,_⟩:=hR35.h3.row kf _ (vf hx1)
        have hsm:=(h45.small).2.2.2 c0 (List.mem_of_getElem? hx0)
        have hgl:=grown_len c0.kn s29
        have hs3:=hsg.2.2.1
        refine zn O (zJ (zY [] (zLf 0 O O O (ve 1 O O (fun S' hS'=>zB fun K hK=>zD O (zA (hS' O) (by simp) (H.cell .h2 O)) hK) (vE 2 O O O (vF 3 O O (fun _ _ hK=>vu O O (by omega) (by omega) hK) (zLf 4 O O O (ve 5 O O (fun S' hS'=>zB fun K hK=>zD O (zA (hS' O) (by simp) (vM (i:=4) (k329.at (vf hx0)) O)) hK) (ve 6 O O (fun S' hS'=>zB fun K hK=>zO O (zF (hS' O) (by simp) (H.cells (vs:=[_,_,_,_,_,_,_]) .h1 O)) hK) (zw 7 (by kernel_rfl) O O (zj (zU O (ct21 (by omega) (by omega) (by omega) fun S hE =>?_)))))))))))))
        replace H:=H.call hE
        replace k329:=k329.mono hE
        replace hR35:=hR35.mono hE
        refine zLd (vE 8 O O O (zS (ze (zSS (zt O (vK O (ct22 (by omega) fun t70 S hE h70=>?_)))))))
        replace H:=H.call hE
        replace k329:=k329.mono hE
        replace hR35:=hR35.mono hE
        refine zNt O (zN ?_)
        rcases t70 with _|_
        ·replace h70:=bF h70
         refine zn O (zT (vT O (zL1 H O .h2 O (zt O (zIa O O (vT O (za (zD O (vM (i:=4) (k329.at (vf hx0)) O) (zt O (v4 (vT O (zL1 H O .h O (zt O (zIa O O (vT O (za (zD O (vM (i:=4) (hR35.h3.at (vf hx1)) O) (zt O (za (W_neS O O fun t85 h85=>zN ?_))))))))))))))))))))
         rcases t85 with _|_
         ·replace h85:=bF h85
          refine zr O (zv (ze ?_))
          refine ⟨_,?le,O,(H.sub (.cons _ (.cons _ (.cons _ .slnil))))⟩
          case le=>exact Env.qle ⟨O,⟨⟩⟩
         ·replace h85:=bT h85
          exact absurd (by rw [hc1k];unfold vq;first | exact if_pos h70 | exact if_neg h70) h85
        ·replace h70:=bT h70
         refine zr O (zv (ze (zR (vT O (zL1 H O .h O (zt O (zIa O O (vT O (za (zD O (vM (i:=4) (hR35.h3.at (vf hx1)) O) (zt O (za (W_neS O O fun t85 h85=>zN ?_)))))))))))))
         rcases t85 with _|_
         ·replace h85:=bF h85
          refine zr O (zv (ze ?_))
          refine ⟨_,?le,O,(H.sub (.cons _ (.cons _ (.cons _ .slnil))))⟩
          case le=>exact Env.qle ⟨O,⟨⟩⟩
         ·replace h85:=bT h85
          exact absurd (by rw [hc1k];unfold vq;first | exact if_pos h70 | exact if_neg h70) h85
   ·skip
    rintro _ S ⟨rfl,H⟩
    refine zR (zt O (vK O (ct23 (hy1.mono H.qx) hc1 fun x188 x288 x388 d188 d288 d388 b88 s88 S hE k188 k288 k388 lc288 lc388 hz88 hl88 o188 o288 o388=>?_)))
    replace H:=H.call hE
    refine zt O (zEx O O (zEx O O (zAl H O fun b11 S hb11 hE H=>?_)))
    have k188_b11:=k188.ne hb11
    replace k188:=k188.mono hE
    have k288_b11:=k288.ne hb11
    replace k288:=k288.mono hE
    have k388_b11:=k388.ne hb11
    replace k388:=k388.mono hE
    refine zAl H O fun b12 S hb12 hE H=>?_
    have k188_b12:=k188.ne hb12
    replace k188:=k188.mono hE
    have k288_b12:=k288.ne hb12
    replace k288:=k288.mono hE
    have k388_b12:=k388.ne hb12
    replace k388:=k388.mono hE
    refine zSs H O O O .h1 O fun S hE H=>?_
    replace k188:=k188.qy hE k188_b11
    replace k288:=k288.qy hE k288_b11
    replace k388:=k388.qy hE k388_b11
    refine zSs H O O O .h O fun S hE H=>?_
    replace k188:=k188.qy hE k188_b12
    replace k288:=k288.qy hE k288_b12
    replace k388:=k388.qy hE k388_b12
    refine v4 (zLn (vs:=[_,_,_]) H O .h1 O (zLn (vs:=[_,_,_,_,_,_,_]) H O .h O (vK O (ct24 (hG.mono H.qx) k188 k288 k388 lc288 lc388 hz88 (by omega) fun x194 x294 x394 x494 d294 d394 r94 S hE hr94 hR94=>?_))))
    replace hR94:=hR94.back H.qx
    have hZ94:BoxZ r94.1:=by rw [hr94];exact (boxInP_Y _ _).z
    replace H:=H.call hE
    replace k188:=k188.mono hE
    replace k288:=k288.mono hE
    replace k388:=k388.mono hE
    refine zt O (zEx O O (zEx O O (zAl H O fun b13 S hb13 hE H=>?_)))
    have k188_b13:=k188.ne hb13
    replace k188:=k188.mono hE
    have k288_b13:=k288.ne hb13
    replace k288:=k288.mono hE
    have k388_b13:=k388.ne hb13
    replace k388:=k388.mono hE
    have hR94_b13:=hR94.ne hb13
    replace hR94:=hR94.mono hE
    refine zSs H O O O .h O fun S hE H=>?_
    replace k188:=k188.qy hE k188_b13
    replace k288:=k288.qy hE k288_b13
    replace k388:=k388.qy hE k388_b13
    replace hR94:=hR94.qy hE hR94_b13
    refine zt O (v4 (vT O (zLn (vs:=[_]) H O .h2 O (vT O (vT O (zL1 H O .h1 O (vK O (ct25 k288 lc288 (by have:=hz88.2.1;omega) fun e103 t103 S hE hy103 hn103=>?_))))))))
    replace H:=H.call hE
    have h103:t103=true↔t103=true:=Iff.rfl
    replace k188:=k188.mono hE
    replace k288:=k288.mono hE
    replace k388:=k388.mono hE
    replace hR94:=hR94.mono hE
    refine zt O (zEx O O (zEx O O (zAl H O fun b15 S hb15 hE H=>?_)))
    have k188_b15:=k188.ne hb15
    replace k188:=k188.mono hE
    have k288_b15:=k288.ne hb15
    replace k288:=k288.mono hE
    have k388_b15:=k388.ne hb15
    replace k388:=k388.mono hE
    have hR94_b15:=hR94.ne hb15
    replace hR94:=hR94.mono hE
    refine zSs H O O O .h O fun S hE H=>?_
    replace k188:=k188.qy hE k188_b15
    replace k288:=k288.qy hE k288_b15
    replace k388:=k388.qy hE k388_b15
    replace hR94:=hR94.qy hE hR94_b15
    refine zt O (v4 (zLn (vs:=[_,_,_]) H O .h3 O (zLn (vs:=[_,_]) H O .h O (vT O (zLn (vs:=[_,_]) H O .h2 O (vK O (ct20 k388 (by have:=hz88.2.2.1;omega) fun S hE =>?_)))))))
    replace H:=H.call hE
    replace k188:=k188.mono hE
    replace k288:=k288.mono hE
    replace k388:=k388.mono hE
    replace hR94:=hR94.mono hE
    refine zt O (zN ?_)
    refine wpS_cut (fun E S=>E=Env.lst [(1,.slice a1 n1 cap1)]∧Loc [] S0 S []) ?_ ?_
    ·skip
     refine zR (zLn (vs:=[_,_,_]) H O .h3 O (vK O (ct14 k188 k288 k388 lc288 lc388 hz88 fun t112 S hE h112=>?_)))
     replace H:=H.call hE
     replace k388:=k388.mono hE
     replace hR94:=hR94.mono hE
     refine zt O ?_
     rcases t112 with _|_
     ·replace h112:=bF h112
      refine zK O (vw O O O O (zt O (zK O (zK O (vw O O O O (zt O (zK O (zK O (zK O (vw O O O O (zN (zr O (zv (ze ?_))))))))))))))
      refine ⟨_,?le,O,(H.sub (.cons _ (.cons _ (.cons _ (.cons _ .slnil)))))⟩
      case le=>exact Env.qle ⟨O,⟨⟩⟩
     ·replace h112:=bT h112
      refine zh O (vQ O (vw O O O O (zt O ?_)))
      rcases t103 with _|_
      ·replace h103:=bF h103
       refine zK O (zK O (vw O O O O (zt O (zK O (zK O (zK O (vw O O O O (zN (zr O (zv (ze ?_)))))))))))
       refine ⟨_,?le,O,(H.sub (.cons _ (.cons _ (.cons _ (.cons _ .slnil)))))⟩
       case le=>exact Env.qle ⟨O,⟨⟩⟩
      ·replace h103:=bT h103
       refine zh O (vQ O (zh O (W_geq O O fun t118 h118=>vw O O O O (zt O ?_))))
       rcases t118 with _|_
       ·replace h118:=bF h118
        refine zK O (zK O (zK O (vw O O O O (zN (zr O (zv (ze ?_)))))))
        refine ⟨_,?le,O,(H.sub (.cons _ (.cons _ (.cons _ (.cons _ .slnil)))))⟩
        case le=>exact Env.qle ⟨O,⟨⟩⟩
       ·replace h118:=bT h118
        refine zh O (vQ O (zh O (W_lenL O (zh O (W_gtr O O fun t123 h123=>vw O O O O (zN ?_))))))
        rcases t123 with _|_
        ·replace h123:=bF h123
         refine zr O (zv (ze ?_))
         refine ⟨_,?le,O,(H.sub (.cons _ (.cons _ (.cons _ (.cons _ .slnil)))))⟩
         case le=>exact Env.qle ⟨O,⟨⟩⟩
        ·replace h123:=bT h123
         have hee:=hy103 rfl
         obtain ⟨kf,hkf⟩:∃ k:Nat,vz b88.cs e103 s88.s=(k:Int):=⟨(vz b88.cs e103 s88.s).toNat,by omega⟩
         rw [hkf]
         have hbd:=findC_bd b88.cs e103 s88.s
         obtain ⟨c0,hx0⟩:∃ c,b88.cs[kf]? = some c:=⟨b88.cs[kf]'(by omega),by simp⟩
         have hkl:=(List.getElem?_eq_some_iff.1 hx0).1
         have hr2:0<(vJ b88 s88).2.length:=by rw [← hr94];omega
         have hsg:=gap_segI h112 hr2
         obtain ⟨c1,hx1,hc1k⟩:=gap_in h112 hee hkf hx0 hr2
         rw [← hr94] at hx1
         have hkl1:=(List.getElem?_eq_some_iff.1 hx1).1
         obtain ⟨pa,fa,rfl,_⟩:=k388.row kf _ (vf hx0)
         obtain ⟨pb,fb,rfl,_⟩:=hR94.h3.row kf _ (vf hx1)
         have hsm:=(h112.small).2.2.2 c0 (List.mem_of_getElem? hx0)
         have hgl:=grown_len c0.he s88
         have hs3:=hsg.2.2.1
         refine zn O (zJ (zY [] (zLf 0 O O O (ve 1 O O (fun S' hS'=>zB fun K hK=>zD O (zA (hS' O) (by simp) (H.cell .h3 O)) hK) (vE 2 O O O (vF 3 O O (fun _ _ hK=>vu O O (by omega) (by omega) hK) (zLf 4 O O O (ve 5 O O (fun S' hS'=>zB fun K hK=>zD O (zA (hS' O) (by simp) (vM (i:=5) (k388.at (vf hx0)) O)) hK) (ve 6 O O (fun S' hS'=>zB fun K hK=>zO O (zF (hS' O) (by simp) (H.cells (vs:=[_,_,_,_,_,_,_]) .h2 O)) hK) (zw 7 (by kernel_rfl) O O (zj (zU O (ct21 (by omega) (by omega) (by omega) fun S hE =>?_)))))))))))))
         replace H:=H.call hE
         replace k388:=k388.mono hE
         replace hR94:=hR94.mono hE
         refine zLd (vE 8 O O O (zS (ze (zSS (zt O (vK O (ct22 (by omega) fun t134 S hE h134=>?_)))))))
         replace H:=H.call hE
         replace k388:=k388.mono hE
         replace hR94:=hR94.mono hE
         refine zNt O (zN ?_)
         rcases t134 with _|_
         ·replace h134:=bF h134
          refine zn O (zT (vT O (zL1 H O .h3 O (zt O (zIa O O (vT O (za (zD O (vM (i:=5) (k388.at (vf hx0)) O) (zt O (v4 (vT O (zL1 H O .h1 O (zt O (zIa O O (vT O (za (zD O (vM (i:=5) (hR94.h3.at (vf hx1)) O) (zt O (za (W_neS O O fun t149 h149=>zN ?_))))))))))))))))))))
          rcases t149 with _|_
          ·replace h149:=bF h149
           refine zr O (zv (ze ?_))
           refine ⟨_,?le,O,(H.sub (.cons _ (.cons _ (.cons _ (.cons _ .slnil)))))⟩
           case le=>exact Env.qle ⟨O,⟨⟩⟩
          ·replace h149:=bT h149
           exact absurd (by rw [hc1k];unfold vq;first | exact if_pos h134 | exact if_neg h134) h149
         ·replace h134:=bT h134
          refine zr O (zv (ze (zR (vT O (zL1 H O .h1 O (zt O (zIa O O (vT O (za (zD O (vM (i:=5) (hR94.h3.at (vf hx1)) O) (zt O (za (W_neS O O fun t149 h149=>zN ?_)))))))))))))
          rcases t149 with _|_
          ·replace h149:=bF h149
           refine zr O (zv (ze ?_))
           refine ⟨_,?le,O,(H.sub (.cons _ (.cons _ (.cons _ (.cons _ .slnil)))))⟩
           case le=>exact Env.qle ⟨O,⟨⟩⟩
          ·replace h149:=bT h149
           exact absurd (by rw [hc1k];unfold vq;first | exact if_pos h134 | exact if_neg h134) h149
    ·skip
     rintro _ S ⟨rfl,H⟩
     refine zR (vK O (ct15  fun S hE =>?_))
     replace H:=H.call hE
     refine zt O (zN (zi (z_ O ?_)))
     first | exact ⟨rfl,H.g.eq.trans hG.i⟩
  ·replace h25:=bT h25
   refine zn O (zR (zt O (zN (zi (zy (z_ O ?_))))))
   first | exact ⟨rfl,H.g.eq.trans hG.i⟩
 ·replace h21:=bT h21
  refine zK O (zK O (zK O (vw O O O O (zN (zn O (zR (zt O (zN (zi (zy (z_ O ?_)))))))))))
  first | exact ⟨rfl,H.g.eq.trans hG.i⟩
end
end Go.Proofs.YtnccejlibbgpkaaGreatDoor
