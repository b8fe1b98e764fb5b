/-
  The law FnBoxTwice answers true at every input that its row allows, at every start that lays its variables: part 4 of 8.
-/
import GoSem.Step
import Derived.Conc.Token
import Derived.AtR
import Derived.Conc.Own2
import Derived.Conc.CrowdComm
import Derived.Conc.CrowdTrace
import Derived.Conc.Fork
import Derived.Conc.CrowdStepC
import Derived.Below
import Derived.Laws.Append
import Derived.Test.YtnccejlibbgpkaaGreatDoorChecked
import Derived.Test.YtnccejlibbgpkaaGreatDoorProg
import Derived.MapKept
import Derived.Test.YtnccejlibbgpkaaGreatDoorW7c
set_option linter.unusedSimpArgs false
set_option linter.unusedVariables false
set_option linter.unusedSectionVars false
namespace Go.Proofs.YtnccejlibbgpkaaGreatDoor
set_option maxHeartbeats 1000000
section
variable {S0:St} {K:Value→St→Prop}
variable {n:Nat}
theorem ct262 {t0:Bool}  (k:∀  S',Ext [] S0 S'→K (int (bif t0 then 1 else 0)) S') :
  zC 262 #[.bool t0] S0 K:=by
 refine zGh (sf:=s262) Tryz.func262 fun H=>?_
 have h0:t0=true↔t0=true:=Iff.rfl
 refine zR (zt O (zN (zSS (zt O (zN ?_)))))
 rcases t0 with _|_
 ·replace h0:=bF h0
  refine zr O (zv (ze (zR (zt O (zN (zi (z9 O ?_)))))))
  exact k _ H.qx
 ·replace h0:=bT h0
  refine zj O (zR (zt O (zN (zi (zw (z9 O ?_))))))
  exact k _ H.qx
theorem ct260 {r:Int} (h0:7≤r) (h1:r≤10) (k:∀ (q:Int) S',Ext [] S0 S'→((r≤9→q=2)∧(r=10→q=3))→K (int q) S') :
  zC 260 #[int r] S0 K:=by
 refine zGh (sf:=s260) Tryz.func260 fun H=>zR (zt O (v4 (zt O (za (W_mul O O (by omega) (by omega) (za (W_shr O O (by decide) (by decide) (zt O (zN (zi (z9 O (k _ _ H.qx ?_))))))))))))
 obtain rfl | rfl | rfl | rfl:r=7∨r=8∨r=9∨r=10:=by omega
 all_goals exact ⟨by decide,by decide⟩
theorem ct261 (h0:100≤n) (h1:n≤999) (k:∀ (r:Int) S',Ext [] S0 S'→(7≤r∧r≤10)→K (int r) S') :
  zC 261 #[.int .u64 n] S0 K:=by
 refine zGh (sf:=s261) Tryz.func261 fun H=>zR (zt O (zN (zSS (zt O (za (W_geq O O fun t4 h4=>zN ?_))))))
 rcases t4 with _|_
 ·replace h4:=bF h4
  refine zr O (zv (ze (zSS (zt O (za (W_geq O O fun t8 h8=>zN ?_))))))
  rcases t8 with _|_
  ·replace h8:=bF h8
   refine zr O (zv (ze (zSS (zt O (za (W_geq O O fun t14 h14=>zN ?_))))))
   rcases t14 with _|_
   ·replace h14:=bF h14
    refine zr O (zv (ze (zR (zt O ?_))))
    obtain ⟨c,hlc,hc1,hc2,hc3⟩:=len8_all ⟨n,by omega⟩
    simp only at hc1 hc2 hc3 hlc
    have hc8:c.toNat=7∨c.toNat=8∨c.toNat=1∨c.toNat=2:=by
     by_cases hn:100≤n
     ·rcases hc1 hn with rfl | rfl<;>decide
     ·by_cases h1:n=1
      ·rw [hc2 h1];decide
      ·rw [hc3 (by omega)];decide
    have hc9:256≤n→c.toNat≤2∧1≤c.toNat:=by
     intro hn
     by_cases h1:n=1
     ·rw [hc2 h1];decide
     ·rw [hc3 (by omega)];decide
    have hc10:n<256→7≤c.toNat:=by
     intro hn
     rcases hc1 (by omega) with rfl | rfl<;>decide
    refine zt O (za (W_conv (m:=((n:Nat):Int)) O (wrapu8_in (by omega) (by omega)) (za (W_idxT (l:=LEN8) O O (by omega) hlc (za (W_conv O (wrap64_in (by omega) (by omega)) (zAd O O (zt O (zN (zi (z9 O ?_)))))))))))
    exact k _ _ H.qx (by omega)
   ·replace h14:=bT h14
    refine zj O (zR (zt O (za (W_shrU (j:=8) (m:=256) O O (by decide) (by decide) (zt O (zN (zU (zt O (zAd O O (zt O (v4 (zt O ?_))))))))))))
    obtain ⟨c,hlc,hc1,hc2,hc3⟩:=len8_all ⟨(n / 256),by omega⟩
    simp only at hc1 hc2 hc3 hlc
    have hc8:c.toNat=7∨c.toNat=8∨c.toNat=1∨c.toNat=2:=by
     by_cases hn:100≤(n / 256)
     ·rcases hc1 hn with rfl | rfl<;>decide
     ·by_cases h1:(n / 256)=1
      ·rw [hc2 h1];decide
      ·rw [hc3 (by omega)];decide
    have hc9:256≤n→c.toNat≤2∧1≤c.toNat:=by
     intro hn
     by_cases h1:(n / 256)=1
     ·rw [hc2 h1];decide
     ·rw [hc3 (by omega)];decide
    have hc10:n<256→7≤c.toNat:=by
     intro hn
     rcases hc1 (by omega) with rfl | rfl<;>decide
    refine zt O (za (W_conv (m:=(((n / 256):Nat):Int)) O (wrapu8_in (by omega) (by omega)) (za (W_idxT (l:=LEN8) O O (by omega) hlc (za (W_conv O (wrap64_in (by omega) (by omega)) (zAd O O (zt O (zN (zi (z9 O ?_)))))))))))
    exact k _ _ H.qx (by omega)
  ·replace h8:=bT h8
   exact absurd h8 (by omega)
 ·replace h4:=bT h4
  exact absurd h4 (by omega)
theorem sz246:(Tryz.prog.info? 246).map (·.size)=some 1:=by kernel_rfl
theorem ct255 (hG:Glob S0) (h0:100≤n) (h1:n≤999) (k:∀  S',Ext [] S0 S'→K (int 3) S') :
  zC 255 #[.int .u64 n] S0 K:=by
 refine zGh (sf:=s255) Tryz.func255 fun H=>zR (zt O (v4 (zt O (vK O (ct261 (by omega) (by omega) fun r5 S hE hr5=>?_)))))
 replace H:=H.call hE
 refine vK O (ct260 (by omega) (by omega) fun q6 S hE hq6=>?_)
 replace H:=H.call hE
 refine zt O (zN (zJ ?_))
 have hG2:=hG.mono H.qx
 have hq23:q6=2∨q6=3:=by have:=hq6;omega
 obtain ⟨v11,hv11,hp11⟩:∃ v:Nat,S.cell? ⟨4,q6.toNat*1,none⟩=some (.int .u64 v)∧((q6=2∧v=100)∨(q6=3∧v=1000)):=by
  rcases hq23 with rfl | rfl
  ·exact ⟨100,hG2.p2,.inl ⟨rfl,rfl⟩⟩
  ·exact ⟨1000,hG2.p3,.inr ⟨rfl,rfl⟩⟩
 refine zU (zt O (zt O (zt O ?_)))
 obtain ⟨ti5,hti5,hts5⟩:=Option.map_eq_some_iff.1 sz246
 refine za (W_arrAddr Tryz.underlying257 hti5 O O (by omega) (by rcases hq23 with rfl | rfl<;>decide) ?_)
 rw [hts5,addr_add,Nat.zero_add]
 refine za (zE O hv11 (za (W_geq O O fun t12 h12=>vK O (ct262 (t0:=t12) fun S hE =>?_))))
 replace H:=H.call hE
 refine za (W_add O O (by cases t12<;>simp<;>omega) (by cases t12<;>simp<;>omega) (zt O (zN (zi (z9 O ?_)))))
 have e:q6+(bif t12 then (1:Int) else 0)=3:=by
  rcases hp11 with ⟨e1,e2⟩ | ⟨e1,e2⟩
  ·have:t12=true:=h12.2 (by subst e2;omega)
   rw [this,e1];rfl
  ·have:t12=false:=by
    cases t12 with
    | false=>rfl
    | true=>have:=h12.1 rfl;subst e2;omega
   rw [this,e1];rfl
 rw [← e] at k
 exact k _ H.qx
theorem ct254 (h1:n<100) (k:∀  S',Ext [] S0 S'→K (str (dig n)) S') :
  zC 254 #[int n] S0 K:=by
 refine zGh (sf:=s254) Tryz.func254 fun H=>zR (zt O (zN (zSS (zt O (za (vT O O fun t4 h4=>zN ?_))))))
 rcases t4 with _|_
 ·replace h4:=bF h4
  refine zr O (zv (ze (zR (zt O (za (W_mul O O (by omega) (by omega) (zt O (za (W_mul O O (by omega) (by omega) (zAd O O (za (W_slS (l:=SMALLS) O O O (by omega) (by omega) (by rw [SMALLS_len];omega) (zt O (zN (zi (z9 O ?_))))))))))))))))
  have e:((SMALLS.drop (((n:Nat):Int)*2).toNat).take ((((n:Nat):Int)*2+2).toNat-(((n:Nat):Int)*2).toNat))=dig n:=by
   rw [show (((n:Nat):Int)*2).toNat=2*n by omega,show (((n:Nat):Int)*2+2).toNat-2*n=2 by omega]
   exact smalls2 (by omega) (by omega)
  rw [← e] at k
  exact k _ H.qx
 ·replace h4:=bT h4
  refine zj O (zR (zt O (zt O (zAd O O (za (W_slS (l:=DIG36) O O O (by omega) (by omega) (by rw [DIG36_len];omega) (zt O (zN (zi (zw (z9 O ?_)))))))))))
  have e:((DIG36.drop ((n:Nat):Int).toNat).take ((((n:Nat):Int)+1).toNat-((n:Nat):Int).toNat))=dig n:=by
   rw [show ((n:Nat):Int).toNat=n by omega,show (((n:Nat):Int)+1).toNat-n=1 by omega]
   exact dig36_1 (by omega)
  rw [← e] at k
  exact k _ H.qx
theorem sz5:(Tryz.prog.info? 5).map (·.size)=some 1:=by kernel_rfl
theorem ct256 {b:Nat} (ho:S0 b=some ⟨Cs (List.replicate 24 (byt 0)) 245,true⟩) (h0:100≤n) (h1:n≤999) (k:∀ (cs':List Value) S',Ext [b] S0 S'→S' b=some ⟨Cs cs' 245,true⟩→subl cs' 1 3=some ((dig n).map byt)→K (.tuple #[]) S') :
  zC 256 #[sl b 1 3 23,.int .u64 n] S0 K:=by
 refine zGo (sf:=s256) Tryz.func256 ?_
 have H:=Loc.start1 ho
 refine zR (zt O (zLl O (zt O (zN (zJ (zK ?_))))))
 refine vA (fun E S m_=>E=Env.lst [(0,sl b 1 3 23),(1,.int .u64 n),(4,int 3)]∧Loc [b] S0 S [(b,Cs (List.replicate 24 (byt 0)) 245)]∧m_=0) ?_ ?_
 ·skip
  refine ⟨_,_,?le,O,H,O⟩
  case le=>exact Env.qle ⟨O,O,O,⟨⟩⟩
 ·skip
  rintro _ S _ ⟨rfl,H,rfl⟩
  refine zSS (zt O (za (W_geq O O fun t20 h20=>zN ?_)))
  rcases t20 with _|_
  ·replace h20:=bF h20
   refine zr O (vz (zZ (zZ (vH (ze (zR (zt O (za (W_conv (m:=(n:Int)) O (wrapu32_in (by omega) (by omega)) (zt O (zN (zSS (zt O (za (W_geq O O fun t99 h99=>zN ?_)))))))))))))))
   rcases t99 with _|_
   ·replace h99:=bF h99
    refine zr O (zv (ze (zSS (zt O (za (W_geq O O fun t139 h139=>zN ?_))))))
    rcases t139 with _|_
    ·replace h139:=bF h139
     exact absurd (by omega) h139
    ·replace h139:=bT h139
     refine zj O (zR (zt O (za (W_remU (n:=n) (m:=100) O O (by decide) (za (W_mulU (n:=n % 100) (m:=2) O O (wrapu32_in (by omega) (by omega)) (zt O (v4 (zt O (za (W_quoU (n:=n) (m:=100) O O (by decide) (wrapu32_in (by omega) (by omega)) (zt O (zN (zJ (zY [] (vC 0 O O O (vC 1 O O O (vF 2 O O (fun _ _ hK=>W_sub O O (by omega) (by omega) hK) (vC 3 O O O (vC 4 O O O (vF 5 O O (fun _ _ hK=>W_sub O O (by omega) (by omega) hK) (vC 6 O O O (vF 7 O O (fun _ _ hK=>W_addU (n:=n % 100*2) (m:=1) O O (wrapu32_in (by omega) (by omega)) hK) (vF 8 O O (fun _ _ hK=>W_idxT (l:=SMALLS) (c:=dg (n % 100 % 10)) O O (by omega) (by rw [← smalls1 (show n % 100<100 by omega)];congr 1;omega) hK) (vC 9 O O O (vF 10 O O (fun _ _ hK=>W_idxT (l:=SMALLS) (c:=dg (n % 100 / 10)) O O (by omega) (by rw [← smalls0 (show n % 100<100 by omega)];congr 1;omega) hK) (vF 11 O O (fun _ _ hK=>vq O O (by omega) (by omega) hK) (zy 12 (by kernel_rfl) O O (zn (zSt H O O O .h O fun S hE H=>zLd (vF 13 O O (fun _ _ hK=>vq O O (by omega) (by omega) hK) ?_)))))))))))))))))))))))))))))))
     refine zy 14 (by kernel_rfl) O O (zn (zSt H O O O .h O fun S hE H=>zLd (zT (ze (zU (zt O (zSb O O (zt O (v4 (zt O (za (W_gtr O O fun t161 h161=>zN ?_))))))))))))
     rcases t161 with _|_
     ·replace h161:=bF h161
      exact absurd (by omega) h161
     ·replace h161:=bT h161
      refine zj O (zU (zt O (zt O (za (W_addU (n:=48) (m:=n / 100) O O (wrapu32_in (by omega) (by omega)) (za (W_conv (m:=((dg (n / 100)).toNat:Nat)) O (by rw [dg_nat (by omega),wrapu8_in (by omega) (by omega)]) (zIa O O (zSs H O O O .h O fun S hE H=>vl (⟨trivial,_,zM,k _ _ H.qx (H.get .h) ?_⟩))))))))))
      rw [dig3 (by omega) (by omega)]
      rfl
   ·replace h99:=bT h99
    exact absurd h99 (by omega)
  ·replace h20:=bT h20
   exact absurd h20 (by omega)
theorem ct248 (hG:Glob S0) (h0:1≤n) (h1:n≤999) (k:∀  S',Ext [] S0 S'→K (str (dig n)) S') :
  zC 248 #[int n,int 10] S0 K:=by
 refine zGh (sf:=s248) Tryz.func248 fun H=>zR (zt O (zN (zSS (zt O (za (vW O O fun t11 h11=>zN ?_))))))
 rcases t11 with _|_
 ·replace h11:=bF h11
  exact absurd rfl h11
 ·replace h11:=bT h11
  refine zj O (zSS (zt O (za (W_leq O O fun t13 h13=>zt O ?_))))
  rcases t13 with _|_
  ·replace h13:=bF h13
   exact absurd (by omega) h13
  ·replace h13:=bT h13
   refine zh O (vP O (zh O (vT O O fun t16 h16=>vw O O O O (zN ?_))))
   rcases t16 with _|_
   ·replace h16:=bF h16
    refine zr O (zv (ze (zR (zAl H O fun b5 S hb5 hE H=>v4 (zt O (za (W_conv (m:=(n:Int)) O (wrapu64_in (by omega) (by omega)) (zt O (zN (zSS (zt O (za (vT O O fun t23 h23=>zN ?_)))))))))))))
    rcases t23 with _|_
    ·replace h23:=bF h23
     refine zr O (zv (ze (zR (zt O (vK O (ct255 (hG.mono H.qx) (by omega) (by omega) fun S hE =>?_))))))
     replace H:=H.call hE
     refine zt O (v4 (zt O (zAd O O ?_)))
     obtain ⟨ti5,hti5,hts5⟩:=Option.map_eq_some_iff.1 sz5
     refine za (W_arrSl (i:=1) (j:=4) Tryz.underlying245 hti5 hts5 O O O O O (by decide) (by decide) (by decide) (zt O (vK O (ct256 (H.get .h) (by omega) (by omega) fun cs32 S hE ho32 hs32=>?_))))
     replace H:=H.callX hE .h ho32
     refine zN (zSS (zt O (za (vT O O fun t34 h34=>zN ?_))))
     rcases t34 with _|_
     ·replace h34:=bF h34
      refine zr O (zv (ze (zR (zt O (zAd O O ?_)))))
      obtain ⟨ti5,hti5,hts5⟩:=Option.map_eq_some_iff.1 sz5
      refine za (W_arrSl (i:=1) (j:=4) Tryz.underlying245 hti5 hts5 O O O O O (by decide) (by decide) (by decide) (za (W_bytesStr (l:=dig n) O (vV (H.get .h) hs32) (zt O (zN (zi (zw (z9 O ?_))))))))
      exact k _ H.qx
     ·replace h34:=bT h34
      exact absurd h34 (by omega)
    ·replace h23:=bT h23
     exact absurd h23 (by omega)
   ·replace h16:=bT h16
    refine zj O (zR (zt O (vK O (ct254 (by omega) fun S hE =>?_))))
    replace H:=H.call hE
    refine zt O (zN (zi (zw (zw (z9 O ?_)))))
    exact k _ H.qx
theorem ct241 (hG:Glob S0) (h0:1≤n) (h1:n≤999) (k:∀  S',Ext [] S0 S'→K (str (dig n)) S') :
  zC 241 #[int n] S0 K:=by
 refine zGh (sf:=s241) Tryz.func241 fun H=>zR (zt O (v4 (zt O (vK O (ct248 (hG.mono H.qx) (by omega) (by omega) fun S hE =>?_)))))
 replace H:=H.call hE
 refine zt O (zN (zi (z9 O ?_)))
 exact k _ H.qx
theorem ct233 (hG:Glob S0) (h0:1≤n) (h1:n≤999) (k:∀  S',Ext [] S0 S'→K (str (dig n)) S') :
  zC 233 #[int n] S0 K:=by
 refine zGh (sf:=s233) Tryz.func233 fun H=>zR (zt O (v4 (zt O (vK O (ct241 (hG.mono H.qx) (by omega) (by omega) fun S hE =>?_)))))
 replace H:=H.call hE
 refine zt O (zN (zi (z9 O ?_)))
 exact k _ H.qx
end
section
variable {S0:St} {K:Value→St→Prop}
variable {f l:Bs}
theorem ct159 (hl:l.length≤2097152) (k:∀  S',Ext [] S0 S'→K (str l) S') :
  zC 159 #[str l] S0 K:=by
 refine zGh (sf:=s159) Tryz.func159 fun H=>zR (zt O (zN (zSS (zt O (za (vI O (za (vW O O fun t6 h6=>zN ?_))))))))
 rcases t6 with _|_
 ·replace h6:=bF h6
  have hl0:0<l.length:=by omega
  refine zr O (zv (ze (zR (zt O (za (vI O (za (W_mkSlice H O O (Nat.le_refl _) (by omega) (by omega) fun b9 cs9 S hb9 H hE hcl9=>zt O (v4 (zt O (zt O (za (W_copy_ tryzPT H O O O (by omega) hl0 O .h fun S hE H=>?_)))))))))))))
  have hs12:(setl cs9 0 (l.map byt)).take l.length=l.map byt:=by
   simp only [setl,List.take_zero,List.nil_append]
   rw [List.take_left' (by simp)]
  refine v4 (zt O (zIa O O (zt O (zLl O (za (W_unsafeStr_ tryzPT H O O hl0 (by omega) hs12 .h fun S hE H=>zt O (zN (zi (z9 O ?_)))))))))
  exact k _ H.qx
 ·replace h6:=bT h6
  refine zj O (zR (zt O (zN (zi (zw (z9 O ?_))))))
  have e:l=[]:=List.length_eq_zero_iff.1 (by omega)
  subst e
  exact k _ H.qx
theorem ct71 (hl:l.length≤2097152) (k:∀  S',Ext [] S0 S'→K (str l) S') :
  zC 71 #[str l] S0 K:=by
 refine zGh (sf:=s71) Tryz.func71 fun H=>zR (zt O (v4 (zt O (vK O (ct159 (by omega) fun S hE =>?_)))))
 replace H:=H.call hE
 refine zt O (zN (zi (z9 O ?_)))
 exact k _ H.qx
theorem ct250 (hG:Glob S0) (hl:l.length≤1048576) (k:∀ b S',Ext [] S0 S'→K (vN b 0) S') :
  zC 250 #[str f,str l] S0 K:=by
 refine zGh (sf:=s250) Tryz.func250 fun H=>zR (zt O (zN (zJ ?_)))
 obtain ⟨t8,a8,hv8⟩:=(hG.mono H.qx).e2
 refine zY [] (vC 0 O O O (vC 1 O O O (ve 3 O O (fun S' hS'=>zA fun K hK=>zE O (zB (hS' O) (by simp) hv8) hK) (zy 2 (by kernel_rfl) O O (zn (zP O (ct159 (by omega) fun S hE =>?_)))))))
 replace H:=H.call hE
 refine ⟨fun _=>hE.up.ext,vF 4 O O (fun _ _ hK=>vv (cs:=[_,_,_]) O O hK) (zy 5 (by kernel_rfl) O O (zn (W_box H O O fun b10 S hb10 hE H=>zLd (vC 6 O O O (zT (ze (zi (z9 O ?_))))))))⟩
 exact k _ _ H.qx
theorem ct249   (k:∀  S',Ext [] S0 S'→K (.tuple #[int 0,.iface 239 (int 2)]) S') :
  zC 249 #[str [],int 10,int 0] S0 K:=by
 refine zGh (sf:=s249) Tryz.func249 fun H=>zR (zt O (zt O (zN (zSS (zt O (za (W_eqS O O fun t13 h13=>zN ?_)))))))
 rcases t13 with _|_
 ·replace h13:=bF h13
  exact absurd rfl h13
 ·replace h13:=bT h13
  refine zj O (zR (za (W_mkIface O (zt O (zt O (zN (zi (zw (⟨trivial,_,(z0 O (z0 O zM)),?_⟩)))))))))
  exact k _ H.qx
theorem cmp239:(Tryz.prog.info? 239).map (·.comparable)=some true:=by kernel_rfl
theorem ct247 (hG:Glob S0) (hl:l.length≤1048576) (k:∀ b S',Ext [] S0 S'→K (.iface 242 (vN b 0)) S') :
  zC 247 #[str f,str l,int 0,int 0,.iface 239 (int 2)] S0 K:=by
 refine zGh (sf:=s247) Tryz.func247 fun H=>zR (zt O (zN (zSS (zt O (zN (zK (zJ ?_)))))))
 obtain ⟨i239,hi239,hc239⟩:=Option.map_eq_some_iff.1 cmp239
 refine zU (za (W_mkIface O (za (W_eqII Tryz.underlying215 hi239 hc239 Tryz.underlying239 O O (zt O (zN (zj O (zR (zt O (zt O (vK O (ct250 (hG.mono H.qx) (by omega) fun b17 S hE =>?_))))))))))))
 replace H:=H.call hE
 refine za (W_mkIface O (zt O (zN (zi (vg (zw (z9 O ?_)))))))
 exact k _ _ H.qx
theorem ct246 (hl:l.length≤18) (k:∀ (t:Bool) (v:Int) S',Ext [] S0 S'→(AtoiP l t v)→K (.tuple #[int v,bif t then .iface 239 (int 2) else .nilIface]) S') :
  zC 246 #[str l] S0 K:=by
 refine zGh (sf:=s246) Tryz.func246 fun H=>zR (zt O (zt O (v4 (zt O (za (vI O (zt O (zN (zSS (zt O (zL O (zL O (zL O (wpI_un O (wpI_un O (zL O (vw O O O O (zt O (zh O (vP O (zh O (vP O (zh O (vT O O fun t24 h24=>zh O (vP O ?_)))))))))))))))))))))))))
 rcases t24 with _|_
 ·replace h24:=bF h24
  refine zL O (zL O (zh O (vM O O O O (zh O (vM O O O O (vw O O O O (zN (zr O (zv (ze (zJ ?_)))))))))))
  obtain rfl:l=[]:=List.length_eq_zero_iff.1 (by omega)
  refine zU (zt O (vK O (ct249  fun S hE =>?_)))
  replace H:=H.call hE
  refine zt O (zEx O O (zEx O O (zt O (zt O (v4 (zt O (zt O (zt O (zt O (zN (zi (⟨trivial,_,(z0 O (z0 O zM)),?_⟩))))))))))))
  exact k true _ _ H.qx .nil
 ·replace h24:=bT h24
  obtain ⟨c0,hc0⟩:∃ c0,l[0]? = some c0:=⟨l[0]'(by omega),by simp⟩
  refine zh O (vP O (zh O (vT O O fun t27 h27=>zh O (vM O O O O (zh O (vM O O O O (vw O O O O (zN ?_))))))))
  rcases t27 with _|_
  ·replace h27:=bF h27
   exact absurd (by omega) h27
  ·replace h27:=bT h27
   refine zj O (zR (zt O (zt O (zN ?_))))
   refine wpS_cut (fun E S=>∃ (r:Bs),E=Env.lst [(0,str r),(5,str l)]∧Loc [] S0 S []∧((l=r∧r≠[])∨((∃ s,l=s::r∧(s=43∨s=45))∧r≠[]))∧(r.length≤l.length)) ?_ ?_
   ·skip
    refine zR (zt O (za (W_idxT O O (by omega) hc0 (za (vW O O fun t34 h34=>zt O ?_)))))
    rcases t34 with _|_
    ·replace h34:=bF h34
     refine zh O (vP O (zh O (W_idxT O O (by omega) hc0 (zh O (vW O O fun t38 h38=>vw O O O O (zN ?_))))))
     rcases t38 with _|_
     ·replace h38:=bF h38
      refine zr O (zv (ze ?_))
      refine ⟨_,?le,l,O,H,(.inl ⟨O,by rintro rfl;simp at hc0⟩),(Nat.le_refl _)⟩
      case le=>exact Env.qle ⟨O,O,⟨⟩⟩
     ·replace h38:=bT h38
      refine zj O (zR (zt O (za (W_slSlo O O (by omega) (by omega) (zt O (v4 (zt O (za (vI O (za (vT O O fun t44 h44=>zN ?_)))))))))))
      rcases t44 with _|_
      ·replace h44:=bF h44
       refine zr O (zv (ze ?_))
       refine ⟨_,?le,(l.drop (1:Int).toNat),O,H,(sgn_drop hc0 h44 (.inr h38)),(by simp)⟩
       case le=>exact Env.qle ⟨O,O,⟨⟩⟩
      ·replace h44:=bT h44
       refine zj O (zR (za (W_mkIface O (zt O (zt O (zN (zi (zw (zw (⟨trivial,_,(z0 O (z0 O zM)),?_⟩))))))))))
       exact k true _ _ H.qx (.head hc0 (by omega) (by omega) (by omega) _)
    ·replace h34:=bT h34
     refine zL O (zL O (zL O (vw O O O O (zN (zj O (zR (zt O (za (W_slSlo O O (by omega) (by omega) (zt O (v4 (zt O (za (vI O (za (vT O O fun t44 h44=>zN ?_))))))))))))))))
     rcases t44 with _|_
     ·replace h44:=bF h44
      refine zr O (zv (ze ?_))
      refine ⟨_,?le,(l.drop (1:Int).toNat),O,H,(sgn_drop hc0 h44 (.inl h34)),(by simp)⟩
      case le=>exact Env.qle ⟨O,O,⟨⟩⟩
     ·replace h44:=bT h44
      refine zj O (zR (za (W_mkIface O (zt O (zt O (zN (zi (zw (zw (⟨trivial,_,(z0 O (z0 O zM)),?_⟩))))))))))
      exact k true _ _ H.qx (.head hc0 (by omega) (by omega) (by omega) _)
   ·skip
    rintro _ S ⟨r,rfl,H,hr,hrl⟩
    refine zR (zt O (zN (zSS (zt O (za (W_strBytes H O fun b47 cap47 S hc47 hb47 hE H=>zLl O (zt O (zN (zK ?_)))))))))
    refine vA (fun E S m_=>∃ (i:Nat) (n:Nat),E=Env.lst [(0,str r),(5,str l),(6,int n),(47,sl b47 0 r.length cap47),(48,int r.length),(49,int i)]∧Loc [] S0 S [(b47,BytesO r cap47 5)]∧(i≤r.length)∧(n<10 ^ i)∧(n=vD (r.take i))∧m_=r.length-i) ?_ ?_
    ·skip
     refine ⟨_,_,?le,0,0,O,H,(by omega),(by simp),O,O⟩
     case le=>exact Env.qle ⟨O,O,O,O,O,O,⟨⟩⟩
    ·skip
     rintro _ S _ ⟨i,n,rfl,H,hi,hn,hv,rfl⟩
     refine zR (za (vT O O fun t50 h50=>zN (zJ ?_)))
     rcases t50 with _|_
     ·replace h50:=bF h50
      have hp2:=pow18' (i:=i) (by omega)
      refine zr O (vz (zZ (zZ (vH (ze (zSS (zt O (za (W_idxT O O (by omega) hc0 (za (vW O O fun t66 h66=>zN ?_)))))))))))
      rcases t66 with _|_
      ·replace h66:=bF h66
       refine zr O (zv (ze (zR (zt O (zt O (zt O (zN (zi (zw (⟨trivial,_,(z0 O (z0 O zM)),?_⟩))))))))))
       rw [show i=r.length by omega,List.take_length] at hv
       rcases hr with ⟨rfl,hr⟩ | ⟨⟨s,hr,hs⟩,_⟩
       ·exact k false _ _ H.qx (.good hr (by omega) hv)
       ·exact k false _ _ H.qx (.sign hr hs (by omega) (by omega) _)
      ·replace h66:=bT h66
       refine zj O (zU (zt O (za (W_neg3 O (by omega) (by omega) (zt O (v4 (zt O (zt O (zt O (zN (zi (zw (⟨trivial,_,(z0 O (z0 O zM)),?_⟩)))))))))))))
       exact k false _ _ H.qx (.head hc0 (by omega) (by omega) (by omega) _)
     ·replace h50:=bT h50
      obtain ⟨c,hc⟩:∃ c,r[i]? = some c:=⟨r[i]'(by omega),by simp⟩
      obtain ⟨w,hw,hw1,hw2⟩:=u8sub c
      have hp1:=pow18 (i:=i) (by omega)
      have hc256:c.toNat<256:=c.toNat_lt
      refine zj O (zv (ze (zJ (zK (zR (zIa O O (za (zE O (H.byteAt .h hc) (zt O (v4 (zt O (za (W_bin (v:=.int .u8 (w:Nat)) O O (by simp only [binI,hw]) (zt O (zN (zSS (zt O (za (W_gtr O O fun t56 h56=>zN ?_)))))))))))))))))))
      rcases t56 with _|_
      ·replace h56:=bF h56
       refine zr O (zv (ze (zU (zt O (za (W_mul O O (by omega) (by omega) (zt O (za (W_conv (m:=(w:Int)) O (wrap64_in (by omega) (by omega)) (zAd O O (zt O (vl (z_ (ze (zU (zAd O O (zt O (zN ?_))))))))))))))))))
       refine ⟨_,_,?lt,?le,(i+1),(n*10+w),O,H,(by omega),(by rw [Nat.pow_succ];omega),(by rw [vU hc,vD_snoc,← hv];omega),O⟩
       case lt=>omega
       case le=>exact Env.qle ⟨O,O,O,O,O,O,⟨⟩⟩
      ·replace h56:=bT h56
       refine zj O (zR (za (W_mkIface O (zt O (zt O (zN (zi (zw (vg (zw (zw (vg (zw (zw (⟨trivial,_,(z0 O (z0 O zM)),?_⟩)))))))))))))))
       rcases hr with ⟨rfl,hr⟩ | ⟨⟨s,hr,hs⟩,_⟩
       ·exact k true _ _ H.qx (.bad (List.mem_of_getElem? hc) (by omega))
       ·exact k true _ _ H.qx (.sign hr hs (by omega) (by omega) _)
theorem ct240 (hG:Glob S0) (hl:l.length≤18) (k:∀ (t:Bool) (v:Int) (b:Nat) S',Ext [] S0 S'→(AtoiP l t v)→K (.tuple #[int v,bif t then .iface 242 (vN b 0) else .nilIface]) S') :
  zC 240 #[str l] S0 K:=by
 refine zGh (sf:=s240) Tryz.func240 fun H=>zR (zt O (zt O (v4 (zt O (vK O (ct246 (by omega) fun t8 v8 S hE hA8=>?_))))))
 replace H:=H.call hE
 have h8:t8=true↔t8=true:=Iff.rfl
 refine zt O (zEx O O (zEx O O (zt O (zt O (zN (zSS (zt O (za (W_errNil Tryz.underlying215 O (zN ?_))))))))))
 rcases t8 with _|_
 ·replace h8:=bF h8
  refine zr O (zv (ze (zR (zt O (zt O (zt O (zN (zi (⟨trivial,_,(z0 O (z0 O zM)),?_⟩)))))))))
  exact k false _ 0 _ H.qx hA8
 ·replace h8:=bT h8
  skip
  refine zj O (zR (zt O (zt O (zt O (vK O (ct247 (f:=[65,116,111,105]) (hG.mono H.qx) (by omega) fun b16 S hE =>?_))))))
  replace H:=H.call hE
  refine zt O (zt O (zN (zi (zw (⟨trivial,_,(z0 O (z0 O zM)),?_⟩)))))
  exact k true _ b16 _ H.qx hA8
end
section
variable {S0:St} {K:Value→St→Prop}
variable {l:Bs} {e x:End}
theorem ct233i {a:Int} (hG:Glob S0) (h0:1≤a) (h1:a≤999) (k:∀ S',Ext [] S0 S'→(dig a.toNat).length≤4→K (str (dig a.toNat)) S'):Calls1 Tryz.prog 233 #[int a] S0 K:=by
 obtain ⟨n,rfl⟩:∃ n:Nat,a=n:=⟨a.toNat,by omega⟩
 exact ct233 hG (by omega) (by omega) fun S' hE=>k S' hE (dig_le4 (by omega))
theorem ct221 (hG:Glob S0) (k:∀  S',Ext [] S0 S'→((e.text).length≤9)→K (str e.text) S') :
  zC 221 #[e.v] S0 K:=by
 refine zGh (sf:=s221) Tryz.func221 fun H=>zR (zBx H O O fun b1 S hb1 hE H=>zt O (zN (zSS (zLn (vs:=[_,_]) H O .h O (vK O (ct89  fun t4 S hE h4=>?_))))))
 replace H:=H.call hE
 refine zNt O (zN ?_)
 rcases t4 with _|_
 ·replace h4:=bF h4
  refine zj O (zR (zt O (zN (zi (zw (z9 O ?_))))))
  rw [show e.text=[] from if_neg h4] at k
  exact k _ H.qx (by simp)
 ·replace h4:=bT h4
  have hok:e.ok:=h4
  have hok2:=hok
  unfold End.ok OkE at hok2
  refine zr O (zv (ze (zJ (zY [] (zLf 0 O O O (ve 1 O O (fun S' hS'=>zA fun K hK=>zE O (zB (hS' O) (by simp) (H.cell .h O)) hK) (zLf 4 O O O (ve 5 O O (fun S' hS'=>zA fun K hK=>zE O (zB (hS' O) (by simp) (H.cell .h O)) hK) (zy 2 (by kernel_rfl) O O (zn (zP O (ct233i (hG.mono H.qx) (by omega) (by omega) fun S hE h8=>?_))))))))))))
  replace H:=H.call hE
  refine ⟨fun _=>hE.up.ext,vF 3 O O (fun _ _ hK=>W_catS O O (by simp;omega) hK) (zy 6 (by kernel_rfl) O O (zn (zP O (ct233i (hG.mono H.qx) (by omega) (by omega) fun S hE h12=>?_))))⟩
  replace H:=H.call hE
  refine zLd (vF 7 O O (fun _ _ hK=>W_catS O O (by simp;omega) hK) (vC 8 O O O (zT (ze (zi (z9 O ?_))))))
  rw [show e.text=e.txt from if_pos hok] at k
  exact k _ H.qx (by unfold End.txt eTxt;simp;omega)
theorem ct232 (hG:Glob S0) (hl:l.length≤18) (k:∀ (t:Bool) (ty:TypeId) (a:Value) S',Ext [] S0 S'→(t=true↔rd l=none)→K (.tuple #[((rd l).getD ⟨0,0⟩).v,bif t then .iface ty a else .nilIface]) S') :
  zC 232 #[str l] S0 K:=by
 refine zGh (sf:=s232) Tryz.func232 fun H=>zR (zAl H O fun b2 S hb2 hE H=>zt O (v4 (zt O (vK O (ct180 (by omega) fun t14 S hE h14=>?_)))))
 replace H:=H.call hE
 have hbl:(bef l 32).length≤18:=by unfold bef;rw [List.length_take];omega
 have hal:(aft l 32).length≤18:=by unfold aft;rw [List.length_drop];omega
 refine zt O (zEx O O (zEx O O (zEx O O (zt O (zt O (zt O (v4 (zt O (vK O (ct240 (hG.mono H.qx) (by omega) fun t20 v20 b20 S hE hA20=>?_))))))))))
 replace H:=H.call hE
 have h20:t20=true↔t20=true:=Iff.rfl
 refine zt O (zEx O O (zEx O O (zt O (zt O (v4 (zt O (vK O (ct240 (hG.mono H.qx) (by omega) fun t25 v25 b25 S hE hA25=>?_))))))))
 replace H:=H.call hE
 have h25:t25=true↔t25=true:=Iff.rfl
 refine zt O (zEx O O (zEx O O (zt O (zt O (v4 (zt O (zt O (za (vv (cs:=[_,_]) O O (zAl H O fun b11 S hb11 hE H=>zSs H O O O .h O fun S hE H=>zN (zSS (zt O (za (W_errNil Tryz.underlying215 O (zt O ?_)))))))))))))))
 rcases t20 with _|_
 ·replace h20:=bF h20
  refine zh O (vP O (zh O (W_errNil Tryz.underlying215 O (vw O O O O (zt O ?_)))))
  rcases t25 with _|_
  ·replace h25:=bF h25
   refine zh O (W_loadN (vs:=[_,_]) H O .h O (zh O (zP O (ct221 (e:=⟨v20,v25⟩) (hG.mono H.qx) fun S hE hl39=>?_))))
   replace H:=H.call hE
   refine zh O (vP O (zh O (W_neS O O fun t41 h41=>vw O O O O (zN ?_))))
   rcases t41 with _|_
   ·replace h41:=bF h41
    refine zr O (zv (ze (zR (zLn (vs:=[_,_]) H O .h O (zSs H O O O .h1 O fun S hE H=>zt O (zN (zi (⟨trivial,_,(zW (ws:=[_,_]) H O .h1 O (z0 O zM)),?_⟩))))))))
    have hr:=rd_yes (t2:=false) (v2:=v25) hA20 rfl (Classical.not_not.1 h41)
    rw [hr] at k
    exact k false 0 undef _ H.qx ⟨nofun,nofun⟩
   ·replace h41:=bT h41
    refine zj O (zJ ?_)
    obtain ⟨ty44,a44,hv44⟩:=(hG.mono H.qx).e1
    refine zY [b2] (vF 0 O O (fun _ _ hK=>vv (cs:=[_,_]) O O hK) (ve 1 O O (fun S' hS'=>zA fun K hK=>zE O (zB (hS' O) (hG.nin1 (H.new1 .h1)) hv44) hK) (zy 2 (by kernel_rfl) O O (zn (zSt H O O O .h1 O fun S hE H=>⟨fun _=>hE.ext,vC 3 O O O (zT (ze (zi (zw (⟨trivial,_,(zW (ws:=[_,_]) H O .h1 O (z0 O zM)),?_⟩)))))⟩)))))
    have hr:=rd_fail hA20 hA25 (.inr (.inr h41))
    rw [hr] at k
    exact k true ty44 a44 _ H.qx ⟨fun _=>rfl,fun _=>rfl⟩
  ·replace h25:=bT h25
   refine zL O (zL O (zL O (zL O (vw O O O O (zN (zj O (zJ ?_)))))))
   obtain ⟨ty44,a44,hv44⟩:=(hG.mono H.qx).e1
   refine zY [b2] (vF 0 O O (fun _ _ hK=>vv (cs:=[_,_]) O O hK) (ve 1 O O (fun S' hS'=>zA fun K hK=>zE O (zB (hS' O) (hG.nin1 (H.new1 .h1)) hv44) hK) (zy 2 (by kernel_rfl) O O (zn (zSt H O O O .h1 O fun S hE H=>⟨fun _=>hE.ext,vC 3 O O O (zT (ze (zi (zw (⟨trivial,_,(zW (ws:=[_,_]) H O .h1 O (z0 O zM)),?_⟩)))))⟩)))))
   have hr:=rd_fail hA20 hA25 (.inr (.inl rfl))
   rw [hr] at k
   exact k true ty44 a44 _ H.qx ⟨fun _=>rfl,fun _=>rfl⟩
 ·replace h20:=bT h20
  refine zL O (zL O (vw O O O O (zt O (zL O (zL O (zL O (zL O (vw O O O O (zN (zj O (zJ ?_)))))))))))
  obtain ⟨ty44,a44,hv44⟩:=(hG.mono H.qx).e1
  refine zY [b2] (vF 0 O O (fun _ _ hK=>vv (cs:=[_,_]) O O hK) (ve 1 O O (fun S' hS'=>zA fun K hK=>zE O (zB (hS' O) (hG.nin1 (H.new1 .h1)) hv44) hK) (zy 2 (by kernel_rfl) O O (zn (zSt H O O O .h1 O fun S hE H=>⟨fun _=>hE.ext,vC 3 O O O (zT (ze (zi (zw (⟨trivial,_,(zW (ws:=[_,_]) H O .h1 O (z0 O zM)),?_⟩)))))⟩)))))
  have hr:=rd_fail hA20 hA25 (.inl rfl)
  rw [hr] at k
  exact k true ty44 a44 _ H.qx ⟨fun _=>rfl,fun _=>rfl⟩
theorem said_t {t:Bool} {o:Option End} (h:t=true↔o=none):(t==false)=true↔∃ x,o=some x:=by
 cases t with
 | true=>simp;rw [h.1 rfl];simp
 | false=>
  cases o with
  | none=>exact absurd (h.2 rfl) (by simp)
  | some x=>exact ⟨fun _=>⟨x,rfl⟩,fun _=>rfl⟩
theorem ct220 (hG:Glob S0) (hl:l.length≤18) (k:∀ (t:Bool) (e:End) S',Ext [] S0 S'→(t=true↔∃ x,said l=some x)→(∀ x,said l=some x→e=x)→K (.tuple #[e.v,.bool t]) S') :
  zC 220 #[str l] S0 K:=by
 refine zGh (sf:=s220) Tryz.func220 fun H=>zR (zAl H O fun b2 S hb2 hE H=>zt O (v4 (zt O (vK O (ct231  fun t10 S hE h10=>?_)))))
 replace H:=H.call hE
 refine zt O (zEx O O (zEx O O (zt O (zt O (v4 (zt O (vK O (ct232 (hG.mono H.qx) (by cases t10<;>simp<;>omega) fun t15 ty15 a15 S hE hr15=>?_))))))))
 replace H:=H.call hE
 have h15:t15=true↔t15=true:=Iff.rfl
 refine zt O (zEx O O (zEx O O (zAl H O fun b6 S hb6 hE H=>zSs H O O O .h O fun S hE H=>zt O (zN (zJ (zY [] (ve 0 O O (fun S' hS'=>zA fun K hK=>zO O (zF (hS' O) (by simp) (H.cells (vs:=[_,_]) .h O)) hK) (vC 1 O O O (vC 2 O O O ?_)))))))))
 rcases t10 with _|_
 ·replace h10:=bF h10
  have hsd:said l=none:=by unfold said;exact if_neg h10
  refine ve 3 O O (fun S' _=>vd O (by decide)) (ve 4 O O (fun S' _=>vd O (by decide)) (vF 5 O O (fun _ _ hK=>vM O O O O hK) (zy 6 (by kernel_rfl) O O (zn (zSt H O O O .h1 O fun S hE H=>zLd (vC 7 O O O (zT (ze (zi (⟨trivial,_,(zW (ws:=[_,_]) H O .h1 O (z0 O zM)),?_⟩))))))))))
  exact k _ _ _ H.qx ⟨nofun,fun ⟨x,hx⟩=>by rw [hsd] at hx;cases hx⟩ (fun x hx=>by rw [hsd] at hx;cases hx)
 ·replace h10:=bT h10
  have hsd:said l=rd (l.drop 5):=by unfold said;exact if_pos h10
  refine ve 3 O O (fun S' _=>vi O fun K hK=>vP O hK) (ve 4 O O (fun S' _=>vi O fun K hK=>W_errNil Tryz.underlying215 O hK) (vF 5 O O (fun _ _ hK=>vM O O O O hK) (zy 6 (by kernel_rfl) O O (zn (zSt H O O O .h1 O fun S hE H=>zLd (vC 7 O O O (zT (ze (zi (⟨trivial,_,(zW (ws:=[_,_]) H O .h1 O (z0 O zM)),?_⟩))))))))))
  exact k _ _ _ H.qx (by rw [hsd];exact said_t hr15) (fun x hx=>by rw [hsd] at hx;show (rd (l.drop 5)).getD _=x;rw [hx];rfl)
theorem says_n (h:¬ ∃ x,said l=some x):says l=none:=by
 unfold says;rcases hs:said l with _ | x
 ·rfl
 ·exact absurd ⟨x,hs⟩ h
theorem box_n (h:¬ ∃ x,said l=some x):boxP l=none:=by
 unfold boxP;rcases hs:said l with _ | x
 ·rfl
 ·exact absurd ⟨x,hs⟩ h
theorem says_i (h:said l=some x) (hi:¬ x.inn):says l=none:=by unfold says;rw [h];exact if_neg hi
theorem says_y (h:said l=some x) (hi:x.inn):says l=some x:=by unfold says;rw [h];exact if_pos hi
theorem box_i (h:said l=some x) (hi:x.a≠50):boxP l=none:=by unfold boxP;rw [h];exact if_neg hi
theorem box_y (h:said l=some x) (hi:x.a=50):boxP l=some x.p:=by unfold boxP;rw [h];exact if_pos hi
theorem ct211 (hG:Glob S0) (hl:l.length≤18) (k:∀ (t:Bool) S',Ext [] S0 S'→(t=true↔∃ x,says l=some x)→K (.tuple #[((says l).getD ⟨0,0⟩).v,.bool t]) S') :
  zC 211 #[str l] S0 K:=by
 refine zGh (sf:=s211) Tryz.func211 fun H=>zR (zAl H O fun b2 S hb2 hE H=>zt O (v4 (zt O (vK O (ct220 (hG.mono H.qx) (by omega) fun t8 e8 S hE h8 he8=>?_)))))
 replace H:=H.call hE
 refine zt O (zEx O O (zEx O O (zAl H O fun b4 S hb4 hE H=>zSs H O O O .h O fun S hE H=>zt O (zN (zSS (zt O (zNt O (zt O ?_))))))))
 rcases t8 with _|_
 ·replace h8:=bF h8
  refine zL O (zL O (zL O (vw O O O O (zN (zj O (zR (za (vv (cs:=[_,_]) O O (zSs H O O O .h1 O fun S hE H=>zt O (zN (zi (zw (⟨trivial,_,(zW (ws:=[_,_]) H O .h1 O (z0 O zM)),?_⟩)))))))))))))
  have hsy:=says_n h8
  rw [hsy] at k
  exact k false _ H.qx ⟨nofun,fun ⟨x,hx⟩=>by cases hx⟩
 ·replace h8:=bT h8
  refine zh O (W_loadN (vs:=[_,_]) H O .h O (zh O (zP O (ct67  fun t15 S hE h15=>?_))))
  replace H:=H.call hE
  refine zh O (W_not O (vw O O O O (zN ?_)))
  rcases t15 with _|_
  ·replace h15:=bF h15
   refine zj O (zR (za (vv (cs:=[_,_]) O O (zSs H O O O .h1 O fun S hE H=>zt O (zN (zi (zw (⟨trivial,_,(zW (ws:=[_,_]) H O .h1 O (z0 O zM)),?_⟩))))))))
   obtain ⟨x8,hx8⟩:=h8
   obtain rfl:=he8 _ hx8
   have hsy:=says_i hx8 h15
   rw [hsy] at k
   exact k false _ H.qx ⟨nofun,fun ⟨x,hx⟩=>by cases hx⟩
  ·replace h15:=bT h15
   refine zr O (zv (ze (zR (zLn (vs:=[_,_]) H O .h O (zSs H O O O .h1 O fun S hE H=>zt O (zN (zi (⟨trivial,_,(zW (ws:=[_,_]) H O .h1 O (z0 O zM)),?_⟩))))))))
   obtain ⟨x8,hx8⟩:=h8
   obtain rfl:=he8 _ hx8
   have hsy:=says_y hx8 h15
   rw [hsy] at k
   exact k true _ H.qx ⟨fun _=>⟨_,rfl⟩,fun _=>rfl⟩
theorem ct183 (hG:Glob S0) (hl:l.length≤18) (k:∀ (t:Bool) S',Ext [] S0 S'→(t=true↔∃ x,boxP l=some x)→K (.tuple #[int ((boxP l).getD 0),.bool t]) S') :
  zC 183 #[str l] S0 K:=by
 refine zGh (sf:=s183) Tryz.func183 fun H=>zR (zt O (zt O (v4 (zt O (vK O (ct220 (hG.mono H.qx) (by omega) fun t8 e8 S hE h8 he8=>?_))))))
 replace H:=H.call hE
 refine zt O (zEx O O (zEx O O (zAl H O fun b4 S hb4 hE H=>zSs H O O O .h O fun S hE H=>zt O (zN (zSS (zt O (zNt O (zt O ?_))))))))
 rcases t8 with _|_
 ·replace h8:=bF h8
  refine zL O (zL O (zL O (vw O O O O (zN (zj O (zR (zt O (zt O (zN (zi (zw (⟨trivial,_,(z0 O (z0 O zM)),?_⟩))))))))))))
  have hsy:=box_n h8
  rw [hsy] at k
  exact k false _ H.qx ⟨nofun,fun ⟨x,hx⟩=>by cases hx⟩
 ·replace h8:=bT h8
  refine zh O (zD O (zh O (vr H O .h O (zh O (W_neI O O fun t16 h16=>vw O O O O (zN ?_))))))
  rcases t16 with _|_
  ·replace h16:=bF h16
   refine zr O (zv (ze (zR (vZ O (zL1 H O .h O (zt O (zt O (zN (zi (⟨trivial,_,(z0 O (z0 O zM)),?_⟩))))))))))
   obtain ⟨x8,hx8⟩:=h8
   obtain rfl:=he8 _ hx8
   have hsy:=box_y hx8 (Classical.not_not.1 h16)
   rw [hsy] at k
   exact k true _ H.qx ⟨fun _=>⟨_,rfl⟩,fun _=>rfl⟩
  ·replace h16:=bT h16
   refine zj O (zR (zt O (zt O (zN (zi (zw (⟨trivial,_,(z0 O (z0 O zM)),?_⟩)))))))
   obtain ⟨x8,hx8⟩:=h8
   obtain rfl:=he8 _ hx8
   have hsy:=box_i hx8 h16
   rw [hsy] at k
   exact k false _ H.qx ⟨nofun,fun ⟨x,hx⟩=>by cases hx⟩
theorem ct184 (hG:Glob S0) (k:∀  S',Ext [] S0 S'→K (str e.line) S') :
  zC 184 #[e.v] S0 K:=by
 refine zGh (sf:=s184) Tryz.func184 fun H=>zR (zBx H O O fun b1 S hb1 hE H=>zt O (zN (zSS (zLn (vs:=[_,_]) H O .h O (vK O (ct89  fun t4 S hE h4=>?_))))))
 replace H:=H.call hE
 refine zNt O (zN ?_)
 rcases t4 with _|_
 ·replace h4:=bF h4
  refine zj O (zR (zt O (zN (zi (zw (z9 O ?_))))))
  rw [show e.line=[] from if_neg h4] at k
  exact k _ H.qx
 ·replace h4:=bT h4
  refine zr O (zv (ze (zR (zLn (vs:=[_,_]) H O .h O (vK O (ct221 (hG.mono H.qx) fun S hE hl7=>?_))))))
  replace H:=H.call hE
  refine za (W_catS O O (by simp;omega) (zt O (zN (zi (z9 O ?_)))))
  rw [show e.line=PORT++e.text from by unfold End.line End.text;rw [if_pos (show e.ok from h4),if_pos (show e.ok from h4)]] at k
  exact k _ H.qx
end
section
open Go
section
variable {P:Program} {E:Env} {S:St} {D:List Nat} {Q:SEx→Env→St→List Nat→Prop}
def SEx.thnX (f:Env→St→List Nat→Prop) (Q:SEx→Env→St→List Nat→Prop):SEx→Env→St→List Nat→Prop
 | .normal=>f
 | e=>Q e
def SEx.blkX (id:Nat) (Q:SEx→Env→St→List Nat→Prop):SEx→Env→St→List Nat→Prop
 | .exit id'=>if id'=id then Q .normal else Q (.exit id')
 | e=>Q e
theorem wpX_mono:∀ (c:XCode) (E:Env) (S:St) (D:List Nat) (Q Q':SEx→Env→St→List Nat→Prop),(∀ e E S D,Q e E S D→Q' e E S D)→wpX P c E S D Q→wpX P c E S D Q':=by
 intro c
 induction c with
 | slim s=>exact fun E S D Q Q' hq h=>wpS_mono h fun e E S q=>hq e E S D q
 | seq a b iha ihb=>
  intro E S D Q Q' hq h
  refine iha E S D _ _ (fun e E S D q=>?_) h
  cases e with
  | normal=>obtain ⟨E1,hle,q⟩:=q;exact ⟨E1,hle,ihb _ _ _ _ _ hq q⟩
  | exit id=>exact hq _ _ _ _ q
  | ret=>exact hq _ _ _ _ q
 | block id a ih=>
  intro E S D Q Q' hq h
  refine ih E S D _ _ (fun e E S D q=>?_) h
  cases e with
  | normal=>exact hq _ _ _ _ q
  | exit id'=>simp only at q ⊢;split<;>rename_i hc<;>simp only [hc,if_true,if_false] at q<;>exact hq _ _ _ _ q
  | ret=>exact hq _ _ _ _ q
 | range x ps sa sb=>
  intro E S D Q Q' hq h
  obtain ⟨f,fn,fs,cs,h1,h2,h3,h4,h5⟩:=h
  refine ⟨f,fn,fs,cs,h1,h2,h3,h4,fun d l r hd hl hro=>(h5 d l r hd hl hro).mono fun v S' q=>?_⟩
  exact q.imp (fun q=>⟨q.1,hq _ _ _ _ q.2⟩) (fun q=>⟨q.1,hq _ _ _ _ q.2⟩)
theorem wpX_slim {s:SCode} (h:wpS P s E S fun e E S=>Q e E S D):wpX P (.slim s) E S D Q:=h
theorem wpX_seq {a b:XCode} (h:wpX P a E S D (SEx.thnX (fun E S D=>wpX P b E S D Q) Q)):wpX P (.seq a b) E S D Q:=by
 refine wpX_mono a E S D _ _ (fun e E S D q=>?_) h
 cases e with
 | normal=>exact ⟨E,.refl E,q⟩
 | exit id=>exact q
 | ret=>exact q
theorem wpX_block {id:Nat} {a:XCode} (h:wpX P a E S D (SEx.blkX id Q)):wpX P (.block id a) E S D Q:=by
 refine wpX_mono a E S D _ _ (fun e E S D q=>?_) h
 cases e with
 | normal=>exact q
 | exit id'=>
  simp only [SEx.blkX] at q
  by_cases hc:id'=id<;>simp only [hc,if_true,if_false] at q ⊢ <;> exact q
 | ret=>exact q
theorem thnX_norm {f:Env→St→List Nat→Prop} (h:f E S D):SEx.thnX f Q .normal E S D:=h
theorem thnX_ret {f:Env→St→List Nat→Prop} (h:Q .ret E S D):SEx.thnX f Q .ret E S D:=h
theorem blkX_norm {id:Nat} (h:Q .normal E S D):SEx.blkX id Q .normal E S D:=h
theorem blkX_ret {id:Nat} (h:Q .ret E S D):SEx.blkX id Q .ret E S D:=h
theorem wpX_range {x:Operand} {ps:List Nat} {sa sb:SCode} {f:FuncId} {fn:Func} {p:Value} (hx:E.ev x=some (.func (.func f) #[] #[p])) (hf:P.funcs[f]? = some fn) (hb:fn.body.isSome=true) (hn:(fn.name == "runtime.NumGoroutine")=false)
    (h:∀ (d l:Nat) (r:Loop),S d=none→(S.put d (.deferred (some []))) l=none→RoundOk P ps sa sb E l r →
      Calls1 P f #[.func (.yield l) #[] #[],p] ((S.put d (.deferred (some []))).put l (lp r .ready none)) fun _ S'=>
          (S' l=some ⟨lp r .ready none,true⟩∧Q .normal E (S'.put l (lp r .exhausted none)) (d::D))∨(S' l=some ⟨lp r .done (some .ret),true⟩∧Q .ret E (S'.put l (lp r .exhausted (some .ret))) (d::D))):wpX P (.range x ps sa sb) E S D Q:=
  ⟨f,fn,#[],#[p],hx,hf,hb,hn,h⟩
theorem Loc.takeL {X:List Nat} {S0 S:St} {L:List (Nat × Obj)} (H:Loc X S0 S L) (n:Nat):Loc X S0 S (L.take n):=H.sub (List.take_sublist n L)
theorem Loc.putE {X:List Nat} {S0 S:St} {L L':List (Nat × Obj)} (H:Loc X S0 S L) {b:Nat} {o o':Obj} (hu:Upd L b o o' L'):Ext [b] S (S.put b o')∧Loc X S0 (S.put b o') L':=⟨.put_old (H.own _ _ hu.mem) _,H.put hu⟩
end
theorem cell_of {S:St} {b off:Nat} {cs:List Value} {e:TypeId} {v:Value} (h:S b=some ⟨Cs cs e,true⟩) (hv:cs[off]? = some v):S.cell? ⟨b,off,none⟩=some v:=by simp [St.cell?,h,hv]
theorem bef_aft {l:Bs} {c:UInt8} (h:c∈l):l=bef l c++c::aft l c∧c∉bef l c:=by
 unfold bef aft
 have hi:=List.idxOf_lt_length_of_mem h
 have he:l[l.idxOf c]=c:=List.getElem_idxOf hi
 refine ⟨?_,?_⟩
 ·conv=>lhs;rw [← List.take_append_drop (l.idxOf c) l,List.drop_eq_getElem_cons hi,he]
 ·intro hm
  rw [List.mem_take_iff_getElem] at hm
  obtain ⟨i,hi',hc⟩:=hm
  have h3:=List.not_of_lt_findIdx (p:=(· == c)) (xs:=l) (i:=i) (by simp only [List.idxOf] at hi';omega)
  simp [hc] at h3
theorem spl_mid2 {s:UInt8} (a y:Bs):(spl s (a++s::y)).2=(spl s y).2:=by
 induction a with
 | nil=>simp [spl]
 | cons c a ih=>
  simp only [List.cons_append,spl]
  split
  ·exact ih
  ·rcases h:spl s (a++s::y) with ⟨ls,r⟩
   rw [h] at ih
   cases ls with
   | nil=>
    exfalso
    have h2:=spl_join s (a++s::y)
    have h3:=spl_clean s (a++s::y)
    rw [h] at h2 h3
    simp only [List.map_nil,List.flatten_nil,List.nil_append] at h2
    apply h3.2
    show s∈r
    rw [← h2];simp
   | cons l ls=>exact ih
theorem spl_rest {s:UInt8} {l:Bs} {r:Int} (h:LastI l s r):-1≤r∧r<l.length∧l.drop (r+1).toNat=(spl s l).2:=by
 rcases h with ⟨rfl,h⟩ | ⟨n,rfl,h,h2⟩
 ·rw [spl_nomem h];exact ⟨by omega,by omega,rfl⟩
 ·obtain ⟨hn,he⟩:=List.getElem?_eq_some_iff.1 h
  refine ⟨by omega,by omega,?_⟩
  rw [show ((n:Int)+1).toNat=n+1 by omega]
  have e:l=l.take n++s::l.drop (n+1):=by
   conv=>lhs;rw [← List.take_append_drop n l,List.drop_eq_getElem_cons hn,he]
  conv=>rhs;rw [e,spl_mid2,spl_nomem h2]
theorem lines_next {l r x r':Bs} {ls:List Bs} (hs:zu l=(ls++(zu r).1,(zu r).2)) (hr:r=x++59::r') (hx:59∉x):zu l=((ls++[x])++(zu r').1,(zu r').2):=by
 rw [hs,hr]
 simp only [zu]
 rw [spl_cons hx]
 simp
theorem lines_end {l r:Bs} {ls:List Bs} (hs:zu l=(ls++(zu r).1,(zu r).2)) (hr:59∉r):zu l=(ls,r):=by
 rw [hs]
 simp only [zu]
 rw [spl_nomem hr];simp
theorem ct179 {l b:Nat} {J:Bs→St→Prop} {s:Bs} {S0:St} {K:Value→St→Prop}
    (hb:∀ r S,J r S→S b=some ⟨Cs [str r] 9,true⟩) (hlen:∀ r S,J r S→r.length≤1099511627776) (hm:∀ r S S',J r S→Ext [] S S'→J r S')
    (hy:∀ r x r' S,J r S→r=x++59::r'→59∉x→Yields Tryz.prog l [str x] S fun v S'=>(v=.bool true∧S' b=some ⟨Cs [str r] 9,true⟩∧∀ S'',Ext [b] S' S''→S'' b=some ⟨Cs [str r'] 9,true⟩→J r' S'')∨(v=.bool false∧K (resVal []) S'))
    (hz:∀ r S,J r S→59∉r→K (resVal []) S) (h0:J s S0):Calls1 Tryz.prog 179 #[.func (.yield l) #[] #[],vN b 0] S0 K:=by
  refine calls1_slim (sf:=s179) Tryz.func179 k179 (of_decide_eq_true rfl) ?_
  show wpS Tryz.prog c179 (Env.of [.func (.yield l) #[] #[],vN b 0]) S0 _
  refine zK ?_
  refine vA (fun E S m_=>∃ r,E=Env.lst [(0,.func (.yield l) #[] #[]),(1,vN b 0)]∧J r S∧m_=r.length) ?_ ?_
  · refine ⟨_,_,?le,s,rfl,h0,rfl⟩
    case le=>exact Env.qle ⟨rfl,rfl,trivial⟩
  rintro _ S _ ⟨r,rfl,hJ,rfl⟩
  refine zK ?_
  refine zJ ?_
  refine zU ?_
  refine za (zE rfl (cell_of (hb _ _ hJ) rfl) ?_)
  refine za (zP rfl (ct180 (hlen _ _ hJ) fun t8 S hE h8=>?_))
  replace hJ:=hm _ _ _ hJ hE
  refine za (vP rfl ?_)
  refine za (vo rfl rfl ?_)
  refine za (vo rfl rfl ?_)
  refine za (vo rfl rfl ?_)
  refine za (vP rfl ?_)
  refine za (vP rfl ?_)
  refine za (vP rfl ?_)
  refine vl ?_
  refine ze ?_
  refine zJ ?_
  refine zJ ?_
  refine zU ?_
  refine za (vP rfl ?_)
  refine za (W_not rfl ?_)
  refine za (vP rfl ?_)
  rcases t8 with _|_
  · replace h8:=bF h8
    refine wpI_no rfl (by decide) ?_
    refine wpI_no rfl (by decide) ?_
    refine wpI_no rfl (by decide) ?_
    refine wpI_no rfl (by decide) ?_
    refine za (vM rfl rfl rfl rfl ?_)
    refine vl ?_
    refine ze ?_
    refine zj rfl ?_
    refine zi (zw (vg (zw (vg ?_))))
    exact ⟨trivial,_,zM,hz _ _ hJ h8⟩
  · replace h8:=bT h8
    obtain ⟨e8,n8⟩:=bef_aft h8
    refine zh rfl (vP rfl ?_)
    refine zh rfl (vP rfl ?_)
    refine zh rfl (W_yield rfl rfl ((hy _ _ _ _ hJ e8 n8).mono fun v S' q=>?_))
    rcases q with ⟨rfl,hb',hJ'⟩ | ⟨rfl,hK⟩
    · refine zh rfl (W_not rfl ?_)
      refine za (vM rfl rfl rfl rfl ?_)
      refine vl ?_
      refine ze ?_
      refine zr rfl ?_
      refine zv ?_
      refine ze ?_
      refine zU ?_
      have H:=Loc.start1 hb'
      refine za (vP rfl ?_)
      refine za (W_store H rfl rfl rfl rfl rfl (by decide) .head (of_decide_eq_true rfl) rfl fun S hE H=>?_)
      refine vl ?_
      refine z_ ?_
      refine ze ?_
      refine ⟨_,_,?lt,?le,aft r 59,rfl,hJ' _ hE (H.get .head),rfl⟩
      case le=>exact Env.qle ⟨rfl,rfl,trivial⟩
      case lt=>
        have:=congrArg List.length e8
        simp at this;omega
    · refine zh rfl (W_not rfl ?_)
      refine za (vM rfl rfl rfl rfl ?_)
      refine vl ?_
      refine ze ?_
      refine zj rfl ?_
      refine zi (zw (vg (zw (vg ?_))))
      exact ⟨trivial,_,zM,hK⟩
end
section
variable {S0:St} {K:Value→St→Prop}
variable {l:Bs}
theorem ct96  (k:∀ b S',Ext [] S0 S'→(S0 b=none)→(S' b=some ⟨Cs [str l] 9,true⟩)→K (.func (.func 179) #[] #[vN b 0]) S') :
  zC 96 #[str l] S0 K:=by
 refine zGh (sf:=s96) Tryz.func96 fun H=>zR (zBx H O O fun b1 S hb1 hE H=>zt O (v4 (za (W_mkFunc O O (zt O (zN (zi (z9 O ?_))))))))
 exact k _ _ H.qx (H.new1 .h) (H.get .h)
theorem ct35 (hl:l.length≤1099511627776) (k:∀ b cap S',Ext [] S0 S'→(S0 b=none)→(OwnB S' b 9 1 cap (strRows (zu l).1))→K (.tuple #[sl b 0 (zu l).1.length cap,str (zu l).2]) S') :
  zC 35 #[str l] S0 K:=by
 refine calls1_x (sf:=s35) Tryz.func35 (by kernel_rfl) (of_decide_eq_true O) ?_
 show wpX Tryz.prog c35 (Env.of [str l]) S0 [] _
 have H:=Loc.start [] S0
 refine wpX_seq (wpX_slim (zU (zt O (zt O (vl (thnX_norm (wpX_seq (wpX_slim (zU (zt O (vK O (ct95  fun S hE =>?_))))))))))))
 replace H:=H.call hE
 have hcn:l.count 59≤l.length:=List.count_le_length
 refine za (W_mkSlice H O O (Nat.zero_le _) (by omega) (by omega) fun b8 cs8 S hb8 H hE hcl8=>zAl H O fun b4 S hb4 hE H=>zSs H O O O .h O fun S hE H=>vl (thnX_norm (wpX_seq (wpX_seq (wpX_slim (zU (zt O (vK O (ct96  fun b10 S hE hb10 ho10=>?_)))))))))
 replace H:=H.adopt hE hb10 ho10
 refine vl (thnX_norm (wpX_block (wpX_range O Tryz.func179 O O fun d10 l10 lr10 hd10 hl10 hro10=>?_)))
 replace H:=(H.alloc hd10 (.deferred (some []))).alloc hl10 (lp lr10 .ready none)
 refine ct179 (l:=l10) (b:=b10) (s:=l) (J:=fun r_ S=>(∃ (ls:List Bs) (b8:Nat) (cap8:Nat) (cs8:List Value),Loc [] S0 S [(b4,Cs [sl b8 0 ls.length cap8] 59),(b8,Cs cs8 9),(l10,lp lr10 .ready none),(d10,.deferred (some [])),(b10,Cs [str r_] 9)]∧(zu l=(ls++(zu r_).1,(zu r_).2))∧(r_.length+ls.length≤l.length)∧(ls.length≤cap8)∧(cs8.length=cap8*1)∧(cs8.take (ls.length*1)=ls.map str))) ?_ ?_ ?_ ?_ ?_ ?_
 ·rintro r_ S ⟨ls,b8,cap8,cs8,H,hs,hrl,hn,hcl,hct⟩
  exact H.get .h4
 ·rintro r_ S ⟨ls,b8,cap8,cs8,H,hs,hrl,hn,hcl,hct⟩
  omega
 ·rintro r_ S S2 ⟨ls,b8,cap8,cs8,H,hs,hrl,hn,hcl,hct⟩ hE
  exact ⟨ls,b8,cap8,cs8,H.call hE,hs,hrl,hn,hcl,hct⟩
 ·rintro r_ x_ r2_ S ⟨ls,b8,cap8,cs8,H,hs,hrl,hn,hcl,hct⟩ hrx hx59
  refine hro10.h [str x_] S _ O ?_ (H.get .h2)
  refine zU (zt O (vl (⟨O,H.get .h2,?_⟩)))
  obtain ⟨hE,H⟩:=H.putE (b:=l10) (o':=lp lr10 .busy none) .h2
  refine zK (zU (zL1 H O .h O (zt O (za (zS (cs:=[_]) H O O fun b14 S hb14 hE H=>za (W_append H O O .h2 hcl hn (Src.own H .h O) (by simp [vY]) O (by decide) (by omega) O fun b15 cap15 cs15 S hb15 H hE hn15 hcl15 hct15=>zSs H O O O .h2 O fun S hE H=>vl (z_ (⟨H.get .h3,?_⟩))))))))
  obtain ⟨hE,H⟩:=H.putE (b:=l10) (o':=lp lr10 .ready none) .h3
  refine .inl ⟨O,H.get .h5,fun S hE ho=>?_⟩
  replace H:=H.callX hE .h5 ho
  have hln:=congrArg List.length hrx
  simp only [List.length_append,List.length_cons] at hln
  rw [show ls.length+1=(ls++[x_]).length by simp] at H
  replace H:=H.front .h5
  replace H:=H.front .h5
  replace H:=H.front .h5
  replace H:=H.front .h3
  replace H:=H.front .h5
  refine ⟨(ls++[x_]),b15,cap15,cs15,(H.takeL 5),(lines_next hs hrx hx59),(by simp only [List.length_append,List.length_cons,List.length_nil];omega),(by simpa using hn15),hcl15,(by rw [List.length_append,List.map_append,← hct];exact hct15)⟩
 ·rintro r_ S ⟨ls,b8,cap8,cs8,H,hs,hrl,hn,hcl,hct⟩ hz59
  refine .inl ⟨H.get .h2,?_⟩
  obtain ⟨hE,H⟩:=H.putE (b:=l10) (o':=lp lr10 .exhausted none) .h2
  refine blkX_norm (thnX_norm (wpX_slim (zJ ?_)))
  have hse:=lines_end hs hz59
  refine zY [] (ve 0 O O (fun S' hS'=>zA fun K hK=>zE O (zB (hS' O) (by simp) (H.cell .h O)) hK) (vC 1 O O O (vC 2 O O O (zy 3 (by kernel_rfl) O O (zn (zP O (ct97 (by omega) fun r19 S hE h19=>?_)))))))
  replace H:=H.call hE
  have hsr:=spl_rest h19
  refine ⟨fun _=>hE.up.ext,vF 4 O O (fun _ _ hK=>W_add O O (by omega) (by omega) hK) (vF 5 O O (fun _ _ hK=>W_slSlo O O (by omega) (by omega) hK) (vC 6 O O O (vC 7 O O O (zT (ze (zi (⟨trivial,H.get .h3,?_⟩)))))))⟩
  obtain ⟨hE,H⟩:=H.putE (b:=d10) (o':=.deferred none) .h3
  refine ⟨_,(z0 O (z0 O zM)),?_⟩
  rw [hsr.2.2]
  have e1:(zu l).1=ls:=by rw [hse]
  rw [e1] at k
  exact k _ _ _ H.qx (H.new1 .h1) ⟨_,H.get .h1,by simpa using hn,hcl,by rw [strRows_flat];simpa using hct,strRows_one⟩
 ·skip
  replace H:=H.front .h2
  replace H:=H.front .h2
  replace H:=H.front .h2
  replace H:=H.front .h4
  replace H:=H.front .h4
  exact ⟨[],b8,(l.count 59),cs8,H,(by simp),(by simp),(by simp),hcl8,(by simp)⟩
theorem ct147 (hl:l.length≤2097152) (k:∀ (t:Bool) S',Ext [] S0 S'→(t=true↔StrP l)→K (.bool t) S') :
  zC 147 #[str l] S0 K:=by
 refine zGh (sf:=s147) Tryz.func147 fun H=>zR (zt O (v4 (zt O (vK O (ct35 (by omega) fun b9 cap9 S hE hb9 hO9=>?_)))))
 obtain ⟨cs9,ho9,hn9,hcl9,hct9,_⟩:=hO9
 replace H:=H.adopt hE hb9 ho9
 have hnl:(zu l).1.length≤l.length:=strLines_len l
 have hrl:(zu l).2.length≤l.length:=spl_rest_len 59 l
 have hal:=lines_le l
 refine zt O (zEx O O (zEx O O (zt O (zt O (zN (zSS (zt O (zt O (za (zS (cs:=[_]) H O O fun b14 S hb14 hE H=>za (W_append H O O .h1 hcl9 (by simpa using hn9) (Src.own H .h O) (by simp [vY]) O (by decide) (by omega) O fun b15 cap15 cs15 S hb15 H hE hn15 hcl15 hct15=>?_)))))))))))
 obtain ⟨xs,hxs⟩:∃ xs,xs=((zu l).1++[(zu l).2]):=⟨_,rfl⟩
 have hxn:xs.length=(zu l).1.length+1:=by rw [hxs];simp
 have hxc:cs15.take ((strRows xs).length*1)=(strRows xs).flatten:=by
  rw [show (strRows xs).length=xs.length by simp,hxn,hct15,hxs,strRows_flat,List.map_append,← strRows_flat]
  rw [show (zu l).1.length*1=(strRows (zu l).1).length*1 by simp,hct9];rfl
 have hxl:∀ x∈xs,x.length≤l.length:=by
  rw [hxs];intro x hx
  rcases List.mem_append.1 hx with hx | hx
  ·exact hal x hx
  ·obtain rfl:=List.mem_singleton.1 hx;exact hrl
 rw [← hxn]
 refine zLl O (zt O (zN (zK ?_)))
 refine vA (fun E S m_=>∃ (i:Nat),E=Env.lst [(0,str l),(15,sl b15 0 xs.length cap15),(16,int xs.length),(17,int i)]∧Loc [] S0 S [(b15,Cs cs15 9)]∧(i≤xs.length)∧(∀ x∈xs.take i,LinP x)∧m_=xs.length-i) ?_ ?_
 ·skip
  refine ⟨_,_,?le,0,O,(H.sub (.cons_cons _ (.cons _ .slnil))),(by omega),(by simp),O⟩
  case le=>exact Env.qle ⟨O,O,O,O,⟨⟩⟩
 ·skip
  rintro _ S _ ⟨i,rfl,H,hi,hp,rfl⟩
  refine zR (za (vT O O fun t18 h18=>zN (zJ ?_)))
  rcases t18 with _|_
  ·replace h18:=bF h18
   refine zr O (vz (zZ (zZ (vH (ze (zR (zt O (za (vI O (za (W_leq O O fun t27 h27=>zt O (zN (zi (z9 O ?_))))))))))))))
   rw [show i=xs.length by omega,List.take_length,hxs] at hp
   exact k _ _ H.qx (h27.trans ⟨fun h=>⟨fun x hx=>hp x (by simp [hx]),hp _ (by simp),by omega⟩,fun h=>by have:=h.2.2;omega⟩)
  ·replace h18:=bT h18
   obtain ⟨x,hx⟩:∃ x,xs[i]? = some x:=⟨xs[i]'(by omega),by simp⟩
   have hx15:=str_at hxc hx
   refine zj O (zv (ze (zJ (zK (zR (zIa O O (zL1 H O .h hx15 (zt O (v4 (zt O (vK O (ct60 (by have:=hxl x (List.mem_of_getElem? hx);omega) fun t22 S hE h22=>?_))))))))))))
   replace H:=H.call hE
   refine zNt O (zN ?_)
   rcases t22 with _|_
   ·replace h22:=bF h22
    refine zj O (zR (zt O (zN (zi (vg (zw (zw (vg (zw (z9 O ?_))))))))))
    exact k _ _ H.qx ⟨nofun,fun h=>absurd (by
     have hm:=List.mem_of_getElem? hx
     rw [hxs] at hm
     rcases List.mem_append.1 hm with hm | hm
     ·exact h.1 x hm
     ·obtain rfl:=List.mem_singleton.1 hm;exact h.2.1) h22⟩
   ·replace h22:=bT h22
    refine zr O (zv (z_ (ze (zU (zAd O O (zt O (zN ?_)))))))
    refine ⟨_,_,?lt,?le,(i+1),O,H,(by omega),(mem_take_succ hx hp h22),O⟩
    case lt=>omega
    case le=>exact Env.qle ⟨O,O,O,O,⟨⟩⟩
end
section
open Go
structure CallV (P:Program) (v:Value) (vs:List Value) (S:St) (K:Value→St→Prop):Prop where
 h:∃ (f:FuncId) (fn:Func) (fs cs:Array Value),v=.func (.func f) fs cs∧P.funcs[f]? = some fn∧fn.body.isSome=true∧(fn.name == "runtime.NumGoroutine")=false∧Calls1 P f (fs++vs.toArray++cs) S K
theorem W_callV {P:Program} {E:Env} {S:St} {K:Value→St→Prop} {x:Operand} {args:List Operand} {v:Value} {vs:List Value} (hx:E.ev x=some v) (hv:E.evs args=some vs) (h:CallV P v vs S K):(SOp.callv x args).W P E S K:=by
 obtain ⟨f,fn,fs,cs,rfl,h1,h2,h3,h4⟩:=h.h
 exact W_callv hx hv h1 h2 h3 h4
inductive FnM (S:St):List Nat→List Rule→Value→Prop
 | nil:FnM S [] [] (.func (.func 170) #[] #[])
 | cons {bs:List Nat} {rs:List Rule} {v:Value} {b2 b3:Nat} (r:Rule) (h2:S b2=some ⟨Cs r.row 162,true⟩) (h3:S b3=some ⟨Cs [v] 179,true⟩) (h:FnM S bs rs v):FnM S (b2::b3::bs) (r::rs) (.func (.func 215) #[] #[vN b2 0,vN b3 0])
theorem FnM.mono {S S':St} {bs:List Nat} {rs:List Rule} {v:Value} (h:FnM S bs rs v) (hE:Ext [] S S'):FnM S' bs rs v:=by
 induction h with
 | nil=>exact .nil
 | cons r h2 h3 _ ih=>exact .cons r (hE.get h2) (hE.get h3) ih
theorem FnM.ne {S:St} {bs:List Nat} {rs:List Rule} {v:Value} (h:FnM S bs rs v) {n:Nat} (hn:S n=none):n∉bs:=by
 induction h with
 | nil=>simp
 | cons r h2 h3 _ ih=>
  simp only [List.mem_cons,not_or]
  exact ⟨(by rintro rfl;rw [hn] at h2;cases h2),(by rintro rfl;rw [hn] at h3;cases h3),ih⟩
theorem FnM.qy {S S':St} {bs:List Nat} {rs:List Rule} {v:Value} {n:Nat} (h:FnM S bs rs v) (hE:Ext [n] S S') (hn:n∉bs):FnM S' bs rs v:=by
 induction h with
 | nil=>exact .nil
 | cons r h2 h3 _ ih=>
  simp only [List.mem_cons,not_or] at hn
  exact .cons r (hE.ext _ _ (by simpa using Ne.symm hn.1) h2) (hE.ext _ _ (by simpa using Ne.symm hn.2.1) h3) (ih hn.2.2)
theorem FnM.nin {S:St} {bs:List Nat} {n b2 b3:Nat} {e:Ent} (h:n∉bs) (h2:S b2=none) (h3:S b3=none) (hn:S n=some e):n∉b2::b3::bs:=by
 simp only [List.mem_cons,not_or]
 exact ⟨(by rintro rfl;rw [hn] at h2;cases h2),(by rintro rfl;rw [hn] at h3;cases h3),h⟩
theorem ct214 {l b:Nat} {J:Nat→St→Prop} {a:Option Addr} {cap:Nat} {rs:List Rule} {S0:St} {K:Value→St→Prop} (hl:rs.length≤1099511627776)
    (hb:∀ k S,J k S→S b=some ⟨Cs [.slice a rs.length cap] 23,true⟩) (hs:∀ k S,J k S→Sl S 7 a (vf rs))
    (hy:∀ k x S,J (k+1) S→rs[k]? = some x→Yields Tryz.prog l [int k,x.v] S fun v S'=>(v=.bool true∧J k S')∨(v=.bool false∧K (resVal []) S'))
    (hz:∀ S,J 0 S→K (resVal []) S) (h0:J rs.length S0):Calls1 Tryz.prog 214 #[.func (.yield l) #[] #[],vN b 0] S0 K:=by
  refine calls1_slim (sf:=s214) Tryz.func214 k214 (of_decide_eq_true rfl) ?_
  show wpS Tryz.prog c214 (Env.of [.func (.yield l) #[] #[],vN b 0]) S0 _
  refine zJ ?_
  refine zU ?_
  refine za (zE rfl (cell_of (hb _ _ h0) rfl) ?_)
  refine za (W_lenL rfl ?_)
  refine za (W_sub rfl rfl (by omega) (by omega) ?_)
  refine za (vP rfl ?_)
  refine vl ?_
  refine ze ?_
  refine zK ?_
  refine vA (fun E S m_=>∃ k:Nat,E=Env.lst [(0,.func (.yield l) #[] #[]),(1,vN b 0),(3,int ((k:Int)-1))]∧J k S∧k≤rs.length∧m_=k) ?_ ?_
  · refine ⟨_,_,?le,rs.length,rfl,h0,Nat.le_refl _,rfl⟩
    case le=>exact Env.qle ⟨rfl,rfl,rfl,trivial⟩
  rintro _ S mm ⟨k,rfl,hJ,hk,hmm⟩
  refine zJ ?_
  refine zJ ?_
  refine zU ?_
  refine za (vP rfl ?_)
  refine za (W_geq rfl rfl fun t8 h8=>?_)
  refine vl ?_
  refine ze ?_
  rcases t8 with _|_
  · replace h8:=bF h8
    refine zr rfl ?_
    refine vz ?_
    refine zZ ?_
    refine zZ ?_
    refine vH ?_
    obtain rfl:k=0:=by omega
    exact ⟨trivial,_,zM,hz _ hJ⟩
  · replace h8:=bT h8
    obtain ⟨k,rfl⟩:∃ j,k=j+1:=⟨k-1,by omega⟩
    obtain ⟨x,hx⟩:∃ x,rs[k]? = some x:=⟨rs[k]'(by omega),by simp⟩
    obtain ⟨b1,off,rfl,hc⟩:=(hs _ _ hJ).row k _ (ruleRows_at hx)
    refine zj rfl ?_
    refine zv ?_
    refine ze ?_
    refine zJ ?_
    refine zK ?_
    refine zJ ?_
    refine zU ?_
    refine za (vP rfl ?_)
    refine za (vP rfl ?_)
    refine za (zE rfl (cell_of (hb _ _ hJ) rfl) ?_)
    refine za (vP rfl ?_)
    refine za (vq rfl rfl (by omega) (by omega) ?_)
    rw [show (((k+1:Nat):Int)-1).toNat=k by omega]
    refine za (zO rfl hc ?_)
    have hy1:=hy _ _ _ hJ hx
    rw [show ((k:Nat):Int)=((k+1:Nat):Int)-1 by omega] at hy1
    refine za (W_yield rfl rfl (hy1.mono fun v S' q=>?_))
    rcases q with ⟨rfl,hJ'⟩ | ⟨rfl,hK⟩
    · refine za (W_not rfl ?_)
      refine vl ?_
      refine ze ?_
      refine zr rfl ?_
      refine zv ?_
      refine z_ ?_
      refine ze ?_
      refine zU ?_
      refine za (vP rfl ?_)
      refine za (W_sub rfl rfl (by omega) (by omega) ?_)
      refine za (vP rfl ?_)
      refine vl ?_
      refine ze ?_
      rw [show ((k+1:Nat):Int)-1-1=(k:Int)-1 by omega]
      refine ⟨_,k,?lt,?le,k,rfl,hJ',by omega,rfl⟩
      case le=>exact Env.qle ⟨rfl,rfl,rfl,trivial⟩
      case lt=>omega
    · refine za (W_not rfl ?_)
      refine vl ?_
      refine ze ?_
      refine zj rfl ?_
      refine zi (vg (zw (zw (vg ?_))))
      exact ⟨trivial,_,zM,hK⟩
end
section
variable {S0:St} {K:Value→St→Prop}
variable {e f:End} {a:Option Addr} {r:Rule} {v:Value}
theorem ct170  (k:∀  S',Ext [] S0 S'→K (.bool true) S') :
  zC 170 #[e.v,f.v] S0 K:=by
 refine zGh (sf:=s170) Tryz.func170 fun H=>zR (zBx H O O fun b2 S hb2 hE H=>zBx H O O fun b3 S hb3 hE H=>zt O (v4 (zt O (zN (zi (z9 O ?_))))))
 exact k _ H.qx
theorem ct215 {b2 b3:Nat} {m:Bool} (h2:S0 b2=some ⟨Cs r.row 162,true⟩) (h3:S0 b3=some ⟨Cs [v] 179,true⟩) (hin:∀ S,Ext [] S0 S→∀ K:Value→St→Prop,(∀ (t:Bool) S',Ext [] S S'→t=m→K (.bool t) S')→CallV Tryz.prog v [e.v,f.v] S K) (k:∀ (t:Bool) S',Ext [] S0 S'→(t=if FitsP r e f then r.al else m)→K (.bool t) S') :
  zC 215 #[e.v,f.v,vN b2 0,vN b3 0] S0 K:=by
 refine zGh (sf:=s215) Tryz.func215 fun H=>zR (zBx H O O fun b4 S hb4 hE H=>zBx H O O fun b5 S hb5 hE H=>zt O (zN (zSS (vZ O (zL1 H O .h1 O (vZ O (za (zE O (cell_of (H.qx.get h2) O) (vZ O (za (zE O (cell_of (H.qx.get h2) O) (vK O (ct70  fun t13 S hE h13=>?_)))))))))))))
 replace H:=H.call hE
 refine zt O ?_
 rcases t13 with _|_
 ·replace h13:=bF h13
  refine zL O (zL O (zL O (zL O (zL O (zL O (zL O (vw O O O O (zt O (zL O (zL O (zL O (zL O (zL O (zL O (zL O (vw O O O O (zN (zr O (zv (ze (zR (za (zE O (cell_of (H.qx.get h3) O) (zLn (vs:=[_,_]) H O .h1 O (zLn (vs:=[_,_]) H O .h O (za (W_callV O O (hin _ H.qx _ fun t37 S hE h37=>?_))))))))))))))))))))))))))))
  replace H:=H.call hE
  refine zt O (zN (zi (z9 O ?_)))
  exact k _ _ H.qx (by rw [if_neg (by unfold FitsP;intro h;first | exact h13 h.1 | exact h21 h.2.1 | exact h30 h.2.2)];exact h37)
 ·replace h13:=bT h13
  refine zh O (zD O (zh O (vr H O .h O (zh O (zD O (zh O (zE O (cell_of (H.qx.get h2) O) (zh O (zD O (zh O (zE O (cell_of (H.qx.get h2) O) (zh O (zP O (ct70  fun t21 S hE h21=>?_))))))))))))))
  replace H:=H.call hE
  refine vw O O O O (zt O ?_)
  rcases t21 with _|_
  ·replace h21:=bF h21
   refine zL O (zL O (zL O (zL O (zL O (zL O (zL O (vw O O O O (zN (zr O (zv (ze (zR (za (zE O (cell_of (H.qx.get h3) O) (zLn (vs:=[_,_]) H O .h1 O (zLn (vs:=[_,_]) H O .h O (za (W_callV O O (hin _ H.qx _ fun t37 S hE h37=>?_)))))))))))))))))))
   replace H:=H.call hE
   refine zt O (zN (zi (z9 O ?_)))
   exact k _ _ H.qx (by rw [if_neg (by unfold FitsP;intro h;first | exact h13 h.1 | exact h21 h.2.1 | exact h30 h.2.2)];exact h37)
  ·replace h21:=bT h21
   refine zh O (zD O (zh O (vr H O .h O (zh O (zD O (zh O (zE O (cell_of (H.qx.get h2) O) (zh O (zD O (zh O (zE O (cell_of (H.qx.get h2) O) (zh O (zP O (ct70  fun t30 S hE h30=>?_))))))))))))))
   replace H:=H.call hE
   refine vw O O O O (zN ?_)
   rcases t30 with _|_
   ·replace h30:=bF h30
    refine zr O (zv (ze (zR (za (zE O (cell_of (H.qx.get h3) O) (zLn (vs:=[_,_]) H O .h1 O (zLn (vs:=[_,_]) H O .h O (za (W_callV O O (hin _ H.qx _ fun t37 S hE h37=>?_))))))))))
    replace H:=H.call hE
    refine zt O (zN (zi (z9 O ?_)))
    exact k _ _ H.qx (by rw [if_neg (by unfold FitsP;intro h;first | exact h13 h.1 | exact h21 h.2.1 | exact h30 h.2.2)];exact h37)
   ·replace h30:=bT h30
    refine zj O (zR (vZ O (za (zE O (cell_of (H.qx.get h2) O) (zt O (zN (zi (zw (z9 O ?_)))))))))
    exact k _ _ H.qx (by rw [if_pos (show FitsP r e f from ⟨h13,h21,h30⟩)])
theorem FnM.call:∀ (rs:List Rule) (bs:List Nat) (v:Value) (S:St),FnM S bs rs v→∀ K:Value→St→Prop,(∀ (t:Bool) S',Ext [] S S'→t=mayR rs e f→K (.bool t) S')→CallV Tryz.prog v [e.v,f.v] S K:=by
 intro rs
 induction rs with
 | nil=>
  intro bs v S h K k
  cases h
  exact ⟨_,_,_,_,rfl,Tryz.func170,rfl,rfl,ct170 fun S' hE=>k true S' hE rfl⟩
 | cons r rs ih=>
  intro bs v S h K k
  cases h with
  | cons _ h2 h3 h=>
   exact ⟨_,_,_,_,rfl,Tryz.func215,rfl,rfl,ct215 h2 h3 (fun S1 hE K k=>ih _ _ _ (h.mono hE) K k) fun t S' hE ht=>k t S' hE ht⟩
theorem ct171 {n c:Nat}  (k:∀ b S',Ext [] S0 S'→(S0 b=none)→(S' b=some ⟨Cs [.slice a n c] 23,true⟩)→K (.func (.func 214) #[] #[vN b 0]) S') :
  zC 171 #[.slice a n c] S0 K:=by
 refine zGh (sf:=s171) Tryz.func171 fun H=>zR (zBx H O O fun b1 S hb1 hE H=>zt O (v4 (za (W_mkFunc O O (zt O (zN (zi (z9 O ?_))))))))
 exact k _ _ H.qx (H.new1 .h) (H.get .h)
theorem ct172 (hv:v.cells=#[v]) (k:∀ b2 b3 S',Ext [] S0 S'→(S0 b2=none)→(S0 b3=none)→(S' b2=some ⟨Cs r.row 162,true⟩)→(S' b3=some ⟨Cs [v] 179,true⟩)→K (.func (.func 215) #[] #[vN b2 0,vN b3 0]) S') :
  zC 172 #[r.v,v] S0 K:=by
 refine zGh (sf:=s172) Tryz.func172 fun H=>zR (zBx H O O fun b2 S hb2 hE H=>zBx (vs:=[v]) H O hv fun b3 S hb3 hE H=>zt O (v4 (za (W_mkFunc O O (zt O (zN (zi (z9 O ?_))))))))
 exact k _ _ _ H.qx (H.new1 .h1) (H.new1 .h) (H.get .h1) (H.get .h)
theorem ct87 {cap:Nat} {rs:List Rule} (hs:Sl S0 7 a (vf rs)) (hl:rs.length≤1099511627776) (k:∀ (t:Bool) S',Ext [] S0 S'→(t=true↔e.inn∧f.out∧mayR rs e f=true)→K (.bool t) S') :
  zC 87 #[.slice a rs.length cap,e.v,f.v] S0 K:=by
 refine calls1_x (sf:=s87) Tryz.func87 (by kernel_rfl) (of_decide_eq_true O) ?_
 show wpX Tryz.prog c87 (Env.of [.slice a rs.length cap,e.v,f.v]) S0 [] _
 have H:=Loc.start [] S0
 have hq:=hs
 refine wpX_seq (wpX_slim (zU (zBx H O O fun b4 S hb4 hE H=>?_)))
 have hq_b4:=hq.ne hb4
 replace hq:=hq.mono hE
 refine zBx H O O fun b5 S hb5 hE H=>?_
 have hq_b5:=hq.ne hb5
 replace hq:=hq.mono hE
 refine zt O (vl (thnX_norm (wpX_seq (wpX_slim (zU (zAl H O fun b7 S hb7 hE H=>?_))))))
 have hq_b7:=hq.ne hb7
 replace hq:=hq.mono hE
 refine zSs H O O O .h O fun S hE H=>?_
 replace hq:=hq.qy hE hq_b7
 refine vl (thnX_norm (wpX_seq (wpX_seq (wpX_slim (zU (zt O (vK O (ct171  fun b11 S hE hb11 ho11=>?_))))))))
 have hq_b11:=hq.ne hb11
 replace H:=H.adopt hE hb11 ho11
 replace hq:=hq.mono hE
 refine vl (thnX_norm (wpX_block (wpX_range O Tryz.func214 O O fun d11 l11 lr11 hd11 hl11 hro11=>?_)))
 have hq_d11:=hq.ne hd11
 replace hq:=hq.mono (Ext.put_new hd11 (.deferred (some [])))
 have hq_l11:=hq.ne hl11
 replace hq:=hq.mono (Ext.put_new hl11 (lp lr11 .ready none))
 replace H:=(H.alloc hd11 (.deferred (some []))).alloc hl11 (lp lr11 .ready none)
 refine ct214 (l:=l11) (b:=b11) (a:=a) (cap:=cap) (rs:=rs) hl (J:=fun k_ S=>(∃ (v:Value) (bs:List Nat),Loc [] S0 S [(b7,Cs [v] 179),(b5,Cs f.row 31),(b4,Cs e.row 31),(l11,lp lr11 .ready none),(d11,.deferred (some [])),(b11,Cs [.slice a rs.length cap] 23)]∧(Sl S 7 a (vf rs))∧(FnM S bs (rs.drop k_) v)∧(v.cells=#[v])∧(k_≤rs.length)∧(∀ b off,a=some ⟨b,off,none⟩→b≠b7)∧(∀ b off,a=some ⟨b,off,none⟩→b≠b5)∧(∀ b off,a=some ⟨b,off,none⟩→b≠b4)∧(∀ b off,a=some ⟨b,off,none⟩→b≠l11)∧(∀ b off,a=some ⟨b,off,none⟩→b≠d11)∧(∀ b off,a=some ⟨b,off,none⟩→b≠b11)∧(b7∉bs)∧(b5∉bs)∧(b4∉bs)∧(l11∉bs)∧(d11∉bs)∧(b11∉bs))) ?_ ?_ ?_ ?_ ?_
 ·rintro k_ S ⟨v,bs,H,hq,hf,hfc,hkl,hq_b7,hq_b5,hq_b4,hq_l11,hq_d11,hq_b11,hf_b7,hf_b5,hf_b4,hf_l11,hf_d11,hf_b11⟩
  exact H.get .h5
 ·rintro k_ S ⟨v,bs,H,hq,hf,hfc,hkl,hq_b7,hq_b5,hq_b4,hq_l11,hq_d11,hq_b11,hf_b7,hf_b5,hf_b4,hf_l11,hf_d11,hf_b11⟩
  exact hq
 ·rintro k_ x_ S ⟨v,bs,H,hq,hf,hfc,hkl,hq_b7,hq_b5,hq_b4,hq_l11,hq_d11,hq_b11,hf_b7,hf_b5,hf_b4,hf_l11,hf_d11,hf_b11⟩ hx_
  refine hro11.h [int k_,x_.v] S _ O ?_ (H.get .h3)
  refine zU (zAl H O fun b9 S hb9 hE H=>?_)
  have hq_b9:=hq.ne hb9
  replace hq:=hq.mono hE
  have hf_b9:=hf.ne hb9
  replace hf:=hf.mono hE
  refine zSs H O O O .h O fun S hE H=>?_
  replace hq:=hq.qy hE hq_b9
  replace hf:=hf.qy hE hf_b9
  refine vl (⟨O,H.get .h4,?_⟩)
  obtain ⟨hE,H⟩:=H.putE (b:=l11) (o':=lp lr11 .busy none) .h4
  replace hq:=hq.qy hE hq_l11
  replace hf:=hf.qy hE hf_l11
  refine zK (zU (zLn (vs:=[_,_,_,_,_,_,_]) H O .h O (zL1 H O .h1 O (vK O (ct172 hfc fun x16 y16 S hE hx16 hy16 hxo16 hyo16=>?_)))))
  have hf16_b9:=FnM.nin hf_b9 hx16 hy16 (H.get .h)
  have hf16_b7:=FnM.nin hf_b7 hx16 hy16 (H.get .h1)
  have hf16_b5:=FnM.nin hf_b5 hx16 hy16 (H.get .h2)
  have hf16_b4:=FnM.nin hf_b4 hx16 hy16 (H.get .h3)
  have hf16_l11:=FnM.nin hf_l11 hx16 hy16 (H.get .h4)
  have hf16_d11:=FnM.nin hf_d11 hx16 hy16 (H.get .h5)
  have hf16_b11:=FnM.nin hf_b11 hx16 hy16 (H.get .h6)
  have hf16:=FnM.cons x_ hxo16 hyo16 (hf.mono hE)
  replace H:=H.call hE
  replace hq:=hq.mono hE
  refine zSs H O O O .h1 O fun S hE H=>?_
  replace hq:=hq.qy hE hq_b7
  replace hf16:=hf16.qy hE hf16_b7
  refine vl (z_ (⟨H.get .h4,?_⟩))
  obtain ⟨hE,H⟩:=H.putE (b:=l11) (o':=lp lr11 .ready none) .h4
  replace hq:=hq.qy hE hq_l11
  replace hf16:=hf16.qy hE hf16_l11
  refine .inl ⟨O,?_⟩
  replace H:=H.front .h6
  replace H:=H.front .h6
  replace H:=H.front .h6
  replace H:=H.front .h6
  replace H:=H.front .h6
  replace H:=H.front .h6
  refine ⟨_,_,(H.takeL 6),hq,?_,O,(by omega),hq_b7,hq_b5,hq_b4,hq_l11,hq_d11,hq_b11,hf16_b7,hf16_b5,hf16_b4,hf16_l11,hf16_d11,hf16_b11⟩
  rw [List.drop_eq_getElem_cons (by omega),show rs[k_]=x_ from (List.getElem?_eq_some_iff.1 hx_).2]
  exact hf16
 ·rintro  S ⟨v,bs,H,hq,hf,hfc,hkl,hq_b7,hq_b5,hq_b4,hq_l11,hq_d11,hq_b11,hf_b7,hf_b5,hf_b4,hf_l11,hf_d11,hf_b11⟩ 
  refine .inl ⟨H.get .h3,?_⟩
  obtain ⟨hE,H⟩:=H.putE (b:=l11) (o':=lp lr11 .exhausted none) .h3
  replace hf:=hf.qy hE hf_l11
  refine blkX_norm (thnX_norm (wpX_slim (zR (zLn (vs:=[_,_]) H O .h2 O (vK O (ct67  fun t18 S hE h18=>?_))))))
  replace H:=H.call hE
  replace hf:=hf.mono hE
  refine zt O ?_
  rcases t18 with _|_
  ·replace h18:=bF h18
   refine zL O (zL O (vw O O O O (zt O (zL O (zL O (zL O (zL O (vw O O O O (zt O (zN (zi (⟨trivial,H.get .h4,?_⟩))))))))))))
   obtain ⟨hE,H⟩:=H.putE (b:=d11) (o':=.deferred none) .h4
   refine ⟨_,(z0 O zM),?_⟩
   exact k _ _ H.qx (by first | exact ⟨fun h=>⟨h18,h21,h27.1 h⟩,fun h=>h27.2 h.2.2⟩ | exact ⟨nofun,fun h=>absurd h.1 h18⟩ | exact ⟨nofun,fun h=>absurd h.2.1 h21⟩ | exact ⟨nofun,fun h=>absurd h.2.2 h27⟩ | exact ⟨fun _=>⟨h18,h21,h27⟩,fun _=>rfl⟩)
  ·replace h18:=bT h18
   refine zh O (W_loadN (vs:=[_,_]) H O .h1 O (zh O (zP O (ct146  fun t21 S hE h21=>?_))))
   replace H:=H.call hE
   replace hf:=hf.mono hE
   refine vw O O O O (zt O ?_)
   rcases t21 with _|_
   ·replace h21:=bF h21
    refine zL O (zL O (zL O (zL O (vw O O O O (zt O (zN (zi (⟨trivial,H.get .h4,?_⟩))))))))
    obtain ⟨hE,H⟩:=H.putE (b:=d11) (o':=.deferred none) .h4
    refine ⟨_,(z0 O zM),?_⟩
    exact k _ _ H.qx (by first | exact ⟨fun h=>⟨h18,h21,h27.1 h⟩,fun h=>h27.2 h.2.2⟩ | exact ⟨nofun,fun h=>absurd h.1 h18⟩ | exact ⟨nofun,fun h=>absurd h.2.1 h21⟩ | exact ⟨nofun,fun h=>absurd h.2.2 h27⟩ | exact ⟨fun _=>⟨h18,h21,h27⟩,fun _=>rfl⟩)
   ·replace h21:=bT h21
    refine zh O (vr H O .h O (zh O (W_loadN (vs:=[_,_]) H O .h2 O (zh O (W_loadN (vs:=[_,_]) H O .h1 O (zh O (W_callV O O (hf.call _ _ _ _ _ fun t27 S hE h27=>?_))))))))
    replace H:=H.call hE
    replace h27:t27=true↔mayR rs e f=true:=by rw [h27];exact Iff.rfl
    refine vw O O O O (zt O (zN (zi (⟨trivial,H.get .h4,?_⟩))))
    obtain ⟨hE,H⟩:=H.putE (b:=d11) (o':=.deferred none) .h4
    refine ⟨_,(z0 O zM),?_⟩
    exact k _ _ H.qx (by first | exact ⟨fun h=>⟨h18,h21,h27.1 h⟩,fun h=>h27.2 h.2.2⟩ | exact ⟨nofun,fun h=>absurd h.1 h18⟩ | exact ⟨nofun,fun h=>absurd h.2.1 h21⟩ | exact ⟨nofun,fun h=>absurd h.2.2 h27⟩ | exact ⟨fun _=>⟨h18,h21,h27⟩,fun _=>rfl⟩)
 ·skip
  replace H:=H.front .h2
  replace H:=H.front .h2
  replace H:=H.front .h2
  replace H:=H.front .h5
  replace H:=H.front .h5
  replace H:=H.front .h5
  exact ⟨(.func (.func 170) #[] #[]),[],H,hq,(by rw [List.drop_length];exact .nil),rfl,(Nat.le_refl _),hq_b7,hq_b5,hq_b4,hq_l11,hq_d11,hq_b11,(by simp),(by simp),(by simp),(by simp),(by simp),(by simp)⟩
end
section
variable {S0:St} {K:Value→St→Prop}
variable {e:End} {q:Int} {es:List End} {cap:Nat} {a:Option Addr}
theorem ct141 {r0 r1 c0 c1:Nat} {es0 es1:Array MapEntry} {kv0:List (End × Int)} {kv1:List (Int × End)} (hr0:S0 r0=some ⟨.map es0 c0,true⟩) (hr1:S0 r1=some ⟨.map es1 c1,true⟩) (hne:r0≠r1) (hk0:kvs es0=kv0.map fun p=>(p.1.v,int p.2)) (hk1:kvs es1=kv1.map fun p=>(int p.1,p.2.v)) (k:∀ (es0' es1':Array MapEntry) (c0' c1':Nat) S',Ext [r0,r1] S0 S'→S' r0=some ⟨.map es0' c0',true⟩→S' r1=some ⟨.map es1' c1',true⟩→(kvs es0'=(addM kv0 e q).map fun p=>(p.1.v,int p.2))→(kvs es1'=(addM kv1 q e).map fun p=>(int p.1,p.2.v))→K (.tuple #[]) S') :
  zC 141 #[.agg #[.map (some r0),.map (some r1)],e.v,int q] S0 K:=by
 refine zGo (sf:=s141) Tryz.func141 ?_
 have H:=Loc.start2 hr0 hr1 hne
 refine zR (zBx H O O fun b3 S hb3 hE H=>zBx H O O fun b4 S hb4 hE H=>zN (zSS (vZ O (zL1 H O .h1 O (zLn (vs:=[_,_]) H O .h O ?_)))))
 obtain ⟨t14,ht14⟩:∃ t,(findM kv0 e 0).isSome=t:=⟨_,rfl⟩
 refine za (W_lookE_ tryzPT O O (H.get .h2) hk0 ?_)
 simp only [ht14,cond_true]
 have h14:t14=true↔(findM kv0 e 0).isSome=true:=by rw [ht14]
 refine zt O (zEx O O (zEx O O (zt O (zt O (v4 (zt O (zNt O (zN ?_))))))))
 rcases t14 with _|_
 ·replace h14:=bF h14
  refine zj O (zU (vZ O (zL1 H O .h1 O (zLn (vs:=[_,_]) H O .h O (zt O (za (W_updE_ tryzPT H O O O hk0 (by simpa using h14) .h2 fun S hE H=>v4 (vZ O (zL1 H O .h1 O (zt O ?_))))))))))
  obtain ⟨t27,ht27⟩:∃ t,(findM kv1 q 0).isSome=t:=⟨_,rfl⟩
  refine za (W_lookI_ tryzPT O O (H.get .h3) hk1 ?_)
  simp only [ht27,cond_true]
  have h27:t27=true↔(findM kv1 q 0).isSome=true:=by rw [ht27]
  refine zt O (zEx O O (zEx O O (zAl H O fun b8 S hb8 hE H=>zSs H O O O .h O fun S hE H=>zt O (v4 (zt O (zNt O (zN ?_)))))))
  rcases t27 with _|_
  ·replace h27:=bF h27
   refine zj O (zU (vZ O (zL1 H O .h2 O (zt O (zLn (vs:=[_,_]) H O .h1 O (za (W_updI_ tryzPT H O O O hk1 (by simpa using h27) .h4 fun S hE H=>vl (⟨trivial,_,zM,?_⟩))))))))
   exact k _ _ _ _ _ H.qx (H.get .h3) (H.get .h4) (by rw [kvs_push,hk0,addM_no (by simpa using h14)];simp) (by rw [kvs_push,hk1,addM_no (by simpa using h27)];simp)
  ·replace h27:=bT h27
   refine zr O (zv (⟨trivial,_,zM,?_⟩))
   exact k _ _ _ _ _ H.qx (H.get .h3) (H.get .h4) (by rw [kvs_push,hk0,addM_no (by simpa using h14)];simp) (by rw [hk1,addM_yes h27])
 ·replace h14:=bT h14
  refine zr O (zv (ze (zR (vZ O (zL1 H O .h1 O (zt O ?_))))))
  obtain ⟨t27,ht27⟩:∃ t,(findM kv1 q 0).isSome=t:=⟨_,rfl⟩
  refine za (W_lookI_ tryzPT O O (H.get .h3) hk1 ?_)
  simp only [ht27,cond_true]
  have h27:t27=true↔(findM kv1 q 0).isSome=true:=by rw [ht27]
  refine zt O (zEx O O (zEx O O (zAl H O fun b8 S hb8 hE H=>zSs H O O O .h O fun S hE H=>zt O (v4 (zt O (zNt O (zN ?_)))))))
  rcases t27 with _|_
  ·replace h27:=bF h27
   refine zj O (zU (vZ O (zL1 H O .h2 O (zt O (zLn (vs:=[_,_]) H O .h1 O (za (W_updI_ tryzPT H O O O hk1 (by simpa using h27) .h4 fun S hE H=>vl (⟨trivial,_,zM,?_⟩))))))))
   exact k _ _ _ _ _ H.qx (H.get .h3) (H.get .h4) (by rw [hk0,addM_yes h14]) (by rw [kvs_push,hk1,addM_no (by simpa using h27)];simp)
  ·replace h27:=bT h27
   refine zr O (zv (⟨trivial,_,zM,?_⟩))
   exact k _ _ _ _ _ H.qx (H.get .h3) (H.get .h4) (by rw [hk0,addM_yes h14]) (by rw [hk1,addM_yes h27])
theorem ct61 (hs:Sl S0 2 a (zV es)) (hcp:es.length≤cap) (hl:es.length≤1099511627776) (k:∀ (r0 r1 c0 c1:Nat) (es0 es1:Array MapEntry) (kv0:List (End × Int)) (kv1:List (Int × End)) S',Ext [] S0 S'→(S' r0=some ⟨.map es0 c0,true⟩)→(S' r1=some ⟨.map es1 c1,true⟩)→(kvs es0=kv0.map fun p=>(p.1.v,int p.2))→(kvs es1=kv1.map fun p=>(int p.1,p.2.v))→(Maps es es.length kv0 kv1)→K (.agg #[.map (some r0),.map (some r1)]) S') :
  zC 61 #[.agg #[.slice a es.length cap]] S0 K:=by
 refine zGh (sf:=s61) Tryz.func61 fun H=>zR (zBx H O O fun b1 S hb1 hE H=>zAl H O fun b2 S hb2 hE H=>v4 (za (W_mkMap H fun r6 S hr6 hE H=>za (W_mkMap H fun r7 S hr7 hE H=>za (vv (cs:=[_,_]) O O (zAl H O fun b3 S hb3 hE H=>zSs H O O O .h O fun S hE H=>zN (zSS (vZ O (zL1 H O .h4 O (zLl O (zt O (zN (zK ?_)))))))))))))
 refine vA (fun E S m_=>∃ (i:Nat) (es6:Array MapEntry) (c6:Nat) (es7:Array MapEntry) (c7:Nat) (kv0:List (End × Int)) (kv1:List (Int × End)),E=Env.lst [(1,vN b1 0),(2,vN b2 0),(3,vN b3 0),(10,.slice a es.length cap),(11,int es.length),(12,int i)]∧Loc [] S0 S [(b3,Cs [.map (some r6),.map (some r7)] 101),(r7,.map es7 c7),(r6,.map es6 c6),(b2,Cs [.map none,.map none] 101),(b1,Cs [.slice a es.length cap] 26)]∧(i≤es.length)∧(r6≠r7)∧(kvs es6=kv0.map fun p=>(p.1.v,int p.2))∧(kvs es7=kv1.map fun p=>(int p.1,p.2.v))∧(Maps es i kv0 kv1)∧m_=es.length-i) ?_ ?_
 ·skip
  refine ⟨_,_,?le,0,#[],0,#[],0,[],[],O,H,(by omega),(by rintro rfl;exact absurd H.nodup (by simp)),O,O,(.nil es),O⟩
  case le=>exact Env.qle ⟨O,O,O,O,O,O,⟨⟩⟩
 ·skip
  rintro _ S _ ⟨i,es6,c6,es7,c7,kv0,kv1,rfl,H,hi,hne,hk0,hk1,hM,rfl⟩
  refine zR (za (vT O O fun t13 h13=>zN (zJ ?_)))
  rcases t13 with _|_
  ·replace h13:=bF h13
   refine zr O (vz (zZ (zZ (vH (ze (zR (zLn (vs:=[_,_]) H O .h O (zSs H O O O .h3 O fun S hE H=>zN (zi (⟨trivial,_,(zW (ws:=[_,_]) H O .h3 O zM),?_⟩))))))))))
   obtain rfl:i=es.length:=by omega
   exact k _ _ _ _ _ _ _ _ _ H.qx (H.get .h2) (H.get .h1) hk0 hk1 hM
  ·replace h13:=bT h13
   obtain ⟨x,hx⟩:∃ x,es[i]? = some x:=⟨es[i]'(by omega),by simp⟩
   obtain ⟨b,off,rfl,hc⟩  :=hs.row i _ (endRows_at hx)
   refine zj O (zv (ze (zJ (zK (zR (zt O (zIa O O (za (zO (vs:=[_,_]) O (H.qx.cells hc) (zAl H O fun b5 S hb5 hE H=>zt O (zSs H O O O .h O fun S hE H=>v4 (zLn (vs:=[_,_]) H O .h1 O (zLn (vs:=[_,_]) H O .h O (zt O (zAd O O (vK O (ct141 (H.get .h3) (H.get .h2) hne hk0 hk1 fun e021 e121 k021 k121 S hE ho021 ho121 hk021 hk121=>?_)))))))))))))))))
   replace H:=H.callX2 hE .h3 .h2 ho021 ho121 hne
   replace hk0:=hk021
   replace hk1:=hk121
   replace hM:=hM.step hx
   refine zN (zU (vZ O (zL1 H O .h1 O (zt O (zAd O O (zLn (vs:=[_,_]) H O .h O ?_))))))
   obtain ⟨j26,hf26,hj26⟩:=hM.put hx
   refine za (W_updI2_ tryzPT H O O O hk1 hf26 hj26 .h2 fun S hE H=>vl (z_ (ze (zU (zAd O O (zt O (zN ?_)))))))
   refine ⟨_,_,?lt,?le,(i+1),_,_,_,_,_,_,O,(H.sub (.cons _ (.cons_cons _ (.cons_cons _ (.cons_cons _ (.cons_cons _ (.cons_cons _ .slnil))))))),(by omega),hne,hk0,(kvs_same hk1 hj26),hM,O⟩
   case lt=>omega
   case le=>exact Env.qle ⟨O,O,O,O,O,O,⟨⟩⟩
theorem ct16 (hs:Sl S0 2 a (zV es)) (hcp:es.length≤cap) (hl:es.length≤1099511627776) (k:∀  S',Ext [] S0 S'→K (int (portE es e)) S') :
  zC 16 #[.agg #[.slice a es.length cap],e.v] S0 K:=by
 refine zGh (sf:=s16) Tryz.func16 fun H=>zR (zBx H O O fun b2 S hb2 hE H=>zBx H O O fun b3 S hb3 hE H=>zt O (zN (zJ (zY [] (ve 0 O O (fun S' hS'=>zA fun K hK=>zO O (zF (hS' O) (by simp) (H.cells (vs:=[_]) .h1 O)) hK) (ve 3 O O (fun S' hS'=>zA fun K hK=>zO O (zF (hS' O) (by simp) (H.cells (vs:=[_,_]) .h O)) hK) (zy 1 (by kernel_rfl) O O (zn (zP O (ct61 (hs.mono H.qx) hcp (by omega) fun r06 r16 c06 c16 e06 e16 kv06 kv16 S hE hr06 hr16 hk06 hk16 hM6=>?_))))))))))
 replace H:=H.call hE
 refine ⟨fun _=>hE.up.ext,zy 2 (by kernel_rfl) O O (zn (W_part Tryz.underlying101 O O agg98 O O (⟨fun _=>fun _ _ _ h=>h,zy 4 (by kernel_rfl) O O (zn (W_lookE_ tryzPT (ok:=false) O O hr06 hk06 ?_))⟩)))⟩
 simp only [cond_false,hM6.port]
 refine ⟨fun _=>fun _ _ _ h=>h,vC 5 O O O (zT (ze (zi (z9 O ?_))))⟩
 exact k _ H.qx
theorem ct25 (hs:Sl S0 2 a (zV es)) (hcp:es.length≤cap) (hl:es.length≤1099511627776) (k:∀ (e:End) (t:Bool) S',Ext [] S0 S'→(t=true→endP es q=some e)→(t=false→endP es q=none∧e=⟨0,0⟩)→K (.tuple #[e.v,.bool t]) S') :
  zC 25 #[.agg #[.slice a es.length cap],int q] S0 K:=by
 refine zGh (sf:=s25) Tryz.func25 fun H=>zR (zBx H O O fun b2 S hb2 hE H=>zAl H O fun b4 S hb4 hE H=>zt O (v4 (zLn (vs:=[_]) H O .h1 O (vK O (ct61 (hs.mono H.qx) hcp (by omega) fun r010 r110 c010 c110 e010 e110 kv010 kv110 S hE hr010 hr110 hk010 hk110 hM10=>?_)))))
 replace H:=H.call hE
 refine za (W_part Tryz.underlying101 O O agg99 O O (zt O (za (W_lookI_ tryzPT O O hr110 hk110 ?_))))
 obtain ⟨e13,he13⟩:∃ e,(((findM kv110 q 0).map (·.2)).getD (⟨0,0⟩:End))=e:=⟨_,rfl⟩
 simp only [he13]
 refine zt O (zEx O O (zEx O O (zAl H O fun b6 S hb6 hE H=>zSs H O O O .h O fun S hE H=>zt O (v4 (zLn (vs:=[_,_]) H O .h O (zt O (zSs H O O O .h1 O fun S hE H=>zt O (zN (zi (⟨trivial,_,(zW (ws:=[_,_]) H O .h1 O (z0 O zM)),?_⟩))))))))))
 have hth:=hM10.theEnd q
 refine k e13 (findM kv110 q 0).isSome _ H.qx ?_ ?_
 ·intro ht
  rw [← hth]
  rcases hf:findM kv110 q 0 with _ | ⟨j,w⟩
  ·rw [hf] at ht;cases ht
  ·rw [hf] at he13;rw [← he13];rfl
 ·intro ht
  rw [← hth]
  rcases hf:findM kv110 q 0 with _ | ⟨j,w⟩
  ·rw [hf] at he13;exact ⟨rfl,he13.symm⟩
  ·rw [hf] at ht;cases ht
end
section
variable {S0:St} {K:Value→St→Prop}
variable {l:Bs} {es:List End} {cap:Nat} {a:Option Addr}
theorem ct212 (hs:Sl S0 2 a (zV es)) (hcp:es.length≤cap) (hl:es.length≤1099511627776) (k:∀ (a1:Option Addr) (c1:Nat) S',Ext [] S0 S'→(Sl S' 2 a1 (zV es))→(es.length≤c1)→(Org S0 none a1)→K (.slice a1 es.length c1) S') :
  zC 212 #[.slice a es.length cap] S0 K:=by
 refine zGh (sf:=s212) Tryz.func212 fun H=>zR (zt O (zN (zSS (zt O (za (W_sliceNil Tryz.underlying24 O fun t4 h4=>zN ?_))))))
 rcases t4 with _|_
 ·replace h4:=bF h4
  refine zr O (zv (ze (zR (za (zS (cs:=[]) H O O fun b5 S hb5 hE H=>zt O (za (W_appendZ (new:=(zV es).flatten) H O O .h (Src.sl (hs.mono H.qx) vJ (by simp)) endRows_one (endRows_flat_len es) (by decide) (by decide) (by omega) O fun b7 cap7 cs7 S hb7 H hE hn7 hcl7 hct7=>zt O (zN (zi (z9 O ?_))))))))))
  rw [show (0+es.length)=es.length by omega]
  exact k _ _ _ H.qx (vc (H.get .h) rfl (by simpa using hct7) vJ) (by simpa using hn7) (.new (H.new1 .h))
 ·replace h4:=bT h4
  refine zj O (zR (zt O (zN (zi (zw (z9 O ?_))))))
  subst h4
  obtain rfl:es=[]:=by
   cases es with
   | nil=>rfl
   | cons e es=>obtain ⟨b,off,e1,_⟩:=hs.row 0 e.row rfl;cases e1
  exact k none 0 _ H.qx (Sl.nil 2) (Nat.le_refl _) (.same _ _)
theorem ct158 {n c:Nat} (hn:n≤c) (k:∀  S',Ext [] S0 S'→K (.slice a n n) S') :
  zC 158 #[.slice a n c] S0 K:=by
 refine zGh (sf:=s158) Tryz.func158 fun H=>zR (zt O (v4 (zt O (zt O (zLl O (zt O (zLl O (za (W_clip O O O hn (zt O (zN (zi (z9 O ?_)))))))))))))
 exact k _ H.qx
theorem ct154 (hs:Sl S0 2 a (zV es)) (hcp:es.length≤cap) (hl:es.length≤1099511627776) (k:∀ (a1:Option Addr) S',Ext [] S0 S'→(Sl S' 2 a1 (zV es))→(Org S0 none a1)→K (.agg #[.slice a1 es.length es.length]) S') :
  zC 154 #[.agg #[.slice a es.length cap]] S0 K:=by
 refine zGh (sf:=s154) Tryz.func154 fun H=>zR (zBx H O O fun b1 S hb1 hE H=>zAl H O fun b2 S hb2 hE H=>v4 (vZ O (zL1 H O .h1 O (vK O (ct212 (hs.mono H.qx) hcp (by omega) fun a5 c5 S hE hs5 hc5 ho5=>?_)))))
 have hs5_b2:=ho5.ne nofun (H.get .h)
 replace ho5:=ho5.back H.qx
 replace H:=H.call hE
 refine vK O (ct158 hc5 fun S hE =>?_)
 replace H:=H.call hE
 replace hs5:=hs5.mono hE
 refine za (vv (cs:=[_]) O O (zSs H O O O .h O fun S hE H=>?_))
 replace hs5:=hs5.qy hE hs5_b2
 refine zN (zi (⟨trivial,_,(zW (ws:=[_]) H O .h O zM),?_⟩))
 exact k _ _ H.qx hs5 ho5
theorem Org.any {S:St} {a1:Option Addr} (h:Org S none a1):Org S a a1:=by
 rcases h with rfl | h
 ·exact .inr nofun
 ·exact .inr h
theorem ct68 {e:End} (hs:Sl S0 2 a (zV es)) (hcp:es.length≤cap) (hl:es.length≤6) (k:∀ (a1:Option Addr) (cap1:Nat) S',Ext [] S0 S'→(Sl S' 2 a1 (zV (putE es e)))→((putE es e).length≤cap1)→(Org S0 a a1)→K (.tuple #[.agg #[.slice a1 (putE es e).length cap1],int (putP es e)]) S') :
  zC 68 #[.agg #[.slice a es.length cap],e.v] S0 K:=by
 refine zGh (sf:=s68) Tryz.func68 fun H=>zR (zBx H O O fun b2 S hb2 hE H=>zBx H O O fun b3 S hb3 hE H=>zAl H O fun b4 S hb4 hE H=>zt O (v4 (zLn (vs:=[_]) H O .h2 O (vK O (ct154 (hs.mono H.qx) hcp (by omega) fun a9 S hE hs9 ho9=>?_)))))
 have hs9_b4:=ho9.ne nofun (H.get .h)
 replace ho9:=ho9.back H.qx
 replace H:=H.call hE
 refine zAl H O fun b6 S hb6 hE H=>?_
 have hs9_b6:=hs9.ne hb6
 replace hs9:=hs9.mono hE
 refine zSs H O O O .h O fun S hE H=>?_
 replace hs9:=hs9.qy hE hs9_b6
 refine zN (zSS (zLn (vs:=[_]) H O .h3 O (zLn (vs:=[_,_]) H O .h2 O (vK O (ct16 (hs.mono H.qx) hcp (by omega) fun S hE =>?_)))))
 replace H:=H.call hE
 replace hs9:=hs9.mono hE
 refine zt O (v4 (zt O (za (W_neI O O fun t14 h14=>zt O ?_))))
 rcases t14 with _|_
 ·replace h14:=bF h14
  have hm:e∉es:=fun hm=>by unfold portE at h14;rw [if_pos hm] at h14;omega
  refine zh O (zD O (zh O (vr H O .h3 O (zh O (W_lenL O (zh O (W_geq O O fun t19 h19=>vw O O O O (zN ?_))))))))
  rcases t19 with _|_
  ·replace h19:=bF h19
   refine zr O (zv (ze (zR (vZ O (zL1 H O .h O (zLn (vs:=[_,_]) H O .h2 O (za (zS (cs:=[_,_]) H O O fun b26 S hb26 hE H=>?_))))))))
   replace hs9:=hs9.mono hE
   refine za (W_appendNew (old:=(zV es).flatten) H O O (by omega) (Src.sl hs9 vJ (by simp)).2 (endRows_flat_len es) (Src.own H .h O) O (by decide) (by omega) O fun b27 cap27 cs27 S hb27 H hE hn27 hcl27 hct27=>vK O (ct158 (by omega) fun S hE =>?_))
   replace H:=H.call hE
   refine vZ O (zSs H O O O .h2 O fun S hE H=>zN (zJ (zY [b4] (ve 0 O O (fun S' hS'=>zA fun K hK=>zO O (zF (hS' O) (nin1 (by rintro rfl;exact absurd H.nodup (by simp))) (H.cells (vs:=[_]) .h2 O)) hK) (zLf 1 O O O (ve 2 O O (fun S' hS'=>zA fun K hK=>zE O (zB (hS' O) (nin1 (by rintro rfl;exact absurd H.nodup (by simp))) (H.cell .h5 O)) hK) (vF 3 O O (fun _ _ hK=>W_lenL O hK) (vF 4 O O (fun _ _ hK=>W_add O O (by omega) (by omega) hK) (zy 5 (by kernel_rfl) O O (zn (zSt H O O O .h3 O fun S hE H=>⟨fun _=>hE.ext,vC 6 O O O (zT (ze (zi (⟨trivial,_,(zW (ws:=[_]) H O .h3 O (z0 O zM)),?_⟩))))⟩)))))))))))
   obtain ⟨p1,p2⟩:=putE_new hm (show ¬ 6≤es.length by omega)
   rw [p1,p2] at k
   rw [show (es.length+1)=(es++[e]).length by simp]
   exact k _ _ _ H.qx (vc (H.get .h) rfl (by simpa [zV] using hct27) vJ) (Nat.le_refl _) (.new (H.new1 .h))
  ·replace h19:=bT h19
   refine zj O (zR (zLn (vs:=[_]) H O .h O (zt O (zSs H O O O .h1 O fun S hE H=>?_))))
   replace hs9:=hs9.qy hE hs9_b4
   refine zt O (zN (zi (zw (⟨trivial,_,(zW (ws:=[_]) H O .h1 O (z0 O zM)),?_⟩))))
   (obtain ⟨p1,p2⟩:=putE_full hm (show 6≤es.length by omega);rw [p1,p2] at k;rw [show portE es e=0 by unfold portE;exact if_neg hm];exact k _ _ _ H.qx hs9 (Nat.le_refl _) ho9.any)
 ·replace h14:=bT h14
  have hm:e∈es:=Classical.byContradiction fun hn=>by unfold portE at h14;rw [if_neg hn] at h14;exact h14 rfl
  obtain ⟨p1,p2⟩:=putE_mem hm
  refine zL O (zL O (zL O (zL O (vw O O O O (zN (zj O (zR (zLn (vs:=[_]) H O .h O (zt O (zSs H O O O .h1 O fun S hE H=>?_))))))))))
  replace hs9:=hs9.qy hE hs9_b4
  refine zt O (zN (zi (zw (⟨trivial,_,(zW (ws:=[_]) H O .h1 O (z0 O zM)),?_⟩))))
  (rw [p1,p2] at k;exact k _ _ _ H.qx hs9 (Nat.le_refl _) ho9.any)
theorem ct203 (hG:Glob S0) (hs:Sl S0 2 a (zV es)) (hcp:es.length≤cap) (hl:es.length≤6) (hll:l.length≤18) (k:∀ (a1:Option Addr) (cap1:Nat) S',Ext [] S0 S'→(Sl S' 2 a1 (zV (vO es l).1))→((vO es l).1.length≤cap1)→(Org S0 a a1)→K (.tuple #[.agg #[.slice a1 (vO es l).1.length cap1],str (vO es l).2]) S') :
  zC 203 #[.agg #[.slice a es.length cap],str l] S0 K:=by
 refine zGh (sf:=s203) Tryz.func203 fun H=>?_
 have hq:=hs
 refine zR (zBx H O O fun b2 S hb2 hE H=>?_)
 replace hq:=hq.mono hE
 refine zAl H O fun b4 S hb4 hE H=>?_
 have hq_b4:=hq.ne hb4
 replace hq:=hq.mono hE
 refine zt O (v4 (zt O (vK O (ct211 (hG.mono H.qx) (by omega) fun t12 S hE h12=>?_))))
 replace H:=H.call hE
 replace hq:=hq.mono hE
 refine zt O (zEx O O (zEx O O (zAl H O fun b6 S hb6 hE H=>?_)))
 have hq_b6:=hq.ne hb6
 replace hq:=hq.mono hE
 refine zSs H O O O .h O fun S hE H=>?_
 replace hq:=hq.qy hE hq_b6
 refine zt O (zN (zSS (zt O (zNt O (zN ?_)))))
 rcases t12 with _|_
 ·replace h12:=bF h12
  refine zj O (zR (zLn (vs:=[_]) H O .h2 O (vK O (ct154 hq hcp (by omega) fun a18 S hE hs18 ho18=>?_))))
  have hs18_b4:=ho18.ne nofun (H.get .h1)
  replace ho18:=ho18.back H.qx
  replace H:=H.call hE
  refine zt O (zSs H O O O .h1 O fun S hE H=>?_)
  replace hs18:=hs18.qy hE hs18_b4
  refine zt O (zN (zi (zw (⟨trivial,_,(zW (ws:=[_]) H O .h1 O (z0 O zM)),?_⟩))))
  (rw [lineOut_none (by rcases hs0:says l with _ | x;rfl;exact absurd ⟨x,hs0⟩ h12)] at k;exact k _ _ _ H.qx hs18 (Nat.le_refl _) ho18.any)
 ·replace h12:=bT h12
  obtain ⟨x12,hx12⟩:=h12
  have hgd:(says l).getD ⟨0,0⟩=x12:=by rw [hx12];rfl
  simp only [hgd] at *
  refine zr O (zv (ze (zR (zLn (vs:=[_]) H O .h2 O (zLn (vs:=[_,_]) H O .h O (vK O (ct68 hq hcp (by omega) fun a23 cap23 S hE hs23 hc23 ho23=>?_)))))))
  have hs23_b4:=ho23.ne hq_b4 (H.get .h1)
  replace ho23:=ho23.back H.qx
  replace H:=H.call hE
  refine zt O (zEx O O (zEx O O (zAl H O fun b8 S hb8 hE H=>?_)))
  have hs23_b8:=hs23.ne hb8
  replace hs23:=hs23.mono hE
  refine zSs H O O O .h O fun S hE H=>?_
  replace hs23:=hs23.qy hE hs23_b8
  refine zt O (zN (zSS (zt O (za (vW O O fun t27 h27=>zN ?_)))))
  rcases t27 with _|_
  ·replace h27:=bF h27
   refine zr O (zv (ze (zJ (zY [b4] (ve 0 O O (fun S' hS'=>zA fun K hK=>zO O (zF (hS' O) (nin1 (by rintro rfl;exact absurd H.nodup (by simp))) (H.cells (vs:=[_]) .h O)) hK) (vC 1 O O O (vF 2 O O (fun _ _ hK=>vv (cs:=[_,_]) O O hK) (zy 3 (by kernel_rfl) O O (zn (zP O (ct184 (e:=⟨50,putP es x12⟩) (hG.mono H.qx) fun S hE =>?_)))))))))))
   replace H:=H.call hE
   replace hs23:=hs23.mono hE
   refine ⟨fun _=>hE.up.ext,zy 4 (by kernel_rfl) O O (zn (zSt H O O O .h2 O fun S hE H=>?_))⟩
   replace hs23:=hs23.qy hE hs23_b4
   refine zLd (vC 5 O O O (zT (ze (zi (⟨trivial,_,(zW (ws:=[_]) H O .h2 O (z0 O zM)),?_⟩)))))
   (rw [lineOut_port hx12 h27] at k;exact k _ _ _ H.qx hs23 hc23 ho23)
  ·replace h27:=bT h27
   refine zj O (zR (zLn (vs:=[_]) H O .h O (zSs H O O O .h2 O fun S hE H=>?_)))
   replace hs23:=hs23.qy hE hs23_b4
   refine zt O (zN (zi (zw (⟨trivial,_,(zW (ws:=[_]) H O .h2 O (z0 O zM)),?_⟩))))
   (rw [lineOut_full hx12 h27] at k;exact k _ _ _ H.qx hs23 hc23 ho23)
theorem ct98 (hG:Glob S0) (hs:Sl S0 2 a (zV es)) (hcp:es.length≤cap) (hl:es.length≤1099511627776) (hll:l.length≤18) (k:∀  S',Ext [] S0 S'→K (str (lineIn es l)) S') :
  zC 98 #[.agg #[.slice a es.length cap],str l] S0 K:=by
 refine zGh (sf:=s98) Tryz.func98 fun H=>zR (zBx H O O fun b2 S hb2 hE H=>zt O (zN (zSS (zt O (vK O (ct183 (hG.mono H.qx) (by omega) fun t11 S hE h11=>?_))))))
 replace H:=H.call hE
 refine zt O (zEx O O (zEx O O (zt O (zt O (v4 (zt O (zN ?_)))))))
 rcases t11 with _|_
 ·replace h11:=bF h11
  refine zr O (zv (ze (zR (zt O (zt O (zN (zi (z9 O ?_))))))))
  (rw [lineIn_none (by rcases hs0:boxP l with _ | x;rfl;exact absurd ⟨x,hs0⟩ h11)] at k;exact k _ H.qx)
 ·replace h11:=bT h11
  obtain ⟨x11,hx11⟩:=h11
  have hgd:(boxP l).getD 0=x11:=by rw [hx11];rfl
  simp only [hgd] at *
  refine zj O (zR (zLn (vs:=[_]) H O .h O (zt O (vK O (ct25 (hs.mono H.qx) hcp (by omega) fun e18 t18 S hE hy18 hn18=>?_)))))
  replace H:=H.call hE
  have h18:t18=true↔t18=true:=Iff.rfl
  refine zt O (zEx O O (zEx O O (zAl H O fun b7 S hb7 hE H=>zSs H O O O .h O fun S hE H=>zt O (v4 (zt O (zN ?_))))))
  rcases t18 with _|_
  ·replace h18:=bF h18
   refine zr O (zv (ze (zR (zt O (zt O (zN (zi (z9 O ?_))))))))
   (rw [lineIn_no hx11 (hn18 rfl).1] at k;exact k _ H.qx)
  ·replace h18:=bT h18
   refine zj O (zR (zLn (vs:=[_,_]) H O .h O (vK O (ct184 (hG.mono H.qx) fun S hE =>?_))))
   replace H:=H.call hE
   refine zt O (zN (zi (zw (z9 O ?_))))
   (rw [lineIn_yes hx11 (hy18 rfl)] at k;exact k _ H.qx)
end
section
variable {S0:St} {K:Value→St→Prop}
variable {l:Bs} {cs:List Value} {b bb cap:Nat} {v:Value}
theorem ct223 (ho:S0 b=some ⟨Cs [.pointer none,v] 213,true⟩) (k:∀ S',Ext [b] S0 S'→S' b=some ⟨Cs [vN b 0,v] 213,true⟩→K (.tuple #[]) S') :
  zC 223 #[vN b 0] S0 K:=by
 refine zGo (sf:=s223) Tryz.func223 ?_
 have H:=Loc.start1 ho
 refine zR (zt O (za (vj O (vZ O (zL1 H O .h O (za (W_ptrNil Tryz.underlying211 O (zN (zj O (zU (zt O (zt O (za (W_toUnsafe_ tryzPT O (H.get .h) O (za (W_noEscape_ tryzPT O (za (W_fromUnsafe_ tryzPT O (H.get .h) O (za (vj O (vZ O (zSs H O O O .h O fun S hE H=>vl (⟨trivial,_,zM,?_⟩)))))))))))))))))))))))
 exact k _ H.qx (H.get .h)
theorem ct223b (ho:S0 b=some ⟨Cs [vN b 0,v] 213,true⟩) (k:∀  S',Ext [] S0 S'→K (.tuple #[]) S') :
  zC 223 #[vN b 0] S0 K:=by
 refine zGh (sf:=s223) Tryz.func223 fun H=>zR (zt O (za (vj O (vZ O (za (zE O (cell_of (H.qx.get ho) O) (za (W_ptrNil Tryz.underlying211 O (zN (zr O (zR (zt O (za (vj O (vZ O (za (zE O (cell_of (H.qx.get ho) O) (zt O (za (W_ptrEqB O O (zN (zr O (zv (⟨trivial,_,zM,?_⟩))))))))))))))))))))))))
 exact k _ H.qx
theorem ct204 (ho:S0 b=some ⟨Cs [.pointer none,.slice none 0 0] 213,true⟩) (hl0:0<l.length) (hl:l.length≤1099511627776) (k:∀ (bb' cap':Nat) (cs':List Value) S',Ext [b] S0 S'→S0 bb'=none→S' b=some ⟨Cs [vN b 0,sl bb' 0 l.length cap'] 213,true⟩→S' bb'=some ⟨Cs cs' 5,true⟩→cs'.length=cap'*1→l.length≤cap'→cs'.take (l.length*1)=l.map byt→K (.tuple #[int l.length,.nilIface]) S') :
  zC 204 #[vN b 0,str l] S0 K:=by
 refine zGo (sf:=s204) Tryz.func204 ?_
 have H:=Loc.start1 ho
 refine zR (zt O (zt O (v4 (zt O (vK O (ct223 (H.get .h) fun S hE ho7=>?_))))))
 replace H:=H.callX hE .h ho7
 refine v4 (zt O (zt O (za (vj O (vZ O (zL1 H O .h O (zt O (za (W_appendNew (old:=[]) (n:=0) (cap:=0) H O O (by omega) O O Src.str (by simp) (by decide) (by omega) O fun b14 cap14 cs14 S hb14 H hE hn14 hcl14 hct14=>?_)))))))))
 rw [Nat.zero_add] at hn14 hct14
 rw [List.nil_append] at hct14
 refine za (vj O (vZ O (zSs H O O O .h1 O fun S hE H=>v4 (zt O (za (vI O (zt O (zt O (zN (zi (⟨trivial,_,(z0 O (z0 O zM)),k _ _ _ _ H.qx ((H.fresh _ _ (Has.mem .h)).resolve_right (by intro hm;obtain rfl:=List.mem_singleton.1 hm;exact absurd H.nodup (by simp))) ?_ (H.get .h) hcl14 hn14 hct14⟩)))))))))))
 have hg:=H.get .h1
 rw [show 0+l.length=l.length by omega] at hg
 exact hg
theorem ct204b {n:Nat} (ho:S0 b=some ⟨Cs [vN b 0,sl bb 0 n cap] 213,true⟩) (hob:S0 bb=some ⟨Cs cs 5,true⟩) (hne:b≠bb) (hcl:cs.length=cap*1) (hn:n≤cap) (hl:n+l.length≤1099511627776) (k:∀ (bb' cap':Nat) (cs':List Value) S',Ext [b,bb] S0 S'→(bb'=bb∨S0 bb'=none)→S' b=some ⟨Cs [vN b 0,sl bb' 0 (n+l.length) cap'] 213,true⟩→S' bb'=some ⟨Cs cs' 5,true⟩→cs'.length=cap'*1→(n+l.length)≤cap'→cs'.take ((n+l.length)*1)=cs.take (n*1)++l.map byt→K (.tuple #[int l.length,.nilIface]) S') :
  zC 204 #[vN b 0,str l] S0 K:=by
 refine zGo (sf:=s204) Tryz.func204 ?_
 have H:=Loc.start2 ho hob hne
 refine zR (zt O (zt O (v4 (zt O (vK O (ct223b (H.get .h) fun S hE =>?_))))))
 replace H:=H.call hE
 refine v4 (zt O (zt O (za (vj O (vZ O (zL1 H O .h O (zt O (za (W_append H O O .h1 hcl hn Src.str (by simp [vY]) (by simp) (by decide) (by omega) O fun b14 cap14 cs14 S hb14 H hE hn14 hcl14 hct14=>za (vj O (vZ O (zSs H O O O .h1 O fun S hE H=>v4 (zt O (za (vI O (zt O (zt O (zN (zi (⟨trivial,_,(z0 O (z0 O zM)),k _ _ _ _ H.qx ?_ (H.get .h1) (H.get .h) hcl14 hn14 hct14⟩))))))))))))))))))))
 exact ((H.fresh _ _ (Has.mem .h)).symm.imp_left (by
  intro hm
  rcases List.mem_cons.1 hm with e | hm
  ·exact absurd H.nodup (by subst e;simp)
  ·simpa using hm))
theorem ct205 (ho:S0 b=some ⟨Cs [.pointer none,.slice none 0 0] 213,true⟩) (k:∀  S',Ext [] S0 S'→K (str []) S') :
  zC 205 #[vN b 0] S0 K:=by
 refine zGh (sf:=s205) Tryz.func205 fun H=>zR (zt O (zN (zJ (zY [] (vC 0 O O O (vF 1 O O (fun _ _ hK=>vj O hK) (zLf 2 O O O (ve 3 O O (fun S' hS'=>zA fun K hK=>zE O (zB (hS' O) (by simp) (cell_of (H.qx.get ho) O)) hK) (vC 5 O O O (vF 6 O O (fun _ _ hK=>vj O hK) (zLf 7 O O O (ve 8 O O (fun S' hS'=>zA fun K hK=>zE O (zB (hS' O) (by simp) (cell_of (H.qx.get ho) O)) hK) (vF 9 O O (fun _ _ hK=>W_lenL O hK) (zy 4 (by kernel_rfl) O O (zn (W_sliceData0 O (⟨fun _=>fun _ _ _ h=>h,zy 10 (by kernel_rfl) O O (zn (W_unsafeStr0 O O (⟨fun _=>fun _ _ _ h=>h,vC 11 O O O (zT (ze (zi (z9 O ?_))))⟩)))⟩)))))))))))))))))
 exact k _ H.qx
theorem ct205b (ho:S0 b=some ⟨Cs [vN b 0,sl bb 0 l.length cap] 213,true⟩) (hob:S0 bb=some ⟨Cs cs 5,true⟩) (hne:b≠bb) (hc0:cap≠0) (hl0:0<l.length) (hl:l.length≤1099527356416) (hct:cs.take l.length=l.map byt) (k:∀ S',Ext [bb] S0 S'→S' b=some ⟨Cs [vN b 0,sl bb 0 l.length cap] 213,true⟩→K (str l) S') :
  zC 205 #[vN b 0] S0 K:=by
 refine zGo (sf:=s205) Tryz.func205 ?_
 have H:=Loc.start1 hob
 have hob2:=ho
 refine zR (zt O (zN (zJ (zY [bb] (vC 0 O O O (vF 1 O O (fun _ _ hK=>vj O hK) (zLf 2 O O O (ve 3 O O (fun S' hS'=>zA fun K hK=>zE O (zB (hS' O) (nin1 hne) (cell_of ho O)) hK) (vC 5 O O O (vF 6 O O (fun _ _ hK=>vj O hK) (zLf 7 O O O (ve 8 O O (fun S' hS'=>zA fun K hK=>zE O (zB (hS' O) (nin1 hne) (cell_of ho O)) hK) (vF 9 O O (fun _ _ hK=>W_lenL O hK) (zy 4 (by kernel_rfl) O O (zn (W_sliceData O hc0 (⟨fun _=>fun _ _ _ h=>h,zy 10 (by kernel_rfl) O O (zn (W_unsafeStr_ tryzPT H O O hl0 hl hct .h fun S hE H=>zLd (vC 11 O O O (zT (ze (zi (z9 O ?_)))))))⟩)))))))))))))))))
 exact k _ H.qx (H.qx.ext _ _ (nin1 hne) ho)
theorem ct131 {a:Option Addr} {es:List End} (hG:Glob S0) (hs:Sl S0 2 a (zV es)) (hcp:es.length≤cap) (hl:es.length≤6) (hll:l.length≤1048576) (hsh:∀ x∈(zu l).1,x.length≤18) (k:∀ (a1:Option Addr) (cap1:Nat) S',Ext [] S0 S'→(Sl S' 2 a1 (zV (vt es l).1))→((vt es l).1.length≤cap1)→(Org S0 a a1)→((vt es l).2.length≤1099527356416)→K (.tuple #[.agg #[.slice a1 (vt es l).1.length cap1],str (vt es l).2]) S') :
  zC 131 #[.agg #[.slice a es.length cap],str l] S0 K:=by
 refine calls1_x (sf:=s131) Tryz.func131 (by kernel_rfl) (of_decide_eq_true O) ?_
 show wpX Tryz.prog c131 (Env.of [.agg #[.slice a es.length cap],str l]) S0 [] _
 have H:=Loc.start [] S0
 refine wpX_seq (wpX_slim (zU (zBx H O O fun b2 S hb2 hE H=>zAl H O fun b4 S hb4 hE H=>zt O (vl (thnX_norm (wpX_seq (wpX_slim (zU (zLn (vs:=[_]) H O .h1 O (vK O (ct154 (hs.mono H.qx) hcp (by omega) fun a12 S hE hs12 ho12=>?_)))))))))))
 have hs12_b4:=ho12.ne nofun (H.get .h)
 have hs12_b2:=ho12.ne nofun (H.get .h1)
 replace ho12:=ho12.back H.qx
 replace H:=H.call hE
 have hnl:(zu l).1.length≤l.length:=strLines_len l
 refine zAl H O fun b6 S hb6 hE H=>?_
 have hs12_b6:=hs12.ne hb6
 replace hs12:=hs12.mono hE
 refine zSs H O O O .h O fun S hE H=>?_
 replace hs12:=hs12.qy hE hs12_b6
 refine vl (thnX_norm (wpX_seq (wpX_slim (zU (zAl H O fun b7 S hb7 hE H=>?_)))))
 have hs12_b7:=hs12.ne hb7
 replace hs12:=hs12.mono hE
 refine vl (thnX_norm (wpX_seq (wpX_seq (wpX_slim (zU (zt O (vK O (ct96  fun b14 S hE hb14 ho14=>?_))))))))
 have hs12_b14:=hs12.ne hb14
 replace H:=H.adopt hE hb14 ho14
 replace hs12:=hs12.mono hE
 refine vl (thnX_norm (wpX_block (wpX_range O Tryz.func179 O O fun d14 l14 lr14 hd14 hl14 hro14=>?_)))
 have hs12_d14:=hs12.ne hd14
 replace hs12:=hs12.mono (Ext.put_new hd14 (.deferred (some [])))
 have hs12_l14:=hs12.ne hl14
 replace hs12:=hs12.mono (Ext.put_new hl14 (lp lr14 .ready none))
 replace H:=(H.alloc hd14 (.deferred (some []))).alloc hl14 (lp lr14 .ready none)
 refine ct179 (l:=l14) (b:=b14) (s:=l) (J:=fun r_ S=>(∃ (ls:List Bs) (a1:Option Addr) (cap1:Nat) (es1:List End) (tx:Bs),Loc [] S0 S [(b7,Cs [.pointer none,.slice none 0 0] 213),(b6,Cs [.slice a1 es1.length cap1] 26),(b4,Cs [.slice none 0 0] 26),(b2,Cs [.slice a es.length cap] 26),(l14,lp lr14 .ready none),(d14,.deferred (some [])),(b14,Cs [str r_] 9)]∧(zu l=(ls++(zu r_).1,(zu r_).2))∧(r_.length+ls.length≤l.length)∧(linesOut es ls=(es1,tx))∧(Sl S 2 a1 (zV es1))∧(es1.length≤cap1)∧(Org S0 a a1)∧(es1.length≤6)∧(tx.length≤ls.length*40)∧(tx=[])∧(∀ b off,a1=some ⟨b,off,none⟩→b≠b7)∧(∀ b off,a1=some ⟨b,off,none⟩→b≠b6)∧(∀ b off,a1=some ⟨b,off,none⟩→b≠b4)∧(∀ b off,a1=some ⟨b,off,none⟩→b≠b2)∧(∀ b off,a1=some ⟨b,off,none⟩→b≠l14)∧(∀ b off,a1=some ⟨b,off,none⟩→b≠d14)∧(∀ b off,a1=some ⟨b,off,none⟩→b≠b14))∨(∃ (ls:List Bs) (a1:Option Addr) (cap1:Nat) (es1:List End) (tx:Bs) (bb:Nat) (capb:Nat) (csb:List Value),Loc [] S0 S [(b7,Cs [vN b7 0,sl bb 0 tx.length capb] 213),(bb,Cs csb 5),(b6,Cs [.slice a1 es1.length cap1] 26),(b4,Cs [.slice none 0 0] 26),(b2,Cs [.slice a es.length cap] 26),(l14,lp lr14 .ready none),(d14,.deferred (some [])),(b14,Cs [str r_] 9)]∧(zu l=(ls++(zu r_).1,(zu r_).2))∧(r_.length+ls.length≤l.length)∧(linesOut es ls=(es1,tx))∧(Sl S 2 a1 (zV es1))∧(es1.length≤cap1)∧(Org S0 a a1)∧(es1.length≤6)∧(tx.length≤ls.length*40)∧(tx.length≤capb)∧(csb.length=capb*1)∧(csb.take (tx.length*1)=tx.map byt)∧(0<tx.length)∧(∀ b off,a1=some ⟨b,off,none⟩→b≠b7)∧(∀ b off,a1=some ⟨b,off,none⟩→b≠b6)∧(∀ b off,a1=some ⟨b,off,none⟩→b≠b4)∧(∀ b off,a1=some ⟨b,off,none⟩→b≠b2)∧(∀ b off,a1=some ⟨b,off,none⟩→b≠l14)∧(∀ b off,a1=some ⟨b,off,none⟩→b≠d14)∧(∀ b off,a1=some ⟨b,off,none⟩→b≠b14)∧(∀ b off,a1=some ⟨b,off,none⟩→b≠bb))) ?_ ?_ ?_ ?_ ?_ ?_
 ·rintro r_ S (⟨ls,a1,cap1,es1,tx,H,hs,hrl,hlo,hq,hcp1,ho1,hl1,htl,htx,hq_b7,hq_b6,hq_b4,hq_b2,hq_l14,hq_d14,hq_b14⟩ | ⟨ls,a1,cap1,es1,tx,bb,capb,csb,H,hs,hrl,hlo,hq,hcp1,ho1,hl1,htl,hbn,hbc,hbt,htx,hq_b7,hq_b6,hq_b4,hq_b2,hq_l14,hq_d14,hq_b14,hq_bb⟩)
  ·skip
   exact H.get .h6
  ·skip
   exact H.get .h7
 ·rintro r_ S (⟨ls,a1,cap1,es1,tx,H,hs,hrl,hlo,hq,hcp1,ho1,hl1,htl,htx,hq_b7,hq_b6,hq_b4,hq_b2,hq_l14,hq_d14,hq_b14⟩ | ⟨ls,a1,cap1,es1,tx,bb,capb,csb,H,hs,hrl,hlo,hq,hcp1,ho1,hl1,htl,hbn,hbc,hbt,htx,hq_b7,hq_b6,hq_b4,hq_b2,hq_l14,hq_d14,hq_b14,hq_bb⟩)
  ·skip
   omega
  ·skip
   omega
 ·rintro r_ S S2 (⟨ls,a1,cap1,es1,tx,H,hs,hrl,hlo,hq,hcp1,ho1,hl1,htl,htx,hq_b7,hq_b6,hq_b4,hq_b2,hq_l14,hq_d14,hq_b14⟩ | ⟨ls,a1,cap1,es1,tx,bb,capb,csb,H,hs,hrl,hlo,hq,hcp1,ho1,hl1,htl,hbn,hbc,hbt,htx,hq_b7,hq_b6,hq_b4,hq_b2,hq_l14,hq_d14,hq_b14,hq_bb⟩) hE
  ·skip
   exact .inl ⟨ls,a1,cap1,es1,tx,H.call hE,hs,hrl,hlo,(hq.mono hE),hcp1,ho1,hl1,htl,htx,hq_b7,hq_b6,hq_b4,hq_b2,hq_l14,hq_d14,hq_b14⟩
  ·skip
   exact .inr ⟨ls,a1,cap1,es1,tx,bb,capb,csb,H.call hE,hs,hrl,hlo,(hq.mono hE),hcp1,ho1,hl1,htl,hbn,hbc,hbt,htx,hq_b7,hq_b6,hq_b4,hq_b2,hq_l14,hq_d14,hq_b14,hq_bb⟩
 ·rintro r_ x_ r2_ S (⟨ls,a1,cap1,es1,tx,H,hs,hrl,hlo,hq,hcp1,ho1,hl1,htl,htx,hq_b7,hq_b6,hq_b4,hq_b2,hq_l14,hq_d14,hq_b14⟩ | ⟨ls,a1,cap1,es1,tx,bb,capb,csb,H,hs,hrl,hlo,hq,hcp1,ho1,hl1,htl,hbn,hbc,hbt,htx,hq_b7,hq_b6,hq_b4,hq_b2,hq_l14,hq_d14,hq_b14,hq_bb⟩) hrx hx59
  ·skip
   have hln:=congrArg List.length hrx
   simp only [List.length_append,List.length_cons] at hln
   have hxs:x_.length≤18:=hsh _ (by rw [hs];simp only;rw [hrx];simp only [zu];rw [spl_cons hx59];simp)
   have hno:=linesOut_snoc es ls x_
   rw [hlo] at hno
   have hol:=lineOut_snd_len es1 x_
   refine hro14.h [str x_] S _ O ?_ (H.get .h4)
   refine zU (zt O (vl (⟨O,H.get .h4,?_⟩)))
   obtain ⟨hE,H⟩:=H.putE (b:=l14) (o':=lp lr14 .busy none) .h4
   replace hq:=hq.qy hE hq_l14
   refine zK (zR (zLn (vs:=[_]) H O .h1 O (zt O (vK O (ct203 (hG.mono H.qx) hq hcp1 hl1 (by omega) fun a19 cap19 S hE hs19 hc19 ho19=>?_)))))
   have hs19_b4:=ho19.ne hq_b4 (H.get .h2)
   have hs19_b14:=ho19.ne hq_b14 (H.get .h6)
   have hs19_l14:=ho19.ne hq_l14 (H.get .h4)
   have hs19_d14:=ho19.ne hq_d14 (H.get .h5)
   have hs19_b2:=ho19.ne hq_b2 (H.get .h3)
   have hs19_b6:=ho19.ne hq_b6 (H.get .h1)
   have hs19_b7:=ho19.ne hq_b7 (H.get .h)
   replace ho19:=ho1.trans (ho19.back H.qx)
   replace H:=H.call hE
   refine zt O (zEx O O (zEx O O (zAl H O fun b9 S hb9 hE H=>?_)))
   have hs19_b9:=hs19.ne hb9
   replace hs19:=hs19.mono hE
   refine zSs H O O O .h O fun S hE H=>?_
   replace hs19:=hs19.qy hE hs19_b9
   refine zt O (v4 (zLn (vs:=[_]) H O .h O (zSs H O O O .h2 O fun S hE H=>?_)))
   replace hs19:=hs19.qy hE hs19_b6
   refine zN (zU (zt O (za (W_catS O O (by have:=lineOut_snd_len es1 x_;simp;omega) (vK O (ct204 (H.get .h1) (by simp) (by simp;omega) fun b25 cap25 cs25 S hE hb25 ho25 hob25 hbc25 hbn25 hbt25=>?_))))))
   have hs19_b25:=hs19.ne hb25
   replace hs19:=hs19.qy hE hs19_b7
   replace H:=H.callXnew hE .h1 ho25 hb25 hob25
   refine vl (z_ (⟨H.get .h6,?_⟩))
   obtain ⟨hE,H⟩:=H.putE (b:=l14) (o':=lp lr14 .ready none) .h6
   replace hs19:=hs19.qy hE hs19_l14
   refine .inl ⟨O,H.get .h8,fun S hE ho=>?_⟩
   replace H:=H.callX hE .h8 ho
   replace hs19:=hs19.qy hE hs19_b14
   skip
   replace H:=H.front .h8
   replace H:=H.front .h8
   replace H:=H.front .h8
   replace H:=H.front .h8
   replace H:=H.front .h8
   replace H:=H.front .h8
   replace H:=H.front .h6
   replace H:=H.front .h8
   refine .inr ⟨(ls++[x_]),_,_,_,((vO es1 x_).2++[59]),b25,cap25,cs25,(H.takeL 8),(lines_next hs hrx hx59),(by simp only [List.length_append,List.length_cons,List.length_nil];omega),(by rw [hno,htx];simp),hs19,hc19,ho19,(lineOut_len6 x_ hl1),(by simp only [List.length_append,List.length_cons,List.length_nil];omega),hbn25,hbc25,hbt25,(by simp),hs19_b7,hs19_b6,hs19_b4,hs19_b2,hs19_l14,hs19_d14,hs19_b14,hs19_b25⟩
  ·skip
   have hln:=congrArg List.length hrx
   simp only [List.length_append,List.length_cons] at hln
   have hxs:x_.length≤18:=hsh _ (by rw [hs];simp only;rw [hrx];simp only [zu];rw [spl_cons hx59];simp)
   have hno:=linesOut_snoc es ls x_
   rw [hlo] at hno
   have hol:=lineOut_snd_len es1 x_
   refine hro14.h [str x_] S _ O ?_ (H.get .h5)
   refine zU (zt O (vl (⟨O,H.get .h5,?_⟩)))
   obtain ⟨hE,H⟩:=H.putE (b:=l14) (o':=lp lr14 .busy none) .h5
   replace hq:=hq.qy hE hq_l14
   refine zK (zR (zLn (vs:=[_]) H O .h2 O (zt O (vK O (ct203 (hG.mono H.qx) hq hcp1 hl1 (by omega) fun a19 cap19 S hE hs19 hc19 ho19=>?_)))))
   have hs19_b4:=ho19.ne hq_b4 (H.get .h3)
   have hs19_b14:=ho19.ne hq_b14 (H.get .h7)
   have hs19_l14:=ho19.ne hq_l14 (H.get .h5)
   have hs19_d14:=ho19.ne hq_d14 (H.get .h6)
   have hs19_bb:=ho19.ne hq_bb (H.get .h1)
   have hs19_b2:=ho19.ne hq_b2 (H.get .h4)
   have hs19_b6:=ho19.ne hq_b6 (H.get .h2)
   have hs19_b7:=ho19.ne hq_b7 (H.get .h)
   replace ho19:=ho1.trans (ho19.back H.qx)
   replace H:=H.call hE
   refine zt O (zEx O O (zEx O O (zAl H O fun b9 S hb9 hE H=>?_)))
   have hs19_b9:=hs19.ne hb9
   replace hs19:=hs19.mono hE
   refine zSs H O O O .h O fun S hE H=>?_
   replace hs19:=hs19.qy hE hs19_b9
   refine zt O (v4 (zLn (vs:=[_]) H O .h O (zSs H O O O .h3 O fun S hE H=>?_)))
   replace hs19:=hs19.qy hE hs19_b6
   refine zN (zU (zt O (za (W_catS O O (by have:=lineOut_snd_len es1 x_;simp;omega) (vK O (ct204b (H.get .h1) (H.get .h2) (by rintro rfl;exact absurd H.nodup (by simp)) hbc hbn (by simp;omega) fun b25 cap25 cs25 S hE hb25 ho25 hob25 hbc25 hbn25 hbt25=>?_))))))
   have hs19_b25:=hs19.ne2 hs19_bb hb25
   replace hs19:=hs19.monoX2 hE hs19_b7 hs19_bb
   replace H:=H.callB hE .h1 .h2 (by rintro rfl;exact absurd H.nodup (by simp)) ho25 hb25 hob25
   refine vl (z_ (⟨H.get .h6,?_⟩))
   obtain ⟨hE,H⟩:=H.putE (b:=l14) (o':=lp lr14 .ready none) .h6
   replace hs19:=hs19.qy hE hs19_l14
   refine .inl ⟨O,H.get .h8,fun S hE ho=>?_⟩
   replace H:=H.callX hE .h8 ho
   replace hs19:=hs19.qy hE hs19_b14
   have e25:tx.length+((vO es1 x_).2++[59]).length=(tx++((vO es1 x_).2++[59])).length:=by simp
   rw [e25] at H
   replace H:=H.front .h8
   replace H:=H.front .h8
   replace H:=H.front .h8
   replace H:=H.front .h8
   replace H:=H.front .h8
   replace H:=H.front .h8
   replace H:=H.front .h6
   replace H:=H.front .h8
   refine .inr ⟨(ls++[x_]),_,_,_,(tx++((vO es1 x_).2++[59])),b25,cap25,cs25,(H.takeL 8),(lines_next hs hrx hx59),(by simp only [List.length_append,List.length_cons,List.length_nil];omega),(by rw [hno];simp),hs19,hc19,ho19,(lineOut_len6 x_ hl1),(by simp only [List.length_append,List.length_cons,List.length_nil];omega),?_,hbc25,?_,(by simp only [List.length_append,List.length_cons,List.length_nil];omega),hs19_b7,hs19_b6,hs19_b4,hs19_b2,hs19_l14,hs19_d14,hs19_b14,hs19_b25⟩
   ·have:=hbn25;simpa using this
   ·rw [List.length_append,hbt25,hbt,← List.map_append]
 ·rintro r_ S (⟨ls,a1,cap1,es1,tx,H,hs,hrl,hlo,hq,hcp1,ho1,hl1,htl,htx,hq_b7,hq_b6,hq_b4,hq_b2,hq_l14,hq_d14,hq_b14⟩ | ⟨ls,a1,cap1,es1,tx,bb,capb,csb,H,hs,hrl,hlo,hq,hcp1,ho1,hl1,htl,hbn,hbc,hbt,htx,hq_b7,hq_b6,hq_b4,hq_b2,hq_l14,hq_d14,hq_b14,hq_bb⟩) hz59
  ·skip
   refine .inl ⟨H.get .h4,?_⟩
   obtain ⟨hE,H⟩:=H.putE (b:=l14) (o':=lp lr14 .exhausted none) .h4
   replace hq:=hq.qy hE hq_l14
   have hse:=lines_end hs hz59
   have hst:vt es l=(es1,tx):=by unfold vt;rw [hse];exact hlo
   refine blkX_norm (thnX_norm (wpX_slim (zJ (zY [b4] (ve 0 O O (fun S' hS'=>zA fun K hK=>zO O (zF (hS' O) (nin1 (by rintro rfl;exact absurd H.nodup (by simp))) (H.cells (vs:=[_]) .h1 O)) hK) (zy 1 (by kernel_rfl) O O (zn (zP O (ct205 (H.get .h) fun S hE =>?_)))))))))
   replace H:=H.call hE
   replace hq:=hq.mono hE
   refine ⟨fun _=>hE.up.ext,zy 2 (by kernel_rfl) O O (zn (zSt H O O O .h2 O fun S hE H=>?_))⟩
   replace hq:=hq.qy hE hq_b4
   refine zLd (vC 3 O O O (zT (ze (zi (⟨trivial,H.get .h5,?_⟩)))))
   obtain ⟨hE,H⟩:=H.putE (b:=d14) (o':=.deferred none) .h5
   replace hq:=hq.qy hE hq_d14
   refine ⟨_,(zW (ws:=[_]) H O .h2 O (z0 O zM)),?_⟩
   rw [hst] at k
   try subst htx
   exact k _ _ _ H.qx hq hcp1 ho1 (by show List.length _≤_;first | omega | (simp only [List.length_nil];omega))
  ·skip
   refine .inl ⟨H.get .h5,?_⟩
   obtain ⟨hE,H⟩:=H.putE (b:=l14) (o':=lp lr14 .exhausted none) .h5
   replace hq:=hq.qy hE hq_l14
   have hse:=lines_end hs hz59
   have hst:vt es l=(es1,tx):=by unfold vt;rw [hse];exact hlo
   refine blkX_norm (thnX_norm (wpX_slim (zJ (zY [b4,bb] (ve 0 O O (fun S' hS'=>zA fun K hK=>zO O (zF (hS' O) (nin2 (by rintro rfl;exact absurd H.nodup (by simp)) (by rintro rfl;exact absurd H.nodup (by simp))) (H.cells (vs:=[_]) .h2 O)) hK) (zy 1 (by kernel_rfl) O O (zn (zP O (ct205b (l:=tx) (H.get .h) (H.get .h1) (by rintro rfl;exact absurd H.nodup (by simp)) (by omega) htx (by omega) (by simpa using hbt) fun S hE ho27=>?_)))))))))
   have hE27:=hE
   replace hq:=hq.qy hE hq_bb
   replace H:=H.callDrop hE .h1
   refine ⟨fun _=>(hE.mono (by simp)).ext,zy 2 (by kernel_rfl) O O (zn (zSt H O O O .h2 O fun S hE H=>?_))⟩
   replace hq:=hq.qy hE hq_b4
   refine zLd (vC 3 O O O (zT (ze (zi (⟨trivial,H.get .h5,?_⟩)))))
   obtain ⟨hE,H⟩:=H.putE (b:=d14) (o':=.deferred none) .h5
   replace hq:=hq.qy hE hq_d14
   refine ⟨_,(zW (ws:=[_]) H O .h2 O (z0 O zM)),?_⟩
   rw [hst] at k
   try subst htx
   exact k _ _ _ H.qx hq hcp1 ho1 (by show List.length _≤_;first | omega | (simp only [List.length_nil];omega))
 ·skip
  replace H:=H.front .h2
  replace H:=H.front .h2
  replace H:=H.front .h2
  replace H:=H.front .h6
  replace H:=H.front .h6
  replace H:=H.front .h6
  replace H:=H.front .h6
  exact .inl ⟨[],a12,es.length,es,[],H,(by simp),(by simp),rfl,hs12,(Nat.le_refl _),ho12.any,hl,(by simp),rfl,hs12_b7,hs12_b6,hs12_b4,hs12_b2,hs12_l14,hs12_d14,hs12_b14⟩
end
section
variable {S0:St} {K:Value→St→Prop}
variable {l:Bs} {e:End} {es:List End} {cap:Nat} {a:Option Addr}
theorem ct210 (hs:Sl S0 2 a (zV es)) (hcp:es.length≤cap) (hl:es.length≤1099511627776) (k:∀ (r:Int) S',Ext [] S0 S'→(0≤r↔e∈es)→K (int r) S') :
  zC 210 #[.slice a es.length cap,e.v] S0 K:=by
 refine zGh (sf:=s210) Tryz.func210 fun H=>zR (zBx H O O fun b3 S hb3 hE H=>zt O (zN (zSS (zt O (zLl O (zt O (zN (zK ?_))))))))
 refine vA (fun E S m_=>∃ (i:Nat),E=Env.lst [(0,.slice a es.length cap),(3,vN b3 0),(7,int es.length),(8,int i)]∧Loc [] S0 S [(b3,Cs e.row 31)]∧(i≤es.length)∧(e∉es.take i)∧m_=es.length-i) ?_ ?_
 ·skip
  refine ⟨_,_,?le,0,O,H,(by omega),(by simp),O⟩
  case le=>exact Env.qle ⟨O,O,O,O,⟨⟩⟩
 ·skip
  rintro _ S _ ⟨i,rfl,H,hi,hn,rfl⟩
  refine zR (za (vT O O fun t9 h9=>zN (zJ ?_)))
  rcases t9 with _|_
  ·replace h9:=bF h9
   refine zr O (vz (zZ (zZ (vH (ze (zR (zt O (zN (zi (z9 O ?_))))))))))
   rw [show i=es.length by omega,List.take_length] at hn
   exact k (-1) _ H.qx ⟨fun h=>by omega,fun h=>absurd h hn⟩
  ·replace h9:=bT h9
   obtain ⟨x,hx⟩:∃ x,es[i]? = some x:=⟨es[i]'(by omega),by simp⟩
   obtain ⟨b,off,rfl,hc⟩  :=hs.row i _ (endRows_at hx)
   refine zj O (zv (ze (zJ (zK (zR (zt O (zt O (zN (zJ (zY [] (ve 0 O O (fun S' hS'=>zA fun K hK=>zO O (zF (hS' O) (by simp) (H.cells (vs:=[_,_]) .h O)) hK) (vC 1 O O O (vC 2 O O O (vF 3 O O (fun _ _ hK=>vq O O (by omega) (by omega) hK) (ve 4 O O (fun S' hS'=>zA fun K hK=>zO (vs:=[_,_]) O (zF (hS' O) (by simp) (H.qx.cells hc)) hK) (zCm 5 O O (fun S' _=>zA fun K hK=>W_eqE O O hK) fun t16 h16=>zT (ze ?_)))))))))))))))))
   rcases t16 with _|_
   ·replace h16:=bF h16
    refine zr O (zv (z_ (ze (zU (zAd O O (zt O (zN ?_)))))))
    refine ⟨_,_,?lt,?le,(i+1),O,H,(by omega),(not_mem_take_succ hx hn (fun e1=>h16 (by rw [e1];exact ⟨rfl,rfl⟩))),O⟩
    case lt=>omega
    case le=>exact Env.qle ⟨O,O,O,O,⟨⟩⟩
   ·replace h16:=bT h16
    refine zj O (zR (zt O (zt O (zN (zi (vg (zw (zw (vg (zw (z9 O ?_)))))))))))
    exact k _ _ H.qx ⟨fun _=>by rw [show e=x from End.ext' h16];exact List.mem_of_getElem? hx,fun _=>by omega⟩
theorem ct145 (hs:Sl S0 2 a (zV es)) (hcp:es.length≤cap) (hl:es.length≤1099511627776) (k:∀ (t:Bool) S',Ext [] S0 S'→(t=true↔e∈es)→K (.bool t) S') :
  zC 145 #[.slice a es.length cap,e.v] S0 K:=by
 refine zGh (sf:=s145) Tryz.func145 fun H=>zR (zBx H O O fun b3 S hb3 hE H=>zt O (v4 (zt O (zLn (vs:=[_,_]) H O .h O (vK O (ct210 (hs.mono H.qx) hcp (by omega) fun r7 S hE h7=>?_))))))
 replace H:=H.call hE
 refine za (W_geq O O fun t8 h8=>zt O (zN (zi (z9 O ?_))))
 exact k _ _ H.qx (h8.trans h7)
theorem ct63 (hs:Sl S0 2 a (zV es)) (hcp:es.length≤cap) (hl:es.length≤1099511627776) (k:∀ (t:Bool) S',Ext [] S0 S'→(t=true↔TabP es)→K (.bool t) S') :
  zC 63 #[.agg #[.slice a es.length cap]] S0 K:=by
 refine zGh (sf:=s63) Tryz.func63 fun H=>zR (zBx H O O fun b1 S hb1 hE H=>zt O (zN (zSS (vZ O (zL1 H O .h O (zLl O (zt O (zN (zK ?_)))))))))
 refine vA (fun E S m_=>∃ (i:Nat),E=Env.lst [(1,vN b1 0),(6,.slice a es.length cap),(7,int es.length),(8,int i)]∧Loc [] S0 S [(b1,Cs [.slice a es.length cap] 26)]∧(i≤es.length)∧(∀ e∈es.take i,e.inn)∧((es.take i).Nodup)∧m_=es.length-i) ?_ ?_
 ·skip
  refine ⟨_,_,?le,0,O,H,(by omega),(by simp),(by simp),O⟩
  case le=>exact Env.qle ⟨O,O,O,O,⟨⟩⟩
 ·skip
  rintro _ S _ ⟨i,rfl,H,hi,hp,hnd,rfl⟩
  refine zR (za (vT O O fun t9 h9=>zN (zJ ?_)))
  rcases t9 with _|_
  ·replace h9:=bF h9
   refine zr O (vz (zZ (zZ (vH (ze (zR (vZ O (zL1 H O .h O (zLl O (za (W_leq O O fun t28 h28=>zt O (zN (zi (z9 O ?_))))))))))))))
   rw [show i=es.length by omega,List.take_length] at hp hnd
   exact k _ _ H.qx (h28.trans ⟨fun h=>TabP_of (by omega) hp hnd,fun h=>by have:=h.1;omega⟩)
  ·replace h9:=bT h9
   obtain ⟨x,hx⟩:∃ x,es[i]? = some x:=⟨es[i]'(by omega),by simp⟩
   obtain ⟨b,off,rfl,hc⟩  :=hs.row i _ (endRows_at hx)
   refine zj O (zv (ze (zJ (zK (zR (zt O (zIa O O (za (zO (vs:=[_,_]) O (H.qx.cells hc) (zAl H O fun b4 S hb4 hE H=>zt O (zSs H O O O .h O fun S hE H=>zN (zJ (zY [] (ve 0 O O (fun S' hS'=>zA fun K hK=>zO O (zF (hS' O) (by simp) (H.cells (vs:=[_,_]) .h O)) hK) (zy 1 (by kernel_rfl) O O (zn (zP O (ct67  fun t14 S hE h14=>?_))))))))))))))))))
   replace H:=H.call hE
   refine ⟨fun _=>hE.up.ext,vF 2 O O (fun _ _ hK=>W_not O hK) (vC 3 O O O ?_)⟩
   rcases t14 with _|_
   ·replace h14:=bF h14
    refine ve 4 O O (fun S' _=>vd O (by decide)) (ve 5 O O (fun S' _=>vd O (by decide)) (ve 6 O O (fun S' _=>vd O (by decide)) (ve 7 O O (fun S' _=>vd O (by decide)) (ve 8 O O (fun S' _=>vd O (by decide)) (zy 9 (by kernel_rfl) O O (step_no O (by decide) (⟨fun _=>fun _ _ _ h=>h,vF 10 O O (fun _ _ hK=>vM O O O O hK) (zT (ze (zj O (zR (zt O (zN (zi (vg (zw (zw (vg (zw (z9 O ?_)))))))))))))⟩)))))))
    exact k _ _ H.qx ⟨nofun,fun h=>absurd h (TabP_no1 hx h14)⟩
   ·replace h14:=bT h14
    refine ve 4 O O (fun S' _=>vi O fun K hK=>zD O hK) (ve 5 O O (fun S' hS'=>vi O fun K hK=>zE O (zB (hS' O) (by simp) (H.cell .h1 O)) hK) (ve 6 O O (fun S' _=>vi O fun K hK=>vP O hK) (ve 7 O O (fun S' _=>vi O fun K hK=>W_slTake (l:=es) O O (by omega) (by omega) hcp hK) (ve 8 O O (fun S' hS'=>vi O fun K hK=>zO O (zF (hS' O) (by simp) (H.cells (vs:=[_,_]) .h O)) hK) (zy 9 (by kernel_rfl) O O (step_yes O (zP O (ct145 (es:=es.take i) ((hs.mono H.qx).takeE i) (by simp;omega) (by simp;omega) fun t22 S hE h22=>?_))))))))
    replace H:=H.call hE
    refine zLd (vF 10 O O (fun _ _ hK=>vM O O O O hK) (zT (ze ?_)))
    rcases t22 with _|_
    ·replace h22:=bF h22
     refine zr O (zv (z_ (ze (zU (zAd O O (zt O (zN ?_)))))))
     refine ⟨_,_,?lt,?le,(i+1),O,(H.sub (.cons _ (.cons_cons _ .slnil))),(by omega),(mem_take_succ hx hp h14),(by
      rw [vU hx]
      exact List.nodup_append.2 ⟨hnd,by simp,fun a ha b hb=>by obtain rfl:=List.mem_singleton.1 hb;rintro rfl;exact h22 ha⟩),rfl⟩
     case lt=>omega
     case le=>exact Env.qle ⟨O,O,O,O,⟨⟩⟩
    ·replace h22:=bT h22
     refine zj O (zR (zt O (zN (zi (vg (zw (zw (vg (zw (z9 O ?_))))))))))
     exact k _ _ H.qx ⟨nofun,fun h=>by
      have hn:=h.2.2
      rw [← List.take_append_drop (i+1) es,vU hx] at hn
      have:=(List.nodup_append.1 (List.nodup_append.1 hn).1).2.2 x h22 x (by simp)
      exact (this rfl).elim⟩
theorem ct148 (hG:Glob S0) (hs:Sl S0 2 a (zV es)) (hcp:es.length≤cap) (hl:es.length≤1099511627776) (hll:l.length≤1048576) (hsh:∀ x∈(zu l).1,x.length≤18) (k:∀ (t:Bool) S',Ext [] S0 S'→(t=true↔knowsP es l)→K (.bool t) S') :
  zC 148 #[.agg #[.slice a es.length cap],str l] S0 K:=by
 refine calls1_x (sf:=s148) Tryz.func148 (by kernel_rfl) (of_decide_eq_true O) ?_
 show wpX Tryz.prog c148 (Env.of [.agg #[.slice a es.length cap],str l]) S0 [] _
 have H:=Loc.start [] S0
 have hq:=hs
 refine wpX_seq (wpX_slim (zU (zBx H O O fun b2 S hb2 hE H=>?_)))
 have hq_b2:=hq.ne hb2
 replace hq:=hq.mono hE
 refine zAl H O fun b4 S hb4 hE H=>?_
 have hq_b4:=hq.ne hb4
 replace hq:=hq.mono hE
 refine vl (thnX_norm (wpX_seq (wpX_seq (wpX_slim (zU (zt O (vK O (ct96  fun b9 S hE hb9 ho9=>?_))))))))
 have hq_b9:=hq.ne hb9
 replace H:=H.adopt hE hb9 ho9
 replace hq:=hq.mono hE
 refine vl (thnX_norm (wpX_block (wpX_range O Tryz.func179 O O fun d9 l9 lr9 hd9 hl9 hro9=>?_)))
 have hq_d9:=hq.ne hd9
 replace hq:=hq.mono (Ext.put_new hd9 (.deferred (some [])))
 have hq_l9:=hq.ne hl9
 replace hq:=hq.mono (Ext.put_new hl9 (lp lr9 .ready none))
 replace H:=(H.alloc hd9 (.deferred (some []))).alloc hl9 (lp lr9 .ready none)
 refine ct179 (l:=l9) (b:=b9) (s:=l) (J:=fun r_ S=>(∃ (ls:List Bs),Loc [] S0 S [(b4,Cs [.bool false] 4),(b2,Cs [.slice a es.length cap] 26),(l9,lp lr9 .ready none),(d9,.deferred (some [])),(b9,Cs [str r_] 9)]∧(zu l=(ls++(zu r_).1,(zu r_).2))∧(r_.length≤l.length)∧((linesOut es ls).1=es)∧(Sl S 2 a (zV es))∧(∀ b off,a=some ⟨b,off,none⟩→b≠b4)∧(∀ b off,a=some ⟨b,off,none⟩→b≠b2)∧(∀ b off,a=some ⟨b,off,none⟩→b≠l9)∧(∀ b off,a=some ⟨b,off,none⟩→b≠d9)∧(∀ b off,a=some ⟨b,off,none⟩→b≠b9))) ?_ ?_ ?_ ?_ ?_ ?_
 ·rintro r_ S ⟨ls,H,hs,hrl,hlo,hq,hq_b4,hq_b2,hq_l9,hq_d9,hq_b9⟩
  exact H.get .h4
 ·rintro r_ S ⟨ls,H,hs,hrl,hlo,hq,hq_b4,hq_b2,hq_l9,hq_d9,hq_b9⟩
  omega
 ·rintro r_ S S2 ⟨ls,H,hs,hrl,hlo,hq,hq_b4,hq_b2,hq_l9,hq_d9,hq_b9⟩ hE
  exact ⟨ls,H.call hE,hs,hrl,hlo,(hq.mono hE),hq_b4,hq_b2,hq_l9,hq_d9,hq_b9⟩
 ·rintro r_ x_ r2_ S ⟨ls,H,hs,hrl,hlo,hq,hq_b4,hq_b2,hq_l9,hq_d9,hq_b9⟩ hrx hx59
  have hln:=congrArg List.length hrx
  simp only [List.length_append,List.length_cons] at hln
  have hsx:=lines_next hs hrx hx59
  have hxs:x_.length≤18:=hsh _ (by rw [hsx];simp)
  refine hro9.h [str x_] S _ O ?_ (H.get .h2)
  refine zU (zt O (vl (⟨O,H.get .h2,?_⟩)))
  obtain ⟨hE,H⟩:=H.putE (b:=l9) (o':=lp lr9 .busy none) .h2
  replace hq:=hq.qy hE hq_l9
  refine zK (zR (zt O (vK O (ct211 (hG.mono H.qx) (by omega) fun t13 S hE h13=>?_))))
  replace H:=H.call hE
  replace hq:=hq.mono hE
  refine zt O (zEx O O (zEx O O (zAl H O fun b6 S hb6 hE H=>?_)))
  have hq_b6:=hq.ne hb6
  replace hq:=hq.mono hE
  refine zSs H O O O .h O fun S hE H=>?_
  replace hq:=hq.qy hE hq_b6
  refine zt O (v4 (zt O (zt O ?_)))
  rcases t13 with _|_
  ·replace h13:=bF h13
   refine zL O (zL O (zL O (zL O (vw O O O O (zt O (zL O (zL O (zL O (zL O (vw O O O O (zN (zr O (zv (z_ (⟨H.get .h3,?_⟩)))))))))))))))
   obtain ⟨hE,H⟩:=H.putE (b:=l9) (o':=lp lr9 .ready none) .h3
   replace hq:=hq.qy hE hq_l9
   refine .inl ⟨O,H.get .h5,fun S hE ho=>?_⟩
   replace H:=H.callX hE .h5 ho
   replace hq:=hq.qy hE hq_b9
   replace H:=H.front .h5
   replace H:=H.front .h5
   replace H:=H.front .h5
   replace H:=H.front .h5
   replace H:=H.front .h5
   refine ⟨(ls++[x_]),(H.takeL 5),hsx,(by omega),(by rw [linesOut_app,hlo];exact lineOut_stay (.inl (by rcases hs0:says x_ with _ | x;rfl;exact absurd ⟨x,hs0⟩ h13))),hq,hq_b4,hq_b2,hq_l9,hq_d9,hq_b9⟩
  ·replace h13:=bT h13
   obtain ⟨x13,hx13⟩:=h13
   have hgd:(says x_).getD ⟨0,0⟩=x13:=by rw [hx13];rfl
   refine zh O (W_loadN (vs:=[_]) H O .h2 O (zh O (W_loadN (vs:=[_,_]) H O .h O (zh O (zP O (ct16 hq hcp (by omega) fun S hE =>?_))))))
   replace H:=H.call hE
   replace hq:=hq.mono hE
   refine zh O (vW O O fun t21 h21=>vw O O O O (zt O ?_))
   rcases t21 with _|_
   ·replace h21:=bF h21
    refine zL O (zL O (zL O (zL O (vw O O O O (zN (zr O (zv (z_ (⟨H.get .h3,?_⟩)))))))))
    obtain ⟨hE,H⟩:=H.putE (b:=l9) (o':=lp lr9 .ready none) .h3
    replace hq:=hq.qy hE hq_l9
    refine .inl ⟨O,H.get .h5,fun S hE ho=>?_⟩
    replace H:=H.callX hE .h5 ho
    replace hq:=hq.qy hE hq_b9
    replace H:=H.front .h5
    replace H:=H.front .h5
    replace H:=H.front .h5
    replace H:=H.front .h5
    replace H:=H.front .h5
    refine ⟨(ls++[x_]),(H.takeL 5),hsx,(by omega),(by rw [linesOut_app,hlo];exact lineOut_stay (.inr ⟨x13,hx13,by rw [← hgd];omega⟩)),hq,hq_b4,hq_b2,hq_l9,hq_d9,hq_b9⟩
   ·replace h21:=bT h21
    refine zh O (zD O (zh O (vr H O .h2 O (zh O (W_lenL O (zh O (vT O O fun t27 h27=>vw O O O O (zN ?_))))))))
    rcases t27 with _|_
    ·replace h27:=bF h27
     refine zr O (zv (z_ (⟨H.get .h3,?_⟩)))
     obtain ⟨hE,H⟩:=H.putE (b:=l9) (o':=lp lr9 .ready none) .h3
     replace hq:=hq.qy hE hq_l9
     refine .inl ⟨O,H.get .h5,fun S hE ho=>?_⟩
     replace H:=H.callX hE .h5 ho
     replace hq:=hq.qy hE hq_b9
     replace H:=H.front .h5
     replace H:=H.front .h5
     replace H:=H.front .h5
     replace H:=H.front .h5
     replace H:=H.front .h5
     refine ⟨(ls++[x_]),(H.takeL 5),hsx,(by omega),(by rw [linesOut_app,hlo];exact lineOut_stay (.inr ⟨x13,hx13,by rw [← hgd];omega⟩)),hq,hq_b4,hq_b2,hq_l9,hq_d9,hq_b9⟩
    ·replace h27:=bT h27
     refine zj O (zR (zSs H O O O .h1 O fun S hE H=>zN (zi (vg (⟨H.get .h3,?_⟩)))))
     obtain ⟨hE,H⟩:=H.putE (b:=l9) (o':=lp lr9 .done (some .ret)) .h3
     refine .inr ⟨O,.inr ⟨H.get .h3,?_⟩⟩
     obtain ⟨hE,H⟩:=H.putE (b:=l9) (o':=lp lr9 .exhausted (some .ret)) .h3
     refine (blkX_ret (thnX_ret (⟨trivial,H.get .h4,?_⟩)))
     obtain ⟨hE,H⟩:=H.putE (b:=d9) (o':=.deferred none) .h4
     refine ⟨_,(res_cell1 H O .h1 O zM),?_⟩
     exact k _ _ H.qx ⟨nofun,fun h=>absurd h (knows_no (a:=ls) (x:=x_) (b:=(zu r2_).1) (by rw [hsx];simp) hlo hx13 (by rw [← hgd];omega) (by omega))⟩
 ·rintro r_ S ⟨ls,H,hs,hrl,hlo,hq,hq_b4,hq_b2,hq_l9,hq_d9,hq_b9⟩ hz59
  refine .inl ⟨H.get .h2,?_⟩
  obtain ⟨hE,H⟩:=H.putE (b:=l9) (o':=lp lr9 .exhausted none) .h2
  have hse:=lines_end hs hz59
  refine blkX_norm (thnX_norm (wpX_slim (zR (zSs H O O O .h O fun S hE H=>zN (zi (⟨trivial,H.get .h3,?_⟩))))))
  obtain ⟨hE,H⟩:=H.putE (b:=d9) (o':=.deferred none) .h3
  refine ⟨_,(res_cell1 H O .h O zM),?_⟩
  exact k _ _ H.qx ⟨fun _=>knows_yes (by rw [hse];exact hlo),fun _=>rfl⟩
 ·skip
  replace H:=H.front .h2
  replace H:=H.front .h2
  replace H:=H.front .h2
  replace H:=H.front .h4
  replace H:=H.front .h4
  exact ⟨[],H,(by simp),(Nat.le_refl _),rfl,hq,hq_b4,hq_b2,hq_l9,hq_d9,hq_b9⟩
theorem ct149 {m:Bs} (hG:Glob S0) (hs:Sl S0 2 a (zV es)) (hcp:es.length≤cap) (hl:es.length≤1099511627776) (hll:l.length≤1099511627776) (hmm:m.length≤1099511627776) (hsh:∀ x∈(zu l).1,x.length≤18) (k:∀ (t:Bool) S',Ext [] S0 S'→(t=true↔nearP es l m)→K (.bool t) S') :
  zC 149 #[.agg #[.slice a es.length cap],str l,str m] S0 K:=by
 refine zGh (sf:=s149) Tryz.func149 fun H=>zR (zBx H O O fun b3 S hb3 hE H=>zt O (v4 (zt O (vK O (ct35 (by omega) fun b15 cap15 S hE hb15 hO15=>?_)))))
 obtain ⟨cs15,ho15,hn15,hcl15,hct15,_⟩:=hO15
 replace H:=H.adopt hE hb15 ho15
 have hal:=lines_le l
 have hnl:(zu l).1.length≤l.length:=strLines_len l
 refine zt O (zEx O O (zEx O O (zt O (zt O (v4 (zt O (vK O (ct35 (by omega) fun b20 cap20 S hE hb20 hO20=>?_))))))))
 obtain ⟨cs20,ho20,hn20,hcl20,hct20,_⟩:=hO20
 replace H:=H.adopt hE hb20 ho20
 have hbl:=lines_le m
 refine zt O (zEx O O (zEx O O (zt O (zt O (zN (zSS (zt O (zLl O (zt O (zLl O (za (W_neI O O fun t27 h27=>zt O ?_))))))))))))
 rcases t27 with _|_
 ·replace h27:=bF h27
  refine zh O (vP O (zh O (W_neS O O fun t30 h30=>vw O O O O (zt O ?_))))
  rcases t30 with _|_
  ·replace h30:=bF h30
   refine zh O (vP O (zh O (vI O (zh O (W_gtr O O fun t35 h35=>vw O O O O (zN ?_))))))
   rcases t35 with _|_
   ·replace h35:=bF h35
    refine zr O (zv (ze (zSS (zt O (zLl O (zt O (zN (zK ?_))))))))
    refine vA (fun E S m_=>∃ (i:Nat),E=Env.lst [(2,str m),(3,vN b3 0),(7,sl b15 0 (zu l).1.length cap15),(9,sl b20 0 (zu m).1.length cap20),(37,sl b15 0 (zu l).1.length cap15),(38,int (zu l).1.length),(39,int i)]∧Loc [] S0 S [(b20,Cs cs20 9),(b15,Cs cs15 9),(b3,Cs [.slice a es.length cap] 26)]∧(i≤(zu l).1.length)∧(∀ (j:Nat) (u v:Bs),j<i→(zu l).1[j]? = some u→(zu m).1[j]? = some v→v=u∨v=lineIn es u)∧m_=(zu l).1.length-i) ?_ ?_
    ·skip
     refine ⟨_,_,?le,0,O,H,(by omega),(fun _ _ _ h=>absurd h (by omega)),O⟩
     case le=>exact Env.qle ⟨O,O,O,O,O,O,O,⟨⟩⟩
    ·skip
     rintro _ S _ ⟨i,rfl,H,hi,hp,rfl⟩
     refine zR (za (vT O O fun t40 h40=>zN (zJ ?_)))
     rcases t40 with _|_
     ·replace h40:=bF h40
      refine zr O (vz (zZ (zZ (vH (ze (zR (zt O (zN (zi (z9 O ?_))))))))))
      exact k _ _ H.qx ⟨fun _=>⟨by omega,Classical.not_not.1 h30,by omega,fun j u v hu hv=>hp j u v (by have:=(List.getElem?_eq_some_iff.1 hu).1;omega) hu hv⟩,fun _=>rfl⟩
     ·replace h40:=bT h40
      have hlen:(zu l).1.length=(zu m).1.length:=by omega
      obtain ⟨x,hx⟩:∃ x,(zu l).1[i]? = some x:=⟨(zu l).1[i]'(by omega),by simp⟩
      obtain ⟨y,hy⟩:∃ y,(zu m).1[i]? = some y:=⟨(zu m).1[i]'(by omega),by simp⟩
      have hx15:=str_at hct15 hx
      have hy20:=str_at hct20 hy
      refine zj O (zv (ze (zJ (zK (zR (zt O (zIa O O (za (zE O (H.cell .h1 hx15) (zt O (zt O (zN (zJ (zY [] (vC 0 O O O (vC 1 O O O (vF 2 O O (fun _ _ hK=>vq O O (by omega) (by omega) hK) (ve 3 O O (fun S' hS'=>zA fun K hK=>zE O (zB (hS' O) (by simp) (H.cell .h hy20)) hK) (vC 4 O O O (zCm 5 O O (fun S' _=>zA fun K hK=>W_neSd O O hK) fun t49 h49=>vC 6 O O O ?_))))))))))))))))))))
      rcases t49 with _|_
      ·replace h49:=bF h49
       refine ve 7 O O (fun S' _=>vd O (by decide)) (ve 8 O O (fun S' _=>vd O (by decide)) (ve 9 O O (fun S' _=>vd O (by decide)) (ve 10 O O (fun S' _=>vd O (by decide)) (ve 11 O O (fun S' _=>vd O (by decide)) (ve 12 O O (fun S' _=>vd O (by decide)) (zy 13 (by kernel_rfl) O O (step_no O (by decide) (⟨fun _=>fun _ _ _ h=>h,ve 14 O O (fun S' _=>vd O (by decide)) (vF 15 O O (fun _ _ hK=>vM O O O O hK) (zT (ze (zr O (zv (z_ (ze (zU (zAd O O (zt O (zN ?_)))))))))))⟩))))))))
       refine ⟨_,_,?lt,?le,(i+1),O,H,(by omega),(fun j u v hj hu hv=>by
        by_cases hji:j<i
        ·exact hp j u v hji hu hv
        ·obtain rfl:j=i:=by omega
         rw [hx] at hu;rw [hy] at hv;cases hu;cases hv
         first | exact .inl (Classical.not_not.1 h49) | exact .inr (Classical.not_not.1 h58)),rfl⟩
       case lt=>omega
       case le=>exact Env.qle ⟨O,O,O,O,O,O,O,⟨⟩⟩
      ·replace h49:=bT h49
       refine ve 7 O O (fun S' _=>vi O fun K hK=>vP O hK) (ve 8 O O (fun S' _=>vi O fun K hK=>vP O hK) (ve 9 O O (fun S' _=>vi O fun K hK=>vq O O (by omega) (by omega) hK) (ve 10 O O (fun S' hS'=>vi O fun K hK=>zE O (zB (hS' O) (by simp) (H.cell .h hy20)) hK) (ve 11 O O (fun S' hS'=>vi O fun K hK=>zO O (zF (hS' O) (by simp) (H.cells (vs:=[_]) .h2 O)) hK) (ve 12 O O (fun S' _=>vi O fun K hK=>vP O hK) (zy 13 (by kernel_rfl) O O (step_yes O (zP O (ct98 (hG.mono H.qx) (hs.mono H.qx) hcp (by omega) (hsh x (List.mem_of_getElem? hx)) fun S hE =>?_)))))))))
       replace H:=H.call hE
       refine ⟨fun _=>hE.up.ext,zCm 14 O O (fun S' _=>vi O fun K hK=>W_neSd O O hK) fun t58 h58=>vF 15 O O (fun _ _ hK=>vM O O O O hK) (zT (ze ?_))⟩
       rcases t58 with _|_
       ·replace h58:=bF h58
        refine zr O (zv (z_ (ze (zU (zAd O O (zt O (zN ?_)))))))
        refine ⟨_,_,?lt,?le,(i+1),O,H,(by omega),(fun j u v hj hu hv=>by
         by_cases hji:j<i
         ·exact hp j u v hji hu hv
         ·obtain rfl:j=i:=by omega
          rw [hx] at hu;rw [hy] at hv;cases hu;cases hv
          first | exact .inl (Classical.not_not.1 h49) | exact .inr (Classical.not_not.1 h58)),rfl⟩
        case lt=>omega
        case le=>exact Env.qle ⟨O,O,O,O,O,O,O,⟨⟩⟩
       ·replace h58:=bT h58
        refine zj O (zR (zt O (zN (zi (vg (zw (zw (vg (zw (z9 O ?_))))))))))
        exact k _ _ H.qx ⟨nofun,fun h=>by rcases h.2.2.2 i x y hx hy with h | h;exact absurd h h49;exact absurd h h58⟩
   ·replace h35:=bT h35
    refine zj O (zR (zt O (zN (zi (zw (z9 O ?_))))))
    exact k _ _ H.qx ⟨nofun,fun h=>by have:=h.2.2.1;omega⟩
  ·replace h30:=bT h30
   refine zL O (zL O (zL O (vw O O O O (zN (zj O (zR (zt O (zN (zi (zw (z9 O ?_)))))))))))
   exact k _ _ H.qx ⟨nofun,fun h=>absurd h.2.1 h30⟩
 ·replace h27:=bT h27
  refine zL O (zL O (vw O O O O (zt O (zL O (zL O (zL O (vw O O O O (zN (zj O (zR (zt O (zN (zi (zw (z9 O ?_)))))))))))))))
  exact k _ _ H.qx ⟨nofun,fun h=>by have:=h.1;omega⟩
end
section
variable {S0:St} {K:Value→St→Prop}
variable {rs:List Rule} {cap:Nat} {a:Option Addr} {x:Rule}
theorem ct144  (k:∀ (t:Bool) S',Ext [] S0 S'→(t=true↔RuleP x)→K (.bool t) S') :
  zC 144 #[x.v] S0 K:=by
 refine zGh (sf:=s144) Tryz.func144 fun H=>zR (zBx H O O fun b1 S hb1 hE H=>zt O (v4 (vZ O (zL1 H O .h O (vK O (ct156  fun t5 S hE h5=>?_))))))
 replace H:=H.call hE
 refine zt O ?_
 rcases t5 with _|_
 ·replace h5:=bF h5
  refine zL O (zL O (zL O (vw O O O O (zt O (zL O (zL O (zL O (zL O (zL O (vw O O O O (zt O (zL O (zL O (zL O (vw O O O O (zt O (zL O (zL O (zL O (vw O O O O (zt O (zL O (zL O (zL O (zL O (zL O (vw O O O O (zt O ?_))))))))))))))))))))))))))))
  refine zL O (zL O (zL O (vw O O O O (zt O (zL O (zL O (zL O (vw O O O O (zt O (zL O (zL O (zL O (zL O (zL O (vw O O O O (zt O (zN (zi (z9 O ?_)))))))))))))))))))
  exact k _ _ H.qx (by unfold RuleP;first | (rw [h50];omega) | (simp;omega) | (simp_all;omega))
 ·replace h5:=bT h5
  refine zh O (zD O (zh O (vr H O .h O (zh O (zP O (ct156  fun t9 S hE h9=>?_))))))
  replace H:=H.call hE
  refine vw O O O O (zt O ?_)
  rcases t9 with _|_
  ·replace h9:=bF h9
   refine zL O (zL O (zL O (zL O (zL O (vw O O O O (zt O (zL O (zL O (zL O (vw O O O O (zt O (zL O (zL O (zL O (vw O O O O (zt O (zL O (zL O (zL O (zL O (zL O (vw O O O O (zt O (zL O (zL O (zL O (vw O O O O (zt O ?_))))))))))))))))))))))))))))
   refine zL O (zL O (zL O (vw O O O O (zt O (zL O (zL O (zL O (zL O (zL O (vw O O O O (zt O (zN (zi (z9 O ?_))))))))))))))
   exact k _ _ H.qx (by unfold RuleP;first | (rw [h50];omega) | (simp;omega) | (simp_all;omega))
  ·replace h9:=bT h9
   refine zh O (zD O (zh O (vr H O .h O (zh O (zD O (zh O (vr H O .h O (zh O (W_leq O O fun t16 h16=>vw O O O O (zt O ?_))))))))))
   rcases t16 with _|_
   ·replace h16:=bF h16
    refine zL O (zL O (zL O (vw O O O O (zt O (zL O (zL O (zL O (vw O O O O (zt O (zL O (zL O (zL O (zL O (zL O (vw O O O O (zt O (zL O (zL O (zL O (vw O O O O (zt O (zL O (zL O (zL O (vw O O O O (zt O (zL O (zL O ?_))))))))))))))))))))))))))))
    refine zL O (zL O (zL O (vw O O O O (zt O (zN (zi (z9 O ?_)))))))
    exact k _ _ H.qx (by unfold RuleP;first | (rw [h50];omega) | (simp;omega) | (simp_all;omega))
   ·replace h16:=bT h16
    refine zh O (zD O (zh O (vr H O .h O (zh O (zP O (ct173  fun t21 S hE h21=>?_))))))
    replace H:=H.call hE
    refine vw O O O O (zt O ?_)
    rcases t21 with _|_
    ·replace h21:=bF h21
     refine zL O (zL O (zL O (vw O O O O (zt O (zL O (zL O (zL O (zL O (zL O (vw O O O O (zt O (zL O (zL O (zL O (vw O O O O (zt O (zL O (zL O (zL O (vw O O O O (zt O (zL O (zL O (zL O (zL O (zL O (vw O O O O (zt O ?_))))))))))))))))))))))))))))
     refine zN (zi (z9 O ?_))
     exact k _ _ H.qx (by unfold RuleP;first | (rw [h50];omega) | (simp;omega) | (simp_all;omega))
    ·replace h21:=bT h21
     refine zh O (zD O (zh O (vr H O .h O (zh O (zP O (ct173  fun t26 S hE h26=>?_))))))
     replace H:=H.call hE
     refine vw O O O O (zt O ?_)
     rcases t26 with _|_
     ·replace h26:=bF h26
      refine zL O (zL O (zL O (zL O (zL O (vw O O O O (zt O (zL O (zL O (zL O (vw O O O O (zt O (zL O (zL O (zL O (vw O O O O (zt O (zL O (zL O (zL O (zL O (zL O (vw O O O O (zt O (zN (zi (z9 O ?_))))))))))))))))))))))))))
      exact k _ _ H.qx (by unfold RuleP;first | (rw [h50];omega) | (simp;omega) | (simp_all;omega))
     ·replace h26:=bT h26
      refine zh O (zD O (zh O (vr H O .h O (zh O (zD O (zh O (vr H O .h O (zh O (W_leq O O fun t33 h33=>vw O O O O (zt O ?_))))))))))
      rcases t33 with _|_
      ·replace h33:=bF h33
       refine zL O (zL O (zL O (vw O O O O (zt O (zL O (zL O (zL O (vw O O O O (zt O (zL O (zL O (zL O (zL O (zL O (vw O O O O (zt O (zN (zi (z9 O ?_)))))))))))))))))))
       exact k _ _ H.qx (by unfold RuleP;first | (rw [h50];omega) | (simp;omega) | (simp_all;omega))
      ·replace h33:=bT h33
       refine zh O (zD O (zh O (vr H O .h O (zh O (zP O (ct157  fun t38 S hE h38=>?_))))))
       replace H:=H.call hE
       refine vw O O O O (zt O ?_)
       rcases t38 with _|_
       ·replace h38:=bF h38
        refine zL O (zL O (zL O (vw O O O O (zt O (zL O (zL O (zL O (zL O (zL O (vw O O O O (zt O (zN (zi (z9 O ?_))))))))))))))
        exact k _ _ H.qx (by unfold RuleP;first | (rw [h50];omega) | (simp;omega) | (simp_all;omega))
       ·replace h38:=bT h38
        refine zh O (zD O (zh O (vr H O .h O (zh O (zP O (ct157  fun t43 S hE h43=>?_))))))
        replace H:=H.call hE
        refine vw O O O O (zt O ?_)
        rcases t43 with _|_
        ·replace h43:=bF h43
         refine zL O (zL O (zL O (zL O (zL O (vw O O O O (zt O (zN (zi (z9 O ?_)))))))))
         exact k _ _ H.qx (by unfold RuleP;first | (rw [h50];omega) | (simp;omega) | (simp_all;omega))
        ·replace h43:=bT h43
         refine zh O (zD O (zh O (vr H O .h O (zh O (zD O (zh O (vr H O .h O (zh O (W_leq O O fun t50 h50=>vw O O O O (zt O (zN (zi (z9 O ?_)))))))))))))
         exact k _ _ H.qx (by unfold RuleP;first | (rw [h50];omega) | (simp;omega) | (simp_all;omega))
theorem ct143  (k:∀ (t:Bool) S',Ext [] S0 S'→(t=true↔¬ RuleP x)→K (.bool t) S') :
  zC 143 #[x.v] S0 K:=by
 refine zGh (sf:=s143) Tryz.func143 fun H=>zR (zBx H O O fun b1 S hb1 hE H=>zt O (v4 (zLn (vs:=[_,_,_,_,_,_,_]) H O .h O (vK O (ct144  fun t4 S hE h4=>?_)))))
 replace H:=H.call hE
 refine zNt O (zt O (zN (zi (z9 O ?_))))
 exact k _ _ H.qx (by cases t4<;>simp_all)
theorem ct209 (hs:Sl S0 7 a (vf rs)) (hl:rs.length≤1099511627776) (k:∀ (r:Int) S',Ext [] S0 S'→(0≤r↔∃ x∈rs,¬ RuleP x)→K (int r) S') :
  zC 209 #[.slice a rs.length cap,.func (.func 143) #[] #[]] S0 K:=by
 refine zGh (sf:=s209) Tryz.func209 fun H=>zR (zt O (zN (zSS (zt O (zLl O (zt O (zN (zK ?_))))))))
 refine vA (fun E S m_=>∃ (i:Nat),E=Env.lst [(0,.slice a rs.length cap),(1,.func (.func 143) #[] #[]),(7,int rs.length),(8,int i)]∧Loc [] S0 S []∧(i≤rs.length)∧(∀ r∈rs.take i,RuleP r)∧m_=rs.length-i) ?_ ?_
 ·skip
  refine ⟨_,_,?le,0,O,H,(by omega),(by simp),O⟩
  case le=>exact Env.qle ⟨O,O,O,O,⟨⟩⟩
 ·skip
  rintro _ S _ ⟨i,rfl,H,hi,hp,rfl⟩
  refine zR (za (vT O O fun t9 h9=>zN (zJ ?_)))
  rcases t9 with _|_
  ·replace h9:=bF h9
   refine zr O (vz (zZ (zZ (vH (ze (zR (zt O (zN (zi (z9 O ?_))))))))))
   rw [show i=rs.length by omega,List.take_length] at hp
   exact k (-1) _ H.qx ⟨fun h=>by omega,fun ⟨x,h1,h2⟩=>absurd (hp x h1) h2⟩
  ·replace h9:=bT h9
   obtain ⟨x,hx⟩:∃ x,rs[i]? = some x:=⟨rs[i]'(by omega),by simp⟩
   obtain ⟨b,off,rfl,hc⟩:=hs.row i _ (ruleRows_at hx)
   refine zj O (zv (ze (zJ (zK (zR (zt O (zt O (v4 (zt O (zt O (zt O (zIa O O (za (zO (vs:=[_,_,_,_,_,_,_]) O (H.qx.cells hc) (za (W_callV O O ⟨_,_,_,_,O,Tryz.func143,O,O,ct143 (x:=x) fun t16 S hE h16=>?_⟩))))))))))))))))
   replace H:=H.call hE
   refine zN ?_
   rcases t16 with _|_
   ·replace h16:=bF h16
    refine zr O (zv (z_ (ze (zU (zAd O O (zt O (zN ?_)))))))
    refine ⟨_,_,?lt,?le,(i+1),O,H,(by omega),(mem_take_succ hx hp (Classical.not_not.1 h16)),O⟩
    case lt=>omega
    case le=>exact Env.qle ⟨O,O,O,O,⟨⟩⟩
   ·replace h16:=bT h16
    refine zj O (zR (zt O (zt O (zN (zi (vg (zw (zw (vg (zw (z9 O ?_)))))))))))
    exact k _ _ H.qx ⟨fun _=>⟨x,List.mem_of_getElem? hx,h16⟩,fun _=>by omega⟩
theorem ct142 (hs:Sl S0 7 a (vf rs)) (hl:rs.length≤1099511627776) (k:∀ (t:Bool) S',Ext [] S0 S'→(t=true↔∃ x∈rs,¬ RuleP x)→K (.bool t) S') :
  zC 142 #[.slice a rs.length cap,.func (.func 143) #[] #[]] S0 K:=by
 refine zGh (sf:=s142) Tryz.func142 fun H=>zR (zt O (v4 (zt O (zt O (vK O (ct209 (hs.mono H.qx) (by omega) fun r7 S hE h7=>?_))))))
 replace H:=H.call hE
 refine za (W_geq O O fun t8 h8=>zt O (zN (zi (z9 O ?_))))
 exact k _ _ H.qx (h8.trans h7)
theorem ct62 (hs:Sl S0 7 a (vf rs)) (hl:rs.length≤1099511627776) (k:∀ (t:Bool) S',Ext [] S0 S'→(t=true↔RulesP rs)→K (.bool t) S') :
  zC 62 #[.slice a rs.length cap] S0 K:=by
 refine zGh (sf:=s62) Tryz.func62 fun H=>zR (zt O (v4 (zt O (zLl O (za (W_leq O O fun t5 h5=>zt O ?_))))))
 rcases t5 with _|_
 ·replace h5:=bF h5
  refine zL O (zL O (zL O (vw O O O O (zt O (zN (zi (z9 O ?_)))))))
  first | exact k _ _ H.qx ⟨nofun,fun h=>absurd h.1 (by omega)⟩ | exact k _ _ H.qx (by
    cases t8 with
    | true=>exact ⟨nofun,fun h=>by obtain ⟨r,hr,hn⟩:=h8.1 rfl;exact absurd (h.2 r hr) hn⟩
    | false=>exact ⟨fun _=>⟨by omega,fun r hr=>Classical.byContradiction fun hn=>absurd (h8.2 ⟨r,hr,hn⟩) nofun⟩,fun _=>rfl⟩)
 ·replace h5:=bT h5
  refine zh O (vP O (zh O (zP O (ct142 (hs.mono H.qx) (by omega) fun t8 S hE h8=>?_))))
  replace H:=H.call hE
  refine zh O (W_not O (vw O O O O (zt O (zN (zi (z9 O ?_))))))
  first | exact k _ _ H.qx ⟨nofun,fun h=>absurd h.1 (by omega)⟩ | exact k _ _ H.qx (by
    cases t8 with
    | true=>exact ⟨nofun,fun h=>by obtain ⟨r,hr,hn⟩:=h8.1 rfl;exact absurd (h.2 r hr) hn⟩
    | false=>exact ⟨fun _=>⟨by omega,fun r hr=>Classical.byContradiction fun hn=>absurd (h8.2 ⟨r,hr,hn⟩) nofun⟩,fun _=>rfl⟩)
theorem ct99 {l m:Bs} (hl:l.length≤1099511627776) (hm:m.length≤1099511627776) (k:∀ b cap S',Ext [] S0 S'→(S0 b=none)→(OwnB S' b 195 5 cap (spanRows (vQ l m)))→K (sl b 0 (vQ l m).length cap) S') :
  zC 99 #[str l,str m] S0 K:=by
 refine zGh (sf:=s99) Tryz.func99 fun H=>zR (zt O (v4 (zt O (vK O (ct35 (by omega) fun b17 cap17 S hE hb17 hO17=>?_)))))
 obtain ⟨cs17,ho17,hn17,hcl17,hct17,_⟩:=hO17
 replace H:=H.adopt hE hb17 ho17
 have hal:lsum (zu l).1+(zu l).2.length=l.length:=lsum_lines 59 l
 have hnl:(zu l).1.length≤l.length:=strLines_len l
 refine zt O (zEx O O (zEx O O (zt O (zt O (v4 (zt O (vK O (ct35 (by omega) fun b22 cap22 S hE hb22 hO22=>?_))))))))
 obtain ⟨cs22,ho22,hn22,hcl22,hct22,_⟩:=hO22
 replace H:=H.adopt hE hb22 ho22
 have hbl:lsum (zu m).1+(zu m).2.length=m.length:=lsum_lines 59 m
 have hnm:(zu m).1.length≤m.length:=strLines_len m
 refine zt O (zEx O O (zEx O O (zt O (zt O (v4 (zt O (zLl O (zt O (zLl O (za (W_min2 O O ?_)))))))))))
 obtain ⟨n,hn0⟩:∃ n:Nat,n=min (zu l).1.length (zu m).1.length:=⟨_,rfl⟩
 rw [show min ((zu l).1.length:Int) ((zu m).1.length:Int)=(n:Int) by omega]
 refine zt O (v4 (zt O (za (W_mkSlice H O O (Nat.zero_le _) (by omega) (by omega) fun b31 cs31 S hb31 H hE hcl31=>zt O (v4 (zt O (zt O (zN (zSS (zt O (zt O (zN (zK ?_)))))))))))))
 refine vA (fun E S m_=>∃ (i:Nat) (b10:Nat) (cap10:Nat) (cs10:List Value),E=Env.lst [(5,sl b17 0 (zu l).1.length cap17),(7,sl b22 0 (zu m).1.length cap22),(10,sl b10 0 i cap10),(11,int (lsum ((zu l).1.take i))),(12,int (lsum ((zu m).1.take i))),(32,int n),(33,int i)]∧Loc [] S0 S [(b10,Cs cs10 195),(b22,Cs cs22 9),(b17,Cs cs17 9)]∧(i≤n)∧(i≤cap10)∧(cs10.length=cap10*5)∧(cs10.take (i*5)=(spanRows (pairs ((zu l).1.take i) ((zu m).1.take i))).flatten)∧m_=n-i) ?_ ?_
 ·skip
  refine ⟨_,_,?le,0,b31,n,cs31,O,H,(by omega),(by omega),hcl31,(by simp [pairs,pairsF]),O⟩
  case le=>exact Env.qle ⟨O,O,O,O,O,O,O,⟨⟩⟩
 ·skip
  rintro _ S _ ⟨i,b10,cap10,cs10,rfl,H,hi1,hn,hcl,hct,rfl⟩
  refine zR (za (vT O O fun t34 h34=>zN (zJ ?_)))
  rcases t34 with _|_
  ·replace h34:=bF h34
   refine zr O (vz (zZ (zZ (vH (ze (zR (zt O (zt O (zN (zi (z9 O ?_)))))))))))
   have hin:i=n:=by omega
   rw [hin] at hct hn ⊢
   rw [pairs_min hn0] at hct
   have hpl:(vQ l m).length=n:=by rw [hn0];exact pairsF_len 0 0 _ _
   rw [← hpl] at hct hn ⊢
   exact k _ _ _ H.qx (H.new1 .h) ⟨_,H.get .h,by simpa using hn,hcl,by simpa [vQ] using hct,spanRows_five⟩
  ·replace h34:=bT h34
   obtain ⟨x,hx⟩:∃ x,(zu l).1[i]? = some x:=⟨(zu l).1[i]'(by omega),by simp⟩
   obtain ⟨y,hy⟩:∃ y,(zu m).1[i]? = some y:=⟨(zu m).1[i]'(by omega),by simp⟩
   have hx17:=str_at hct17 hx
   have hy22:=str_at hct22 hy
   have hx1:=lsum_take hx
   have hy1:=lsum_take hy
   have hx2:=lsum_take_le (zu l).1 (i+1)
   have hy2:=lsum_take_le (zu m).1 (i+1)
   have hpt:=pairs_take hx hy
   refine zj O (zv (ze (zJ (zK (zR (zt O (zt O (zN (zJ (zY [] (vC 0 O O O (vC 1 O O O (vC 2 O O O (vC 3 O O O (vF 4 O O (fun _ _ hK=>vq O O (by omega) (by omega) hK) (ve 5 O O (fun S' hS'=>zA fun K hK=>zE O (zB (hS' O) (by simp) (H.cell .h2 hx17)) hK) (vF 6 O O (fun _ _ hK=>vI O hK) (vF 7 O O (fun _ _ hK=>W_add O O (by omega) (by omega) hK) (vF 8 O O (fun _ _ hK=>W_add O O (by omega) (by omega) hK) (vC 9 O O O (vC 10 O O O (vC 11 O O O (vC 12 O O O (vF 13 O O (fun _ _ hK=>vq O O (by omega) (by omega) hK) (ve 14 O O (fun S' hS'=>zA fun K hK=>zE O (zB (hS' O) (by simp) (H.cell .h1 hy22)) hK) (vF 15 O O (fun _ _ hK=>vI O hK) (vF 16 O O (fun _ _ hK=>W_add O O (by omega) (by omega) hK) (vF 17 O O (fun _ _ hK=>W_add O O (by omega) (by omega) hK) ?_))))))))))))))))))))))))))))
   refine vC 18 O O O (vC 19 O O O (vF 20 O O (fun _ _ hK=>vq O O (by omega) (by omega) hK) (ve 21 O O (fun S' hS'=>zA fun K hK=>zE O (zB (hS' O) (by simp) (H.cell .h2 hx17)) hK) (vC 22 O O O (vC 23 O O O (vF 24 O O (fun _ _ hK=>vq O O (by omega) (by omega) hK) (ve 25 O O (fun S' hS'=>zA fun K hK=>zE O (zB (hS' O) (by simp) (H.cell .h1 hy22)) hK) (zCm 26 O O (fun S' _=>zA fun K hK=>W_eqSd O O hK) fun t62 h62=>?_))))))))
   obtain rfl:t62=decide (y=x):=by rw [Bool.eq_iff_iff,h62,decide_eq_true_iff];exact eq_comm
   refine vF 27 O O (fun _ _ hK=>vv (cs:=[_,_,_,_,_]) O O hK) (zy 28 (by kernel_rfl) O O (zn (W_alloc H O fun b14 S hb14 hE H=>⟨fun _=>hE.up.ext,zy 29 (by kernel_rfl) O O (zn (zSt H O O O .h O fun S hE H=>zLd (zT (ze (zJ (zY [] (zLf 0 O O O (ve 1 O O (fun S' hS'=>zA fun K hK=>zE O (zB (hS' O) (by simp) (H.cell .h O)) hK) (zLf 2 O O O (ve 3 O O (fun S' hS'=>zA fun K hK=>zE O (zB (hS' O) (by simp) (H.cell .h O)) hK) (vC 4 O O O (vC 5 O O O (zT (ze (zU (zt O (zLn (vs:=[_,_,_,_,_]) H O .h O (za (zS (cs:=[_,_,_,_,_]) H O O fun b70 S hb70 hE H=>za (W_append H O O .h2 hcl hn (Src.own H .h O) (by simp [vY]) O (by decide) (by omega) O fun b71 cap71 cs71 S hb71 H hE hn71 hcl71 hct71=>zt O (vl (z_ (ze (zU ?_))))))))))))))))))))))))⟩)))
   refine zAd O O (zt O (zN ?_))
   refine ⟨_,_,?lt,?le,(i+1),b71,cap71,cs71,O,(H.sub (.cons_cons _ (.cons _ (.cons _ (.cons_cons _ (.cons_cons _ .slnil)))))),(by omega),hn71,hcl71,(hct71.trans (by rw [hct,hpt];simp only [spanRows,List.map_append,List.flatten_append,List.map_cons,List.map_nil,List.flatten_cons,List.flatten_nil,List.append_nil])),O⟩
   case lt=>omega
   case le=>exact Env.qle ⟨rfl,rfl,rfl,(by show some (int ((lsum ((zu l).1.take i):Nat)+(x.length:Nat)+1))=_;rw [hx1];congr 2),(by show some (int ((lsum ((zu m).1.take i):Nat)+(y.length:Nat)+1))=_;rw [hy1];congr 2),rfl,rfl,trivial⟩
end
section
variable {S0:St} {K:Value→St→Prop}
variable {q:Int} {sp:List Span} {b1 b2 c i:Nat} {a:Option Addr} {x:Span}
theorem ct185 {n:Nat} {v:Value} {p:Nat→Prop} (hn:n≤1099511627776) (hf:∀ (i:Nat) S,i<n→Ext [] S0 S→∀ K:Value→St→Prop,(∀ (t:Bool) S',Ext [] S S'→(t=true↔p i)→K (.bool t) S')→CallV Tryz.prog v [int i] S K) (hm:∀ i j:Nat,i≤j→j<n→p i→p j) (k:∀ (r:Nat) S',Ext [] S0 S'→(r≤n)→(∀ i:Nat,i<r→¬ p i)→(∀ i:Nat,r≤i→i<n→p i)→K (int r) S') :
  zC 185 #[int n,v] S0 K:=by
 refine zGh (sf:=s185) Tryz.func185 fun H=>zR (zt O (v4 (zt O (zt O (zt O (zN (zJ (zK ?_))))))))
 refine vA (fun E S m_=>∃ (i:Nat) (j:Nat),E=Env.lst [(1,v),(5,int i),(6,int j)]∧Loc [] S0 S []∧(i≤j)∧(j≤n)∧(∀ k:Nat,k<i→¬ p k)∧(∀ k:Nat,j≤k→k<n→p k)∧m_=j-i) ?_ ?_
 ·skip
  refine ⟨_,_,?le,0,n,O,H,(by omega),(by omega),(fun k h=>absurd h (by omega)),(fun k h1 h2=>absurd h2 (by omega)),O⟩
  case le=>exact Env.qle ⟨O,O,O,⟨⟩⟩
 ·skip
  rintro _ S _ ⟨i,j,rfl,H,hij,hjn,h1,h2,rfl⟩
  refine zSS (zt O (zt O (za (vT O O fun t11 h11=>zN ?_))))
  rcases t11 with _|_
  ·replace h11:=bF h11
   refine zr O (vz (zZ (zZ (vH (ze (zR (zt O (zt O (zN (zi (z9 O ?_)))))))))))
   obtain rfl:i=j:=by omega
   exact k i _ H.qx hjn h1 h2
  ·replace h11:=bT h11
   refine zj O (zv (ze (zK (zR (zt O (zt O (zAd O O (za (W_conv (m:=((i+j:Nat):Int)) O (by rw [wrapu64_in (by omega) (by omega)];simp) (za (W_shrU (j:=1) (m:=2) O O (by decide) (by decide) (za (W_conv (m:=(((i+j) / 2:Nat):Int)) O (wrap64_in (by omega) (by omega)) (zt O (v4 (zt O (zt O (za (W_callV O O (hf _ _ (by omega) H.qx _ fun t20 S hE h20=>?_))))))))))))))))))))
   replace H:=H.call hE
   refine zNt O (zN ?_)
   rcases t20 with _|_
   ·replace h20:=bF h20
    refine zj O (zU (zt O (zAd O O (zt O (vl (z_ (ze ?_)))))))
    refine ⟨_,_,?lt,?le,((i+j) / 2+1),j,O,H,(by omega),(by omega),(fun k hk hp=>h20 (hm k _ (by omega) (by omega) hp)),h2,O⟩
    case lt=>omega
    case le=>exact Env.qle ⟨O,O,O,⟨⟩⟩
   ·replace h20:=bT h20
    refine zr O (zU (zt O (zt O (vl (z_ (ze ?_))))))
    refine ⟨_,_,?lt,?le,i,((i+j) / 2),O,H,(by omega),(by omega),h1,(fun k hk1 hk2=>hm _ k hk1 hk2 h20),O⟩
    case lt=>omega
    case le=>exact Env.qle ⟨O,O,O,⟨⟩⟩
theorem ct206 (h1:S0 b1=some ⟨Cs [.slice a sp.length c] 124,true⟩) (h2:S0 b2=some ⟨Cs [int q] 3,true⟩) (hs:Sl S0 5 a (spanRows sp)) (hx:sp[i]? = some x) (k:∀ (t:Bool) S',Ext [] S0 S'→(t=true↔q<x.t)→K (.bool t) S') :
  zC 206 #[int i,vN b1 0,vN b2 0] S0 K:=by
 refine zGh (sf:=s206) Tryz.func206 fun H=>?_
 have hi:=(List.getElem?_eq_some_iff.1 hx).1
 obtain ⟨b,off,rfl,hc⟩:=hs.row i _ (spanRows_at hx)
 refine zR (zt O (zN (zJ (zY [] (ve 0 O O (fun S' hS'=>zA fun K hK=>zE O (zB (hS' O) (by simp) (cell_of (H.qx.get h1) O)) hK) (vC 1 O O O (vF 2 O O (fun _ _ hK=>vq O O (by omega) (by omega) hK) (zLf 3 O O O (ve 4 O O (fun S' hS'=>zA fun K hK=>zE O (zB (hS' O) (by simp) (vS (i:=1) (H.qx.cells hc) O)) hK) (ve 5 O O (fun S' hS'=>zA fun K hK=>zE O (zB (hS' O) (by simp) (cell_of (H.qx.get h2) O)) hK) (zCm 6 O O (fun S' _=>zA fun K hK=>W_bin O O O hK) fun t11 h11=>vC 7 O O O (zT (ze (zi (z9 O ?_)))))))))))))))
 exact k _ _ H.qx (h11.trans Iff.rfl)
theorem ct186 (h1:S0 b1=some ⟨Cs [.slice a sp.length c] 124,true⟩) (h2:S0 b2=some ⟨Cs [int q] 3,true⟩) (hs:Sl S0 5 a (spanRows sp)) (hx:sp[i]? = some x) (k:∀ (t:Bool) S',Ext [] S0 S'→(t=true↔q<x.ot)→K (.bool t) S') :
  zC 186 #[int i,vN b1 0,vN b2 0] S0 K:=by
 refine zGh (sf:=s186) Tryz.func186 fun H=>?_
 have hi:=(List.getElem?_eq_some_iff.1 hx).1
 obtain ⟨b,off,rfl,hc⟩:=hs.row i _ (spanRows_at hx)
 refine zR (zt O (zN (zJ (zY [] (ve 0 O O (fun S' hS'=>zA fun K hK=>zE O (zB (hS' O) (by simp) (cell_of (H.qx.get h1) O)) hK) (vC 1 O O O (vF 2 O O (fun _ _ hK=>vq O O (by omega) (by omega) hK) (zLf 3 O O O (ve 4 O O (fun S' hS'=>zA fun K hK=>zE O (zB (hS' O) (by simp) (vS (i:=3) (H.qx.cells hc) O)) hK) (ve 5 O O (fun S' hS'=>zA fun K hK=>zE O (zB (hS' O) (by simp) (cell_of (H.qx.get h2) O)) hK) (zCm 6 O O (fun S' _=>zA fun K hK=>W_bin O O O hK) fun t11 h11=>vC 7 O O O (zT (ze (zi (z9 O ?_)))))))))))))))
 exact k _ _ H.qx (h11.trans Iff.rfl)
theorem ct132 (hs:Sl S0 5 a (spanRows sp)) (hl:sp.length≤1099511627776) (hsm:SpM sp) (k:∀  S',Ext [] S0 S'→K (int (outD 0 sp q)) S') :
  zC 132 #[.slice a sp.length c,int q] S0 K:=by
 refine zGh (sf:=s132) Tryz.func132 fun H=>zR (zBx H O O fun b2 S hb2 hE H=>zBx H O O fun b3 S hb3 hE H=>zt O (v4 (zL1 H O .h1 O (zLl O (za (W_mkFunc O O ?_))))))
 refine za (zP O (ct185 (p:=fun i=>∀ x,sp[i]? = some x→q<x.t) (by omega) (fun i S1 hi hE1 K k=>⟨_,_,_,_,O,Tryz.func206,O,O,ct206 (sp:=sp) (hE1.get (H.get .h1)) (hE1.get (H.get .h)) ((hs.mono H.qx).mono hE1) (List.getElem?_eq_getElem hi) fun t S2 hE2 ht=>k t S2 hE2 (ht.trans ⟨fun h x hx=>by rw [List.getElem?_eq_getElem hi] at hx;cases hx;exact h,fun h=>h _ (List.getElem?_eq_getElem hi)⟩)⟩) (fun i j hij hj hp y hy=>by
  obtain ⟨x,hx⟩:∃ x,sp[i]? = some x:=⟨sp[i]'(by omega),by simp⟩
  have h1:=hp x hx
  have h2:=hsm i j x y hx hy hij
  omega) fun r9 S hE hr9 hlo9 hhi9=>?_))
 replace H:=H.call hE
 have hlo:∀ i x,i<r9→sp[i]? = some x→¬ q<x.t:=fun i x hi hx hq=>hlo9 i hi fun y hy=>by rw [hx] at hy;cases hy;exact hq
 refine zt O (zN (zJ (zK (zR (zt O (zL1 H O .h1 O (zLl O (za (vT O O fun t14 h14=>zt O (zN ?_))))))))))
 rcases t14 with _|_
 ·replace h14:=bF h14
  refine zr O (zR (zt O (za (W_gtr O O fun t22 h22=>zt O (zN ?_)))))
  rcases t22 with _|_
  ·replace h22:=bF h22
   refine zr O (zv (z_ (ze (zR (zt O (zN (zi (z9 O ?_))))))))
   rw [outD_none (by omega)] at k
   exact k _ H.qx
  ·replace h22:=bT h22
   obtain ⟨x,hx⟩:∃ x,sp[r9-1]? = some x:=⟨sp[r9-1]'(by omega),by simp⟩
   obtain ⟨b,off,rfl,hc⟩:=hs.row (r9-1) _ (spanRows_at hx)
   have e1:((r9:Int)-1).toNat=r9-1:=by omega
   refine zj O (zR (zL1 H O .h1 O (zt O (zSb O O (zIa O O (vZ O (za (zE O (vS (i:=3) (H.qx.cells (by rw [e1];exact hc)) O) (zt O (zN (zi (vg (zw (z9 O ?_))))))))))))))
   rw [outD_last hlo (by omega) (by omega) hx] at k
   exact k _ H.qx
 ·replace h14:=bT h14
  obtain ⟨x,hx⟩:∃ x,sp[r9]? = some x:=⟨sp[r9]'(by omega),by simp⟩
  obtain ⟨b,off,rfl,hc⟩:=hs.row r9 _ (spanRows_at hx)
  have hqx:=hhi9 r9 (Nat.le_refl _) (by omega) x hx
  refine zj O (zR (zL1 H O .h1 O (zt O (zIa O O (vZ O (za (zE O (vS (i:=2) (H.qx.cells hc) O) (zt O (zN (zi (vg (zw (z9 O ?_)))))))))))))
  rw [outD_at hlo hx hqx] at k
  exact k _ H.qx
theorem ct100 (hs:Sl S0 5 a (spanRows sp)) (hl:sp.length≤1099511627776) (hq:-1099511627776≤q∧q≤1099511627776) (hb:∀ x∈sp,(0≤x.f∧x.f≤4398046511104)∧(0≤x.oa∧x.oa≤4398046511104)) (hsm:SpM sp) (k:∀  S',Ext [] S0 S'→K (int (backD 0 sp q)) S') :
  zC 100 #[.slice a sp.length c,int q] S0 K:=by
 refine zGh (sf:=s100) Tryz.func100 fun H=>zR (zBx H O O fun b2 S hb2 hE H=>zBx H O O fun b3 S hb3 hE H=>zt O (v4 (zL1 H O .h1 O (zLl O (za (W_mkFunc O O ?_))))))
 refine za (zP O (ct185 (p:=fun i=>∀ x,sp[i]? = some x→q<x.ot) (by omega) (fun i S1 hi hE1 K k=>⟨_,_,_,_,O,Tryz.func186,O,O,ct186 (sp:=sp) (hE1.get (H.get .h1)) (hE1.get (H.get .h)) ((hs.mono H.qx).mono hE1) (List.getElem?_eq_getElem hi) fun t S2 hE2 ht=>k t S2 hE2 (ht.trans ⟨fun h x hx=>by rw [List.getElem?_eq_getElem hi] at hx;cases hx;exact h,fun h=>h _ (List.getElem?_eq_getElem hi)⟩)⟩) (fun i j hij hj hp y hy=>by
  obtain ⟨x,hx⟩:∃ x,sp[i]? = some x:=⟨sp[i]'(by omega),by simp⟩
  have h1:=hp x hx
  have h2:=hsm i j x y hx hy hij
  omega) fun r9 S hE hr9 hlo9 hhi9=>?_))
 replace H:=H.call hE
 have hlo:∀ i x,i<r9→sp[i]? = some x→¬ q<x.ot:=fun i x hi hx hq=>hlo9 i hi fun y hy=>by rw [hx] at hy;cases hy;exact hq
 refine zt O (zN (zJ (zK (zJ (zY [] (vC 0 O O O (ve 1 O O (fun S' hS'=>zA fun K hK=>zE O (zB (hS' O) (by simp) (H.cell .h1 O)) hK) (vF 2 O O (fun _ _ hK=>W_lenL O hK) (zCm 3 O O (fun S' _=>zA fun K hK=>W_bin O O O hK) fun t14 h14=>vC 4 O O O ?_)))))))))
 rcases t14 with _|_
 ·replace h14:=bF h14
  refine ve 5 O O (fun S' _=>vd O (by decide)) (ve 6 O O (fun S' _=>vd O (by decide)) (ve 7 O O (fun S' _=>vd O (by decide)) (ve 8 O O (fun S' _=>vd O (by decide)) (ve 9 O O (fun S' _=>vd O (by decide)) (vF 10 O O (fun _ _ hK=>vM O O O O hK) (vC 11 O O O (ve 12 O O (fun S' _=>vd O (by decide)) (ve 13 O O (fun S' _=>vd O (by decide)) (ve 14 O O (fun S' _=>vd O (by decide)) (ve 15 O O (fun S' _=>vd O (by decide)) (ve 16 O O (fun S' _=>vd O (by decide)) (ve 17 O O (fun S' _=>vd O (by decide)) (ve 18 O O (fun S' _=>vd O (by decide)) (vF 19 O O (fun _ _ hK=>vM O O O O hK) (vC 20 O O O (zT (ze (zr O (zR (zt O (zL1 H O .h1 O (zLl O (za (vT O O fun t48 h48=>zt O (zN ?_)))))))))))))))))))))))))
  rcases t48 with _|_
  ·replace h48:=bF h48
   refine zr O (zR (zt O (za (W_gtr O O fun t56 h56=>zt O (zN ?_)))))
   rcases t56 with _|_
   ·replace h56:=bF h56
    refine zr O (zv (z_ (ze (zR (zt O (zN (zi (z9 O ?_))))))))
    rw [backD_none (by omega)] at k
    exact k _ H.qx
   ·replace h56:=bT h56
    obtain ⟨x,hx⟩:∃ x,sp[r9-1]? = some x:=⟨sp[r9-1]'(by omega),by simp⟩
    obtain ⟨b,off,rfl,hc⟩:=hs.row (r9-1) _ (spanRows_at hx)
    have e1:((r9:Int)-1).toNat=r9-1:=by omega
    refine zj O (zR (zL1 H O .h1 O (zt O (zSb O O (zIa O O (vZ O (za (zE O (vS (i:=1) (H.qx.cells (by rw [e1];exact hc)) O) (zt O (zN (zi (vg (zw (z9 O ?_))))))))))))))
    rw [backD_last hlo (by omega) (by omega) hx] at k
    exact k _ H.qx
  ·replace h48:=bT h48
   exact absurd h48 (by omega)
 ·replace h14:=bT h14
  obtain ⟨⟨xf,xt,xoa,xot,xpl⟩,hx⟩:∃ x,sp[r9]? = some x:=⟨sp[r9]'(by omega),by simp⟩
  obtain ⟨b,off,rfl,hc⟩:=hs.row r9 _ (spanRows_at hx)
  have hqx:=hhi9 r9 (Nat.le_refl _) (by omega) _ hx
  have hpl:xpl=true↔xpl=true:=Iff.rfl
  have hbx:=hb _ (List.mem_of_getElem? hx)
  simp only at hqx hbx
  refine ve 5 O O (fun S' hS'=>vi O fun K hK=>zE O (zB (hS' O) (by simp) (H.cell .h1 O)) hK) (ve 6 O O (fun S' _=>vi O fun K hK=>vP O hK) (ve 7 O O (fun S' _=>vi O fun K hK=>vq O O (by omega) (by omega) hK) (ve 8 O O (fun S' _=>vi O fun K hK=>zD O hK) (ve 9 O O (fun S' hS'=>vi O fun K hK=>zE O (zB (hS' O) (by simp) (vS (i:=4) (v:=.bool xpl) (H.qx.cells hc) O)) hK) (vF 10 O O (fun _ _ hK=>vM O O O O hK) (vC 11 O O O ?_))))))
  rcases xpl with _|_
  ·replace hpl:=bF hpl
   refine ve 12 O O (fun S' _=>vd O (by decide)) (ve 13 O O (fun S' _=>vd O (by decide)) (ve 14 O O (fun S' _=>vd O (by decide)) (ve 15 O O (fun S' _=>vd O (by decide)) (ve 16 O O (fun S' _=>vd O (by decide)) (ve 17 O O (fun S' _=>vd O (by decide)) (ve 18 O O (fun S' _=>vd O (by decide)) (vF 19 O O (fun _ _ hK=>vM O O O O hK) (vC 20 O O O (zT (ze (zr O (zR (zt O (zL1 H O .h1 O (zLl O (za (vT O O fun t48 h48=>zt O (zN ?_))))))))))))))))))
   rcases t48 with _|_
   ·replace h48:=bF h48
    exact absurd (by omega) h48
   ·replace h48:=bT h48
    refine zj O (zR (zL1 H O .h1 O (zt O (zIa O O (vZ O (za (zE O (vS (i:=0) (v:=int xf) (H.qx.cells hc) O) (zt O (zN (zi (vg (zw (z9 O ?_)))))))))))))
    rw [backD_at hlo hx hqx,if_neg (by first | exact fun h=>h29 h.2 | (intro h;exact absurd h.1 (by simp)))] at k
    exact k _ H.qx
  ·replace hpl:=bT hpl
   refine ve 12 O O (fun S' hS'=>vi O fun K hK=>zE O (zB (hS' O) (by simp) (H.cell .h O)) hK) (ve 13 O O (fun S' hS'=>vi O fun K hK=>zE O (zB (hS' O) (by simp) (H.cell .h1 O)) hK) (ve 14 O O (fun S' _=>vi O fun K hK=>vP O hK) (ve 15 O O (fun S' _=>vi O fun K hK=>vq O O (by omega) (by omega) hK) (ve 16 O O (fun S' _=>vi O fun K hK=>zD O hK) (ve 17 O O (fun S' hS'=>vi O fun K hK=>zE O (zB (hS' O) (by simp) (vS (i:=2) (v:=int xoa) (H.qx.cells hc) O)) hK) (zCm 18 O O (fun S' _=>vi O fun K hK=>W_bin O O O hK) fun t29 h29=>vF 19 O O (fun _ _ hK=>vM O O O O hK) (vC 20 O O O (zT (ze ?_)))))))))
   rcases t29 with _|_
   ·replace h29:=bF h29
    refine zr O (zR (zt O (zL1 H O .h1 O (zLl O (za (vT O O fun t48 h48=>zt O (zN ?_)))))))
    rcases t48 with _|_
    ·replace h48:=bF h48
     exact absurd (by omega) h48
    ·replace h48:=bT h48
     refine zj O (zR (zL1 H O .h1 O (zt O (zIa O O (vZ O (za (zE O (vS (i:=0) (v:=int xf) (H.qx.cells hc) O) (zt O (zN (zi (vg (zw (z9 O ?_)))))))))))))
     rw [backD_at hlo hx hqx,if_neg (by first | exact fun h=>h29 h.2 | (intro h;exact absurd h.1 (by simp)))] at k
     exact k _ H.qx
   ·replace h29:=bT h29
    refine zj O (zJ (zY [] (ve 0 O O (fun S' hS'=>zA fun K hK=>zE O (zB (hS' O) (by simp) (H.cell .h1 O)) hK) (vC 1 O O O (vF 2 O O (fun _ _ hK=>vq O O (by omega) (by omega) hK) (zLf 3 O O O (ve 4 O O (fun S' hS'=>zA fun K hK=>zE O (zB (hS' O) (by simp) (vS (i:=0) (v:=int xf) (H.qx.cells hc) O)) hK) (ve 5 O O (fun S' hS'=>zA fun K hK=>zE O (zB (hS' O) (by simp) (H.cell .h O)) hK) (vF 6 O O (fun _ _ hK=>W_add O O (by omega) (by omega) hK) (ve 7 O O (fun S' hS'=>zA fun K hK=>zE O (zB (hS' O) (by simp) (H.cell .h1 O)) hK) (vC 8 O O O (vF 9 O O (fun _ _ hK=>vq O O (by omega) (by omega) hK) (zLf 10 O O O (ve 11 O O (fun S' hS'=>zA fun K hK=>zE O (zB (hS' O) (by simp) (vS (i:=2) (v:=int xoa) (H.qx.cells hc) O)) hK) (vF 12 O O (fun _ _ hK=>W_sub O O (by omega) (by omega) hK) (vC 13 O O O (zT (ze (zi (vg (zw (z9 O ?_))))))))))))))))))))))
    rw [backD_at hlo hx hqx,if_pos ⟨rfl,h29⟩] at k
    exact k _ H.qx
theorem ct38 {l m:Bs} (hl:l.length≤1099511627776) (hm:m.length≤1099511627776) (hq:-1099511627776≤q∧q≤1099511627776) (k:∀  S',Ext [] S0 S'→K (int (backD 0 (vQ l m) q)) S') :
  zC 38 #[str l,str m,int q] S0 K:=by
 refine zGh (sf:=s38) Tryz.func38 fun H=>zR (zt O (v4 (zt O (zt O (vK O (ct99 (by omega) (by omega) fun b9 cap9 S hE hb9 hO9=>?_))))))
 replace H:=H.call hE
 refine zt O (vK O (ct100 hO9.sl (by have:=spansO_len l m;omega) hq (spansO_ok (by omega) (by omega)) (SpM_spansO l m) fun S hE =>?_))
 replace H:=H.call hE
 refine zt O (zN (zi (z9 O ?_)))
 exact k _ H.qx
end
section
open Go
def encB (n:Nat):List UInt8:=(Utf8.encode (n:Int)).data.toList
theorem enc_all:(List.range 256).all (fun n=>decide (encB n=[59])==decide (n=59))=true:=by decide +kernel
theorem enc_t1 (n:Nat) (hn:n<256):(decide (encB n=[59])==decide (n=59))=true:=List.all_eq_true.1 enc_all n (List.mem_range.2 hn)
theorem enc_t2 (n:Nat) (hn:n<256):encB n=[59]↔n=59:=by
 have h:=enc_t1 n hn
 by_cases h1:encB n=[59]<;>by_cases h2:n=59<;>simp_all
theorem enc_c (c:UInt8):encB c.toNat=[59]↔c.toNat=59:=by
 have hlt:c.toNat<256:=c.toNat_lt
 generalize c.toNat=n at hlt ⊢
 exact enc_t2 n hlt
theorem ba_back (b:ByteArray) (l:List UInt8) (h:l=b.data.toList):(⟨l.toArray⟩:ByteArray)=b:=by subst h;rw [Array.toArray_toList]
theorem encB_eq (n:Nat):(⟨(encB n).toArray⟩:ByteArray)=Utf8.encode (n:Int):=ba_back _ _ (encB.eq_1 n)
theorem W_runeStr {P:Program} {E:Env} {S:St} {K:Value→St→Prop} {src dst ty:TypeId} {kd:IntKind} {x:Operand} {c:UInt8} (hs:P.underlying src=some (.int kd)) (hd:P.underlying dst=some .string) (hx:E.ev x=some (.int .i32 c.toNat)) (k:∀ l:List UInt8,(l=[59]↔c.toNat=59)→K (.string ⟨l.toArray⟩) S):(SOp.raw (.convert src dst x) ty).W P E S K:=by
 have h2:=k (encB c.toNat) (enc_c c)
 rw [encB_eq] at h2
 refine .mk fun ρ hρ=>?_
 have h1:=hρ x (by simp [Op.operands]) _ hx
 simp only [execOp,h1,convert,zz,zX hs,zX hd,Conv.intToString,zH,UponS]
 exact h2
end
section
open Go
theorem W_send {P:Program} {E:Env} {S:St} {K:Value→St→Prop} {ty:TypeId} {x y:Operand} {c:Nat} {v:Value} {vs:List Value} (hx:E.ev x=some (.chan (some c))) (hy:E.ev y=some v) (hg:S.g=.sends c (v::vs)) (k:K undef {S with g:=.sends c vs}):(SOp.raw (.send x y) ty).W P E S K:=
 .comm fun ρ hρ=>⟨c,v,vs,hρ x (by simp [Op.operands]) _ hx,hρ y (by simp [Op.operands]) _ hy,hg,k⟩
theorem Loc.sent {X:List Nat} {S0 S:St} {L:List (Nat × Obj)} (H:Loc X S0 S L) (g:Gh):Loc X {S0 with g:=g} {S with g:=g} L:=
 ⟨⟨rfl,H.g.keep,H.g.ro,H.g.new⟩,H.ext,H.own,H.fresh,H.nodup⟩
theorem Loc.quiet {X:List Nat} {S0 S:St} {L:List (Nat × Obj)} (H:Loc X S0 S L) {g:Gh} (hg:S0.g=g):Loc X {S0 with g:=g} S L:=
 ⟨⟨H.g.eq.trans hg,H.g.keep,H.g.ro,H.g.new⟩,H.ext,H.own,H.fresh,H.nodup⟩
theorem Glob.ne {S:St} (h:Glob S) {b:Nat} (hb:S b=none):b∉[1,2,4]:=by
 obtain ⟨t,a,e1⟩:=h.e1
 obtain ⟨t2,a2,e2⟩:=h.e2
 have e4:=h.p2
 intro hm
 simp only [List.mem_cons,List.not_mem_nil,or_false] at hm
 rcases hm with rfl | rfl | rfl
 ·simp [St.cell?,hb] at e1
 ·simp [St.cell?,hb] at e2
 ·simp [St.cell?,hb] at e4
theorem Glob.qy {S S':St} (h:Glob S) {n:Nat} (he:Ext [n] S S') (hn:n∉[1,2,4]):Glob S':=by
 simp only [List.mem_cons,List.not_mem_nil,or_false,not_or] at hn
 obtain ⟨t,a,e1⟩:=h.e1
 obtain ⟨t2,a2,e2⟩:=h.e2
 exact ⟨zB he.ext (by simp;omega) h.p2,zB he.ext (by simp;omega) h.p3,⟨t,a,zB he.ext (by simp;omega) e1⟩,⟨t2,a2,zB he.ext (by simp;omega) e2⟩⟩
theorem Sl.sent {S:St} {k:Nat} {a:Option Addr} {rows:List (List Value)} (h:Sl S k a rows) (g:Gh):Sl {S with g:=g} k a rows:=⟨h.row,h.base⟩
theorem cutS_len (s:Seg) (far:Bs):∀ n a,far.length-a≤n→(cutS s far a).length≤n:=by
 intro n
 induction n with
 | zero=>intro a h;rw [cutS_end (by omega)];simp
 | succ n ih=>
  intro a h
  by_cases h1:a<far.length
  ·rw [cutS_step h1]
   have:=ih (a+12) (by omega)
   simp;omega
  ·rw [cutS_end h1];simp
theorem cutO_len (s:Seg) (far:Bs) (a:Nat):(cutO s far a).length≤far.length+1:=by
 unfold cutO
 split
 ·have:=cutS_len s far far.length a (by omega);omega
 ·simp
theorem says_len {l:Bs} {e:End} (h:says l=some e):8≤l.length:=by
 unfold says at h
 obtain ⟨x,hx,_⟩:=Option.bind_eq_some_iff.1 h
 unfold said at hx
 split at hx
 ·rename_i hp
  have h1:=rd_spec hx
  have h2:=hp.length_le
  have h3:l.drop 5=eTxt x.a x.p:=h1.2
  have h4:=congrArg List.length h3
  have h5:=dig_pos x.a.toNat
  have h6:=dig_pos x.p.toNat
  have h7:PORT.length=5:=rfl
  unfold eTxt at h4
  simp at h4
  omega
 ·cases hx
theorem putP_bd {es:List End} {e:End} (h:es.length≤6):0≤putP es e∧putP es e≤506:=by
 unfold putP portE
 split
 ·rename_i hm;have:=List.idxOf_lt_length_of_mem hm;omega
 ·split<;>omega
theorem line_len {p:Int} (h:0≤p∧p≤9999):(⟨50,p⟩:End).line.length≤12:=by
 unfold End.line
 split
 ·have h1:(dig p.toNat).length≤4:=dig_le4 (by omega)
  have h2:dig (50:Int).toNat=[53,48]:=by decide +kernel
  unfold End.txt eTxt
  simp only [List.length_append,h2]
  have:PORT.length=5:=rfl
  simp;omega
 ·simp
theorem lineOut_grow {es:List End} {l:Bs} (h:es.length≤6):2*((vO es l).2.length+1)≤3*(l.length+1):=by
 unfold vO
 split
 ·show 2*(l.length+1)≤3*(l.length+1);omega
 ·rename_i e he
  have h1:=says_len he
  simp only
  split
  ·have:NONE.length=4:=rfl
   omega
  ·have:=line_len (p:=putP es e) (by have:=putP_bd (e:=e) h;omega)
   omega
theorem linesOut_grow {es:List End} (ls:List Bs) (h:es.length≤6):2*(linesOut es ls).2.length≤3*lsum ls:=by
 induction ls generalizing es with
 | nil=>simp [linesOut]
 | cons l ls ih=>
  have h1:=lineOut_grow (l:=l) h
  have h2:=ih (lineOut_len6 l h)
  simp only [linesOut,List.length_append,List.length_cons,List.length_nil,lsum,List.map_cons,List.sum_cons] at h2 ⊢
  omega
theorem streamO_grow {es:List End} {l:Bs} (h:es.length≤6) (hl:l.length≤120):(vt es l).2.length≤180:=by
 have h1:=linesOut_grow (es:=es) (zu l).1 h
 have h2:=lsum_lines 59 l
 unfold vt
 simp only [zu] at *
 omega
theorem pairsF_pl (a b:Nat) (ls ms:List Bs):∀ x∈pairsF a b ls ms,x.pl=true→x.t-x.f=x.ot-x.oa:=by
 induction ls generalizing a b ms with
 | nil=>simp [pairsF]
 | cons l ls ih=>
  cases ms with
  | nil=>simp [pairsF]
  | cons m ms=>
   intro x hx hp
   simp only [pairsF,List.mem_cons] at hx
   rcases hx with rfl | hx
   ·simp only [decide_eq_true_eq] at hp
    subst hp
    simp only;omega
   ·exact ih _ _ _ x hx hp
theorem backD_bd {B:Int}:∀ {sp:List Span} {n a:Int},(0≤n∧n≤B)→(∀ x∈sp,(0≤x.f∧x.f≤x.t∧x.t≤B)∧(x.pl=true→x.t-x.f=x.ot-x.oa))→0≤backD n sp a∧backD n sp a≤B:=by
 intro sp
 induction sp with
 | nil=>intro n a h _;exact h
 | cons x sp ih=>
  intro n a h hx
  have h1:=hx x (by simp)
  simp only [backD]
  split
  ·exact ih (by omega) fun y hy=>hx y (by simp [hy])
  ·split
   ·rename_i h2;have:=h1.2 h2.1;omega
   ·omega
theorem backO_bd (l m:Bs) (a:Int):0≤backD 0 (vQ l m) a∧backD 0 (vQ l m) a≤l.length:=
 backD_bd (by omega) fun x hx=>⟨by have:=spansO_bd l m x hx;omega,pairsF_pl 0 0 _ _ x hx⟩
open Classical in
noncomputable def vu (l:Bs) (s:Seg):Bs:=if StrP (grown l s) then grown l s else l
theorem addedS_ok {l:Bs} {s:Seg} (h:StrP l):StrP (vu l s):=by
 unfold vu;split
 ·assumption
 ·exact h
theorem knownC_eq (c:Conn) (s:Seg):vR c s={c with kn:=vu c.kn s}:=by
 unfold vR vu;split<;>rfl
theorem StrP.lines {l:Bs} (h:StrP l):∀ y∈(zu l).1,y.length≤18:=fun y hy=>by have:=(h.1 y hy).2;omega
theorem StrP_nil:StrP []:=⟨by simp [zu,spl],⟨by simp [zu,spl],by simp [zu,spl]⟩,by simp⟩
theorem setl_one {cs:List Value} {p:Nat} {v:Value} (h:p<cs.length):setl cs p [v]=cs.set p v:=by
 unfold setl
 apply List.ext_getElem?
 intro q
 simp only [List.length_cons,List.length_nil,List.append_assoc]
 rw [List.getElem?_append,List.getElem?_set]
 have hl:(cs.take p).length=p:=by simp;omega
 by_cases h1:q<p
 ·rw [if_pos (by omega),List.getElem?_take,if_pos h1,if_neg (by omega)]
 ·rw [if_neg (by omega),hl]
  by_cases h2:p=q
  ·subst h2
   simp [h]
  ·rw [if_neg h2,List.getElem?_append,if_neg (by simp;omega),List.getElem?_drop]
   congr 1
   simp;omega
theorem row_cell {k i j:Nat} {cs:List Value} {rows:List (List Value)} {r:List Value} {v:Value} (h:cs.take (rows.length*k)=rows.flatten) (hk:∀ r∈rows,r.length=k) (hr:rows[i]? = some r) (hj:j<k):(setl cs (i*k+j) [v]).take (rows.length*k)=(rows.set i (r.set j v)).flatten:=by
 have hi:=(List.getElem?_eq_some_iff.1 hr).1
 have hrl:=hk r (List.mem_of_getElem? hr)
 have hle:i*k+k≤rows.length*k:=by
  have:=Nat.mul_le_mul_right k (show i+1≤rows.length by omega)
  rw [Nat.add_mul] at this;omega
 have hcl:rows.length*k≤cs.length:=by
  have:=congrArg List.length h
  rw [List.length_take,flat_len hk] at this;omega
 have hsub:subl cs (i*k) k=some r:=by have:=row_sub h hk hr;rwa [Nat.zero_add] at this
 have hsb:i*k+k≤cs.length∧(cs.drop (i*k)).take k=r:=by
  unfold subl at hsub
  split at hsub
  ·exact ⟨by assumption,Option.some.inj hsub⟩
  ·cases hsub
 have e:setl cs (i*k+j) [v]=setl cs (i*k) (r.set j v):=by
  rw [setl_one (by omega)]
  unfold setl
  apply List.ext_getElem?
  intro q
  have hl:(cs.take (i*k)).length=i*k:=by simp;omega
  simp only [List.append_assoc,List.length_set,hrl]
  rw [List.getElem?_append,List.getElem?_set,hl]
  by_cases h1:q<i*k
  ·rw [if_neg (by omega),if_pos h1,List.getElem?_take,if_pos h1]
  ·rw [if_neg h1,List.getElem?_append,List.length_set,hrl]
   by_cases h2:q-i*k<k
   ·rw [if_pos h2,List.getElem?_set]
    by_cases h3:i*k+j=q
    ·rw [if_pos h3,if_pos (by omega),if_pos (by omega),if_pos (by omega)]
    ·rw [if_neg h3,if_neg (by omega),← hsb.2,List.getElem?_take,if_pos h2,List.getElem?_drop]
     congr 1;omega
   ·rw [if_neg h2,if_neg (by omega),List.getElem?_drop]
    congr 1;omega
 rw [e]
 have h9:=row_setl (r:=r.set j v) h hk (by rw [List.length_set];exact hrl) hi
 rw [Nat.zero_add,List.length_set] at h9
 exact h9
end
section
variable {S0:St} {K:Value→St→Prop}
variable {l:Bs} {s:Seg}
theorem wrapi32_in {n:Int} (h0:0≤n) (h1:n≤255):IntKind.i32.wrap n=n:=by
 simp only [IntKind.wrap,IntKind.signed,IntKind.bits,Bool.true_and]
 have e:n.emod (2 ^ 32)=n:=Int.emod_eq_of_lt h0 (by omega)
 (simp only [show n % 2 ^ 32=n from e];simp;omega)
theorem ct31 (hl:s.dt.length≤1099511627776) (k:∀ (t:Bool) S',Ext [] S0 S'→(t=true↔SegP s)→K (.bool t) S') :
  zC 31 #[s.v] S0 K:=by
 refine zGh (sf:=s31) Tryz.func31 fun H=>zR (zBx H O O fun b1 S hb1 hE H=>zt O (zN (zSS (vZ O (zL1 H O .h O (za (W_strBytes H O fun b7 cap7 S hc7 hb7 hE H=>zLl O (zt O (zN (zK ?_))))))))))
 refine vA (fun E S m_=>∃ (i:Nat),E=Env.lst [(1,vN b1 0),(7,sl b7 0 s.dt.length cap7),(8,int s.dt.length),(9,int i)]∧Loc [] S0 S [(b7,BytesO s.dt cap7 5),(b1,Cs s.row 33)]∧(i≤s.dt.length)∧(∀ c∈s.dt.take i,SegB c)∧m_=s.dt.length-i) ?_ ?_
 ·skip
  refine ⟨_,_,?le,0,O,H,(by omega),(by simp),O⟩
  case le=>exact Env.qle ⟨O,O,O,O,⟨⟩⟩
 ·skip
  rintro _ S _ ⟨i,rfl,H,hi,hp,rfl⟩
  refine zR (za (vT O O fun t10 h10=>zN (zJ ?_)))
  rcases t10 with _|_
  ·replace h10:=bF h10
   refine zr O (vz (zZ (zZ (vH (ze (zR (vZ O (zLn (vs:=[_,_]) H O .h1 O (vK O (ct89  fun t25 S hE h25=>?_))))))))))
   replace H:=H.call hE
   refine zt O ?_
   rcases t25 with _|_
   ·replace h25:=bF h25
    refine zL O (zL O (zL O (vw O O O O (zt O (zL O (zL O (zL O (vw O O O O (zt O (zL O (zL O (zL O (vw O O O O (zt O (zL O (zL O (zL O (zL O (vw O O O O (zt O (zN (zi (z9 O ?_)))))))))))))))))))))))
    (rw [show i=s.dt.length by omega,List.take_length] at hp;exact k _ _ H.qx (by unfold SegP;first | (rw [h45];exact ⟨fun h=>⟨h25,h29,h34,h39,by omega,hp⟩,fun h=>by have:=h.2.2.2.2.1;omega⟩) | exact ⟨nofun,fun h=>absurd h.1 h25⟩ | exact ⟨nofun,fun h=>absurd h.2.1 h29⟩ | exact ⟨nofun,fun h=>absurd h.2.2.1 h34⟩ | exact ⟨nofun,fun h=>absurd h.2.2.2.1 h39⟩))
   ·replace h25:=bT h25
    refine zh O (zD O (zh O (W_loadN (vs:=[_,_]) H O .h1 O (zh O (zP O (ct89  fun t29 S hE h29=>?_))))))
    replace H:=H.call hE
    refine vw O O O O (zt O ?_)
    rcases t29 with _|_
    ·replace h29:=bF h29
     refine zL O (zL O (zL O (vw O O O O (zt O (zL O (zL O (zL O (vw O O O O (zt O (zL O (zL O (zL O (zL O (vw O O O O (zt O (zN (zi (z9 O ?_))))))))))))))))))
     (rw [show i=s.dt.length by omega,List.take_length] at hp;exact k _ _ H.qx (by unfold SegP;first | (rw [h45];exact ⟨fun h=>⟨h25,h29,h34,h39,by omega,hp⟩,fun h=>by have:=h.2.2.2.2.1;omega⟩) | exact ⟨nofun,fun h=>absurd h.1 h25⟩ | exact ⟨nofun,fun h=>absurd h.2.1 h29⟩ | exact ⟨nofun,fun h=>absurd h.2.2.1 h34⟩ | exact ⟨nofun,fun h=>absurd h.2.2.2.1 h39⟩))
    ·replace h29:=bT h29
     refine zh O (zD O (zh O (vr H O .h1 O (zh O (zP O (ct70  fun t34 S hE h34=>?_))))))
     replace H:=H.call hE
     refine vw O O O O (zt O ?_)
     rcases t34 with _|_
     ·replace h34:=bF h34
      refine zL O (zL O (zL O (vw O O O O (zt O (zL O (zL O (zL O (zL O (vw O O O O (zt O (zN (zi (z9 O ?_)))))))))))))
      (rw [show i=s.dt.length by omega,List.take_length] at hp;exact k _ _ H.qx (by unfold SegP;first | (rw [h45];exact ⟨fun h=>⟨h25,h29,h34,h39,by omega,hp⟩,fun h=>by have:=h.2.2.2.2.1;omega⟩) | exact ⟨nofun,fun h=>absurd h.1 h25⟩ | exact ⟨nofun,fun h=>absurd h.2.1 h29⟩ | exact ⟨nofun,fun h=>absurd h.2.2.1 h34⟩ | exact ⟨nofun,fun h=>absurd h.2.2.2.1 h39⟩))
     ·replace h34:=bT h34
      refine zh O (zD O (zh O (vr H O .h1 O (zh O (zP O (ct70  fun t39 S hE h39=>?_))))))
      replace H:=H.call hE
      refine vw O O O O (zt O ?_)
      rcases t39 with _|_
      ·replace h39:=bF h39
       refine zL O (zL O (zL O (zL O (vw O O O O (zt O (zN (zi (z9 O ?_))))))))
       (rw [show i=s.dt.length by omega,List.take_length] at hp;exact k _ _ H.qx (by unfold SegP;first | (rw [h45];exact ⟨fun h=>⟨h25,h29,h34,h39,by omega,hp⟩,fun h=>by have:=h.2.2.2.2.1;omega⟩) | exact ⟨nofun,fun h=>absurd h.1 h25⟩ | exact ⟨nofun,fun h=>absurd h.2.1 h29⟩ | exact ⟨nofun,fun h=>absurd h.2.2.1 h34⟩ | exact ⟨nofun,fun h=>absurd h.2.2.2.1 h39⟩))
      ·replace h39:=bT h39
       refine zh O (zD O (zh O (vr H O .h1 O (zh O (vI O (zh O (W_leq O O fun t45 h45=>vw O O O O (zt O (zN (zi (z9 O ?_)))))))))))
       (rw [show i=s.dt.length by omega,List.take_length] at hp;exact k _ _ H.qx (by unfold SegP;first | (rw [h45];exact ⟨fun h=>⟨h25,h29,h34,h39,by omega,hp⟩,fun h=>by have:=h.2.2.2.2.1;omega⟩) | exact ⟨nofun,fun h=>absurd h.1 h25⟩ | exact ⟨nofun,fun h=>absurd h.2.1 h29⟩ | exact ⟨nofun,fun h=>absurd h.2.2.1 h34⟩ | exact ⟨nofun,fun h=>absurd h.2.2.2.1 h39⟩))
  ·replace h10:=bT h10
   obtain ⟨c,hc⟩:∃ c,s.dt[i]? = some c:=⟨s.dt[i]'(by omega),by simp⟩
   have hc256:c.toNat<256:=c.toNat_lt
   refine zj O (zv (ze (zJ (zK (zR (zIa O O (za (zE O (H.byteAt .h hc) (zt O (v4 (zt O (vK O (ct88  fun t14 S hE h14=>?_)))))))))))))
   replace H:=H.call hE
   refine zNt O (zt O ?_)
   rcases t14 with _|_
   ·replace h14:=bF h14
    refine zh O (vP O (zh O (W_conv (m:=(c.toNat:Int)) O (wrapi32_in (by omega) (by omega)) (zh O (W_runeStr Tryz.underlying21 Tryz.underlying9 O fun l19 hl0=>?_)))))
    have hl19:l19=[59]↔c=59:=hl0.trans ⟨fun h=>UInt8.toNat_inj.1 h,fun h=>by rw [h];rfl⟩
    refine zh O (W_neS O O fun t20 h20=>vw O O O O (zN ?_))
    rcases t20 with _|_
    ·replace h20:=bF h20
     refine zr O (zv (z_ (ze (zU (zAd O O (zt O (zN ?_)))))))
     refine ⟨_,_,?lt,?le,(i+1),O,H,(by omega),(mem_take_succ hc hp (by first | exact .inl h14 | exact .inr (hl19.1 (Classical.not_not.1 h20)))),O⟩
     case lt=>omega
     case le=>exact Env.qle ⟨O,O,O,O,⟨⟩⟩
    ·replace h20:=bT h20
     refine zj O (zR (zt O (zN (zi (vg (zw (zw (vg (zw (z9 O ?_))))))))))
     exact k _ _ H.qx ⟨nofun,fun h=>by rcases h.2.2.2.2.2 c (List.mem_of_getElem? hc) with h | h;exact absurd h h14;exact absurd (hl19.2 h) h20⟩
   ·replace h14:=bT h14
    refine zL O (zL O (zL O (zL O (vw O O O O (zN (zr O (zv (z_ (ze (zU (zAd O O (zt O (zN ?_)))))))))))))
    refine ⟨_,_,?lt,?le,(i+1),O,H,(by omega),(mem_take_succ hc hp (by first | exact .inl h14 | exact .inr (hl19.1 (Classical.not_not.1 h20)))),O⟩
    case lt=>omega
    case le=>exact Env.qle ⟨O,O,O,O,⟨⟩⟩
theorem ct21 (hl:l.length≤524288) (hd:s.dt.length≤1048576) (hsq:-1099511627776≤s.sq∧s.sq≤1099511627776) (k:∀  S',Ext [] S0 S'→K (str (grown l s)) S') :
  zC 21 #[str l,s.v] S0 K:=by
 refine zGh (sf:=s21) Tryz.func21 fun H=>zR (zBx H O O fun b3 S hb3 hE H=>zt O (zN (zSS (vZ O (zL1 H O .h O (zt O (za (vI O (vK O (ct70  fun t9 S hE h9=>?_))))))))))
 replace H:=H.call hE
 refine zNt O (zt O ?_)
 rcases t9 with _|_
 ·replace h9:=bF h9
  refine zL O (zL O (zL O (zL O (zL O (zL O (zL O (zL O (zL O (vw O O O O (zN (zj O (zR (zt O (zt O (zN (zi (zw (z9 O ?_))))))))))))))))))
  have e:grown l s=l:=by unfold grown;rw [if_pos (by omega)]
  rw [e] at k
  exact k _ H.qx
 ·replace h9:=bT h9
  refine zh O (zD O (zh O (vr H O .h O (zh O (zD O (zh O (vr H O .h O (zh O (vI O (zh O (W_add O O (by omega) (by omega) (zh O (vP O (zh O (vI O (zh O (W_leq O O fun t20 h20=>vw O O O O (zN ?_))))))))))))))))))
  rcases t20 with _|_
  ·replace h20:=bF h20
   refine zr O (zv (ze (zR (zt O (vZ O (zL1 H O .h O (zt O (za (vI O (vZ O (zL1 H O .h O (zSb O O (za (W_slSlo O O (by omega) (by omega) (za (W_catS O O (by simp;omega) (vK O (ct71 (by simp;omega) fun S hE =>?_))))))))))))))))))
   replace H:=H.call hE
   refine zt O (zN (zi (z9 O ?_)))
   have e:grown l s=l++s.dt.drop ((l.length:Int)-s.sq).toNat:=by unfold grown;rw [if_neg (by omega)]
   rw [e] at k
   exact k _ H.qx
  ·replace h20:=bT h20
   refine zj O (zR (zt O (zt O (zN (zi (zw (z9 O ?_)))))))
   have e:grown l s=l:=by unfold grown;rw [if_pos (by omega)]
   rw [e] at k
   exact k _ H.qx
theorem ct130 (hl:l.length≤524288) (hd:s.dt.length≤1048576) (hsq:-1099511627776≤s.sq∧s.sq≤1099511627776) (k:∀  S',Ext [] S0 S'→K (str (vu l s)) S') :
  zC 130 #[str l,s.v] S0 K:=by
 refine zGh (sf:=s130) Tryz.func130 fun H=>zR (zBx H O O fun b3 S hb3 hE H=>zt O (zN (zSS (zt O (zLn (vs:=[_,_,_,_,_,_,_]) H O .h O (vK O (ct21 (by omega) (by omega) (by omega) fun S hE =>?_)))))))
 replace H:=H.call hE
 refine zt O (v4 (zt O (vK O (ct147 (by have:=grown_len l s;omega) fun t10 S hE h10=>?_))))
 replace H:=H.call hE
 refine zN ?_
 rcases t10 with _|_
 ·replace h10:=bF h10
  refine zr O (zv (ze (zR (zt O (zt O (zN (zi (z9 O ?_))))))))
  (rw [show vu l s=l from if_neg h10] at k;exact k _ H.qx)
 ·replace h10:=bT h10
  refine zj O (zR (zt O (zt O (zN (zi (zw (z9 O ?_)))))))
  (rw [show vu l s=grown l s from if_pos h10] at k;exact k _ H.qx)
theorem ct207 {q:Nat} (hl:l.length≤1099511627776) (hq:q≤1099511627776) (k:∀ b S',Ext [] S0 S'→(S0 b=none)→(Sl S' 7 (some ⟨b,0,none⟩) (segRows (cutO s l q)))→K (sl b 0 (cutO s l q).length (cutO s l q).length) S') :
  zC 207 #[s.v,str l,int q] S0 K:=by
 refine zGh (sf:=s207) Tryz.func207 fun H=>zR (zBx H O O fun b3 S hb3 hE H=>zt O (v4 (za (zS (cs:=[]) H O O fun b8 S hb8 hE H=>zt O (zN (zJ (zK ?_)))))))
 refine vA (fun E S m_=>∃ (a:Nat) (out:List Seg) (b7:Nat) (cap7:Nat) (cs7:List Value) (q1:Int) (d1:Bs),E=Env.lst [(1,str l),(2,int a),(3,vN b3 0),(7,sl b7 0 out.length cap7)]∧Loc [] S0 S [(b7,Cs cs7 33),(b3,Cs ({s with sq:=q1,dt:=d1}:Seg).row 33)]∧(out.length≤cap7)∧(cs7.length=cap7*7)∧(cs7.take (out.length*7)=(segRows out).flatten)∧(out++cutS s l a=cutS s l q)∧(out.length≤a)∧(a≤1099511627776+l.length)∧m_=l.length-a) ?_ ?_
 ·skip
  refine ⟨_,_,?le,q,[],b8,0,[],s.sq,s.dt,O,H,(by simp),(by simp),(by simp),(by simp),(by simp),(by omega),O⟩
  case le=>exact Env.qle ⟨O,O,O,O,⟨⟩⟩
 ·skip
  rintro _ S _ ⟨a,out,b7,cap7,cs7,q1,d1,rfl,H,hn,hcl,hct,hc,hol,ha,rfl⟩
  refine zSS (zt O (zt O (za (vI O (za (vT O O fun t12 h12=>zN ?_))))))
  rcases t12 with _|_
  ·replace h12:=bF h12
   refine zr O (vz (zZ (zZ (vH (ze (zSS (zt O (zLl O (za (vW O O fun t32 h32=>zN ?_))))))))))
   rcases t32 with _|_
   ·replace h32:=bF h32
    refine zr O (zv (ze (zR (zt O (zt O (zLl O (zt O (zLl O (za (W_clip O O O (by omega) (zt O (zN (zi (z9 O ?_))))))))))))))
    have he:cutS s l a=[]:=cutS_end (by omega)
    rw [he,List.append_nil] at hc
    have hq2:q<l.length:=Classical.byContradiction fun h=>by rw [cutS_end h] at hc;rw [hc] at h32;exact h32 rfl
    have hco:cutO s l q=out:=by unfold cutO;rw [if_pos hq2,hc]
    rw [hco] at k
    exact k _ _ H.qx (H.new1 .h) (vc (H.get .h) rfl (by simpa using hct) segRows_seven)
   ·replace h32:=bT h32
    refine zj O (zR (zt O (za (vI O (vZ O (zSs H O O O .h1 O fun S hE H=>vZ O (zSs H O O O .h1 O fun S hE H=>zN (zU (zt O (zLn (vs:=[_,_,_,_,_,_,_]) H O .h1 O (za (zS (cs:=[_,_,_,_,_,_,_]) H O O fun b39 S hb39 hE H=>za (W_append H O O .h1 hcl hn (Src.own H .h O) (by simp [vY,setl]) O (by decide) (by omega) O fun b40 cap40 cs40 S hb40 H hE hn40 hcl40 hct40=>zt O (v4 (zt O (zt O (zLl O (zt O (zLl O (za (W_clip O O O (by omega) (zt O (zN (zi (z9 O ?_)))))))))))))))))))))))))
    have he:cutS s l a=[]:=cutS_end (by omega)
    rw [he,List.append_nil] at hc
    have ho:out=[]:=List.eq_nil_of_length_eq_zero (by omega)
    have hq2:¬ q<l.length:=fun h=>by rw [ho,cutS_step h] at hc;cases hc
    have hco:cutO s l q=[{s with sq:=l.length,dt:=[]}]:=by unfold cutO;rw [if_neg hq2]
    rw [hco] at k
    subst ho
    exact k _ _ H.qx (H.new1 .h) (vc (H.get .h) rfl (by simpa using hct40) segRows_seven)
  ·replace h12:=bT h12
   refine zj O (zv (ze (zK (zR (zt O (vZ O (zSs H O O O .h1 O fun S hE H=>v4 (zt O (zt O (zt O (zAd O O (zt O (za (vI O (za (W_min2 O O (za (W_slS O O O (by omega) (by omega) (by omega) (vZ O (zSs H O O O .h1 O fun S hE H=>v4 (zt O (zLn (vs:=[_,_,_,_,_,_,_]) H O .h1 O (za (zS (cs:=[_,_,_,_,_,_,_]) H O O fun b26 S hb26 hE H=>za (W_append H O O .h1 hcl hn (Src.own H .h O) (by simp [vY,setl]) O (by decide) (by omega) O fun b27 cap27 cs27 S hb27 H hE hn27 hcl27 hct27=>zt O (zN (zU (zt O (zAd O O ?_)))))))))))))))))))))))))))))
   refine zt O (vl (z_ (ze ?_)))
   have hd12:(l.drop (a:Int).toNat).take ((min ((a:Int)+12) (l.length:Int)).toNat-(a:Int).toNat)=(l.drop a).take 12:=by
    rw [show (a:Int).toNat=a by omega]
    by_cases h:a+12≤l.length
    ·rw [show (min ((a:Int)+12) (l.length:Int)).toNat-a=12 by omega]
    ·rw [List.take_of_length_le (by simp;omega),List.take_of_length_le (by simp;omega)]
   have hcs:=cutS_step (s:=s) (show a<l.length by omega)
   refine ⟨_,_,?lt,?le,(a+12),(out++[{s with sq:=a,dt:=(l.drop a).take 12}]),b27,cap27,cs27,(a:Int),((l.drop (a:Int).toNat).take ((min ((a:Int)+12) (l.length:Int)).toNat-(a:Int).toNat)),O,(H.sub (.cons_cons _ (.cons _ (.cons_cons _ .slnil)))),(by simpa using hn27),hcl27,?_,(by rw [List.append_assoc,← hc,hcs];rfl),(by simp;omega),(by omega),O⟩
   case lt=>omega
   case le=>exact Env.qle ⟨rfl,rfl,rfl,(by rw [List.length_append];rfl),trivial⟩
   rw [List.length_append]
   refine hct27.trans ?_
   rw [hct]
   simp only [segRows,List.map_append,List.flatten_append,List.map_cons,List.map_nil,List.flatten_cons,List.flatten_nil,List.append_nil]
   rw [← hd12]
end
section
variable {S0:St} {K:Value→St→Prop}
variable {b:Box} {x:Conn} {e f:End} {cs:List Conn} {es:List End} {b1 b2 c c1 c2 c3 cap n:Nat} {a a1 a2 a3:Option Addr}
theorem ct151 (k1:S0 b1=some ⟨Cs e.row 31,true⟩) (k2:S0 b2=some ⟨Cs f.row 31,true⟩) (k:∀ (t:Bool) S',Ext [] S0 S'→(t=true↔x.i=e∧x.o=f)→K (.bool t) S') :
  zC 151 #[x.v,vN b1 0,vN b2 0] S0 K:=by
 refine zGh (sf:=s151) Tryz.func151 fun H=>zR (zBx H O O fun b3 S hb3 hE H=>zt O (v4 (vZ O (zLn (vs:=[_,_]) H O .h O (za (zO (vs:=[_,_]) O (vV (H.qx.get k1) O) (za (W_eqEv O O fun t8 h8=>zt O ?_))))))))
 rcases t8 with _|_
 ·replace h8:=bF h8
  refine zL O (zL O (zL O (zL O (vw O O O O (zt O (zN (zi (z9 O ?_))))))))
  exact k _ _ H.qx ⟨nofun,fun h=>absurd (by rw [h.1];exact ⟨rfl,rfl⟩) h8⟩
 ·replace h8:=bT h8
  refine zh O (zD O (zh O (W_loadN (vs:=[_,_]) H O .h O (zh O (zO (vs:=[_,_]) O (vV (H.qx.get k2) O) (zh O (W_eqEv O O fun t13 h13=>vw O O O O (zt O (zN (zi (z9 O ?_)))))))))))
  exact k _ _ H.qx ⟨fun h=>⟨End.ext' h8,End.ext' (h13.1 h)⟩,fun h=>h13.2 (by rw [h.2];exact ⟨rfl,rfl⟩)⟩
theorem ct150 (hs:Sl S0 7 a (z5 cs)) (hl:cs.length≤1099511627776) (k1:S0 b1=some ⟨Cs e.row 31,true⟩) (k2:S0 b2=some ⟨Cs f.row 31,true⟩) (k:∀  S',Ext [] S0 S'→K (int (vE cs e f)) S') :
  zC 150 #[.slice a cs.length cap,.func (.func 151) #[] #[vN b1 0,vN b2 0]] S0 K:=by
 refine zGh (sf:=s150) Tryz.func150 fun H=>zR (zt O (zN (zSS (zt O (zLl O (zt O (zN (zK ?_))))))))
 refine vA (fun E S m_=>∃ (i:Nat),E=Env.lst [(0,.slice a cs.length cap),(1,.func (.func 151) #[] #[vN b1 0,vN b2 0]),(7,int cs.length),(8,int i)]∧Loc [] S0 S []∧(i≤cs.length)∧(FoundAt cs i e f)∧m_=cs.length-i) ?_ ?_
 ·skip
  refine ⟨_,_,?le,0,O,H,(by omega),(FoundAt.zero cs e f),O⟩
  case le=>exact Env.qle ⟨O,O,O,O,⟨⟩⟩
 ·skip
  rintro _ S _ ⟨i,rfl,H,hi,hm,rfl⟩
  refine zR (za (vT O O fun t9 h9=>zN (zJ ?_)))
  rcases t9 with _|_
  ·replace h9:=bF h9
   refine zr O (vz (zZ (zZ (vH (ze (zR (zt O (zN (zi (z9 O ?_))))))))))
   rw [hm.no (by omega)] at k
   exact k _ H.qx
  ·replace h9:=bT h9
   obtain ⟨x,hx⟩:∃ x,cs[i]? = some x:=⟨cs[i]'(by omega),by simp⟩
   obtain ⟨b,off,rfl,hc⟩:=hs.row i _ (vp hx)
   refine zj O (zv (ze (zJ (zK (zR (zt O (zt O (v4 (zt O (zt O (zt O (zIa O O (za (zO (vs:=[_,_,_,_,_,_,_]) O (H.qx.cells hc) (za (W_callV O O ⟨_,_,_,_,O,Tryz.func151,O,O,ct151 (x:=x) (H.qx.get k1) (H.qx.get k2) fun t16 S hE h16=>?_⟩))))))))))))))))
   replace H:=H.call hE
   refine zN ?_
   rcases t16 with _|_
   ·replace h16:=bF h16
    refine zr O (zv (z_ (ze (zU (zAd O O (zt O (zN ?_)))))))
    refine ⟨_,_,?lt,?le,(i+1),O,H,(by omega),(hm.succ hx h16),O⟩
    case lt=>omega
    case le=>exact Env.qle ⟨O,O,O,O,⟨⟩⟩
   ·replace h16:=bT h16
    refine zj O (zR (zt O (zt O (zN (zi (vg (zw (zw (vg (zw (z9 O ?_)))))))))))
    rw [hm.hit hx h16] at k
    exact k _ H.qx
theorem ct65 (h3:Sl S0 7 a3 (z5 b.cs)) (hl3:b.cs.length≤1099511627776) (k:∀  S',Ext [] S0 S'→K (int (vE b.cs e f)) S') :
  zC 65 #[.agg #[.slice a1 b.rs.length c1,.slice a2 b.es.length c2,.slice a3 b.cs.length c3],e.v,f.v] S0 K:=by
 refine zGh (sf:=s65) Tryz.func65 fun H=>zR (zBx H O O fun b3 S hb3 hE H=>zBx H O O fun b4 S hb4 hE H=>zBx H O O fun b5 S hb5 hE H=>zt O (v4 (vZ O (zL1 H O .h2 O (za (W_mkFunc O O (vK O (ct150 (h3.mono H.qx) hl3 (H.get .h1) (H.get .h) fun S hE =>?_))))))))
 replace H:=H.call hE
 refine zt O (zN (zi (z9 O ?_)))
 exact k _ H.qx
theorem ct153 {rs:List Rule} (hs:Sl S0 7 a (vf rs)) (hl:rs.length≤1048576) (k:∀ (a1:Option Addr) (c1:Nat) S',Ext [] S0 S'→(Sl S' 7 a1 (vf rs))→(rs.length≤c1)→(Org S0 none a1)→K (.slice a1 rs.length c1) S') :
  zC 153 #[.slice a rs.length cap] S0 K:=by
 refine zGh (sf:=s153) Tryz.func153 fun H=>zR (zt O (zN (zSS (zt O (za (W_sliceNil Tryz.underlying23 O fun t4 h4=>zN ?_))))))
 rcases t4 with _|_
 ·replace h4:=bF h4
  refine zr O (zv (ze (zR (za (zS (cs:=[]) H O O fun b5 S hb5 hE H=>zt O (za (W_appendZ (new:=(vf rs).flatten) H O O .h (Src.sl (hs.mono H.qx) vB (by simp)) ruleRows_one (ruleRows_flat rs) (by decide) (by decide) (by omega) O fun b7 cap7 cs7 S hb7 H hE hn7 hcl7 hct7=>zt O (zN (zi (z9 O ?_))))))))))
  rw [show (0+rs.length)=rs.length by omega]
  exact k _ _ _ H.qx (vc (H.get .h) rfl (by simpa using hct7) vB) (by simpa using hn7) (.new (H.new1 .h))
 ·replace h4:=bT h4
  refine zj O (zR (zt O (zN (zi (zw (z9 O ?_))))))
  subst h4
  obtain rfl:rs=[]:=by
   cases rs with
   | nil=>rfl
   | cons e es=>obtain ⟨b,off,e1,_⟩:=hs.row 0 e.row rfl;cases e1
  exact k none 0 _ H.qx (Sl.nil 7) (Nat.le_refl _) (.same _ _)
theorem ct152 (hn:n≤c) (k:∀  S',Ext [] S0 S'→K (.slice a n n) S') :
  zC 152 #[.slice a n c] S0 K:=by
 refine zGh (sf:=s152) Tryz.func152 fun H=>zR (zt O (v4 (zt O (zt O (zLl O (zt O (zLl O (za (W_clip O O O hn (zt O (zN (zi (z9 O ?_)))))))))))))
 exact k _ H.qx
theorem ct155 {rs:List Conn} (hs:Sl S0 7 a (z5 rs)) (hl:rs.length≤1048576) (k:∀ (a1:Option Addr) (c1:Nat) S',Ext [] S0 S'→(OwnO S0 S' a1 49 7 c1 (z5 rs))→K (.slice a1 rs.length c1) S') :
  zC 155 #[.slice a rs.length cap] S0 K:=by
 refine zGh (sf:=s155) Tryz.func155 fun H=>zR (zt O (zN (zSS (zt O (za (W_sliceNil Tryz.underlying27 O fun t4 h4=>zN ?_))))))
 rcases t4 with _|_
 ·replace h4:=bF h4
  refine zr O (zv (ze (zR (za (zS (cs:=[]) H O O fun b5 S hb5 hE H=>zt O (za (W_appendZ (new:=(z5 rs).flatten) H O O .h (Src.sl (hs.mono H.qx) zG (by simp)) connRows_one (connRows_flat rs) (by decide) (by decide) (by omega) O fun b7 cap7 cs7 S hb7 H hE hn7 hcl7 hct7=>zt O (zN (zi (z9 O ?_))))))))))
  rw [show (0+rs.length)=rs.length by omega]
  exact k _ _ _ H.qx (.inr ⟨_,rfl,H.new1 .h,_,H.get .h,by simpa using hn7,hcl7,by simpa using hct7,zG⟩)
 ·replace h4:=bT h4
  refine zj O (zR (zt O (zN (zi (zw (z9 O ?_))))))
  subst h4
  obtain rfl:rs=[]:=by
   cases rs with
   | nil=>rfl
   | cons e es=>obtain ⟨b,off,e1,_⟩:=hs.row 0 e.row rfl;cases e1
  exact k none 0 _ H.qx .nil
theorem ct129 (hn:n≤c) (k:∀  S',Ext [] S0 S'→K (.slice a n n) S') :
  zC 129 #[.slice a n c] S0 K:=by
 refine zGh (sf:=s129) Tryz.func129 fun H=>zR (zt O (v4 (zt O (zt O (zLl O (zt O (zLl O (za (W_clip O O O hn (zt O (zN (zi (z9 O ?_)))))))))))))
 exact k _ H.qx
theorem ct64 (hG:Glob S0) (hT:TabP es) (hs:Sl S0 2 a (zV es)) (hcp:es.length≤cap) (hz:x.kn.length≤1048576∧x.he.length≤1048576∧x.ne.length≤1048576) (k:∀ (t:Bool) S',Ext [] S0 S'→(t=true↔ConnP es x)→K (.bool t) S') :
  zC 64 #[x.v,.agg #[.slice a es.length cap]] S0 K:=by
 refine zGh (sf:=s64) Tryz.func64 fun H=>?_
 have hl:es.length≤6:=hT.1
 refine zR (zBx H O O fun b2 S hb2 hE H=>zBx H O O fun b3 S hb3 hE H=>zt O (v4 (zLn (vs:=[_]) H O .h O (vZ O (zLn (vs:=[_,_]) H O .h1 O (vK O (ct16 (hs.mono H.qx) hcp (by omega) fun S hE =>?_)))))))
 replace H:=H.call hE
 refine za (W_neI O O fun t9 h9=>zt O ?_)
 rcases t9 with _|_
 ·replace h9:=bF h9
  have hm:x.i∉es:=fun hm=>by unfold portE at h9;rw [if_pos hm] at h9;omega
  refine zL O (zL O (zL O (vw O O O O (zt O (zL O (zL O (zL O (zL O (vw O O O O (zt O (zL O (zL O (zL O (vw O O O O (zt O (zL O (zL O (zL O (vw O O O O (zt O (zL O (zL O (zL O (zL O (vw O O O O (zt O (zL O (zL O ?_))))))))))))))))))))))))))))
  refine zL O (zL O (zL O (zL O (vw O O O O (zt O (zN (zi (z9 O ?_))))))))
  exact k _ _ H.qx ⟨nofun,fun h=>by obtain ⟨p1,p2,p3,p4,p5,p6,p7,p8⟩:=h;first | exact absurd p4 hm | exact absurd p2 h13 | exact absurd p3 h19 | exact absurd p5 h24 | exact absurd p6 h29 | exact absurd p7 h35⟩
 ·replace h9:=bT h9
  have hm:x.i∈es:=Classical.byContradiction fun hn=>by unfold portE at h9;rw [if_neg hn] at h9;exact h9 rfl
  refine zh O (zD O (zh O (W_loadN (vs:=[_,_]) H O .h1 O (zh O (zP O (ct146  fun t13 S hE h13=>?_))))))
  replace H:=H.call hE
  refine vw O O O O (zt O ?_)
  rcases t13 with _|_
  ·replace h13:=bF h13
   refine zL O (zL O (zL O (zL O (vw O O O O (zt O (zL O (zL O (zL O (vw O O O O (zt O (zL O (zL O (zL O (vw O O O O (zt O (zL O (zL O (zL O (zL O (vw O O O O (zt O (zL O (zL O (zL O (zL O (zL O (zL O (vw O O O O ?_))))))))))))))))))))))))))))
   refine zt O (zN (zi (z9 O ?_)))
   exact k _ _ H.qx ⟨nofun,fun h=>by obtain ⟨p1,p2,p3,p4,p5,p6,p7,p8⟩:=h;first | exact absurd p4 hm | exact absurd p2 h13 | exact absurd p3 h19 | exact absurd p5 h24 | exact absurd p6 h29 | exact absurd p7 h35⟩
  ·replace h13:=bT h13
   refine zh O (zD O (zh O (zD O (zh O (vr H O .h1 O (zh O (vW O O fun t19 h19=>vw O O O O (zt O ?_))))))))
   rcases t19 with _|_
   ·replace h19:=bF h19
    refine zL O (zL O (zL O (vw O O O O (zt O (zL O (zL O (zL O (vw O O O O (zt O (zL O (zL O (zL O (zL O (vw O O O O (zt O (zL O (zL O (zL O (zL O (zL O (zL O (vw O O O O (zt O (zN (zi (z9 O ?_))))))))))))))))))))))))))
    exact k _ _ H.qx ⟨nofun,fun h=>by obtain ⟨p1,p2,p3,p4,p5,p6,p7,p8⟩:=h;first | exact absurd p4 hm | exact absurd p2 h13 | exact absurd p3 h19 | exact absurd p5 h24 | exact absurd p6 h29 | exact absurd p7 h35⟩
   ·replace h19:=bT h19
    refine zh O (zD O (zh O (vr H O .h1 O (zh O (zP O (ct147 (by omega) fun t24 S hE h24=>?_))))))
    replace H:=H.call hE
    refine vw O O O O (zt O ?_)
    rcases t24 with _|_
    ·replace h24:=bF h24
     refine zL O (zL O (zL O (vw O O O O (zt O (zL O (zL O (zL O (zL O (vw O O O O (zt O (zL O (zL O (zL O (zL O (zL O (zL O (vw O O O O (zt O (zN (zi (z9 O ?_)))))))))))))))))))))
     exact k _ _ H.qx ⟨nofun,fun h=>by obtain ⟨p1,p2,p3,p4,p5,p6,p7,p8⟩:=h;first | exact absurd p4 hm | exact absurd p2 h13 | exact absurd p3 h19 | exact absurd p5 h24 | exact absurd p6 h29 | exact absurd p7 h35⟩
    ·replace h24:=bT h24
     refine zh O (zD O (zh O (vr H O .h1 O (zh O (zP O (ct147 (by omega) fun t29 S hE h29=>?_))))))
     replace H:=H.call hE
     refine vw O O O O (zt O ?_)
     rcases t29 with _|_
     ·replace h29:=bF h29
      refine zL O (zL O (zL O (zL O (vw O O O O (zt O (zL O (zL O (zL O (zL O (zL O (zL O (vw O O O O (zt O (zN (zi (z9 O ?_))))))))))))))))
      exact k _ _ H.qx ⟨nofun,fun h=>by obtain ⟨p1,p2,p3,p4,p5,p6,p7,p8⟩:=h;first | exact absurd p4 hm | exact absurd p2 h13 | exact absurd p3 h19 | exact absurd p5 h24 | exact absurd p6 h29 | exact absurd p7 h35⟩
     ·replace h29:=bT h29
      refine zh O (W_loadN (vs:=[_]) H O .h O (zh O (zD O (zh O (vr H O .h1 O (zh O (zP O (ct148 (hG.mono H.qx) (hs.mono H.qx) hcp (by omega) (by omega) (fun y hy=>by have:=(h24.1 y hy).2;omega) fun t35 S hE h35=>?_))))))))
      replace H:=H.call hE
      refine vw O O O O (zt O ?_)
      rcases t35 with _|_
      ·replace h35:=bF h35
       refine zL O (zL O (zL O (zL O (zL O (zL O (vw O O O O (zt O (zN (zi (z9 O ?_))))))))))
       exact k _ _ H.qx ⟨nofun,fun h=>by obtain ⟨p1,p2,p3,p4,p5,p6,p7,p8⟩:=h;first | exact absurd p4 hm | exact absurd p2 h13 | exact absurd p3 h19 | exact absurd p5 h24 | exact absurd p6 h29 | exact absurd p7 h35⟩
      ·replace h35:=bT h35
       refine zh O (W_loadN (vs:=[_]) H O .h O (zh O (zD O (zh O (vr H O .h1 O (zh O (zD O (zh O (vr H O .h1 O (zh O (zP O (ct149 (hG.mono H.qx) (hs.mono H.qx) hcp (by omega) (by omega) (by omega) (fun y hy=>by have:=(h29.1 y hy).2;omega) fun t43 S hE h43=>?_))))))))))))
       replace H:=H.call hE
       refine vw O O O O (zt O (zN (zi (z9 O ?_))))
       exact k _ _ H.qx (h43.trans ⟨fun h=>⟨hT.2.1 _ hm,h13,h19,hm,h24,h29,h35,h⟩,fun h=>h.2.2.2.2.2.2.2⟩)
theorem ct17 (hG:Glob S0) (h1:Sl S0 7 a1 (vf b.rs)) (h2:Sl S0 2 a2 (zV b.es)) (h3:Sl S0 7 a3 (z5 b.cs)) (hc2:b.es.length≤c2) (hc3:b.cs.length≤c3) (hz:BoxZ b) (k:∀ (t:Bool) S',Ext [] S0 S'→(t=true↔BoxP b)→K (.bool t) S') :
  zC 17 #[.agg #[.slice a1 b.rs.length c1,.slice a2 b.es.length c2,.slice a3 b.cs.length c3]] S0 K:=by
 refine zGh (sf:=s17) Tryz.func17 fun H=>?_
 obtain ⟨z1,z2,z3,hzz⟩:=hz
 refine zR (zBx H O O fun b1 S hb1 hE H=>zt O (zN (zSS (vZ O (zL1 H O .h O (vK O (ct62 (h1.mono H.qx) (by omega) fun t7 S hE h7=>?_)))))))
 replace H:=H.call hE
 refine zNt O (zt O ?_)
 rcases t7 with _|_
 ·replace h7:=bF h7
  refine zL O (zL O (zL O (zL O (vw O O O O (zt O (zL O (zL O (zL O (zL O (vw O O O O (zN (zj O (zR (zt O (zN (zi (zw (z9 O ?_))))))))))))))))))
  exact k _ _ H.qx ⟨nofun,fun h=>absurd h.2.1 h7⟩
 ·replace h7:=bT h7
  refine zh O (zD O (zh O (W_loadN (vs:=[_]) H O .h O (zh O (zP O (ct63 (h2.mono H.qx) hc2 (by omega) fun t12 S hE h12=>?_))))))
  replace H:=H.call hE
  refine zh O (W_not O (vw O O O O (zt O ?_)))
  rcases t12 with _|_
  ·replace h12:=bF h12
   refine zL O (zL O (zL O (zL O (vw O O O O (zN (zj O (zR (zt O (zN (zi (zw (z9 O ?_))))))))))))
   exact k _ _ H.qx ⟨nofun,fun h=>absurd h.1 h12⟩
  ·replace h12:=bT h12
   refine zh O (zD O (zh O (vr H O .h O (zh O (W_lenL O (zh O (W_gtr O O fun t19 h19=>vw O O O O (zN ?_))))))))
   rcases t19 with _|_
   ·replace h19:=bF h19
    refine zr O (zv (ze (zSS (vZ O (zL1 H O .h O (zLl O (zt O (zN (zK ?_)))))))))
    refine vA (fun E S m_=>∃ (i:Nat),E=Env.lst [(1,vN b1 0),(22,.slice a3 b.cs.length c3),(23,int b.cs.length),(24,int i)]∧Loc [] S0 S [(b1,Cs [.slice a1 b.rs.length c1,.slice a2 b.es.length c2,.slice a3 b.cs.length c3] 29)]∧(i≤b.cs.length)∧(RulesP b.rs)∧(TabP b.es)∧(b.cs.length≤3)∧(∀ (j:Nat) (x:Conn),j<i→b.cs[j]? = some x→ConnP b.es x∧vE (b.cs.take j) x.i x.o<0)∧m_=b.cs.length-i) ?_ ?_
    ·skip
     refine ⟨_,_,?le,0,O,H,(by omega),h7,h12,(by omega),(fun j x hj=>absurd hj (by omega)),O⟩
     case le=>exact Env.qle ⟨O,O,O,O,⟨⟩⟩
    ·skip
     rintro _ S _ ⟨i,rfl,H,hi,hR,hT,hn3,hp,rfl⟩
     refine zR (za (vT O O fun t25 h25=>zN (zJ ?_)))
     rcases t25 with _|_
     ·replace h25:=bF h25
      refine zr O (vz (zZ (zZ (vH (ze (zR (zt O (zN (zi (z9 O ?_))))))))))
      exact k _ _ H.qx ⟨fun _=>⟨hT,hR,hn3,fun j x hx=>hp j x (by have:=(List.getElem?_eq_some_iff.1 hx).1;omega) hx⟩,fun _=>rfl⟩
     ·replace h25:=bT h25
      obtain ⟨x,hx⟩:∃ x,b.cs[i]? = some x:=⟨b.cs[i]'(by omega),by simp⟩
      obtain ⟨p,off,rfl,hc⟩:=h3.row i _ (vp hx)
      refine zj O (zv (ze (zJ (zK (zR (zt O (zIa O O (za (zO (vs:=[_,_,_,_,_,_,_]) O (H.qx.cells hc) (zAl H O fun b4 S hb4 hE H=>zt O (zSs H O O O .h O fun S hE H=>v4 (zLn (vs:=[_,_,_,_,_,_,_]) H O .h O (vZ O (zLn (vs:=[_]) H O .h1 O (vK O (ct64 (hG.mono H.qx) hT (h2.mono H.qx) hc2 (hzz x (List.mem_of_getElem? hx)) fun t32 S hE h32=>?_))))))))))))))))
      replace H:=H.call hE
      refine zNt O (zt O ?_)
      rcases t32 with _|_
      ·replace h32:=bF h32
       refine zL O (zL O (zL O (zL O (zL O (zL O (zL O (zL O (vw O O O O (zN (zj O (zR (zt O (zN (zi (vg (zw (zw (vg (zw (z9 O ?_))))))))))))))))))))
       exact k _ _ H.qx ⟨nofun,fun h=>absurd (h.2.2.2 i x hx).1 h32⟩
      ·replace h32:=bT h32
       refine zh O (W_loadN (vs:=[_,_,_]) H O .h1 O (zh O (zD O (zh O (W_loadN (vs:=[_,_]) H O .h O (zh O (zD O (zh O (W_loadN (vs:=[_,_]) H O .h O (zh O (zP O (ct65 (h3.mono H.qx) (by omega) fun S hE =>?_))))))))))))
       replace H:=H.call hE
       refine zh O (vP O (zh O (W_neI O O fun t42 h42=>vw O O O O (zN ?_))))
       rcases t42 with _|_
       ·replace h42:=bF h42
        refine zr O (zv (z_ (ze (zU (zAd O O (zt O (zN ?_)))))))
        refine ⟨_,_,?lt,?le,(i+1),O,(H.sub (.cons _ (.cons_cons _ .slnil))),(by omega),hR,hT,hn3,(fun j y hj hy=>by
         by_cases hji:j<i
         ·exact hp j y hji hy
         ·obtain rfl:j=i:=by omega
          rw [hx] at hy;cases hy
          exact ⟨h32,(BoxP_conn hx).1 (Classical.not_not.1 h42)⟩),rfl⟩
        case lt=>omega
        case le=>exact Env.qle ⟨O,O,O,O,⟨⟩⟩
       ·replace h42:=bT h42
        refine zj O (zR (zt O (zN (zi (vg (zw (zw (vg (zw (z9 O ?_))))))))))
        exact k _ _ H.qx ⟨nofun,fun h=>absurd ((BoxP_conn hx).2 (h.2.2.2 i x hx).2) h42⟩
   ·replace h19:=bT h19
    refine zj O (zR (zt O (zN (zi (zw (z9 O ?_))))))
    exact k _ _ H.qx ⟨nofun,fun h=>absurd h.2.2.1 (by omega)⟩
theorem ct66 (h1:Sl S0 7 a1 (vf b.rs)) (h2:Sl S0 2 a2 (zV b.es)) (h3:Sl S0 7 a3 (z5 b.cs)) (hc2:b.es.length≤c2) (hz:BoxZ b) (k:∀ (x1 x2 x3:Option Addr) (d3:Nat) S',Ext [] S0 S'→(Sl S' 7 x1 (vf b.rs))→(Sl S' 2 x2 (zV b.es))→(OwnO S0 S' x3 49 7 d3 (z5 b.cs))→(Org S0 none x1)→(Org S0 none x2)→(OffB x1 x3)→(OffB x2 x3)→(OffS x1 x2)→K (.agg #[.slice x1 b.rs.length b.rs.length,.slice x2 b.es.length b.es.length,.slice x3 b.cs.length b.cs.length]) S') :
  zC 66 #[.agg #[.slice a1 b.rs.length c1,.slice a2 b.es.length c2,.slice a3 b.cs.length c3]] S0 K:=by
 refine zGh (sf:=s66) Tryz.func66 fun H=>?_
 obtain ⟨z1,z2,z3,hzz⟩:=hz
 refine zR (zBx H O O fun b1 S hb1 hE H=>zAl H O fun b2 S hb2 hE H=>zN (zJ (zY [b2] (zLf 0 O O O (ve 1 O O (fun S' hS'=>zA fun K hK=>zE O (zB (hS' O) (nin1 (by rintro rfl;exact absurd H.nodup (by simp))) (H.cell .h1 O)) hK) (zLf 4 O O O (ve 5 O O (fun S' hS'=>zA fun K hK=>zO O (zF (hS' O) (nin1 (by rintro rfl;exact absurd H.nodup (by simp))) (H.cells (vs:=[_]) .h1 O)) hK) (zLf 7 O O O (ve 8 O O (fun S' hS'=>zA fun K hK=>zE O (zB (hS' O) (nin1 (by rintro rfl;exact absurd H.nodup (by simp))) (H.cell .h1 O)) hK) (zy 2 (by kernel_rfl) O O (zn (zP O (ct153 (h1.mono H.qx) (by omega) fun a5 c5 S hE hs5 hc5 ho5=>?_)))))))))))))
 have hs5_b2:=ho5.ne nofun (H.get .h)
 replace ho5:=ho5.back H.qx
 replace H:=H.call hE
 refine ⟨fun _=>hE.up.ext,zy 3 (by kernel_rfl) O O (zn (zP O (ct152 hc5 fun S hE =>?_)))⟩
 replace H:=H.call hE
 replace hs5:=hs5.mono hE
 refine ⟨fun _=>hE.up.ext,zy 6 (by kernel_rfl) O O (zn (zP O (ct154 (h2.mono H.qx) hc2 (by omega) fun a9 S hE hs9 ho9=>?_)))⟩
 have hs9_b2:=ho9.ne nofun (H.get .h)
 have os9:OffS a5 a9:=.new hs5 ho9
 replace ho9:=ho9.back H.qx
 replace H:=H.call hE
 replace hs5:=hs5.mono hE
 refine ⟨fun _=>hE.up.ext,zy 9 (by kernel_rfl) O O (zn (zP O (ct155 (h3.mono H.qx) (by omega) fun a12 c12 S hE hO12=>?_)))⟩
 have hO12_b2:=hO12.off (H.get .h)
 have of5:=offB_of hO12 hs5
 have of9:=offB_of hO12 hs9
 replace hO12:=hO12.back H.qx
 replace H:=H.call hE
 replace hs5:=hs5.mono hE
 replace hs9:=hs9.mono hE
 refine zLd (zy 10 (by kernel_rfl) O O (zn (zP O (ct129 (by simpa using hO12.cap) fun S hE =>?_))))
 replace H:=H.call hE
 replace hs5:=hs5.mono hE
 replace hs9:=hs9.mono hE
 replace hO12:=hO12.mono hE
 refine zLd (vF 11 O O (fun _ _ hK=>vv (cs:=[_,_,_]) O O hK) (zy 12 (by kernel_rfl) O O (zn (zSt H O O O .h O fun S hE H=>?_))))
 replace hs5:=hs5.qy hE hs5_b2
 replace hs9:=hs9.qy hE hs9_b2
 replace hO12:=hO12.qy hE hO12_b2
 refine zLd (zT (ze (zi (⟨trivial,_,(zW (ws:=[_,_,_]) H O .h O zM),?_⟩))))
 exact k _ _ _ _ _ H.qx hs5 hs9 hO12 ho5 ho9 of5 of9 os9
theorem ct101 {r1 l3:Nat} {j:Nat} (hG:Glob S0) (h2:Sl S0 2 a2 (zV es)) (h3:Sl S0 7 a3 (z5 cs)) (hc2:es.length≤c2) (h6:es.length≤6) (hx:cs[j]? = some x) (hj:j<l3) (hk:x.kn.length≤1048576) (hsh:∀ y∈(zu x.kn).1,y.length≤18) (k:∀  S',Ext [] S0 S'→K (str (vt es x.kn).2) S') :
  zC 101 #[.agg #[.slice a1 r1 c1,.slice a2 es.length c2,.slice a3 l3 c3],int j] S0 K:=by
 refine zGh (sf:=s101) Tryz.func101 fun H=>?_
 obtain ⟨p,off,rfl,hc⟩:=h3.row j _ (vp hx)
 refine zR (zBx H O O fun b2 S hb2 hE H=>zt O (zN (zJ (zY [] (zLf 0 O O O (ve 1 O O (fun S' hS'=>zA fun K hK=>zO O (zF (hS' O) (by simp) (H.cells (vs:=[_]) .h O)) hK) (zLf 2 O O O (ve 3 O O (fun S' hS'=>zA fun K hK=>zE O (zB (hS' O) (by simp) (H.cell .h O)) hK) (vC 4 O O O (vF 5 O O (fun _ _ hK=>vq O O (by omega) (by omega) hK) (zLf 6 O O O (ve 7 O O (fun S' hS'=>zA fun K hK=>zE O (zB (hS' O) (by simp) (vS (i:=4) (H.qx.cells hc) O)) hK) (wpD_two 8 12 (by kernel_rfl) O O O O ?_ ?_)))))))))))))
 ·skip
  refine zn (zP O (ct131 (hG.mono H.qx) (h2.mono H.qx) hc2 h6 (by omega) hsh fun a16 cap16 S hE hs16 hc16 ho16 htl16=>?_))
  replace H:=H.call hE
  refine zLd (vC 9 O O O (vF 10 O O (fun _ _ hK=>vo O O hK) (vF 11 O O (fun _ _ hK=>vo O O hK) (zy 12 (by kernel_rfl) O O (zn (W_alloc H O fun b5 S hb5 hE H=>⟨fun _=>hE.up.ext,zy 13 (by kernel_rfl) O O (zn (zSt H O O O .h O fun S hE H=>zLd (vC 14 O O O (zT (ze (zR (zt O (zt O (zN (zi (z9 O ?_)))))))))))⟩))))))
  exact k _ H.qx
 ·skip
  refine zn (W_alloc H O fun b5 S hb5 hE H=>⟨fun _=>hE.up.ext,zy 8 (by kernel_rfl) O O (zn (zP O (ct131 (hG.mono H.qx) (h2.mono H.qx) hc2 h6 (by omega) hsh fun a16 cap16 S hE hs16 hc16 ho16 htl16=>?_)))⟩)
  replace H:=H.call hE
  refine zLd (vC 9 O O O (vF 10 O O (fun _ _ hK=>vo O O hK) (vF 11 O O (fun _ _ hK=>vo O O hK) (zy 13 (by kernel_rfl) O O (zn (zSt H O O O .h O fun S hE H=>zLd (vC 14 O O O (zT (ze (zR (zt O (zt O (zN (zi (z9 O ?_)))))))))))))))
  exact k _ H.qx
theorem ct133 {s:Seg} {l:Bs} {q:Int} (hS:SegP s) (hl:l.length≤240) (hq:0≤q∧q≤1099511627776) (k:∀ b S',Ext [] S0 S'→(S0 b=none)→(Sl S' 7 (some ⟨b,0,none⟩) (segRows (cutO s l q.toNat)))→K (sl b 0 (cutO s l q.toNat).length (cutO s l q.toNat).length) S') :
  zC 133 #[s.v,str l,int q] S0 K:=by
 refine zGh (sf:=s133) Tryz.func133 fun H=>?_
 have hsz:=hS.2.2.2.2.1
 obtain ⟨n,rfl⟩:∃ n:Nat,q=n:=⟨q.toNat,by omega⟩
 refine zR (zBx H O O fun b3 S hb3 hE H=>zt O (zN (zSS (zLn (vs:=[_,_,_,_,_,_,_]) H O .h O (vK O (ct31 (by omega) fun t8 S hE h8=>?_))))))
 replace H:=H.call hE
 refine zNt O (zt O ?_)
 rcases t8 with _|_
 ·replace h8:=bF h8
  exact absurd hS h8
 ·replace h8:=bT h8
  refine zh O (vP O (zh O (vI O (zh O (W_gtr O O fun t13 h13=>vw O O O O (zt O ?_))))))
  rcases t13 with _|_
  ·replace h13:=bF h13
   refine zh O (vP O (zh O (vT O O fun t17 h17=>vw O O O O (zN ?_))))
   rcases t17 with _|_
   ·replace h17:=bF h17
    refine zr O (zv (ze (zR (zLn (vs:=[_,_,_,_,_,_,_]) H O .h O (zt O (zt O (vK O (ct207 (by omega) (by omega) fun b22 S hE hb22 hs22=>?_))))))))
    replace hb22:=H.qx.isNone hb22
    replace H:=H.call hE
    refine zt O (zN (zi (z9 O ?_)))
    exact k _ _ H.qx hb22 hs22
   ·replace h17:=bT h17
    exact absurd h17 (by omega)
  ·replace h13:=bT h13
   exact absurd h13 (by omega)
end
section
variable {S0:St} {K:Value→St→Prop}
variable {b:Box} {bx c n1 n2 n3:Nat} {x1 x2:Option Addr} {s:Seg}
theorem ct55 {m:Nat} {csm:List Value} (hG:Glob S0) (hB:BoxP b) (hg:S0.g=.sends c ((boxOutP b s).2.map Seg.v)) (hdt:s.dt.length≤1048576) (hbx:S0 bx=some ⟨Cs [.slice x1 b.rs.length n1,.slice x2 b.es.length n2,sl m 0 b.cs.length n3] 29,true⟩) (h1:Sl S0 7 x1 (vf b.rs)) (h2:Sl S0 2 x2 (zV b.es)) (hn2:b.es.length≤n2) (hn3:b.cs.length≤n3) (hm:S0 m=some ⟨Cs csm 49,true⟩) (hcm:b.cs.length*7≤csm.length) (hctm:csm.take (b.cs.length*7)=(z5 b.cs).flatten) (hne:bx≠m) (h3n:n3=b.cs.length) (qG_bx:bx∉[1,2,4]) (qG_m:m∉[1,2,4]) (q1_bx:∀ b off,x1=some ⟨b,off,none⟩→b≠bx) (q1_m:∀ b off,x1=some ⟨b,off,none⟩→b≠m) (q2_bx:∀ b off,x2=some ⟨b,off,none⟩→b≠bx) (q2_m:∀ b off,x2=some ⟨b,off,none⟩→b≠m) (k:∀ (x2' x3':Option Addr) (d2 d3:Nat) S',Ext [bx,m] {S0 with g:=.sends c []} S'→S' bx=some ⟨Cs [.slice x1 b.rs.length n1,.slice x2' (boxOutP b s).1.es.length d2,.slice x3' (boxOutP b s).1.cs.length d3] 29,true⟩→Sl S' 7 x1 (vf b.rs)→Sl S' 2 x2' (zV (boxOutP b s).1.es)→(boxOutP b s).1.es.length≤d2→Sl S' 7 x3' (z5 (boxOutP b s).1.cs)→(boxOutP b s).1.cs.length≤d3→Org S0 x2 x2'→Org S0 (some ⟨m,0,none⟩) x3'→OffS x2' x3'→K (.tuple #[]) S') :
  zC 55 #[vN bx 0,s.v,.chan (some c)] S0 K:=by
 refine zGo (sf:=s55) Tryz.func55 ?_
 have H:=Loc.start2 hbx hm hne
 have q1:=h1
 have q2:=h2
 have qG:=hG
 obtain ⟨hz1,hz2,hz3,hz4⟩:=hB.small
 have hnot:=fun h=>(boxOutP_not (b:=b) (s:=s) h).1 hB
 refine zR (zBx H O O fun b4 S hb4 hE H=>?_)
 have q1_b4:=q1.ne hb4
 replace q1:=q1.mono hE
 have q2_b4:=q2.ne hb4
 replace q2:=q2.mono hE
 have qG_b4:=qG.ne hb4
 replace qG:=qG.mono hE
 refine zN (zJ (zJ (zY [] (ve 0 O O (fun S' hS'=>zA fun K hK=>zO O (zF (hS' O) (by simp) (H.cells (vs:=[_,_,_,_,_,_,_]) .h O)) hK) (zy 1 (by kernel_rfl) O O (zn (zP O (ct31 (by omega) fun t17 S hE h17=>?_))))))))
 replace H:=H.call hE
 replace q1:=q1.mono hE
 replace q2:=q2.mono hE
 replace qG:=qG.mono hE
 refine ⟨fun _=>hE.up.ext,vF 2 O O (fun _ _ hK=>W_not O hK) (vC 3 O O O ?_)⟩
 rcases t17 with _|_
 ·replace h17:=bF h17
  refine ve 4 O O (fun S' _=>vd O (by decide)) (ve 5 O O (fun S' _=>vd O (by decide)) (ve 6 O O (fun S' _=>vd O (by decide)) (ve 7 O O (fun S' _=>vd O (by decide)) (ve 8 O O (fun S' _=>vd O (by decide)) (ve 9 O O (fun S' _=>vd O (by decide)) (ve 10 O O (fun S' _=>vd O (by decide)) (ve 11 O O (fun S' _=>vd O (by decide)) (zy 12 (by kernel_rfl) O O (step_no O (by decide) (⟨fun _=>fun _ _ _ h=>h,ve 13 O O (fun S' _=>vd O (by decide)) (vF 14 O O (fun _ _ hK=>vM O O O O hK) (zT (ze (zj O (zi (zw (⟨trivial,_,zM,?_⟩)))))))⟩))))))))))
  have hr:=hnot (fun h=>h17 h.2.1)
  rw [hr] at hg k
  replace H:=H.quiet (by exact hg)
  exact k x2 (some ⟨m,0,none⟩) n2 n3 S H.qx (H.get .h1) q1 q2 hn2 (vc (H.get .h2) rfl (by simpa using hctm) zG) hn3 (.same _ _) (.same _ _) (.at q2_m)
 ·replace h17:=bT h17
  refine ve 4 O O (fun S' _=>vi O fun K hK=>vP O hK) (ve 5 O O (fun S' _=>vi O fun K hK=>vj O hK) (ve 6 O O (fun S' _=>vi O fun K hK=>zD O hK) (ve 7 O O (fun S' hS'=>vi O fun K hK=>zE O (zB (hS' O) (by simp) (H.cell .h1 O)) hK) (ve 8 O O (fun S' _=>vi O fun K hK=>zD O hK) (ve 9 O O (fun S' hS'=>vi O fun K hK=>zO O (zF (hS' O) (by simp) (H.cells (vs:=[_,_]) .h O)) hK) (ve 10 O O (fun S' _=>vi O fun K hK=>zD O hK) (ve 11 O O (fun S' hS'=>vi O fun K hK=>zO O (zF (hS' O) (by simp) (H.cells (vs:=[_,_]) .h O)) hK) (zy 12 (by kernel_rfl) O O (step_yes O (zP O (ct87 q1 (by omega) fun t28 S hE h28=>?_)))))))))))
  replace H:=H.call hE
  replace q1:=q1.mono hE
  replace q2:=q2.mono hE
  replace qG:=qG.mono hE
  refine zLd (ve 13 O O (fun S' _=>vi O fun K hK=>W_not O hK) (vF 14 O O (fun _ _ hK=>vM O O O O hK) (zT (ze ?_))))
  rcases t28 with _|_
  ·replace h28:=bF h28
   refine zj O (zi (zw (⟨trivial,_,zM,?_⟩)))
   have hr:=hnot (fun h=>h28 h.2.2)
   rw [hr] at hg k
   replace H:=H.quiet (by exact hg)
   exact k x2 (some ⟨m,0,none⟩) n2 n3 S H.qx (H.get .h1) q1 q2 hn2 (vc (H.get .h2) rfl (by simpa using hctm) zG) hn3 (.same _ _) (.same _ _) (.at q2_m)
  ·replace h28:=bT h28
   refine zr O (zv (ze (zR (vZ O (zLn (vs:=[_,_]) H O .h O (zAl H O fun b6 S hb6 hE H=>?_))))))
   have q1_b6:=q1.ne hb6
   replace q1:=q1.mono hE
   have q2_b6:=q2.ne hb6
   replace q2:=q2.mono hE
   have qG_b6:=qG.ne hb6
   replace qG:=qG.mono hE
   refine zSs H O O O .h O fun S hE H=>?_
   replace q1:=q1.qy hE q1_b6
   replace q2:=q2.qy hE q2_b6
   replace qG:=qG.qy hE qG_b6
   refine zN ?_
   refine wpS_cut (fun E S=>∃ (b7:Nat) (a39:Option Addr) (cap39:Nat),E=Env.lst [(0,vN bx 0),(2,.chan (some c)),(4,vN b4 0),(6,vN b6 0),(7,vN b7 0),(8,int (putP b.es s.s))]∧Loc [bx,m] S0 S [(b7,Cs [.slice a39 (putE b.es s.s).length cap39] 26),(b6,Cs s.s.row 31),(b4,Cs s.row 33),(bx,Cs [.slice x1 b.rs.length n1,.slice x2 b.es.length n2,sl m 0 b.cs.length n3] 29),(m,Cs csm 49)]∧((putE b.es s.s).length≤cap39)∧(Org S0 x2 a39)∧(Sl S 7 x1 (vf b.rs))∧(Sl S 2 x2 (zV b.es))∧(Sl S 2 a39 (zV (putE b.es s.s)))∧(∀ b off,x1=some ⟨b,off,none⟩→b≠b7)∧(∀ b off,x1=some ⟨b,off,none⟩→b≠b6)∧(∀ b off,x1=some ⟨b,off,none⟩→b≠b4)∧(∀ b off,x1=some ⟨b,off,none⟩→b≠bx)∧(∀ b off,x1=some ⟨b,off,none⟩→b≠m)∧(∀ b off,x2=some ⟨b,off,none⟩→b≠b7)∧(∀ b off,x2=some ⟨b,off,none⟩→b≠b6)∧(∀ b off,x2=some ⟨b,off,none⟩→b≠b4)∧(∀ b off,x2=some ⟨b,off,none⟩→b≠bx)∧(∀ b off,x2=some ⟨b,off,none⟩→b≠m)∧(∀ b off,a39=some ⟨b,off,none⟩→b≠b7)∧(∀ b off,a39=some ⟨b,off,none⟩→b≠b6)∧(∀ b off,a39=some ⟨b,off,none⟩→b≠b4)∧(∀ b off,a39=some ⟨b,off,none⟩→b≠bx)∧(∀ b off,a39=some ⟨b,off,none⟩→b≠m)∧(Glob S)∧(b7∉[1,2,4])∧(b6∉[1,2,4])∧(b4∉[1,2,4])∧(bx∉[1,2,4])∧(m∉[1,2,4])) ?_ ?_
   ·skip
    refine zY [] (vC 0 O O O (vF 1 O O (fun _ _ hK=>vj O hK) (zLf 2 O O O (ve 3 O O (fun S' hS'=>zA fun K hK=>zO O (zF (hS' O) (by simp) (H.cells (vs:=[_]) .h2 O)) hK) (ve 4 O O (fun S' hS'=>zA fun K hK=>zO O (zF (hS' O) (by simp) (H.cells (vs:=[_,_]) .h O)) hK) (wpD_two 5 9 (by kernel_rfl) O O O O ?_ ?_))))))
    ·skip
     refine zn (zP O (ct68 q2 hn2 (by omega) fun a39 cap39 S hE hs39 hc39 ho39=>?_))
     have hs39_b6:=ho39.ne q2_b6 (H.get .h)
     have hs39_bx:=ho39.ne q2_bx (H.get .h2)
     have hs39_b4:=ho39.ne q2_b4 (H.get .h1)
     have hs39_m:=ho39.ne q2_m (H.get .h3)
     have hO39:Org S0 x2 a39:=ho39.backX H.qx
     replace H:=H.call hE
     replace q1:=q1.mono hE
     replace q2:=q2.mono hE
     replace qG:=qG.mono hE
     refine zLd (vC 6 O O O (vF 7 O O (fun _ _ hK=>vo O O hK) (vF 8 O O (fun _ _ hK=>vo O O hK) (zy 9 (by kernel_rfl) O O (zn (W_alloc H O fun b7 S hb7 hE H=>?_))))))
     have q1_b7:=q1.ne hb7
     replace q1:=q1.mono hE
     have q2_b7:=q2.ne hb7
     replace q2:=q2.mono hE
     have qG_b7:=qG.ne hb7
     replace qG:=qG.mono hE
     have hs39_b7:=hs39.ne hb7
     replace hs39:=hs39.mono hE
     refine ⟨fun _=>hE.up.ext,zy 10 (by kernel_rfl) O O (zn (zSt H O O O .h O fun S hE H=>?_))⟩
     replace q1:=q1.qy hE q1_b7
     replace q2:=q2.qy hE q2_b7
     replace qG:=qG.qy hE qG_b7
     replace hs39:=hs39.qy hE hs39_b7
     refine zLd (vC 11 O O O (zT (ze ?_)))
     replace H:=H.front .h4
     replace H:=H.front .h4
     replace H:=H.front .h4
     replace H:=H.front .h4
     replace H:=H.front .h4
     refine ⟨_,?le,b7,a39,cap39,O,H,hc39,hO39,q1,q2,hs39,q1_b7,q1_b6,q1_b4,q1_bx,q1_m,q2_b7,q2_b6,q2_b4,q2_bx,q2_m,hs39_b7,hs39_b6,hs39_b4,hs39_bx,hs39_m,qG,qG_b7,qG_b6,qG_b4,qG_bx,qG_m⟩
     case le=>exact Env.qle ⟨O,O,O,O,O,O,⟨⟩⟩
    ·skip
     refine zn (W_alloc H O fun b7 S hb7 hE H=>?_)
     have q1_b7:=q1.ne hb7
     replace q1:=q1.mono hE
     have q2_b7:=q2.ne hb7
     replace q2:=q2.mono hE
     have qG_b7:=qG.ne hb7
     replace qG:=qG.mono hE
     refine ⟨fun _=>hE.up.ext,zy 5 (by kernel_rfl) O O (zn (zP O (ct68 q2 hn2 (by omega) fun a39 cap39 S hE hs39 hc39 ho39=>?_)))⟩
     have hs39_b6:=ho39.ne q2_b6 (H.get .h1)
     have hs39_m:=ho39.ne q2_m (H.get .h4)
     have hs39_bx:=ho39.ne q2_bx (H.get .h3)
     have hs39_b4:=ho39.ne q2_b4 (H.get .h2)
     have hs39_b7:=ho39.ne q2_b7 (H.get .h)
     have hO39:Org S0 x2 a39:=ho39.backX H.qx
     replace H:=H.call hE
     replace q1:=q1.mono hE
     replace q2:=q2.mono hE
     replace qG:=qG.mono hE
     refine zLd (vC 6 O O O (vF 7 O O (fun _ _ hK=>vo O O hK) (vF 8 O O (fun _ _ hK=>vo O O hK) (zy 10 (by kernel_rfl) O O (zn (zSt H O O O .h O fun S hE H=>?_))))))
     replace q1:=q1.qy hE q1_b7
     replace q2:=q2.qy hE q2_b7
     replace qG:=qG.qy hE qG_b7
     replace hs39:=hs39.qy hE hs39_b7
     refine zLd (vC 11 O O O (zT (ze ?_)))
     replace H:=H.front .h4
     replace H:=H.front .h4
     replace H:=H.front .h4
     replace H:=H.front .h4
     replace H:=H.front .h4
     refine ⟨_,?le,b7,a39,cap39,O,H,hc39,hO39,q1,q2,hs39,q1_b7,q1_b6,q1_b4,q1_bx,q1_m,q2_b7,q2_b6,q2_b4,q2_bx,q2_m,hs39_b7,hs39_b6,hs39_b4,hs39_bx,hs39_m,qG,qG_b7,qG_b6,qG_b4,qG_bx,qG_m⟩
     case le=>exact Env.qle ⟨O,O,O,O,O,O,⟨⟩⟩
   ·skip
    rintro _ S ⟨b7,a39,cap39,rfl,H,hc39,hO39,q1,q2,hs39,q1_b7,q1_b6,q1_b4,q1_bx,q1_m,q2_b7,q2_b6,q2_b4,q2_bx,q2_m,hs39_b7,hs39_b6,hs39_b4,hs39_bx,hs39_m,qG,qG_b7,qG_b6,qG_b4,qG_bx,qG_m⟩
    refine zSS (zt O (za (vW O O fun t43 h43=>zN ?_)))
    rcases t43 with _|_
    ·replace h43:=bF h43
     refine zr O (zv (ze (zR (zt O (zLn (vs:=[_]) H O .h O (za (vj O (vZ O (zSs H O O O .h3 O fun S hE H=>?_)))))))))
     replace q1:=q1.qy hE q1_bx
     replace hs39:=hs39.qy hE hs39_bx
     replace qG:=qG.qy hE qG_bx
     refine v4 (zt O (za (vv (cs:=[_,_]) O O (vZ O (zSs H O O O .h2 O fun S hE H=>?_)))))
     replace q1:=q1.qy hE q1_b4
     replace hs39:=hs39.qy hE hs39_b4
     replace qG:=qG.qy hE qG_b4
     refine zN (zSS (vZ O (vZ O (zL1 H O .h2 O (za (W_neI O O fun t54 h54=>zN ?_))))))
     rcases t54 with _|_
     ·replace h54:=bF h54
      have hyes:BoxP b∧SegP s∧s.s.inn∧s.d.out∧mayR b.rs s.s s.d=true:=⟨hB,h17,h28⟩
      have hr:=boxOutP_ctl hyes h43 (Classical.not_not.1 h54)
      have hpp:=putP_bd (e:=s.s) hz2
      have hpe:(putE b.es s.s).length≤6:=by
       unfold putE;split
       ·omega
       ·simp;omega
      have hpp1:1≤putP b.es s.s:=by omega
      refine zr O (zv (ze (zJ (zY [] (vC 0 O O O (vF 1 O O (fun _ _ hK=>vj O hK) (ve 2 O O (fun S' hS'=>zA fun K hK=>zO O (zF (hS' O) (by simp) (H.cells (vs:=[_,_,_]) .h3 O)) hK) (ve 3 O O (fun S' hS'=>zA fun K hK=>zO O (zF (hS' O) (by simp) (H.cells (vs:=[_,_]) .h1 O)) hK) (zLf 4 O O O (ve 5 O O (fun S' hS'=>zA fun K hK=>zO O (zF (hS' O) (by simp) (H.cells (vs:=[_,_]) .h2 O)) hK) (zy 6 (by kernel_rfl) O O (zn (zP O (ct65 (b:=⟨b.rs,(putE b.es s.s),b.cs⟩) (vc (H.get .h4) O (by simpa using hctm) zG) (by show b.cs.length≤_;omega) fun S hE =>?_))))))))))))))
      replace H:=H.call hE
      have e63:vE (⟨b.rs,(putE b.es s.s),b.cs⟩:Box).cs s.s s.d=vE b.cs s.s s.d:=rfl
      rw [e63]
      replace q1:=q1.mono hE
      replace hs39:=hs39.mono hE
      replace qG:=qG.mono hE
      refine zLd (vC 7 O O O (zT (ze ?_)))
      refine wpS_cut (fun E S=>∃ (mb:Nat) (csb:List Value) (cs1:List Conn) (kk:Nat) (x:Conn) (d3:Nat),E=Env.lst [(0,vN bx 0),(2,.chan (some c)),(4,vN b4 0),(6,vN b6 0),(9,int kk)]∧Loc [bx,m] S0 S [(mb,Cs csb 49),(b6,Cs s.s.row 31),(b4,Cs ({s with s:=⟨50,putP b.es s.s⟩}:Seg).row 33),(bx,Cs [.slice x1 b.rs.length n1,.slice a39 (putE b.es s.s).length cap39,sl mb 0 cs1.length d3] 29)]∧(Org S0 x2 a39)∧(Org S0 (some ⟨m,0,none⟩) (some ⟨mb,0,none⟩))∧(vX b.cs s.s s.d=(cs1,(kk:Int)))∧(cs1[kk]? = some x)∧(cs1.length*7≤csb.length)∧(csb.take (cs1.length*7)=(z5 cs1).flatten)∧(cs1.length≤d3)∧(StrP x.kn∧x.he.length≤120∧x.ne.length≤240)∧(Sl S 7 x1 (vf b.rs))∧(Sl S 2 a39 (zV (putE b.es s.s)))∧(∀ b off,x1=some ⟨b,off,none⟩→b≠mb)∧(∀ b off,x1=some ⟨b,off,none⟩→b≠b6)∧(∀ b off,x1=some ⟨b,off,none⟩→b≠b4)∧(∀ b off,x1=some ⟨b,off,none⟩→b≠bx)∧(∀ b off,a39=some ⟨b,off,none⟩→b≠mb)∧(∀ b off,a39=some ⟨b,off,none⟩→b≠b6)∧(∀ b off,a39=some ⟨b,off,none⟩→b≠b4)∧(∀ b off,a39=some ⟨b,off,none⟩→b≠bx)∧(Glob S)∧(mb∉[1,2,4])∧(b6∉[1,2,4])∧(b4∉[1,2,4])∧(bx∉[1,2,4])) ?_ ?_
      ·skip
       refine zR (zt O (za (vT O O fun t65 h65=>zN ?_)))
       rcases t65 with _|_
       ·replace h65:=bF h65
        refine zr O (zv (ze ?_))
        obtain ⟨x0,hx0⟩:∃ x0,b.cs[(vE b.cs s.s s.d).toNat]? = some x0:=⟨b.cs[(vE b.cs s.s s.d).toNat]'(by have:=findC_bd b.cs s.s s.d;omega),by simp⟩
        replace H:=H.front .h3
        replace H:=H.front .h3
        replace H:=H.front .h3
        replace H:=H.front .h4
        refine ⟨_,?le,m,csm,b.cs,(vE b.cs s.s s.d).toNat,x0,n3,O,(H.takeL 4),hO39,(.same _ _),(by rw [placeC_old (by omega)];congr 1;omega),hx0,hcm,hctm,hn3,(by have h1:=(hB.2.2.2 _ _ hx0).1;have h2:=hz4 x0 (List.mem_of_getElem? hx0);exact ⟨h1.2.2.2.2.1,h2.2.1,h2.2.2⟩),q1,hs39,q1_m,q1_b6,q1_b4,q1_bx,hs39_m,hs39_b6,hs39_b4,hs39_bx,qG,qG_m,qG_b6,qG_b4,qG_bx⟩
        case le=>exact Env.qle ⟨rfl,rfl,rfl,rfl,(by show some (int (vE b.cs s.s s.d))=_;congr 2;omega),trivial⟩
       ·replace h65:=bT h65
        refine zj O (zSS (zt O (za (vj O (vZ O (zL1 H O .h3 O (zLl O (za (W_geq O O fun t71 h71=>zN ?_)))))))))
        rcases t71 with _|_
        ·replace h71:=bF h71
         refine zr O (zv (ze (zR (zt O (za (vj O (vZ O (zL1 H O .h3 O (zLl O (zt O (zN (zY [] (vC 0 O O O (vC 1 O O O (vF 2 O O (fun _ _ hK=>vj O hK) (zLf 3 O O O (ve 4 O O (fun S' hS'=>zA fun K hK=>zE O (zB (hS' O) (by simp) (H.cell .h3 O)) hK) (ve 5 O O (fun S' hS'=>zA fun K hK=>zO O (zF (hS' O) (by simp) (H.cells (vs:=[_,_]) .h1 O)) hK) (zLf 6 O O O (ve 7 O O (fun S' hS'=>zA fun K hK=>zO O (zF (hS' O) (by simp) (H.cells (vs:=[_,_]) .h2 O)) hK) (vF 8 O O (fun _ _ hK=>vv (cs:=[_,_,_,_,_,_,_]) O O hK) (zy 9 (by kernel_rfl) O O (zn (zS (cs:=[_,_,_,_,_,_,_]) H O O fun b86 S hb86 hE H=>?_))))))))))))))))))))))))
         replace q1:=q1.mono hE
         replace hs39:=hs39.mono hE
         replace qG:=qG.mono hE
         refine ⟨fun _=>hE.up.ext,zy 10 (by kernel_rfl) O O (zn (W_appendNew (old:=(z5 b.cs).flatten) H O O (by omega) (Src.sl (vc (H.get .h5) O (by simpa using hctm) zG) zG (by simp)).2 (connRows_flat b.cs) (Src.own H .h O) O (by decide) (by omega) O fun b87 cap87 cs87 S hb87 H hE hn87 hcl87 hct87=>?_))⟩
         have hN87:S0 b87=none:=(H.fresh _ _ (Has.mem .h)).resolve_right (by intro hm;simp only [List.mem_cons,List.not_mem_nil,or_false] at hm;rcases hm with rfl | rfl<;>exact absurd H.nodup (by simp))
         have q1_b87:=q1.ne hb87
         replace q1:=q1.mono hE
         have hs39_b87:=hs39.ne hb87
         replace hs39:=hs39.mono hE
         have qG_b87:=qG.ne hb87
         replace qG:=qG.mono hE
         refine zLd (zy 11 (by kernel_rfl) O O (zn (zP O (ct129 hn87 fun S hE =>?_))))
         replace H:=H.call hE
         replace q1:=q1.mono hE
         replace hs39:=hs39.mono hE
         replace qG:=qG.mono hE
         refine zLd (vF 12 O O (fun _ _ hK=>vj O hK) (zLf 13 O O O (zy 14 (by kernel_rfl) O O (zn (zSt H O O O .h5 O fun S hE H=>?_)))))
         replace q1:=q1.qy hE q1_bx
         replace hs39:=hs39.qy hE hs39_bx
         replace qG:=qG.qy hE qG_bx
         refine zLd (zT (ze ?_))
         have e87:b.cs.length+1=(b.cs++[(⟨s.s,s.d,[],[],[]⟩:Conn)]).length:=by simp
         rw [e87] at H
         replace H:=H.front .h5
         replace H:=H.front .h5
         replace H:=H.front .h5
         replace H:=H.front .h3
         refine ⟨_,?le,b87,cs87,(b.cs++[Conn.mk s.s s.d [] [] []]),b.cs.length,(Conn.mk s.s s.d [] [] []),(b.cs++[Conn.mk s.s s.d [] [] []]).length,O,(H.takeL 4),hO39,(.new hN87),(placeC_new (by omega) (by omega)),(by simp),(by rw [hcl87];have h9:=Nat.mul_le_mul_right 7 hn87;simpa using h9),(by simpa [z5] using hct87),(by simp),⟨StrP_nil,by simp,by simp⟩,q1,hs39,q1_b87,q1_b6,q1_b4,q1_bx,hs39_b87,hs39_b6,hs39_b4,hs39_bx,qG,qG_b87,qG_b6,qG_b4,qG_bx⟩
         case le=>exact Env.qle ⟨O,O,O,O,O,⟨⟩⟩
        ·replace h71:=bT h71
         refine zj O (zi (zw (zw (⟨trivial,_,zM,?_⟩))))
         have hfull:=placeC_full (cs:=b.cs) (e:=s.s) (f:=s.d) (by omega) (by omega)
         have hr2:=ctlO_no (b:={b with es:=(putE b.es s.s)}) (s:=s) (port:=putP b.es s.s) (by show (vX b.cs s.s s.d).2<0;rw [hfull];simp)
         simp only [hfull] at hr2
         rw [hr2] at hr
         rw [hr] at hg k
         replace H:=H.quiet (by exact hg)
         exact k a39 (some ⟨m,0,none⟩) cap39 n3 S H.qx (H.get .h3) q1 hs39 hc39 (vc (H.get .h4) rfl (by simpa using hctm) zG) hn3 hO39 (.same _ _) (.at hs39_m)
      ·skip
       rintro _ S ⟨mb,csb,cs1,kk,x,d3,rfl,H,hO39,hO3,hpl,hx,hcb,hct,hd3,hxz,q1,hs39,q1_mb,q1_b6,q1_b4,q1_bx,hs39_mb,hs39_b6,hs39_b4,hs39_bx,qG,qG_mb,qG_b6,qG_b4,qG_bx⟩
       have hxk1:=hxz.1.2.2
       have hxz2:=hxz.2.1
       have hxz3:=hxz.2.2
       have hkl:=(List.getElem?_eq_some_iff.1 hx).1
       have hbd:(0+kk*7+4)+1≤csb.length:=by have:=Nat.mul_le_mul_right 7 (show kk+1≤cs1.length by omega);omega
       refine zR (zt O (za (vj O (vZ O (zL1 H O .h3 O (zt O (zIa O O (zt O (zN (zJ (zY [] (vC 0 O O O (vC 1 O O O (vF 2 O O (fun _ _ hK=>vj O hK) (zLf 3 O O O (ve 4 O O (fun S' hS'=>zA fun K hK=>zE O (zB (hS' O) (by simp) (vS (i:=4) (v:=str x.kn) (vV (H.get .h) (row_sub (by simpa using hct) zG (vp hx))) O)) hK) (ve 5 O O (fun S' hS'=>zA fun K hK=>zO O (zF (hS' O) (by simp) (H.cells (vs:=[_,_,_,_,_,_,_]) .h2 O)) hK) (zy 6 (by kernel_rfl) O O (zn (zP O (ct130 (s:=({s with s:=⟨50,putP b.es s.s⟩}:Seg)) (by omega) hdt (by have h9:=h17.2.2.1;show -1099511627776≤s.sq∧s.sq≤1099511627776;omega) fun S hE =>?_)))))))))))))))))))))
       replace H:=H.call hE
       have e103:vu x.kn ({s with s:=⟨50,putP b.es s.s⟩}:Seg)=vu x.kn s:=rfl
       rw [e103]
       replace q1:=q1.mono hE
       replace hs39:=hs39.mono hE
       replace qG:=qG.mono hE
       refine zLd (vF 7 O O (fun _ _ hK=>vj O hK) (zLf 8 O O O (zy 9 (by kernel_rfl) O O (zn (W_store H O O O O O (by decide) .h hbd O fun S hE H=>?_)))))
       obtain ⟨xk,hxk⟩:∃ y:Conn,y={x with kn:=vu x.kn s}:=⟨_,rfl⟩
       have hxe:xk=vR x s:=by rw [hxk,knownC_eq]
       have hct2:(setl csb (0+kk*7+4) [str (vu x.kn s)]).take ((cs1.set kk xk).length*7)=(z5 (cs1.set kk xk)).flatten:=by
        have h9:=row_cell (j:=4) (v:=str (vu x.kn s)) (k:=7) (rows:=z5 cs1) (by simpa using hct) zG (vp hx) (by decide)
        rw [hxk]
        simpa [z5,List.map_set] using h9
       have hx2:(cs1.set kk xk)[kk]? = some xk:=by simp [hkl]
       have hxs:StrP xk.kn:=by rw [hxk];exact addedS_ok hxz.1
       have hxl:xk.kn.length≤120:=hxs.2.2
       have hxh:xk.he=x.he∧xk.ne=x.ne:=by rw [hxk];exact ⟨rfl,rfl⟩
       have hxh1:=congrArg List.length hxh.1
       have hxh2:=congrArg List.length hxh.2
       have hfl:=streamO_grow (es:=(putE b.es s.s)) hpe hxl
       have hbk:=backO_bd xk.he xk.ne s.ak
       have hat:=outO_bd xk.kn (vt (putE b.es s.s) xk.kn).2 s.sq
       have hS2:SegP ({s with s:=⟨50,putP b.es s.s⟩,ak:=backD 0 (vQ xk.he xk.ne) s.ak}:Seg):=⟨⟨.inr (.inr rfl),by show 1≤putP b.es s.s∧putP b.es s.s≤999;omega⟩,h17.2.1,h17.2.2.1,by show 0≤backD 0 (vQ xk.he xk.ne) s.ak∧backD 0 (vQ xk.he xk.ne) s.ak≤240;omega,h17.2.2.2.2⟩
       have hr2:=ctlO_yes (b:={b with es:=(putE b.es s.s)}) (s:=s) (port:=putP b.es s.s) (c0:=x) (c:=xk) (by show ¬ (vX b.cs s.s s.d).2<0;rw [hpl];simp) (by show (vX b.cs s.s s.d).1[(vX b.cs s.s s.d).2.toNat]? = some x;rw [hpl];exact hx) hxe
       simp only [hpl,Int.toNat_natCast] at hr2
       rw [hr2] at hr
       replace q1:=q1.qy hE q1_mb
       replace hs39:=hs39.qy hE hs39_mb
       replace qG:=qG.qy hE qG_mb
       refine zLd (zT (ze ?_))
       refine wpS_cut (fun E S=>∃ (b11:Nat) (a115:Option Addr) (cap115:Nat),E=Env.lst [(0,vN bx 0),(2,.chan (some c)),(4,vN b4 0),(10,vN mb (0+kk*7)),(11,vN b11 0),(12,str (vt (putE b.es s.s) xk.kn).2)]∧Loc [bx,m] S0 S [(b11,Cs [.slice a115 (vt (putE b.es s.s) xk.kn).1.length cap115] 26),(mb,Cs (setl csb (0+kk*7+4) [str (vu x.kn s)]) 49),(b4,Cs ({s with s:=⟨50,putP b.es s.s⟩}:Seg).row 33),(bx,Cs [.slice x1 b.rs.length n1,.slice a39 (putE b.es s.s).length cap39,sl mb 0 cs1.length d3] 29)]∧((vt (putE b.es s.s) xk.kn).1.length≤cap115)∧(Org S0 x2 a115)∧(Org S0 (some ⟨m,0,none⟩) (some ⟨mb,0,none⟩))∧(Sl S 7 x1 (vf b.rs))∧(Sl S 2 a115 (zV (vt (putE b.es s.s) xk.kn).1))∧(∀ b off,x1=some ⟨b,off,none⟩→b≠b11)∧(∀ b off,x1=some ⟨b,off,none⟩→b≠mb)∧(∀ b off,x1=some ⟨b,off,none⟩→b≠b4)∧(∀ b off,x1=some ⟨b,off,none⟩→b≠bx)∧(∀ b off,a115=some ⟨b,off,none⟩→b≠b11)∧(∀ b off,a115=some ⟨b,off,none⟩→b≠mb)∧(∀ b off,a115=some ⟨b,off,none⟩→b≠b4)∧(∀ b off,a115=some ⟨b,off,none⟩→b≠bx)∧(Glob S)∧(b11∉[1,2,4])∧(mb∉[1,2,4])∧(b4∉[1,2,4])∧(bx∉[1,2,4])) ?_ ?_
       ·skip
        refine zY [] (vC 0 O O O (vF 1 O O (fun _ _ hK=>vj O hK) (zLf 2 O O O (ve 3 O O (fun S' hS'=>zA fun K hK=>zO O (zF (hS' O) (by simp) (H.cells (vs:=[_]) .h3 O)) hK) (vC 4 O O O (vF 5 O O (fun _ _ hK=>vj O hK) (zLf 6 O O O (ve 7 O O (fun S' hS'=>zA fun K hK=>zE O (zB (hS' O) (by simp) (vS (i:=4) (v:=str xk.kn) (vV (H.get .h) (row_sub (by simpa using hct2) zG (vp hx2))) O)) hK) (wpD_two 8 12 (by kernel_rfl) O O O O ?_ ?_)))))))))
        ·skip
         refine zn (zP O (ct131 qG hs39 hc39 hpe (by omega) hxs.lines fun a115 cap115 S hE hs115 hc115 ho115 htl115=>?_))
         have hs115_mb:=ho115.ne hs39_mb (H.get .h)
         have hs115_bx:=ho115.ne hs39_bx (H.get .h3)
         have hs115_b4:=ho115.ne hs39_b4 (H.get .h2)
         have hO115:Org S0 x2 a115:=hO39.trans (ho115.backX H.qx)
         replace H:=H.call hE
         replace q1:=q1.mono hE
         replace qG:=qG.mono hE
         refine zLd (vC 9 O O O (vF 10 O O (fun _ _ hK=>vo O O hK) (vF 11 O O (fun _ _ hK=>vo O O hK) (zy 12 (by kernel_rfl) O O (zn (W_alloc H O fun b11 S hb11 hE H=>?_))))))
         have q1_b11:=q1.ne hb11
         replace q1:=q1.mono hE
         have qG_b11:=qG.ne hb11
         replace qG:=qG.mono hE
         have hs115_b11:=hs115.ne hb11
         replace hs115:=hs115.mono hE
         refine ⟨fun _=>hE.up.ext,zy 13 (by kernel_rfl) O O (zn (zSt H O O O .h O fun S hE H=>?_))⟩
         replace q1:=q1.qy hE q1_b11
         replace qG:=qG.qy hE qG_b11
         replace hs115:=hs115.qy hE hs115_b11
         refine zLd (vC 14 O O O (zT (ze ?_)))
         replace H:=H.front .h4
         replace H:=H.front .h4
         replace H:=H.front .h3
         replace H:=H.front .h3
         refine ⟨_,?le,b11,a115,cap115,O,(H.takeL 4),hc115,hO115,hO3,q1,hs115,q1_b11,q1_mb,q1_b4,q1_bx,hs115_b11,hs115_mb,hs115_b4,hs115_bx,qG,qG_b11,qG_mb,qG_b4,qG_bx⟩
         case le=>exact Env.qle ⟨O,O,O,O,O,O,⟨⟩⟩
        ·skip
         refine zn (W_alloc H O fun b11 S hb11 hE H=>?_)
         have q1_b11:=q1.ne hb11
         replace q1:=q1.mono hE
         have hs39_b11:=hs39.ne hb11
         replace hs39:=hs39.mono hE
         have qG_b11:=qG.ne hb11
         replace qG:=qG.mono hE
         refine ⟨fun _=>hE.up.ext,zy 8 (by kernel_rfl) O O (zn (zP O (ct131 qG hs39 hc39 hpe (by omega) hxs.lines fun a115 cap115 S hE hs115 hc115 ho115 htl115=>?_)))⟩
         have hs115_bx:=ho115.ne hs39_bx (H.get .h4)
         have hs115_b11:=ho115.ne hs39_b11 (H.get .h)
         have hs115_b4:=ho115.ne hs39_b4 (H.get .h3)
         have hs115_mb:=ho115.ne hs39_mb (H.get .h1)
         have hO115:Org S0 x2 a115:=hO39.trans (ho115.backX H.qx)
         replace H:=H.call hE
         replace q1:=q1.mono hE
         replace qG:=qG.mono hE
         refine zLd (vC 9 O O O (vF 10 O O (fun _ _ hK=>vo O O hK) (vF 11 O O (fun _ _ hK=>vo O O hK) (zy 13 (by kernel_rfl) O O (zn (zSt H O O O .h O fun S hE H=>?_))))))
         replace q1:=q1.qy hE q1_b11
         replace qG:=qG.qy hE qG_b11
         replace hs115:=hs115.qy hE hs115_b11
         refine zLd (vC 14 O O O (zT (ze ?_)))
         replace H:=H.front .h4
         replace H:=H.front .h4
         replace H:=H.front .h3
         replace H:=H.front .h3
         refine ⟨_,?le,b11,a115,cap115,O,(H.takeL 4),hc115,hO115,hO3,q1,hs115,q1_b11,q1_mb,q1_b4,q1_bx,hs115_b11,hs115_mb,hs115_b4,hs115_bx,qG,qG_b11,qG_mb,qG_b4,qG_bx⟩
         case le=>exact Env.qle ⟨O,O,O,O,O,O,⟨⟩⟩
       ·skip
        rintro _ S ⟨b11,a115,cap115,rfl,H,hc115,hO115,hO3,q1,hs115,q1_b11,q1_mb,q1_b4,q1_bx,hs115_b11,hs115_mb,hs115_b4,hs115_bx,qG,qG_b11,qG_mb,qG_b4,qG_bx⟩
        refine zR (zt O (zLn (vs:=[_]) H O .h O (za (vj O (vZ O (zSs H O O O .h3 O fun S hE H=>?_))))))
        replace q1:=q1.qy hE q1_bx
        replace hs115:=hs115.qy hE hs115_bx
        refine zN (zJ (zY [] (vC 0 O O O (vF 1 O O (fun _ _ hK=>vj O hK) (zLf 2 O O O (ve 3 O O (fun S' hS'=>zA fun K hK=>zE O (zB (hS' O) (by simp) (vS (i:=4) (v:=str xk.kn) (vV (H.get .h1) (row_sub (by simpa using hct2) zG (vp hx2))) O)) hK) (vC 4 O O O (zLf 6 O O O (ve 7 O O (fun S' hS'=>zA fun K hK=>zE O (zB (hS' O) (by simp) (H.cell .h2 O)) hK) (zy 5 (by kernel_rfl) O O (zn (zP O (ct99 (by omega) (by omega) fun b127 cap127 S hE hb127 hO127=>?_)))))))))))))
        replace H:=H.call hE
        replace q1:=q1.mono hE
        replace hs115:=hs115.mono hE
        refine ⟨fun _=>hE.up.ext,zy 8 (by kernel_rfl) O O (zn (zP O (ct132 hO127.sl (by have:=spansO_len xk.kn (vt (putE b.es s.s) xk.kn).2;omega) (SpM_spansO _ _) fun S hE =>?_)))⟩
        replace H:=H.call hE
        replace q1:=q1.mono hE
        replace hs115:=hs115.mono hE
        refine zLd (vC 9 O O O (zT (ze (zJ (zY [] (vC 0 O O O (vF 1 O O (fun _ _ hK=>vj O hK) (zLf 2 O O O (ve 3 O O (fun S' hS'=>zA fun K hK=>zE O (zB (hS' O) (by simp) (vS (i:=5) (v:=str xk.he) (vV (H.get .h1) (row_sub (by simpa using hct2) zG (vp hx2))) O)) hK) (vC 4 O O O (vF 5 O O (fun _ _ hK=>vj O hK) (zLf 6 O O O (ve 7 O O (fun S' hS'=>zA fun K hK=>zE O (zB (hS' O) (by simp) (vS (i:=6) (v:=str xk.ne) (vV (H.get .h1) (row_sub (by simpa using hct2) zG (vp hx2))) O)) hK) (zLf 8 O O O (ve 9 O O (fun S' hS'=>zA fun K hK=>zE O (zB (hS' O) (by simp) (H.cell .h2 O)) hK) (zy 10 (by kernel_rfl) O O (zn (zP O (ct38 (by omega) (by omega) (by have h9:=h17.2.2.2.1;show -1099511627776≤s.ak∧s.ak≤1099511627776;omega) fun S hE =>?_)))))))))))))))))))
        replace H:=H.call hE
        replace q1:=q1.mono hE
        replace hs115:=hs115.mono hE
        refine zLd (zLf 11 O O O (zy 12 (by kernel_rfl) O O (zn (zSt H O O O .h2 O fun S hE H=>?_))))
        replace q1:=q1.qy hE q1_b4
        replace hs115:=hs115.qy hE hs115_b4
        refine zLd (zT (ze (zR (zLn (vs:=[_,_,_,_,_,_,_]) H O .h2 O (zt O (zt O (vK O (ct133 (s:=({s with s:=⟨50,putP b.es s.s⟩,ak:=backD 0 (vQ xk.he xk.ne) s.ak}:Seg)) hS2 (by omega) ⟨hat.1,Int.le_trans hat.2 (by omega)⟩ fun b146 S hE hb146 hs146=>?_))))))))
        have hs146_b11:∀ b off,(some ⟨b146,0,none⟩:Option Addr)=some ⟨b,off,none⟩→b≠b11:=by
         rintro _ _ e rfl;cases e;exact absurd (H.get .h) (by rw [hb146];nofun)
        have hs146_mb:∀ b off,(some ⟨b146,0,none⟩:Option Addr)=some ⟨b,off,none⟩→b≠mb:=by
         rintro _ _ e rfl;cases e;exact absurd (H.get .h1) (by rw [hb146];nofun)
        have hs146_b4:∀ b off,(some ⟨b146,0,none⟩:Option Addr)=some ⟨b,off,none⟩→b≠b4:=by
         rintro _ _ e rfl;cases e;exact absurd (H.get .h2) (by rw [hb146];nofun)
        have hs146_bx:∀ b off,(some ⟨b146,0,none⟩:Option Addr)=some ⟨b,off,none⟩→b≠bx:=by
         rintro _ _ e rfl;cases e;exact absurd (H.get .h3) (by rw [hb146];nofun)
        replace H:=H.call hE
        obtain ⟨L2,hL2⟩:∃ L2,L2=cutO ({s with s:=⟨50,putP b.es s.s⟩,ak:=backD 0 (vQ xk.he xk.ne) s.ak}:Seg) (vt (putE b.es s.s) xk.kn).2 (outD 0 (vQ xk.kn (vt (putE b.es s.s) xk.kn).2) s.sq).toNat:=⟨_,rfl⟩
        have hL2b:L2.length≤1000:=by rw [hL2];have:=cutO_len ({s with s:=⟨50,putP b.es s.s⟩,ak:=backD 0 (vQ xk.he xk.ne) s.ak}:Seg) (vt (putE b.es s.s) xk.kn).2 (outD 0 (vQ xk.kn (vt (putE b.es s.s) xk.kn).2) s.sq).toNat;omega
        rw [← hL2] at hs146 hr ⊢
        replace q1:=q1.mono hE
        replace hs115:=hs115.mono hE
        refine zLl O (zt O (zN (zK ?_)))
        refine vA (fun E S m_=>∃ (i:Nat),E=Env.lst [(2,.chan (some c)),(146,sl b146 0 L2.length L2.length),(147,int L2.length),(148,int i)]∧Loc [bx,m] {S0 with g:=.sends c ((L2.drop i).map Seg.v)} S [(bx,Cs [.slice x1 b.rs.length n1,.slice a115 (vt (putE b.es s.s) xk.kn).1.length cap115,sl mb 0 cs1.length d3] 29),(mb,Cs (setl csb (0+kk*7+4) [str (vu x.kn s)]) 49)]∧(i≤L2.length)∧(Sl S 7 (some ⟨b146,0,none⟩) (segRows L2))∧(Sl S 7 x1 (vf b.rs))∧(Sl S 2 a115 (zV (vt (putE b.es s.s) xk.kn).1))∧m_=L2.length-i) ?_ ?_
        ·skip
         replace H:=H.quiet (show S0.g=.sends c ((L2.drop 0).map Seg.v) by rw [hg,hr];rfl)
         replace H:=H.front .h1
         replace H:=H.front .h3
         refine ⟨_,_,?le,0,O,(H.takeL 2),(by omega),hs146,q1,hs115,O⟩
         case le=>exact Env.qle ⟨O,O,O,O,⟨⟩⟩
        ·skip
         rintro _ S _ ⟨i,rfl,H,hi,hs146,q1,hs115,rfl⟩
         refine zR (za (vT O O fun t149 h149=>zN (zJ ?_)))
         rcases t149 with _|_
         ·replace h149:=bF h149
          refine zr O (vz (zZ (zZ (vH (⟨trivial,_,zM,?_⟩)))))
          rw [show i=L2.length by omega,List.drop_length] at H
          rw [hr] at k
          exact k a115 _ cap115 d3 _ H.qx (by have:=H.get .h;rw [List.length_set];exact this) q1 hs115 hc115 (vc (H.get .h1) rfl (by simpa using hct2) zG) (by rw [List.length_set];exact hd3) hO115 hO3 (.at hs115_mb)
         ·replace h149:=bT h149
          obtain ⟨y,hy⟩:∃ y,L2[i]? = some y:=⟨L2[i]'(by omega),by simp⟩
          obtain ⟨p,off,he,hcy⟩:=hs146.row i _ (segRows_at hy)
          cases he
          refine zj O (zv (ze (zJ (zK (zR (zIa O O (za (zO (vs:=[_,_,_,_,_,_,_]) O (by have:=hcy;exact this) (zAl H O fun b15 S hb15 hE H=>?_)))))))))
          have hs146_b15:=hs146.ne hb15
          replace hs146:=hs146.mono hE
          have q1_b15:=q1.ne hb15
          replace q1:=q1.mono hE
          have hs115_b15:=hs115.ne hb15
          replace hs115:=hs115.mono hE
          refine zSs H O O O .h O fun S hE H=>?_
          replace hs146:=hs146.qy hE hs146_b15
          replace q1:=q1.qy hE q1_b15
          replace hs115:=hs115.qy hE hs115_b15
          refine zN (zU (zt O (zLn (vs:=[_,_,_,_,_,_,_]) H O .h O (za (W_send (vs:=(L2.drop (i+1)).map Seg.v) O O (by rw [H.g.eq];show Gh.sends _ _=_;rw [List.drop_eq_getElem_cons (by omega),show L2[i]=y from (List.getElem?_eq_some_iff.1 hy).2];rfl) ?_)))))
          replace H:=H.sent (.sends c ((L2.drop (i+1)).map Seg.v))
          replace q1:=q1.sent (.sends c ((L2.drop (i+1)).map Seg.v))
          replace hs115:=hs115.sent (.sends c ((L2.drop (i+1)).map Seg.v))
          replace hs146:=hs146.sent (.sends c ((L2.drop (i+1)).map Seg.v))
          refine vl (z_ (ze (zU (zAd O O (zt O (zN ?_))))))
          replace H:=H.front .h2
          replace H:=H.front .h2
          refine ⟨_,_,?lt,?le,(i+1),O,(H.takeL 2),(by omega),hs146,q1,hs115,O⟩
          case lt=>omega
          case le=>exact Env.qle ⟨O,O,O,O,⟨⟩⟩
     ·replace h54:=bT h54
      have hyes:BoxP b∧SegP s∧s.s.inn∧s.d.out∧mayR b.rs s.s s.d=true:=⟨hB,h17,h28⟩
      have hr:=boxOutP_one hyes h43 h54
      refine zj O (zR (zt O (zLn (vs:=[_,_,_,_,_,_,_]) H O .h2 O (za (W_send (vs:=[]) O O (by rw [H.g.eq,hg,hr];rfl) ?_)))))
      replace H:=H.sent (.sends c [])
      replace q1:=q1.sent (.sends c [])
      replace hs39:=hs39.sent (.sends c [])
      refine zN (zi (zw (⟨trivial,_,zM,?_⟩)))
      rw [hr] at k
      exact k a39 (some ⟨m,0,none⟩) cap39 n3 _ H.qx (H.get .h3) q1 hs39 hc39 (vc (H.get .h4) rfl (by simpa using hctm) zG) hn3 hO39 (.same _ _) (.at hs39_m)
    ·replace h43:=bT h43
     refine zj O (zi (zw (⟨trivial,_,zM,?_⟩)))
     have hyes:BoxP b∧SegP s∧s.s.inn∧s.d.out∧mayR b.rs s.s s.d=true:=⟨hB,h17,h28⟩
     have hr:=boxOutP_full hyes h43
     rw [hr] at hg k
     replace H:=H.quiet (by exact hg)
     exact k x2 (some ⟨m,0,none⟩) n2 n3 S H.qx (H.get .h3) q1 q2 hn2 (vc (H.get .h4) rfl (by simpa using hctm) zG) hn3 (.same _ _) (.same _ _) (.at q2_m)
theorem ct55n (hG:Glob S0) (hB:BoxP b) (hg:S0.g=.sends c ((boxOutP b s).2.map Seg.v)) (hdt:s.dt.length≤1048576) (hbx:S0 bx=some ⟨Cs [.slice x1 b.rs.length n1,.slice x2 b.es.length n2,.slice none b.cs.length n3] 29,true⟩) (h1:Sl S0 7 x1 (vf b.rs)) (h2:Sl S0 2 x2 (zV b.es)) (hn2:b.es.length≤n2) (hn3:b.cs.length≤n3) (hcs0:b.cs=[]) (h3n:n3=0) (qG_bx:bx∉[1,2,4]) (q1_bx:∀ b off,x1=some ⟨b,off,none⟩→b≠bx) (q2_bx:∀ b off,x2=some ⟨b,off,none⟩→b≠bx) (k:∀ (x2' x3':Option Addr) (d2 d3:Nat) S',Ext [bx] {S0 with g:=.sends c []} S'→S' bx=some ⟨Cs [.slice x1 b.rs.length n1,.slice x2' (boxOutP b s).1.es.length d2,.slice x3' (boxOutP b s).1.cs.length d3] 29,true⟩→Sl S' 7 x1 (vf b.rs)→Sl S' 2 x2' (zV (boxOutP b s).1.es)→(boxOutP b s).1.es.length≤d2→Sl S' 7 x3' (z5 (boxOutP b s).1.cs)→(boxOutP b s).1.cs.length≤d3→Org S0 x2 x2'→Org S0 none x3'→OffS x2' x3'→K (.tuple #[]) S') :
  zC 55 #[vN bx 0,s.v,.chan (some c)] S0 K:=by
 refine zGo (sf:=s55) Tryz.func55 ?_
 have H:=Loc.start1 hbx
 have q1:=h1
 have q2:=h2
 have qG:=hG
 obtain ⟨hz1,hz2,hz3,hz4⟩:=hB.small
 have hnot:=fun h=>(boxOutP_not (b:=b) (s:=s) h).1 hB
 refine zR (zBx H O O fun b4 S hb4 hE H=>?_)
 have q1_b4:=q1.ne hb4
 replace q1:=q1.mono hE
 have q2_b4:=q2.ne hb4
 replace q2:=q2.mono hE
 have qG_b4:=qG.ne hb4
 replace qG:=qG.mono hE
 refine zN (zJ (zJ (zY [] (ve 0 O O (fun S' hS'=>zA fun K hK=>zO O (zF (hS' O) (by simp) (H.cells (vs:=[_,_,_,_,_,_,_]) .h O)) hK) (zy 1 (by kernel_rfl) O O (zn (zP O (ct31 (by omega) fun t17 S hE h17=>?_))))))))
 replace H:=H.call hE
 replace q1:=q1.mono hE
 replace q2:=q2.mono hE
 replace qG:=qG.mono hE
 refine ⟨fun _=>hE.up.ext,vF 2 O O (fun _ _ hK=>W_not O hK) (vC 3 O O O ?_)⟩
 rcases t17 with _|_
 ·replace h17:=bF h17
  refine ve 4 O O (fun S' _=>vd O (by decide)) (ve 5 O O (fun S' _=>vd O (by decide)) (ve 6 O O (fun S' _=>vd O (by decide)) (ve 7 O O (fun S' _=>vd O (by decide)) (ve 8 O O (fun S' _=>vd O (by decide)) (ve 9 O O (fun S' _=>vd O (by decide)) (ve 10 O O (fun S' _=>vd O (by decide)) (ve 11 O O (fun S' _=>vd O (by decide)) (zy 12 (by kernel_rfl) O O (step_no O (by decide) (⟨fun _=>fun _ _ _ h=>h,ve 13 O O (fun S' _=>vd O (by decide)) (vF 14 O O (fun _ _ hK=>vM O O O O hK) (zT (ze (zj O (zi (zw (⟨trivial,_,zM,?_⟩)))))))⟩))))))))))
  have hr:=hnot (fun h=>h17 h.2.1)
  rw [hr] at hg k
  replace H:=H.quiet (by exact hg)
  exact k x2 none n2 n3 S H.qx (H.get .h1) q1 q2 hn2 (by rw [hcs0];exact Sl.nil 7) hn3 (.same _ _) (.same _ _) .nil
 ·replace h17:=bT h17
  refine ve 4 O O (fun S' _=>vi O fun K hK=>vP O hK) (ve 5 O O (fun S' _=>vi O fun K hK=>vj O hK) (ve 6 O O (fun S' _=>vi O fun K hK=>zD O hK) (ve 7 O O (fun S' hS'=>vi O fun K hK=>zE O (zB (hS' O) (by simp) (H.cell .h1 O)) hK) (ve 8 O O (fun S' _=>vi O fun K hK=>zD O hK) (ve 9 O O (fun S' hS'=>vi O fun K hK=>zO O (zF (hS' O) (by simp) (H.cells (vs:=[_,_]) .h O)) hK) (ve 10 O O (fun S' _=>vi O fun K hK=>zD O hK) (ve 11 O O (fun S' hS'=>vi O fun K hK=>zO O (zF (hS' O) (by simp) (H.cells (vs:=[_,_]) .h O)) hK) (zy 12 (by kernel_rfl) O O (step_yes O (zP O (ct87 q1 (by omega) fun t28 S hE h28=>?_)))))))))))
  replace H:=H.call hE
  replace q1:=q1.mono hE
  replace q2:=q2.mono hE
  replace qG:=qG.mono hE
  refine zLd (ve 13 O O (fun S' _=>vi O fun K hK=>W_not O hK) (vF 14 O O (fun _ _ hK=>vM O O O O hK) (zT (ze ?_))))
  rcases t28 with _|_
  ·replace h28:=bF h28
   refine zj O (zi (zw (⟨trivial,_,zM,?_⟩)))
   have hr:=hnot (fun h=>h28 h.2.2)
   rw [hr] at hg k
   replace H:=H.quiet (by exact hg)
   exact k x2 none n2 n3 S H.qx (H.get .h1) q1 q2 hn2 (by rw [hcs0];exact Sl.nil 7) hn3 (.same _ _) (.same _ _) .nil
  ·replace h28:=bT h28
   refine zr O (zv (ze (zR (vZ O (zLn (vs:=[_,_]) H O .h O (zAl H O fun b6 S hb6 hE H=>?_))))))
   have q1_b6:=q1.ne hb6
   replace q1:=q1.mono hE
   have q2_b6:=q2.ne hb6
   replace q2:=q2.mono hE
   have qG_b6:=qG.ne hb6
   replace qG:=qG.mono hE
   refine zSs H O O O .h O fun S hE H=>?_
   replace q1:=q1.qy hE q1_b6
   replace q2:=q2.qy hE q2_b6
   replace qG:=qG.qy hE qG_b6
   refine zN ?_
   refine wpS_cut (fun E S=>∃ (b7:Nat) (a39:Option Addr) (cap39:Nat),E=Env.lst [(0,vN bx 0),(2,.chan (some c)),(4,vN b4 0),(6,vN b6 0),(7,vN b7 0),(8,int (putP b.es s.s))]∧Loc [bx] S0 S [(b7,Cs [.slice a39 (putE b.es s.s).length cap39] 26),(b6,Cs s.s.row 31),(b4,Cs s.row 33),(bx,Cs [.slice x1 b.rs.length n1,.slice x2 b.es.length n2,.slice none b.cs.length n3] 29)]∧((putE b.es s.s).length≤cap39)∧(Org S0 x2 a39)∧(Sl S 7 x1 (vf b.rs))∧(Sl S 2 x2 (zV b.es))∧(Sl S 2 a39 (zV (putE b.es s.s)))∧(∀ b off,x1=some ⟨b,off,none⟩→b≠b7)∧(∀ b off,x1=some ⟨b,off,none⟩→b≠b6)∧(∀ b off,x1=some ⟨b,off,none⟩→b≠b4)∧(∀ b off,x1=some ⟨b,off,none⟩→b≠bx)∧(∀ b off,x2=some ⟨b,off,none⟩→b≠b7)∧(∀ b off,x2=some ⟨b,off,none⟩→b≠b6)∧(∀ b off,x2=some ⟨b,off,none⟩→b≠b4)∧(∀ b off,x2=some ⟨b,off,none⟩→b≠bx)∧(∀ b off,a39=some ⟨b,off,none⟩→b≠b7)∧(∀ b off,a39=some ⟨b,off,none⟩→b≠b6)∧(∀ b off,a39=some ⟨b,off,none⟩→b≠b4)∧(∀ b off,a39=some ⟨b,off,none⟩→b≠bx)∧(Glob S)∧(b7∉[1,2,4])∧(b6∉[1,2,4])∧(b4∉[1,2,4])∧(bx∉[1,2,4])) ?_ ?_
   ·skip
    refine zY [] (vC 0 O O O (vF 1 O O (fun _ _ hK=>vj O hK) (zLf 2 O O O (ve 3 O O (fun S' hS'=>zA fun K hK=>zO O (zF (hS' O) (by simp) (H.cells (vs:=[_]) .h2 O)) hK) (ve 4 O O (fun S' hS'=>zA fun K hK=>zO O (zF (hS' O) (by simp) (H.cells (vs:=[_,_]) .h O)) hK) (wpD_two 5 9 (by kernel_rfl) O O O O ?_ ?_))))))
    ·skip
     refine zn (zP O (ct68 q2 hn2 (by omega) fun a39 cap39 S hE hs39 hc39 ho39=>?_))
     have hs39_b6:=ho39.ne q2_b6 (H.get .h)
     have hs39_bx:=ho39.ne q2_bx (H.get .h2)
     have hs39_b4:=ho39.ne q2_b4 (H.get .h1)
     have hO39:Org S0 x2 a39:=ho39.backX H.qx
     replace H:=H.call hE
     replace q1:=q1.mono hE
     replace q2:=q2.mono hE
     replace qG:=qG.mono hE
     refine zLd (vC 6 O O O (vF 7 O O (fun _ _ hK=>vo O O hK) (vF 8 O O (fun _ _ hK=>vo O O hK) (zy 9 (by kernel_rfl) O O (zn (W_alloc H O fun b7 S hb7 hE H=>?_))))))
     have q1_b7:=q1.ne hb7
     replace q1:=q1.mono hE
     have q2_b7:=q2.ne hb7
     replace q2:=q2.mono hE
     have qG_b7:=qG.ne hb7
     replace qG:=qG.mono hE
     have hs39_b7:=hs39.ne hb7
     replace hs39:=hs39.mono hE
     refine ⟨fun _=>hE.up.ext,zy 10 (by kernel_rfl) O O (zn (zSt H O O O .h O fun S hE H=>?_))⟩
     replace q1:=q1.qy hE q1_b7
     replace q2:=q2.qy hE q2_b7
     replace qG:=qG.qy hE qG_b7
     replace hs39:=hs39.qy hE hs39_b7
     refine zLd (vC 11 O O O (zT (ze ?_)))
     replace H:=H.front .h3
     replace H:=H.front .h3
     replace H:=H.front .h3
     replace H:=H.front .h3
     refine ⟨_,?le,b7,a39,cap39,O,H,hc39,hO39,q1,q2,hs39,q1_b7,q1_b6,q1_b4,q1_bx,q2_b7,q2_b6,q2_b4,q2_bx,hs39_b7,hs39_b6,hs39_b4,hs39_bx,qG,qG_b7,qG_b6,qG_b4,qG_bx⟩
     case le=>exact Env.qle ⟨O,O,O,O,O,O,⟨⟩⟩
    ·skip
     refine zn (W_alloc H O fun b7 S hb7 hE H=>?_)
     have q1_b7:=q1.ne hb7
     replace q1:=q1.mono hE
     have q2_b7:=q2.ne hb7
     replace q2:=q2.mono hE
     have qG_b7:=qG.ne hb7
     replace qG:=qG.mono hE
     refine ⟨fun _=>hE.up.ext,zy 5 (by kernel_rfl) O O (zn (zP O (ct68 q2 hn2 (by omega) fun a39 cap39 S hE hs39 hc39 ho39=>?_)))⟩
     have hs39_b6:=ho39.ne q2_b6 (H.get .h1)
     have hs39_bx:=ho39.ne q2_bx (H.get .h3)
     have hs39_b4:=ho39.ne q2_b4 (H.get .h2)
     have hs39_b7:=ho39.ne q2_b7 (H.get .h)
     have hO39:Org S0 x2 a39:=ho39.backX H.qx
     replace H:=H.call hE
     replace q1:=q1.mono hE
     replace q2:=q2.mono hE
     replace qG:=qG.mono hE
     refine zLd (vC 6 O O O (vF 7 O O (fun _ _ hK=>vo O O hK) (vF 8 O O (fun _ _ hK=>vo O O hK) (zy 10 (by kernel_rfl) O O (zn (zSt H O O O .h O fun S hE H=>?_))))))
     replace q1:=q1.qy hE q1_b7
     replace q2:=q2.qy hE q2_b7
     replace qG:=qG.qy hE qG_b7
     replace hs39:=hs39.qy hE hs39_b7
     refine zLd (vC 11 O O O (zT (ze ?_)))
     replace H:=H.front .h3
     replace H:=H.front .h3
     replace H:=H.front .h3
     replace H:=H.front .h3
     refine ⟨_,?le,b7,a39,cap39,O,H,hc39,hO39,q1,q2,hs39,q1_b7,q1_b6,q1_b4,q1_bx,q2_b7,q2_b6,q2_b4,q2_bx,hs39_b7,hs39_b6,hs39_b4,hs39_bx,qG,qG_b7,qG_b6,qG_b4,qG_bx⟩
     case le=>exact Env.qle ⟨O,O,O,O,O,O,⟨⟩⟩
   ·skip
    rintro _ S ⟨b7,a39,cap39,rfl,H,hc39,hO39,q1,q2,hs39,q1_b7,q1_b6,q1_b4,q1_bx,q2_b7,q2_b6,q2_b4,q2_bx,hs39_b7,hs39_b6,hs39_b4,hs39_bx,qG,qG_b7,qG_b6,qG_b4,qG_bx⟩
    refine zSS (zt O (za (vW O O fun t43 h43=>zN ?_)))
    rcases t43 with _|_
    ·replace h43:=bF h43
     refine zr O (zv (ze (zR (zt O (zLn (vs:=[_]) H O .h O (za (vj O (vZ O (zSs H O O O .h3 O fun S hE H=>?_)))))))))
     replace q1:=q1.qy hE q1_bx
     replace hs39:=hs39.qy hE hs39_bx
     replace qG:=qG.qy hE qG_bx
     refine v4 (zt O (za (vv (cs:=[_,_]) O O (vZ O (zSs H O O O .h2 O fun S hE H=>?_)))))
     replace q1:=q1.qy hE q1_b4
     replace hs39:=hs39.qy hE hs39_b4
     replace qG:=qG.qy hE qG_b4
     refine zN (zSS (vZ O (vZ O (zL1 H O .h2 O (za (W_neI O O fun t54 h54=>zN ?_))))))
     rcases t54 with _|_
     ·replace h54:=bF h54
      have hyes:BoxP b∧SegP s∧s.s.inn∧s.d.out∧mayR b.rs s.s s.d=true:=⟨hB,h17,h28⟩
      have hr:=boxOutP_ctl hyes h43 (Classical.not_not.1 h54)
      have hpp:=putP_bd (e:=s.s) hz2
      have hpe:(putE b.es s.s).length≤6:=by
       unfold putE;split
       ·omega
       ·simp;omega
      have hpp1:1≤putP b.es s.s:=by omega
      refine zr O (zv (ze (zJ (zY [] (vC 0 O O O (vF 1 O O (fun _ _ hK=>vj O hK) (ve 2 O O (fun S' hS'=>zA fun K hK=>zO O (zF (hS' O) (by simp) (H.cells (vs:=[_,_,_]) .h3 O)) hK) (ve 3 O O (fun S' hS'=>zA fun K hK=>zO O (zF (hS' O) (by simp) (H.cells (vs:=[_,_]) .h1 O)) hK) (zLf 4 O O O (ve 5 O O (fun S' hS'=>zA fun K hK=>zO O (zF (hS' O) (by simp) (H.cells (vs:=[_,_]) .h2 O)) hK) (zy 6 (by kernel_rfl) O O (zn (zP O (ct65 (b:=⟨b.rs,(putE b.es s.s),b.cs⟩) (by rw [hcs0];exact Sl.nil 7) (by show b.cs.length≤_;omega) fun S hE =>?_))))))))))))))
      replace H:=H.call hE
      have e63:vE (⟨b.rs,(putE b.es s.s),b.cs⟩:Box).cs s.s s.d=vE b.cs s.s s.d:=rfl
      rw [e63]
      replace q1:=q1.mono hE
      replace hs39:=hs39.mono hE
      replace qG:=qG.mono hE
      refine zLd (vC 7 O O O (zT (ze ?_)))
      refine wpS_cut (fun E S=>∃ (mb:Nat) (csb:List Value) (cs1:List Conn) (kk:Nat) (x:Conn) (d3:Nat),E=Env.lst [(0,vN bx 0),(2,.chan (some c)),(4,vN b4 0),(6,vN b6 0),(9,int kk)]∧Loc [bx] S0 S [(mb,Cs csb 49),(b6,Cs s.s.row 31),(b4,Cs ({s with s:=⟨50,putP b.es s.s⟩}:Seg).row 33),(bx,Cs [.slice x1 b.rs.length n1,.slice a39 (putE b.es s.s).length cap39,sl mb 0 cs1.length d3] 29)]∧(Org S0 x2 a39)∧(Org S0 none (some ⟨mb,0,none⟩))∧(vX b.cs s.s s.d=(cs1,(kk:Int)))∧(cs1[kk]? = some x)∧(cs1.length*7≤csb.length)∧(csb.take (cs1.length*7)=(z5 cs1).flatten)∧(cs1.length≤d3)∧(StrP x.kn∧x.he.length≤120∧x.ne.length≤240)∧(Sl S 7 x1 (vf b.rs))∧(Sl S 2 a39 (zV (putE b.es s.s)))∧(∀ b off,x1=some ⟨b,off,none⟩→b≠mb)∧(∀ b off,x1=some ⟨b,off,none⟩→b≠b6)∧(∀ b off,x1=some ⟨b,off,none⟩→b≠b4)∧(∀ b off,x1=some ⟨b,off,none⟩→b≠bx)∧(∀ b off,a39=some ⟨b,off,none⟩→b≠mb)∧(∀ b off,a39=some ⟨b,off,none⟩→b≠b6)∧(∀ b off,a39=some ⟨b,off,none⟩→b≠b4)∧(∀ b off,a39=some ⟨b,off,none⟩→b≠bx)∧(Glob S)∧(mb∉[1,2,4])∧(b6∉[1,2,4])∧(b4∉[1,2,4])∧(bx∉[1,2,4])) ?_ ?_
      ·skip
       refine zR (zt O (za (vT O O fun t65 h65=>zN ?_)))
       rcases t65 with _|_
       ·replace h65:=bF h65
        exact absurd (show vE b.cs s.s s.d<0 by rw [hcs0];simp [vE]) h65
       ·replace h65:=bT h65
        refine zj O (zSS (zt O (za (vj O (vZ O (zL1 H O .h3 O (zLl O (za (W_geq O O fun t71 h71=>zN ?_)))))))))
        rcases t71 with _|_
        ·replace h71:=bF h71
         refine zr O (zv (ze (zR (zt O (za (vj O (vZ O (zL1 H O .h3 O (zLl O (zt O (zN (zY [] (vC 0 O O O (vC 1 O O O (vF 2 O O (fun _ _ hK=>vj O hK) (zLf 3 O O O (ve 4 O O (fun S' hS'=>zA fun K hK=>zE O (zB (hS' O) (by simp) (H.cell .h3 O)) hK) (ve 5 O O (fun S' hS'=>zA fun K hK=>zO O (zF (hS' O) (by simp) (H.cells (vs:=[_,_]) .h1 O)) hK) (zLf 6 O O O (ve 7 O O (fun S' hS'=>zA fun K hK=>zO O (zF (hS' O) (by simp) (H.cells (vs:=[_,_]) .h2 O)) hK) (vF 8 O O (fun _ _ hK=>vv (cs:=[_,_,_,_,_,_,_]) O O hK) (zy 9 (by kernel_rfl) O O (zn (zS (cs:=[_,_,_,_,_,_,_]) H O O fun b86 S hb86 hE H=>?_))))))))))))))))))))))))
         replace q1:=q1.mono hE
         replace hs39:=hs39.mono hE
         replace qG:=qG.mono hE
         refine ⟨fun _=>hE.up.ext,zy 10 (by kernel_rfl) O O (zn (W_appendNew (old:=(z5 b.cs).flatten) H O O (by omega) (Src.sl (by rw [hcs0];exact Sl.nil 7) zG (by simp)).2 (connRows_flat b.cs) (Src.own H .h O) O (by decide) (by omega) O fun b87 cap87 cs87 S hb87 H hE hn87 hcl87 hct87=>?_))⟩
         have hN87:S0 b87=none:=(H.fresh _ _ (Has.mem .h)).resolve_right (by intro hm;simp only [List.mem_cons,List.not_mem_nil,or_false] at hm;subst hm;exact absurd H.nodup (by simp))
         have q1_b87:=q1.ne hb87
         replace q1:=q1.mono hE
         have hs39_b87:=hs39.ne hb87
         replace hs39:=hs39.mono hE
         have qG_b87:=qG.ne hb87
         replace qG:=qG.mono hE
         refine zLd (zy 11 (by kernel_rfl) O O (zn (zP O (ct129 hn87 fun S hE =>?_))))
         replace H:=H.call hE
         replace q1:=q1.mono hE
         replace hs39:=hs39.mono hE
         replace qG:=qG.mono hE
         refine zLd (vF 12 O O (fun _ _ hK=>vj O hK) (zLf 13 O O O (zy 14 (by kernel_rfl) O O (zn (zSt H O O O .h5 O fun S hE H=>?_)))))
         replace q1:=q1.qy hE q1_bx
         replace hs39:=hs39.qy hE hs39_bx
         replace qG:=qG.qy hE qG_bx
         refine zLd (zT (ze ?_))
         have e87:b.cs.length+1=(b.cs++[(⟨s.s,s.d,[],[],[]⟩:Conn)]).length:=by simp
         rw [e87] at H
         replace H:=H.front .h5
         replace H:=H.front .h5
         replace H:=H.front .h5
         replace H:=H.front .h3
         refine ⟨_,?le,b87,cs87,(b.cs++[Conn.mk s.s s.d [] [] []]),b.cs.length,(Conn.mk s.s s.d [] [] []),(b.cs++[Conn.mk s.s s.d [] [] []]).length,O,(H.takeL 4),hO39,(.new hN87),(placeC_new (by omega) (by omega)),(by simp),(by rw [hcl87];have h9:=Nat.mul_le_mul_right 7 hn87;simpa using h9),(by simpa [z5] using hct87),(by simp),⟨StrP_nil,by simp,by simp⟩,q1,hs39,q1_b87,q1_b6,q1_b4,q1_bx,hs39_b87,hs39_b6,hs39_b4,hs39_bx,qG,qG_b87,qG_b6,qG_b4,qG_bx⟩
         case le=>exact Env.qle ⟨O,O,O,O,O,⟨⟩⟩
        ·replace h71:=bT h71
         refine zj O (zi (zw (zw (⟨trivial,_,zM,?_⟩))))
         have hfull:=placeC_full (cs:=b.cs) (e:=s.s) (f:=s.d) (by omega) (by omega)
         have hr2:=ctlO_no (b:={b with es:=(putE b.es s.s)}) (s:=s) (port:=putP b.es s.s) (by show (vX b.cs s.s s.d).2<0;rw [hfull];simp)
         simp only [hfull] at hr2
         rw [hr2] at hr
         rw [hr] at hg k
         replace H:=H.quiet (by exact hg)
         exact k a39 none cap39 n3 S H.qx (H.get .h3) q1 hs39 hc39 (by rw [hcs0];exact Sl.nil 7) hn3 hO39 (.same _ _) .nil
      ·skip
       rintro _ S ⟨mb,csb,cs1,kk,x,d3,rfl,H,hO39,hO3,hpl,hx,hcb,hct,hd3,hxz,q1,hs39,q1_mb,q1_b6,q1_b4,q1_bx,hs39_mb,hs39_b6,hs39_b4,hs39_bx,qG,qG_mb,qG_b6,qG_b4,qG_bx⟩
       have hxk1:=hxz.1.2.2
       have hxz2:=hxz.2.1
       have hxz3:=hxz.2.2
       have hkl:=(List.getElem?_eq_some_iff.1 hx).1
       have hbd:(0+kk*7+4)+1≤csb.length:=by have:=Nat.mul_le_mul_right 7 (show kk+1≤cs1.length by omega);omega
       refine zR (zt O (za (vj O (vZ O (zL1 H O .h3 O (zt O (zIa O O (zt O (zN (zJ (zY [] (vC 0 O O O (vC 1 O O O (vF 2 O O (fun _ _ hK=>vj O hK) (zLf 3 O O O (ve 4 O O (fun S' hS'=>zA fun K hK=>zE O (zB (hS' O) (by simp) (vS (i:=4) (v:=str x.kn) (vV (H.get .h) (row_sub (by simpa using hct) zG (vp hx))) O)) hK) (ve 5 O O (fun S' hS'=>zA fun K hK=>zO O (zF (hS' O) (by simp) (H.cells (vs:=[_,_,_,_,_,_,_]) .h2 O)) hK) (zy 6 (by kernel_rfl) O O (zn (zP O (ct130 (s:=({s with s:=⟨50,putP b.es s.s⟩}:Seg)) (by omega) hdt (by have h9:=h17.2.2.1;show -1099511627776≤s.sq∧s.sq≤1099511627776;omega) fun S hE =>?_)))))))))))))))))))))
       replace H:=H.call hE
       have e103:vu x.kn ({s with s:=⟨50,putP b.es s.s⟩}:Seg)=vu x.kn s:=rfl
       rw [e103]
       replace q1:=q1.mono hE
       replace hs39:=hs39.mono hE
       replace qG:=qG.mono hE
       refine zLd (vF 7 O O (fun _ _ hK=>vj O hK) (zLf 8 O O O (zy 9 (by kernel_rfl) O O (zn (W_store H O O O O O (by decide) .h hbd O fun S hE H=>?_)))))
       obtain ⟨xk,hxk⟩:∃ y:Conn,y={x with kn:=vu x.kn s}:=⟨_,rfl⟩
       have hxe:xk=vR x s:=by rw [hxk,knownC_eq]
       have hct2:(setl csb (0+kk*7+4) [str (vu x.kn s)]).take ((cs1.set kk xk).length*7)=(z5 (cs1.set kk xk)).flatten:=by
        have h9:=row_cell (j:=4) (v:=str (vu x.kn s)) (k:=7) (rows:=z5 cs1) (by simpa using hct) zG (vp hx) (by decide)
        rw [hxk]
        simpa [z5,List.map_set] using h9
       have hx2:(cs1.set kk xk)[kk]? = some xk:=by simp [hkl]
       have hxs:StrP xk.kn:=by rw [hxk];exact addedS_ok hxz.1
       have hxl:xk.kn.length≤120:=hxs.2.2
       have hxh:xk.he=x.he∧xk.ne=x.ne:=by rw [hxk];exact ⟨rfl,rfl⟩
       have hxh1:=congrArg List.length hxh.1
       have hxh2:=congrArg List.length hxh.2
       have hfl:=streamO_grow (es:=(putE b.es s.s)) hpe hxl
       have hbk:=backO_bd xk.he xk.ne s.ak
       have hat:=outO_bd xk.kn (vt (putE b.es s.s) xk.kn).2 s.sq
       have hS2:SegP ({s with s:=⟨50,putP b.es s.s⟩,ak:=backD 0 (vQ xk.he xk.ne) s.ak}:Seg):=⟨⟨.inr (.inr rfl),by show 1≤putP b.es s.s∧putP b.es s.s≤999;omega⟩,h17.2.1,h17.2.2.1,by show 0≤backD 0 (vQ xk.he xk.ne) s.ak∧backD 0 (vQ xk.he xk.ne) s.ak≤240;omega,h17.2.2.2.2⟩
       have hr2:=ctlO_yes (b:={b with es:=(putE b.es s.s)}) (s:=s) (port:=putP b.es s.s) (c0:=x) (c:=xk) (by show ¬ (vX b.cs s.s s.d).2<0;rw [hpl];simp) (by show (vX b.cs s.s s.d).1[(vX b.cs s.s s.d).2.toNat]? = some x;rw [hpl];exact hx) hxe
       simp only [hpl,Int.toNat_natCast] at hr2
       rw [hr2] at hr
       replace q1:=q1.qy hE q1_mb
       replace hs39:=hs39.qy hE hs39_mb
       replace qG:=qG.qy hE qG_mb
       refine zLd (zT (ze ?_))
       refine wpS_cut (fun E S=>∃ (b11:Nat) (a115:Option Addr) (cap115:Nat),E=Env.lst [(0,vN bx 0),(2,.chan (some c)),(4,vN b4 0),(10,vN mb (0+kk*7)),(11,vN b11 0),(12,str (vt (putE b.es s.s) xk.kn).2)]∧Loc [bx] S0 S [(b11,Cs [.slice a115 (vt (putE b.es s.s) xk.kn).1.length cap115] 26),(mb,Cs (setl csb (0+kk*7+4) [str (vu x.kn s)]) 49),(b4,Cs ({s with s:=⟨50,putP b.es s.s⟩}:Seg).row 33),(bx,Cs [.slice x1 b.rs.length n1,.slice a39 (putE b.es s.s).length cap39,sl mb 0 cs1.length d3] 29)]∧((vt (putE b.es s.s) xk.kn).1.length≤cap115)∧(Org S0 x2 a115)∧(Org S0 none (some ⟨mb,0,none⟩))∧(Sl S 7 x1 (vf b.rs))∧(Sl S 2 a115 (zV (vt (putE b.es s.s) xk.kn).1))∧(∀ b off,x1=some ⟨b,off,none⟩→b≠b11)∧(∀ b off,x1=some ⟨b,off,none⟩→b≠mb)∧(∀ b off,x1=some ⟨b,off,none⟩→b≠b4)∧(∀ b off,x1=some ⟨b,off,none⟩→b≠bx)∧(∀ b off,a115=some ⟨b,off,none⟩→b≠b11)∧(∀ b off,a115=some ⟨b,off,none⟩→b≠mb)∧(∀ b off,a115=some ⟨b,off,none⟩→b≠b4)∧(∀ b off,a115=some ⟨b,off,none⟩→b≠bx)∧(Glob S)∧(b11∉[1,2,4])∧(mb∉[1,2,4])∧(b4∉[1,2,4])∧(bx∉[1,2,4])) ?_ ?_
       ·skip
        refine zY [] (vC 0 O O O (vF 1 O O (fun _ _ hK=>vj O hK) (zLf 2 O O O (ve 3 O O (fun S' hS'=>zA fun K hK=>zO O (zF (hS' O) (by simp) (H.cells (vs:=[_]) .h3 O)) hK) (vC 4 O O O (vF 5 O O (fun _ _ hK=>vj O hK) (zLf 6 O O O (ve 7 O O (fun S' hS'=>zA fun K hK=>zE O (zB (hS' O) (by simp) (vS (i:=4) (v:=str xk.kn) (vV (H.get .h) (row_sub (by simpa using hct2) zG (vp hx2))) O)) hK) (wpD_two 8 12 (by kernel_rfl) O O O O ?_ ?_)))))))))
        ·skip
         refine zn (zP O (ct131 qG hs39 hc39 hpe (by omega) hxs.lines fun a115 cap115 S hE hs115 hc115 ho115 htl115=>?_))
         have hs115_mb:=ho115.ne hs39_mb (H.get .h)
         have hs115_bx:=ho115.ne hs39_bx (H.get .h3)
         have hs115_b4:=ho115.ne hs39_b4 (H.get .h2)
         have hO115:Org S0 x2 a115:=hO39.trans (ho115.backX H.qx)
         replace H:=H.call hE
         replace q1:=q1.mono hE
         replace qG:=qG.mono hE
         refine zLd (vC 9 O O O (vF 10 O O (fun _ _ hK=>vo O O hK) (vF 11 O O (fun _ _ hK=>vo O O hK) (zy 12 (by kernel_rfl) O O (zn (W_alloc H O fun b11 S hb11 hE H=>?_))))))
         have q1_b11:=q1.ne hb11
         replace q1:=q1.mono hE
         have qG_b11:=qG.ne hb11
         replace qG:=qG.mono hE
         have hs115_b11:=hs115.ne hb11
         replace hs115:=hs115.mono hE
         refine ⟨fun _=>hE.up.ext,zy 13 (by kernel_rfl) O O (zn (zSt H O O O .h O fun S hE H=>?_))⟩
         replace q1:=q1.qy hE q1_b11
         replace qG:=qG.qy hE qG_b11
         replace hs115:=hs115.qy hE hs115_b11
         refine zLd (vC 14 O O O (zT (ze ?_)))
         replace H:=H.front .h4
         replace H:=H.front .h4
         replace H:=H.front .h3
         replace H:=H.front .h3
         refine ⟨_,?le,b11,a115,cap115,O,(H.takeL 4),hc115,hO115,hO3,q1,hs115,q1_b11,q1_mb,q1_b4,q1_bx,hs115_b11,hs115_mb,hs115_b4,hs115_bx,qG,qG_b11,qG_mb,qG_b4,qG_bx⟩
         case le=>exact Env.qle ⟨O,O,O,O,O,O,⟨⟩⟩
        ·skip
         refine zn (W_alloc H O fun b11 S hb11 hE H=>?_)
         have q1_b11:=q1.ne hb11
         replace q1:=q1.mono hE
         have hs39_b11:=hs39.ne hb11
         replace hs39:=hs39.mono hE
         have qG_b11:=qG.ne hb11
         replace qG:=qG.mono hE
         refine ⟨fun _=>hE.up.ext,zy 8 (by kernel_rfl) O O (zn (zP O (ct131 qG hs39 hc39 hpe (by omega) hxs.lines fun a115 cap115 S hE hs115 hc115 ho115 htl115=>?_)))⟩
         have hs115_bx:=ho115.ne hs39_bx (H.get .h4)
         have hs115_b11:=ho115.ne hs39_b11 (H.get .h)
         have hs115_b4:=ho115.ne hs39_b4 (H.get .h3)
         have hs115_mb:=ho115.ne hs39_mb (H.get .h1)
         have hO115:Org S0 x2 a115:=hO39.trans (ho115.backX H.qx)
         replace H:=H.call hE
         replace q1:=q1.mono hE
         replace qG:=qG.mono hE
         refine zLd (vC 9 O O O (vF 10 O O (fun _ _ hK=>vo O O hK) (vF 11 O O (fun _ _ hK=>vo O O hK) (zy 13 (by kernel_rfl) O O (zn (zSt H O O O .h O fun S hE H=>?_))))))
         replace q1:=q1.qy hE q1_b11
         replace qG:=qG.qy hE qG_b11
         replace hs115:=hs115.qy hE hs115_b11
         refine zLd (vC 14 O O O (zT (ze ?_)))
         replace H:=H.front .h4
         replace H:=H.front .h4
         replace H:=H.front .h3
         replace H:=H.front .h3
         refine ⟨_,?le,b11,a115,cap115,O,(H.takeL 4),hc115,hO115,hO3,q1,hs115,q1_b11,q1_mb,q1_b4,q1_bx,hs115_b11,hs115_mb,hs115_b4,hs115_bx,qG,qG_b11,qG_mb,qG_b4,qG_bx⟩
         case le=>exact Env.qle ⟨O,O,O,O,O,O,⟨⟩⟩
       ·skip
        rintro _ S ⟨b11,a115,cap115,rfl,H,hc115,hO115,hO3,q1,hs115,q1_b11,q1_mb,q1_b4,q1_bx,hs115_b11,hs115_mb,hs115_b4,hs115_bx,qG,qG_b11,qG_mb,qG_b4,qG_bx⟩
        refine zR (zt O (zLn (vs:=[_]) H O .h O (za (vj O (vZ O (zSs H O O O .h3 O fun S hE H=>?_))))))
        replace q1:=q1.qy hE q1_bx
        replace hs115:=hs115.qy hE hs115_bx
        refine zN (zJ (zY [] (vC 0 O O O (vF 1 O O (fun _ _ hK=>vj O hK) (zLf 2 O O O (ve 3 O O (fun S' hS'=>zA fun K hK=>zE O (zB (hS' O) (by simp) (vS (i:=4) (v:=str xk.kn) (vV (H.get .h1) (row_sub (by simpa using hct2) zG (vp hx2))) O)) hK) (vC 4 O O O (zLf 6 O O O (ve 7 O O (fun S' hS'=>zA fun K hK=>zE O (zB (hS' O) (by simp) (H.cell .h2 O)) hK) (zy 5 (by kernel_rfl) O O (zn (zP O (ct99 (by omega) (by omega) fun b127 cap127 S hE hb127 hO127=>?_)))))))))))))
        replace H:=H.call hE
        replace q1:=q1.mono hE
        replace hs115:=hs115.mono hE
        refine ⟨fun _=>hE.up.ext,zy 8 (by kernel_rfl) O O (zn (zP O (ct132 hO127.sl (by have:=spansO_len xk.kn (vt (putE b.es s.s) xk.kn).2;omega) (SpM_spansO _ _) fun S hE =>?_)))⟩
        replace H:=H.call hE
        replace q1:=q1.mono hE
        replace hs115:=hs115.mono hE
        refine zLd (vC 9 O O O (zT (ze (zJ (zY [] (vC 0 O O O (vF 1 O O (fun _ _ hK=>vj O hK) (zLf 2 O O O (ve 3 O O (fun S' hS'=>zA fun K hK=>zE O (zB (hS' O) (by simp) (vS (i:=5) (v:=str xk.he) (vV (H.get .h1) (row_sub (by simpa using hct2) zG (vp hx2))) O)) hK) (vC 4 O O O (vF 5 O O (fun _ _ hK=>vj O hK) (zLf 6 O O O (ve 7 O O (fun S' hS'=>zA fun K hK=>zE O (zB (hS' O) (by simp) (vS (i:=6) (v:=str xk.ne) (vV (H.get .h1) (row_sub (by simpa using hct2) zG (vp hx2))) O)) hK) (zLf 8 O O O (ve 9 O O (fun S' hS'=>zA fun K hK=>zE O (zB (hS' O) (by simp) (H.cell .h2 O)) hK) (zy 10 (by kernel_rfl) O O (zn (zP O (ct38 (by omega) (by omega) (by have h9:=h17.2.2.2.1;show -1099511627776≤s.ak∧s.ak≤1099511627776;omega) fun S hE =>?_)))))))))))))))))))
        replace H:=H.call hE
        replace q1:=q1.mono hE
        replace hs115:=hs115.mono hE
        refine zLd (zLf 11 O O O (zy 12 (by kernel_rfl) O O (zn (zSt H O O O .h2 O fun S hE H=>?_))))
        replace q1:=q1.qy hE q1_b4
        replace hs115:=hs115.qy hE hs115_b4
        refine zLd (zT (ze (zR (zLn (vs:=[_,_,_,_,_,_,_]) H O .h2 O (zt O (zt O (vK O (ct133 (s:=({s with s:=⟨50,putP b.es s.s⟩,ak:=backD 0 (vQ xk.he xk.ne) s.ak}:Seg)) hS2 (by omega) ⟨hat.1,Int.le_trans hat.2 (by omega)⟩ fun b146 S hE hb146 hs146=>?_))))))))
        have hs146_b11:∀ b off,(some ⟨b146,0,none⟩:Option Addr)=some ⟨b,off,none⟩→b≠b11:=by
         rintro _ _ e rfl;cases e;exact absurd (H.get .h) (by rw [hb146];nofun)
        have hs146_mb:∀ b off,(some ⟨b146,0,none⟩:Option Addr)=some ⟨b,off,none⟩→b≠mb:=by
         rintro _ _ e rfl;cases e;exact absurd (H.get .h1) (by rw [hb146];nofun)
        have hs146_b4:∀ b off,(some ⟨b146,0,none⟩:Option Addr)=some ⟨b,off,none⟩→b≠b4:=by
         rintro _ _ e rfl;cases e;exact absurd (H.get .h2) (by rw [hb146];nofun)
        have hs146_bx:∀ b off,(some ⟨b146,0,none⟩:Option Addr)=some ⟨b,off,none⟩→b≠bx:=by
         rintro _ _ e rfl;cases e;exact absurd (H.get .h3) (by rw [hb146];nofun)
        replace H:=H.call hE
        obtain ⟨L2,hL2⟩:∃ L2,L2=cutO ({s with s:=⟨50,putP b.es s.s⟩,ak:=backD 0 (vQ xk.he xk.ne) s.ak}:Seg) (vt (putE b.es s.s) xk.kn).2 (outD 0 (vQ xk.kn (vt (putE b.es s.s) xk.kn).2) s.sq).toNat:=⟨_,rfl⟩
        have hL2b:L2.length≤1000:=by rw [hL2];have:=cutO_len ({s with s:=⟨50,putP b.es s.s⟩,ak:=backD 0 (vQ xk.he xk.ne) s.ak}:Seg) (vt (putE b.es s.s) xk.kn).2 (outD 0 (vQ xk.kn (vt (putE b.es s.s) xk.kn).2) s.sq).toNat;omega
        rw [← hL2] at hs146 hr ⊢
        replace q1:=q1.mono hE
        replace hs115:=hs115.mono hE
        refine zLl O (zt O (zN (zK ?_)))
        refine vA (fun E S m_=>∃ (i:Nat),E=Env.lst [(2,.chan (some c)),(146,sl b146 0 L2.length L2.length),(147,int L2.length),(148,int i)]∧Loc [bx] {S0 with g:=.sends c ((L2.drop i).map Seg.v)} S [(bx,Cs [.slice x1 b.rs.length n1,.slice a115 (vt (putE b.es s.s) xk.kn).1.length cap115,sl mb 0 cs1.length d3] 29),(mb,Cs (setl csb (0+kk*7+4) [str (vu x.kn s)]) 49)]∧(i≤L2.length)∧(Sl S 7 (some ⟨b146,0,none⟩) (segRows L2))∧(Sl S 7 x1 (vf b.rs))∧(Sl S 2 a115 (zV (vt (putE b.es s.s) xk.kn).1))∧m_=L2.length-i) ?_ ?_
        ·skip
         replace H:=H.quiet (show S0.g=.sends c ((L2.drop 0).map Seg.v) by rw [hg,hr];rfl)
         replace H:=H.front .h1
         replace H:=H.front .h3
         refine ⟨_,_,?le,0,O,(H.takeL 2),(by omega),hs146,q1,hs115,O⟩
         case le=>exact Env.qle ⟨O,O,O,O,⟨⟩⟩
        ·skip
         rintro _ S _ ⟨i,rfl,H,hi,hs146,q1,hs115,rfl⟩
         refine zR (za (vT O O fun t149 h149=>zN (zJ ?_)))
         rcases t149 with _|_
         ·replace h149:=bF h149
          refine zr O (vz (zZ (zZ (vH (⟨trivial,_,zM,?_⟩)))))
          rw [show i=L2.length by omega,List.drop_length] at H
          rw [hr] at k
          exact k a115 _ cap115 d3 _ H.qx (by have:=H.get .h;rw [List.length_set];exact this) q1 hs115 hc115 (vc (H.get .h1) rfl (by simpa using hct2) zG) (by rw [List.length_set];exact hd3) hO115 hO3 (.at hs115_mb)
         ·replace h149:=bT h149
          obtain ⟨y,hy⟩:∃ y,L2[i]? = some y:=⟨L2[i]'(by omega),by simp⟩
          obtain ⟨p,off,he,hcy⟩:=hs146.row i _ (segRows_at hy)
          cases he
          refine zj O (zv (ze (zJ (zK (zR (zIa O O (za (zO (vs:=[_,_,_,_,_,_,_]) O (by have:=hcy;exact this) (zAl H O fun b15 S hb15 hE H=>?_)))))))))
          have hs146_b15:=hs146.ne hb15
          replace hs146:=hs146.mono hE
          have q1_b15:=q1.ne hb15
          replace q1:=q1.mono hE
          have hs115_b15:=hs115.ne hb15
          replace hs115:=hs115.mono hE
          refine zSs H O O O .h O fun S hE H=>?_
          replace hs146:=hs146.qy hE hs146_b15
          replace q1:=q1.qy hE q1_b15
          replace hs115:=hs115.qy hE hs115_b15
          refine zN (zU (zt O (zLn (vs:=[_,_,_,_,_,_,_]) H O .h O (za (W_send (vs:=(L2.drop (i+1)).map Seg.v) O O (by rw [H.g.eq];show Gh.sends _ _=_;rw [List.drop_eq_getElem_cons (by omega),show L2[i]=y from (List.getElem?_eq_some_iff.1 hy).2];rfl) ?_)))))
          replace H:=H.sent (.sends c ((L2.drop (i+1)).map Seg.v))
          replace q1:=q1.sent (.sends c ((L2.drop (i+1)).map Seg.v))
          replace hs115:=hs115.sent (.sends c ((L2.drop (i+1)).map Seg.v))
          replace hs146:=hs146.sent (.sends c ((L2.drop (i+1)).map Seg.v))
          refine vl (z_ (ze (zU (zAd O O (zt O (zN ?_))))))
          replace H:=H.front .h2
          replace H:=H.front .h2
          refine ⟨_,_,?lt,?le,(i+1),O,(H.takeL 2),(by omega),hs146,q1,hs115,O⟩
          case lt=>omega
          case le=>exact Env.qle ⟨O,O,O,O,⟨⟩⟩
     ·replace h54:=bT h54
      have hyes:BoxP b∧SegP s∧s.s.inn∧s.d.out∧mayR b.rs s.s s.d=true:=⟨hB,h17,h28⟩
      have hr:=boxOutP_one hyes h43 h54
      refine zj O (zR (zt O (zLn (vs:=[_,_,_,_,_,_,_]) H O .h2 O (za (W_send (vs:=[]) O O (by rw [H.g.eq,hg,hr];rfl) ?_)))))
      replace H:=H.sent (.sends c [])
      replace q1:=q1.sent (.sends c [])
      replace hs39:=hs39.sent (.sends c [])
      refine zN (zi (zw (⟨trivial,_,zM,?_⟩)))
      rw [hr] at k
      exact k a39 none cap39 n3 _ H.qx (H.get .h3) q1 hs39 hc39 (by rw [hcs0];exact Sl.nil 7) hn3 hO39 (.same _ _) .nil
    ·replace h43:=bT h43
     refine zj O (zi (zw (⟨trivial,_,zM,?_⟩)))
     have hyes:BoxP b∧SegP s∧s.s.inn∧s.d.out∧mayR b.rs s.s s.d=true:=⟨hB,h17,h28⟩
     have hr:=boxOutP_full hyes h43
     rw [hr] at hg k
     replace H:=H.quiet (by exact hg)
     exact k x2 none n2 n3 S H.qx (H.get .h3) q1 q2 hn2 (by rw [hcs0];exact Sl.nil 7) hn3 (.same _ _) (.same _ _) .nil
end
section
open Go
theorem dig_len3 {n:Nat} (h:n≤999):(dig n).length≤3:=by
 by_cases h1:n<10
 ·rw [dig_lt h1];simp
 ·rw [dig_ge h1]
  by_cases h2:n / 10<10
  ·rw [dig_lt h2];simp
  ·rw [dig_ge h2,dig_lt (by omega)];simp
theorem dig_ge3 {n:Nat} (h:100≤n):3≤(dig n).length:=by
 rw [dig_ge (by omega),dig_ge (by omega)]
 have:=dig_pos (n / 10 / 10)
 simp;omega
theorem endP_mem {es:List End} {p:Int} {e:End} (h:endP es p=some e):500≤p∧e∈es:=by
 unfold endP at h
 split at h
 ·exact ⟨by assumption,List.mem_of_getElem? h⟩
 ·cases h
theorem lineIn_le {es:List End} {l:Bs} (hT:TabP es):(lineIn es l).length≤l.length:=by
 unfold lineIn
 split
 ·exact Nat.le_refl _
 ·rename_i p hp
  split
  ·exact Nat.le_refl _
  ·rename_i e he
   obtain ⟨h5,hm⟩:=endP_mem he
   have hi:=hT.2.1 e hm
   unfold End.inn InE at hi
   have h1:(dig e.a.toNat).length≤1:=by rw [dig_lt (by omega)];simp
   have h2:(dig e.p.toNat).length≤3:=dig_len3 (by omega)
   have h7:PORT.length=5:=rfl
   have hl:e.line.length≤10:=by
    unfold End.line End.txt eTxt
    split
    ·simp;omega
    ·simp
   unfold boxP at hp
   obtain ⟨x,hx,hx2⟩:=Option.bind_eq_some_iff.1 hp
   split at hx2
   case isFalse=>cases hx2
   rename_i hx50
   cases hx2
   unfold said at hx
   split at hx
   case isFalse=>cases hx
   rename_i hpre
   have h3:=(rd_spec hx).2
   have h4:=congrArg List.length h3
   have h8:=dig_ge3 (n:=x.p.toNat) (by omega)
   have h9:=dig_pos x.a.toNat
   have h10:=hpre.length_le
   unfold eTxt at h4
   simp at h4
   omega
theorem linesIn_le {es:List End} (hT:TabP es) (ls:List Bs):(linesIn es ls).length≤lsum ls:=by
 induction ls with
 | nil=>simp [linesIn]
 | cons l ls ih=>
  have:=lineIn_le (l:=l) hT
  simp only [linesIn,lsum,List.map_cons,List.flatten_cons,List.sum_cons,List.length_append,List.length_cons,List.length_nil] at ih ⊢
  omega
theorem lsum_le:∀ (ls ms:List Bs),ls.length=ms.length→(∀ (i:Nat) (l m:Bs),ls[i]? = some l→ms[i]? = some m→m.length≤l.length)→lsum ms≤lsum ls:=by
 intro ls
 induction ls with
 | nil=>intro ms h _;cases ms with
  | nil=>simp
  | cons=>simp at h
 | cons l ls ih=>
  intro ms h hl
  cases ms with
  | nil=>simp at h
  | cons m ms=>
   have h1:=hl 0 l m rfl rfl
   have h2:=ih ms (by simpa using h) fun i a b ha hb=>hl (i+1) a b (by simpa using ha) (by simpa using hb)
   simp only [lsum,List.map_cons,List.sum_cons] at h2 ⊢
   omega
theorem near_len {es:List End} {he ne:Bs} (hT:TabP es) (h:nearP es he ne):ne.length≤he.length:=by
 obtain ⟨h1,h2,_,h4⟩:=h
 have e1:=lsum_lines 59 ne
 have e2:=lsum_lines 59 he
 have e3:=lsum_le (zu he).1 (zu ne).1 h1 fun i l m hl hm=>by
  rcases h4 i l m hl hm with rfl | rfl
  ·exact Nat.le_refl _
  ·exact lineIn_le hT
 simp only [zu] at *
 rw [h2] at e1
 simp at e1
 omega
theorem heardC_eq (es:List End) (c:Conn) (s:Seg):heardC es c s={c with he:=vu c.he s,ne:=c.ne++linesIn es ((zu (vu c.he s)).1.drop (zu c.he).1.length)}:=by
 unfold heardC vu
 split
 ·rfl
 ·rw [List.drop_of_length_le (Nat.le_refl _)];simp [linesIn]
theorem added_lines (l:Bs) (s:Seg):(zu l).1.length≤(zu (vu l s)).1.length:=by
 unfold vu;split
 ·exact grown_mono l s
 ·exact Nat.le_refl _
theorem heard_ne_len {es:List End} {c:Conn} {s:Seg} (hT:TabP es) (h:nearP es c.he c.ne) (hs:StrP c.he):(c.ne++linesIn es ((zu (vu c.he s)).1.drop (zu c.he).1.length)).length≤240:=by
 have h1:=near_len hT h
 have h2:=hs.2.2
 have h3:=linesIn_le hT ((zu (vu c.he s)).1.drop (zu c.he).1.length)
 have h4:=lsum_drop_le (zu (vu c.he s)).1 (zu c.he).1.length
 have h5:=lsum_lines 59 (vu c.he s)
 have h6:=(addedS_ok (s:=s) hs).2.2
 simp only [zu,List.length_append] at *
 omega
theorem OwnO.ne {S0 S:St} {x:Option Addr} {e:TypeId} {k cap b:Nat} {rows:List (List Value)} (h:OwnO S0 S x e k cap rows) (hb:S b=none):∀ b' off,x=some ⟨b',off,none⟩→b'≠b:=h.sl.ne hb
theorem findC_is {e f:End}:∀ (cs:List Conn) (k:Nat) (c:Conn),vE cs e f=k→cs[k]? = some c→c.i=e∧c.o=f:=by
 intro cs
 induction cs with
 | nil=>intro k c h;simp [vE] at h
 | cons x cs ih=>
  intro k c h hc
  simp only [vE] at h
  split at h
  ·rename_i hx
   obtain rfl:k=0:=by omega
   simp only [List.getElem?_cons_zero,Option.some.injEq] at hc
   subst hc;exact hx
  ·split at h
   ·omega
   ·obtain ⟨k,rfl⟩:∃ j,k=j+1:=⟨k-1,by omega⟩
    simp only [List.getElem?_cons_succ] at hc
    exact ih k c (by omega) hc
theorem heard_take_len {es:List End} {c:Conn} {s:Seg} (i:Nat) (hT:TabP es) (h:nearP es c.he c.ne) (hs:StrP c.he):(c.ne++linesIn es (((zu (vu c.he s)).1.drop (zu c.he).1.length).take i)).length≤240:=by
 have h1:=near_len hT h
 have h2:=hs.2.2
 have h3:=linesIn_le hT (((zu (vu c.he s)).1.drop (zu c.he).1.length).take i)
 have h7:=lsum_take_le ((zu (vu c.he s)).1.drop (zu c.he).1.length) i
 have h4:=lsum_drop_le (zu (vu c.he s)).1 (zu c.he).1.length
 have h5:=lsum_lines 59 (vu c.he s)
 have h6:=(addedS_ok (s:=s) hs).2.2
 simp only [zu,List.length_append] at *
 omega
end
end Go.Proofs.YtnccejlibbgpkaaGreatDoor
