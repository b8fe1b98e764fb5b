/-
  The law FnBoxIdle answers true at every input that its row allows, at every start that lays its variables: part 6 of 8.
-/
import GoSem.Step
import Derived.Conc.Token
import Derived.AtR
import Derived.Conc.Own2
import Derived.Conc.CrowdComm
import Derived.Conc.CrowdTrace
import Derived.Conc.Fork
import Derived.Conc.CrowdStepC
import Derived.Below
import Derived.Laws.Append
import Derived.Test.YtnccejlibbgpkaaGreatDoorChecked
import Derived.Test.YtnccejlibbgpkaaGreatDoorProg
import Derived.MapKept
import Derived.Conc.EventLaws
import Derived.Test.YtnccejlibbgpkaaGreatDoorW8e
set_option linter.unusedSimpArgs false
set_option linter.unusedVariables false
set_option linter.unusedSectionVars false
namespace Go.Proofs.YtnccejlibbgpkaaGreatDoor
set_option maxHeartbeats 1000000
section
variable {S0:St} {K:Value→St→Prop}
variable {m p:Int} {cap n rb:Nat} {a:Option Addr}
theorem ct125 (ho:S0 rb=some ⟨Cs [.slice a n cap,int p] 142,true⟩) (hy:By S0 a n) (hy_rb:OffY a n rb) (hn:n≤2000) (p0:0≤p) (p1:p+130≤1000000) (m0:1≤m) (m1:m≤1000000) (k:∀ (x:Option Addr) (d:Nat) (rs:List Rule) (p':Int) S',Ext [rb] S0 S'→S' rb=some ⟨Cs [.slice a n cap,int p'] 142,true⟩→p≤p'→p'≤p+130→(Sl S' 7 x (vf rs))→(rs.length≤20)→(Org S0 none x)→K (.slice x rs.length d) S') :
  zC 125 #[vN rb 0,int m] S0 K:=by
 refine zGo (sf:=s125) Tryz.func125 ?_
 have H:=Loc.start1 ho
 refine zR (zt O (zNR (za (zT (cs:=[]) H O O fun b7 S hb7 hE H=>?_))))
 have hy_b7:=hy.ne hb7
 replace hy:=hy.mono hE
 refine zt O (zN ?_)
 refine wpS_cut (fun E S=>∃ (rs:List Rule) (bR:Nat) (capR:Nat) (csR:List Value) (q:Int),E=Env.lst [(0,vN rb 0),(1,int m),(5,sl bR 0 rs.length capR)]∧Loc [rb] S0 S [(bR,Cs csR 162),(rb,Cs [.slice a n cap,int q] 142)]∧(rs.length≤3)∧(rs.length≤capR)∧(csR.length=capR*7)∧(csR.take (rs.length*7)=(vf rs).flatten)∧(p≤q)∧(By S a n)∧(OffY a n rb)∧(OffY a n bR)∧(q≤p+38)) ?_ ?_
 ·skip
  refine zR (zt O (vK O (ct121 (H.get .h1) hy hy_rb hn (by omega) (by omega) (by omega) (by omega) fun r9 p9 S hE ho9 hp9 hq9 hr9 hs9=>?_)))
  replace H:=H.callX hE .h1 ho9
  replace hy:=hy.qy hE hy_rb
  refine za (W_gtr O O fun t10 h10=>zN ?_)
  rcases t10 with _|_
  ·replace h10:=bF h10
   refine zr O (zv (ze ?_))
   refine ⟨_,?le,[],b7,0,[],_,O,H,(by simp),(by simp),(by simp),(by simp),(by omega),hy,hy_rb,hy_b7,(by omega)⟩
   case le=>exact Env.qle ⟨O,O,O,⟨⟩⟩
  ·replace h10:=bT h10
   refine zj O (zR (zt O (vK O (ct121 (H.get .h1) hy hy_rb hn (by omega) (by omega) (by omega) (by omega) fun r12 p12 S hE ho12 hp12 hq12 hr12 hs12=>?_))))
   replace H:=H.callX hE .h1 ho12
   replace hy:=hy.qy hE hy_rb
   refine zt O (zN (zM ?_))
   refine vB (fun E S m_=>∃ (j:Int) (rs:List Rule) (bR:Nat) (capR:Nat) (csR:List Value) (q:Int),E=Env.lst [(0,vN rb 0),(1,int m),(5,sl bR 0 rs.length capR),(6,int j)]∧Loc [rb] S0 S [(bR,Cs csR 162),(rb,Cs [.slice a n cap,int q] 142)]∧(0≤j)∧(rs.length+j≤3)∧(rs.length≤capR)∧(csR.length=capR*7)∧(csR.take (rs.length*7)=(vf rs).flatten)∧(p≤q)∧(By S a n)∧(OffY a n rb)∧(OffY a n bR)∧(q≤p+2+(3-j)*12)∧m_=j.toNat) ?_ ?_
   ·skip
    refine ⟨_,_,?le,r12,[],b7,0,[],_,O,H,(by omega),(by simp;omega),(by simp),(by simp),(by simp),(by omega),hy,hy_rb,hy_b7,(by omega),O⟩
    case le=>exact Env.qle ⟨O,O,O,O,⟨⟩⟩
   ·skip
    rintro _ S _ ⟨j,rs,bR,capR,csR,q,rfl,H,hj0,hl3,hn7,hcl,hct,hq0,hy,hy_rb,hy_bR,hq1,rfl⟩
    refine zSS (zt O (za (W_gtr O O fun t14 h14=>zN ?_)))
    rcases t14 with _|_
    ·replace h14:=bF h14
     refine zr O (vz (z0 (z0 (vJ (ze ?_)))))
     refine ⟨_,?le,rs,bR,capR,csR,_,O,H,(by omega),hn7,hcl,hct,(by omega),hy,hy_rb,hy_bR,(by omega)⟩
     case le=>exact Env.qle ⟨O,O,O,⟨⟩⟩
    ·replace h14:=bT h14
     refine zj O (zv (ze (zJ (zM (zV (zt O (zt O (vK O (ct202 (H.get .h1) hy hy_rb hn (by omega) (by omega) (by omega) (by omega) fun x19 p19 S hE ho19 hp19 hq19=>?_)))))))))
     replace H:=H.callX hE .h1 ho19
     replace hy:=hy.qy hE hy_rb
     refine za (zT (cs:=[_,_,_,_,_,_,_]) H O O fun b20 S hb20 hE H=>?_)
     replace hy:=hy.mono hE
     refine za (W_append H O O .h1 hcl hn7 (Src.own H .h O) (by simp [v4]) O (by decide) (by omega) O fun b21 cap21 cs21 S hb21 H hE hn21 hcl21 hct21=>?_)
     have hy_b21:=hy.ne2 hy_bR hb21
     replace hy:=hy.qy hE hy_bR
     refine zt O (vl (z_ (ze (zV (zt O (zSb O O (zt O (zN ?_))))))))
     refine ⟨_,_,?lt,?le,(j-1),(rs++[x19]),b21,cap21,cs21,_,O,(H.sub (.cons_cons _ (.cons _ (.cons_cons _ .slnil)))),(by omega),(by simp;omega),(by simpa using hn21),hcl21,(by rw [List.length_append,List.length_singleton,hct21,hct];simp [vf]),(by omega),hy,hy_rb,hy_b21,(by omega),O⟩
     case lt=>omega
     case le=>exact Env.qle ⟨rfl,rfl,(by rw [List.length_append];rfl),rfl,trivial⟩
 ·skip
  rintro _ S ⟨rs,bR,capR,csR,q,rfl,H,hl3,hn7,hcl,hct,hq0,hy,hy_rb,hy_bR,hq1⟩
  refine zSS (zt O (zt O (vK O (ct52 (H.get .h1) hy hy_rb hn (by omega) (by omega) (by omega) (by omega) fun t24 p24 S hE ho24 hp24 hq24 h24=>?_))))
  replace H:=H.callX hE .h1 ho24
  replace hy:=hy.qy hE hy_rb
  refine zN ?_
  rcases t24 with _|_
  ·replace h24:=bF h24
   refine zr O (zv (ze (zR (zt O (zt O (zN (zi (z9 O ?_))))))))
   exact k (some ⟨bR,0,none⟩) capR rs _ _ H.qx (H.get .h1) (by omega) (by omega) (vc (n:=rs.length*7) (H.get .h) (by simp) hct vA) (by omega) (.own (H.new1x .h (by rintro rfl;exact absurd H.nodup (by simp))))
  ·replace h24:=bT h24
   refine zj O (zSS (zt O (vK O (ct121 (H.get .h1) hy hy_rb hn (by omega) (by omega) (by omega) (by omega) fun r26 p26 S hE ho26 hp26 hq26 hr26 hs26=>?_))))
   replace H:=H.callX hE .h1 ho26
   replace hy:=hy.qy hE hy_rb
   refine za (vX O O fun t27 h27=>zN ?_)
   rcases t27 with _|_
   ·replace h27:=bF h27
    refine zr O (zv (ze (zM ?_)))
    refine vB (fun E S m_=>∃ (rs:List Rule) (bR:Nat) (capR:Nat) (csR:List Value) (q:Int),E=Env.lst [(0,vN rb 0),(1,int m),(5,sl bR 0 rs.length capR)]∧Loc [rb] S0 S [(bR,Cs csR 162),(rb,Cs [.slice a n cap,int q] 142)]∧(rs.length≤6)∧(rs.length≤capR)∧(csR.length=capR*7)∧(csR.take (rs.length*7)=(vf rs).flatten)∧(p≤q)∧(By S a n)∧(OffY a n rb)∧(OffY a n bR)∧(q≤p+55+rs.length*12)∧m_=7-rs.length) ?_ ?_
    ·skip
     refine ⟨_,_,?le,rs,bR,capR,csR,_,O,H,(by omega),hn7,hcl,hct,(by omega),hy,hy_rb,hy_bR,(by omega),O⟩
     case le=>exact Env.qle ⟨O,O,O,⟨⟩⟩
    ·skip
     rintro _ S _ ⟨rs,bR,capR,csR,q,rfl,H,hl3,hn7,hcl,hct,hq0,hy,hy_rb,hy_bR,hq1,rfl⟩
     refine zSS (zt O (zLl O (za (W_leq O O fun t35 h35=>zN ?_))))
     rcases t35 with _|_
     ·replace h35:=bF h35
      refine zr O (vz (z0 (z0 (vJ (ze (zR (zt O (zt O (zN (zi (z9 O ?_)))))))))))
      exact k (some ⟨bR,0,none⟩) capR rs _ _ H.qx (H.get .h1) (by omega) (by omega) (vc (n:=rs.length*7) (H.get .h) (by simp) hct vA) (by omega) (.own (H.new1x .h (by rintro rfl;exact absurd H.nodup (by simp))))
     ·replace h35:=bT h35
      refine zj O (zv (ze (zM (zV (zt O (zt O (vK O (ct202 (H.get .h1) hy hy_rb hn (by omega) (by omega) (by omega) (by omega) fun x38 p38 S hE ho38 hp38 hq38=>?_))))))))
      replace H:=H.callX hE .h1 ho38
      replace hy:=hy.qy hE hy_rb
      refine za (zT (cs:=[_,_,_,_,_,_,_]) H O O fun b39 S hb39 hE H=>?_)
      replace hy:=hy.mono hE
      refine za (W_append H O O .h1 hcl hn7 (Src.own H .h O) (by simp [v4]) O (by decide) (by omega) O fun b40 cap40 cs40 S hb40 H hE hn40 hcl40 hct40=>?_)
      have hy_b40:=hy.ne2 hy_bR hb40
      replace hy:=hy.qy hE hy_bR
      refine zt O (vl (z_ (ze ?_)))
      refine ⟨_,_,?lt,?le,(rs++[x38]),b40,cap40,cs40,_,O,(H.sub (.cons_cons _ (.cons _ (.cons_cons _ .slnil)))),(by simp;omega),(by simpa using hn40),hcl40,(by rw [List.length_append,List.length_singleton,hct40,hct];simp [vf]),(by omega),hy,hy_rb,hy_b40,(by simp;omega),O⟩
      case lt=>(simp only [List.length_append,List.length_singleton];omega)
      case le=>exact Env.qle ⟨rfl,rfl,(by rw [List.length_append];rfl),trivial⟩
   ·replace h27:=bT h27
    refine zj O (zR (zt O (zt O (vK O (ct202 (H.get .h1) hy hy_rb hn (by omega) (by omega) (by omega) (by omega) fun x30 p30 S hE ho30 hp30 hq30=>?_)))))
    replace H:=H.callX hE .h1 ho30
    refine za (zT (cs:=[_,_,_,_,_,_,_]) H O O fun b31 S hb31 hE H=>za (W_append H O O .h1 hcl hn7 (Src.own H .h O) (by simp [v4]) O (by decide) (by omega) O fun b32 cap32 cs32 S hb32 H hE hn32 hcl32 hct32=>zt O (zN (zi (zw (zw (z9 O ?_)))))))
    have hct':cs32.take ((rs++[x30]).length*7)=(vf (rs++[x30])).flatten:=(by rw [List.length_append,List.length_singleton,hct32,hct];simp [vf])
    have k':=k (some ⟨b32,0,none⟩) cap32 (rs++[x30]) _ _ H.qx (H.get .h2) (by omega) (by omega) (vc (n:=(rs++[x30]).length*7) (H.get .h) (by simp) hct' vA) (by simp;omega) (.own (H.new1x .h (by rintro rfl;exact absurd H.nodup (by simp))))
    rw [List.length_append] at k'
    exact k'
theorem ct122 (ho:S0 rb=some ⟨Cs [.slice a n cap,int p] 142,true⟩) (hy:By S0 a n) (hy_rb:OffY a n rb) (hn:n≤2000) (p0:0≤p) (p1:p+60≤1000000) (m0:1≤m) (m1:m≤1000000) (k:∀ (x:Option Addr) (d:Nat) (es:List End) (p':Int) S',Ext [rb] S0 S'→S' rb=some ⟨Cs [.slice a n cap,int p'] 142,true⟩→p≤p'→p'≤p+60→(Sl S' 2 x (zW es))→(es.length≤d)→(es.length≤12)→(Org S0 none x)→K (.agg #[.slice x es.length d]) S') :
  zC 122 #[vN rb 0,int m] S0 K:=by
 refine zGo (sf:=s122) Tryz.func122 ?_
 have H:=Loc.start1 ho
 have hy0:=hy
 refine zR (zAl H O fun b4 S hb4 hE H=>?_)
 have hy_b4:=hy.ne hb4
 replace hy:=hy.mono hE
 refine zNR (za (vr (cs:=[_]) O O (zAl H O fun b5 S hb5 hE H=>?_)))
 have hy_b5:=hy.ne hb5
 replace hy:=hy.mono hE
 refine v5 H O O O .h O fun S hE H=>?_
 replace hy:=hy.qy hE hy_b5
 refine zN (zSS (zt O (vK O (ct121 (H.get .h2) hy hy_rb hn (by omega) (by omega) (by omega) (by omega) fun r11 p11 S hE ho11 hp11 hq11 hr11 hs11=>?_))))
 replace H:=H.callX hE .h2 ho11
 replace hy:=hy.qy hE hy_rb
 refine zt O (zN (zM ?_))
 refine vB (fun E S m_=>∃ (j:Int) (x:Option Addr) (d:Nat) (es:List End) (q:Int),E=Env.lst [(0,vN rb 0),(1,int m),(4,vN b4 0),(5,vN b5 0),(6,int j)]∧Loc [rb] S0 S [(b5,Cs [.slice x es.length d] 26),(b4,Cs [.slice none 0 0] 26),(rb,Cs [.slice a n cap,int q] 142)]∧(0≤j)∧(j≤7)∧(es.length≤6)∧(OwnO S0 S x 31 2 d (zW es))∧(es.length≤d)∧(p≤q)∧(By S a n)∧(∀ b off,x=some ⟨b,off,none⟩→b≠b5)∧(∀ b off,x=some ⟨b,off,none⟩→b≠b4)∧(∀ b off,x=some ⟨b,off,none⟩→b≠rb)∧(OffY a n b5)∧(OffY a n b4)∧(OffY a n rb)∧(q≤p+1+(7-j)*3)∧m_=j.toNat) ?_ ?_
 ·skip
  refine ⟨_,_,?le,r11,none,0,[],_,O,H,(by omega),(by omega),(by simp),.nil,(Nat.le_refl _),(by omega),hy,nofun,nofun,nofun,hy_b5,hy_b4,hy_rb,(by omega),O⟩
  case le=>exact Env.qle ⟨O,O,O,O,O,⟨⟩⟩
 ·skip
  rintro _ S _ ⟨j,x,d,es,q,rfl,H,hj0,hj1,hes,hO,hcp,hq0,hy,hO_b5,hO_b4,hO_rb,hy_b5,hy_b4,hy_rb,hq1,rfl⟩
  refine zSS (zt O (za (W_gtr O O fun t13 h13=>zN ?_)))
  rcases t13 with _|_
  ·replace h13:=bF h13
   refine zr O (vz (z0 (z0 (vJ (ze ?_)))))
   refine wpS_cut (fun E S=>∃ (x:Option Addr) (d:Nat) (es:List End) (q:Int),E=Env.lst [(0,vN rb 0),(4,vN b4 0),(5,vN b5 0)]∧Loc [rb] S0 S [(b5,Cs [.slice x es.length d] 26),(b4,Cs [.slice none 0 0] 26),(rb,Cs [.slice a n cap,int q] 142)]∧(Sl S 2 x (zW es))∧(es.length≤d)∧(es.length≤12)∧(Org S0 none x)∧(p≤q)∧(q≤p+60)∧(∀ b off,x=some ⟨b,off,none⟩→b≠b4)) ?_ ?_
   ·skip
    refine zR (zt O (zt O (vK O (ct52 (H.get .h2) hy hy_rb hn (by omega) (by omega) (by omega) (by omega) fun t26 p26 S hE ho26 hp26 hq26 h26=>?_))))
    replace H:=H.callX hE .h2 ho26
    replace hO:=hO.qy hE hO_rb
    replace hy:=hy.qy hE hy_rb
    refine zN ?_
    rcases t26 with _|_
    ·replace h26:=bF h26
     refine zr O (zv (ze ?_))
     refine ⟨_,?le,_,d,es,_,O,H,hO.sl,hcp,(by omega),hO.org,(by omega),(by omega),hO_b4⟩
     case le=>exact Env.qle ⟨O,O,O,⟨⟩⟩
    ·replace h26:=bT h26
     refine zj O (zR (zt O (vK O (ct121 (H.get .h2) hy hy_rb hn (by omega) (by omega) (by omega) (by omega) fun r28 p28 S hE ho28 hp28 hq28 hr28 hs28=>?_))))
     replace H:=H.callX hE .h2 ho28
     replace hO:=hO.qy hE hO_rb
     replace hy:=hy.qy hE hy_rb
     refine zN (zM (zR (za (vX O O fun t44 h44=>zt O (zN ?_)))))
     rcases t44 with _|_
     ·replace h44:=bF h44
      refine zr O (zR (za (vX O O fun t53 h53=>zt O (zN ?_))))
      rcases t53 with _|_
      ·replace h53:=bF h53
       refine zr O (zM ?_)
       refine vB (fun E S m_=>∃ (x:Option Addr) (d:Nat) (es:List End) (q:Int),E=Env.lst [(0,vN rb 0),(4,vN b4 0),(5,vN b5 0)]∧Loc [rb] S0 S [(b5,Cs [.slice x es.length d] 26),(b4,Cs [.slice none 0 0] 26),(rb,Cs [.slice a n cap,int q] 142)]∧(es.length≤7)∧(OwnO S0 S x 31 2 d (zW es))∧(es.length≤d)∧(p≤q)∧(By S a n)∧(∀ b off,x=some ⟨b,off,none⟩→b≠b5)∧(∀ b off,x=some ⟨b,off,none⟩→b≠b4)∧(∀ b off,x=some ⟨b,off,none⟩→b≠rb)∧(OffY a n b5)∧(OffY a n b4)∧(OffY a n rb)∧(q≤p+40)∧m_=8-es.length) ?_ ?_
       ·skip
        refine ⟨_,_,?le,x,d,es,_,O,H,(by omega),hO,hcp,(by omega),hy,hO_b5,hO_b4,hO_rb,hy_b5,hy_b4,hy_rb,(by omega),O⟩
        case le=>exact Env.qle ⟨O,O,O,⟨⟩⟩
       ·skip
        rintro _ S _ ⟨x,d,es,q,rfl,H,hes,hO,hcp,hq0,hy,hO_b5,hO_b4,hO_rb,hy_b5,hy_b4,hy_rb,hq1,rfl⟩
        refine zSS (vW O (zL1 H O .h O (zLl O (za (W_leq O O fun t32 h32=>zN ?_)))))
        rcases t32 with _|_
        ·replace h32:=bF h32
         refine zr O (vz (z0 (z0 (vJ (z_ (ze ?_))))))
         refine ⟨_,?le,_,d,es,_,O,H,hO.sl,hcp,(by omega),hO.org,(by omega),(by omega),hO_b4⟩
         case le=>exact Env.qle ⟨O,O,O,⟨⟩⟩
        ·replace h32:=bT h32
         refine zj O (zv (ze (zM (zV (vW O (zL1 H O .h O (vW O (zL1 H O .h O (zLl O (zAd O O (za (vr (cs:=[_,_]) O O (za (zT (cs:=[_,_]) H O O fun b40 S hb40 hE H=>?_))))))))))))))
         have hO_b40:=hO.ne hb40
         replace hO:=hO.mono hE
         replace hy:=hy.mono hE
         have Ho41:=H
         refine za (W_appendO H hO (fun q e=>by simp [hO_b40 q 0 e,hO_b5 q 0 e,hO_b4 q 0 e,hO_rb q 0 e]) (by rw [List.length_map];rfl) O (Src.own H .h O) (by simp [v4]) O (by decide) (by decide) (by simp;omega) O fun b41 m41 cap41 cs41 S hb41 hm41 hx41 H hE hn41 hcl41 hct41=>?_)
         obtain ⟨l41,hes41⟩:∃ l,l=es++[⟨8,1+es.length⟩]:=⟨_,rfl⟩
         have hl41:(zW es).length+1=l41.length:=by simp [hes41]
         have hll41:es.length+1=l41.length:=by simp [hes41]
         rw [hl41] at hn41 hct41 ⊢
         have hO41:OwnO S0 S (some ⟨b41,0,none⟩) 31 2 cap41 (zW l41):=.inr ⟨b41,rfl,(by rcases hb41 with e | e;(rw [e];exact hm41);exact Ho41.g.isNone e),_,H.get .h,by simpa using hn41,hcl41,by (rw [List.length_map,hct41,hes41];simp [zW]),vI⟩
         have hy_m41:=hy0.off0 hm41
         replace hy:=hy.qy hE hy_m41
         have hO41_b5:=own_ne (a:=b41) (b:=b5) (by rintro rfl;exact absurd H.nodup (by simp))
         have hO41_b4:=own_ne (a:=b41) (b:=b4) (by rintro rfl;exact absurd H.nodup (by simp))
         have hO41_rb:=own_ne (a:=b41) (b:=rb) (by rintro rfl;exact absurd H.nodup (by simp))
         replace H:=H.drop1
         refine vW O (v5 H O O O .h1 O fun S hE H=>?_)
         replace hy:=hy.qy hE hy_b5
         replace hO41:=hO41.qy hE hO41_b5
         refine vl (z_ (ze ?_))
         refine ⟨_,_,?lt,?le,_,cap41,l41,_,O,(H.sub (.cons _ (.cons_cons _ (.cons_cons _ (.cons_cons _ .slnil))))),(by omega),hO41,(by simpa using hO41.cap),(by omega),hy,hO41_b5,hO41_b4,hO41_rb,hy_b5,hy_b4,hy_rb,(by omega),O⟩
         case lt=>omega
         case le=>exact Env.qle ⟨O,O,O,⟨⟩⟩
      ·replace h53:=bT h53
       refine zj O (zV (vW O (zL1 H O .h O (za (vr (cs:=[_,_]) O O (za (zT (cs:=[_,_]) H O O fun b57 S hb57 hE H=>?_)))))))
       have hO_b57:=hO.ne hb57
       replace hO:=hO.mono hE
       have Ho58:=H
       refine za (W_appendO H hO (fun q e=>by simp [hO_b57 q 0 e,hO_b5 q 0 e,hO_b4 q 0 e,hO_rb q 0 e]) (by rw [List.length_map];rfl) O (Src.own H .h O) (by simp [v4]) O (by decide) (by decide) (by simp;omega) O fun b58 m58 cap58 cs58 S hb58 hm58 hx58 H hE hn58 hcl58 hct58=>?_)
       obtain ⟨l58,hes58⟩:∃ l,l=es++[⟨9,9⟩]:=⟨_,rfl⟩
       have hl58:(zW es).length+1=l58.length:=by simp [hes58]
       have hll58:es.length+1=l58.length:=by simp [hes58]
       rw [hl58] at hn58 hct58 ⊢
       have hO58:OwnO S0 S (some ⟨b58,0,none⟩) 31 2 cap58 (zW l58):=.inr ⟨b58,rfl,(by rcases hb58 with e | e;(rw [e];exact hm58);exact Ho58.g.isNone e),_,H.get .h,by simpa using hn58,hcl58,by (rw [List.length_map,hct58,hes58];simp [zW]),vI⟩
       have hO58_b57:=own_ne (a:=b58) (b:=b57) (by rintro rfl;exact absurd H.nodup (by simp))
       have hO58_b5:=own_ne (a:=b58) (b:=b5) (by rintro rfl;exact absurd H.nodup (by simp))
       have hO58_b4:=own_ne (a:=b58) (b:=b4) (by rintro rfl;exact absurd H.nodup (by simp))
       have hO58_rb:=own_ne (a:=b58) (b:=rb) (by rintro rfl;exact absurd H.nodup (by simp))
       replace H:=H.drop1
       refine za (vr (cs:=[_,_]) O O (za (zT (cs:=[_,_]) H O O fun b60 S hb60 hE H=>?_)))
       have hO58_b60:=hO58.ne hb60
       replace hO58:=hO58.mono hE
       have Ho61:=H
       refine za (W_appendO H hO58 (fun q e=>by simp [hO58_b60 q 0 e,hO58_b57 q 0 e,hO58_b5 q 0 e,hO58_b4 q 0 e,hO58_rb q 0 e]) (by rw [List.length_map];rfl) O (Src.own H .h O) (by simp [v4]) O (by decide) (by decide) (by simp;omega) O fun b61 m61 cap61 cs61 S hb61 hm61 hx61 H hE hn61 hcl61 hct61=>?_)
       obtain ⟨l61,hes61⟩:∃ l,l=l58++[⟨9,9⟩]:=⟨_,rfl⟩
       have hl61:(zW l58).length+1=l61.length:=by simp [hes61]
       have hll61:l58.length+1=l61.length:=by simp [hes61]
       rw [hl61] at hn61 hct61 ⊢
       have hO61:OwnO S0 S (some ⟨b61,0,none⟩) 31 2 cap61 (zW l61):=.inr ⟨b61,rfl,(by rcases hb61 with e | e;(rw [e];exact hm61);exact Ho61.g.isNone e),_,H.get .h,by simpa using hn61,hcl61,by (rw [List.length_map,hct61,hes61];simp [zW]),vI⟩
       have hO61_b5:=own_ne (a:=b61) (b:=b5) (by rintro rfl;exact absurd H.nodup (by simp))
       have hO61_b4:=own_ne (a:=b61) (b:=b4) (by rintro rfl;exact absurd H.nodup (by simp))
       replace H:=H.drop1
       refine vW O (v5 H O O O .h2 O fun S hE H=>?_)
       replace hO61:=hO61.qy hE hO61_b5
       refine vl (z_ (ze ?_))
       refine ⟨_,?le,_,cap61,l61,_,O,(H.sub (.cons _ (.cons _ (.cons_cons _ (.cons_cons _ (.cons_cons _ .slnil)))))),hO61.sl,(by simpa using hO61.cap),(by omega),hO61.org,(by omega),(by omega),hO61_b4⟩
       case le=>exact Env.qle ⟨O,O,O,⟨⟩⟩
     ·replace h44:=bT h44
      refine zj O (zY [rb] (zLf 0 O O O (ve 1 O O (fun S' hS'=>zA fun K hK=>zE O (zB (hS' O) (nin1 (by rintro rfl;exact absurd H.nodup (by simp))) (H.cell .h O)) hK) (vC 2 O O O (zy 3 (by kernel_rfl) O O (zn (zP O (ct128 (H.get .h2) hy hy_rb hn (by omega) (by omega)  fun e48 p48 S hE ho48 hp48 hq48=>?_))))))))
      replace H:=H.callX hE .h2 ho48
      replace hO:=hO.qy hE hO_rb
      refine ⟨fun _=>hE.ext,zy 4 (by kernel_rfl) O O (zn (zT (cs:=[_,_]) H O O fun b49 S hb49 hE H=>?_))⟩
      have hO_b49:=hO.ne hb49
      replace hO:=hO.mono hE
      refine ⟨fun _=>hE.up.ext,zy 5 (by kernel_rfl) O O ?_⟩
      have Ho50:=H
      refine zn (W_appendO H hO (fun q e=>by simp [hO_b49 q 0 e,hO_b5 q 0 e,hO_b4 q 0 e,hO_rb q 0 e]) (by rw [List.length_map];rfl) O (Src.own H .h O) (by simp [v4]) O (by decide) (by decide) (by simp;omega) O fun b50 m50 cap50 cs50 S hb50 hm50 hx50 H hE hn50 hcl50 hct50=>?_)
      obtain ⟨l50,hes50⟩:∃ l,l=es++[e48]:=⟨_,rfl⟩
      have hl50:(zW es).length+1=l50.length:=by simp [hes50]
      have hll50:es.length+1=l50.length:=by simp [hes50]
      rw [hl50] at hn50 hct50 ⊢
      have hO50:OwnO S0 S (some ⟨b50,0,none⟩) 31 2 cap50 (zW l50):=.inr ⟨b50,rfl,(by rcases hb50 with e | e;(rw [e];exact hm50);exact Ho50.g.isNone e),_,H.get .h,by simpa using hn50,hcl50,by (rw [List.length_map,hct50,hes50];simp [zW]),vI⟩
      have hO50_b5:=own_ne (a:=b50) (b:=b5) (by rintro rfl;exact absurd H.nodup (by simp))
      have hO50_b4:=own_ne (a:=b50) (b:=b4) (by rintro rfl;exact absurd H.nodup (by simp))
      replace H:=H.drop1
      refine zLd (zLf 6 O O O (zy 7 (by kernel_rfl) O O (zn (zSt H O O O .h1 O fun S hE H=>?_))))
      replace hO50:=hO50.qy hE hO50_b5
      refine zLd (zS (z_ (ze ?_)))
      refine ⟨_,?le,_,cap50,l50,_,O,(H.sub (.cons _ (.cons_cons _ (.cons_cons _ (.cons_cons _ .slnil))))),hO50.sl,(by simpa using hO50.cap),(by omega),hO50.org,(by omega),(by omega),hO50_b4⟩
      case le=>exact Env.qle ⟨O,O,O,⟨⟩⟩
   ·skip
    rintro _ S ⟨x,d,es,q,rfl,H,hs,hcp,hes,hor,hq0,hq1,hs_b4⟩
    refine zR (zLn (vs:=[_]) H O .h O (v5 H O O O .h1 O fun S hE H=>?_))
    replace hs:=hs.qy hE hs_b4
    refine zN (zi (⟨trivial,_,(zU (ws:=[_]) H O .h1 O zK),?_⟩))
    exact k _ d es _ _ H.qx (H.get .h2) (by omega) (by omega) hs hcp hes hor
  ·replace h13:=bT h13
   refine zj O (zv (ze (zJ (zM ?_))))
   refine wpS_cut (fun E S=>∃ (b7:Nat) (x2:Option Addr) (d2:Nat) (es2:List End) (qq:Int),E=Env.lst [(0,vN rb 0),(1,int m),(4,vN b4 0),(5,vN b5 0),(6,int j),(7,vN b7 0)]∧Loc [rb] S0 S [(b7,Cs [.slice x2 es2.length d2] 26),(b5,Cs [.slice x es.length d] 26),(b4,Cs [.slice none 0 0] 26),(rb,Cs [.slice a n cap,int qq] 142)]∧(es2.length≤6)∧(OwnO S0 S x2 31 2 d2 (zW es2))∧(es2.length≤d2)∧(q≤qq)∧(qq≤q+3)∧(By S a n)∧(∀ b off,x2=some ⟨b,off,none⟩→b≠b7)∧(∀ b off,x2=some ⟨b,off,none⟩→b≠b5)∧(∀ b off,x2=some ⟨b,off,none⟩→b≠b4)∧(∀ b off,x2=some ⟨b,off,none⟩→b≠rb)∧(OffY a n b7)∧(OffY a n b5)∧(OffY a n b4)∧(OffY a n rb)) ?_ ?_
   ·skip
    refine zY [rb] (ve 0 O O (fun S' hS'=>zA fun K hK=>zO O (zF (hS' O) (nin1 (by rintro rfl;exact absurd H.nodup (by simp))) (H.cells (vs:=[_]) .h O)) hK) (vC 1 O O O (wpD_two 2 7 (by kernel_rfl) O O O O ?_ ?_)))
    ·skip
     refine zn (zP O (ct127 (H.get .h2) hy hy_rb hn (by omega) (by omega)  fun e19 p19 S hE ho19 hp19 hq19=>?_))
     replace H:=H.callX hE .h2 ho19
     replace hO:=hO.qy hE hO_rb
     replace hy:=hy.qy hE hy_rb
     refine ⟨fun _=>hE.ext,wpD_two 3 7 (by kernel_rfl) O O O O ?_ ?_⟩
     ·skip
      refine zn (zP O (ct199 hO.sl hcp (by omega) fun x20 d20 r20 S hE hl20 hO20=>?_))
      have hO20_b5:=hO20.off (H.get .h)
      have hO20_b4:=hO20.off (H.get .h1)
      have hO20_rb:=hO20.off (H.get .h2)
      replace hO20:=hO20.backX H.qx
      have hcp20:r20.1.length≤d20:=by simpa using hO20.cap
      replace H:=H.call hE
      replace hy:=hy.mono hE
      refine zLd (vC 4 O O O (vF 5 O O (fun _ _ hK=>vo O O hK) (vF 6 O O (fun _ _ hK=>vo O O hK) (zy 7 (by kernel_rfl) O O (zn (W_alloc H O fun b7 S hb7 hE H=>?_))))))
      have hy_b7:=hy.ne hb7
      replace hy:=hy.mono hE
      have hO20_b7:=hO20.ne hb7
      replace hO20:=hO20.mono hE
      refine ⟨fun _=>hE.up.ext,zy 8 (by kernel_rfl) O O (zn (zSt H O O O .h O fun S hE H=>?_))⟩
      replace hy:=hy.qy hE hy_b7
      replace hO20:=hO20.qy hE hO20_b7
      refine zLd (vC 9 O O O (zS (ze ?_)))
      refine ⟨_,?le,b7,x20,d20,r20.1,_,O,H,hl20,hO20,hcp20,(by omega),(by omega),hy,hO20_b7,hO20_b5,hO20_b4,hO20_rb,hy_b7,hy_b5,hy_b4,hy_rb⟩
      case le=>exact Env.qle ⟨O,O,O,O,O,O,⟨⟩⟩
     ·skip
      refine zn (W_alloc H O fun b7 S hb7 hE H=>?_)
      replace hO:=hO.mono hE
      have hy_b7:=hy.ne hb7
      replace hy:=hy.mono hE
      refine ⟨fun _=>hE.up.ext,zy 3 (by kernel_rfl) O O (zn (zP O (ct199 hO.sl hcp (by omega) fun x20 d20 r20 S hE hl20 hO20=>?_)))⟩
      have hO20_b7:=hO20.off (H.get .h)
      have hO20_b5:=hO20.off (H.get .h1)
      have hO20_b4:=hO20.off (H.get .h2)
      have hO20_rb:=hO20.off (H.get .h3)
      replace hO20:=hO20.backX H.qx
      have hcp20:r20.1.length≤d20:=by simpa using hO20.cap
      replace H:=H.call hE
      replace hy:=hy.mono hE
      refine zLd (vC 4 O O O (vF 5 O O (fun _ _ hK=>vo O O hK) (vF 6 O O (fun _ _ hK=>vo O O hK) (zy 8 (by kernel_rfl) O O (zn (zSt H O O O .h O fun S hE H=>?_))))))
      replace hy:=hy.qy hE hy_b7
      replace hO20:=hO20.qy hE hO20_b7
      refine zLd (vC 9 O O O (zS (ze ?_)))
      refine ⟨_,?le,b7,x20,d20,r20.1,_,O,H,hl20,hO20,hcp20,(by omega),(by omega),hy,hO20_b7,hO20_b5,hO20_b4,hO20_rb,hy_b7,hy_b5,hy_b4,hy_rb⟩
      case le=>exact Env.qle ⟨O,O,O,O,O,O,⟨⟩⟩
    ·skip
     refine zn (W_alloc H O fun b7 S hb7 hE H=>?_)
     replace hO:=hO.mono hE
     have hy_b7:=hy.ne hb7
     replace hy:=hy.mono hE
     refine ⟨fun _=>hE.up.ext,zy 2 (by kernel_rfl) O O (zn (zP O (ct127 (H.get .h3) hy hy_rb hn (by omega) (by omega)  fun e19 p19 S hE ho19 hp19 hq19=>?_)))⟩
     replace H:=H.callX hE .h3 ho19
     replace hO:=hO.qy hE hO_rb
     replace hy:=hy.qy hE hy_rb
     refine ⟨fun _=>hE.ext,zy 3 (by kernel_rfl) O O (zn (zP O (ct199 hO.sl hcp (by omega) fun x20 d20 r20 S hE hl20 hO20=>?_)))⟩
     have hO20_b7:=hO20.off (H.get .h)
     have hO20_b5:=hO20.off (H.get .h1)
     have hO20_b4:=hO20.off (H.get .h2)
     have hO20_rb:=hO20.off (H.get .h3)
     replace hO20:=hO20.backX H.qx
     have hcp20:r20.1.length≤d20:=by simpa using hO20.cap
     replace H:=H.call hE
     replace hy:=hy.mono hE
     refine zLd (vC 4 O O O (vF 5 O O (fun _ _ hK=>vo O O hK) (vF 6 O O (fun _ _ hK=>vo O O hK) (zy 8 (by kernel_rfl) O O (zn (zSt H O O O .h O fun S hE H=>?_))))))
     replace hy:=hy.qy hE hy_b7
     replace hO20:=hO20.qy hE hO20_b7
     refine zLd (vC 9 O O O (zS (ze ?_)))
     refine ⟨_,?le,b7,x20,d20,r20.1,_,O,H,hl20,hO20,hcp20,(by omega),(by omega),hy,hO20_b7,hO20_b5,hO20_b4,hO20_rb,hy_b7,hy_b5,hy_b4,hy_rb⟩
     case le=>exact Env.qle ⟨O,O,O,O,O,O,⟨⟩⟩
   ·skip
    rintro _ S ⟨b7,x2,d2,es2,qq,rfl,H,hes2,hO2,hcp2,hq2,hq3,hy,hO2_b7,hO2_b5,hO2_b4,hO2_rb,hy_b7,hy_b5,hy_b4,hy_rb⟩
    refine zV (zLn (vs:=[_]) H O .h O (v5 H O O O .h1 O fun S hE H=>?_))
    replace hO2:=hO2.qy hE hO2_b5
    replace hy:=hy.qy hE hy_b5
    refine vl (z_ (ze (zV (zt O (zSb O O (zt O (zN ?_)))))))
    refine ⟨_,_,?lt,?le,(j-1),x2,d2,es2,_,O,(H.sub (.cons _ (.cons_cons _ (.cons_cons _ (.cons_cons _ .slnil))))),(by omega),(by omega),hes2,hO2,hcp2,(by omega),hy,hO2_b5,hO2_b4,hO2_rb,hy_b5,hy_b4,hy_rb,(by omega),O⟩
    case lt=>omega
    case le=>exact Env.qle ⟨O,O,O,O,O,⟨⟩⟩
theorem ct120  (ho:S0 rb=some ⟨Cs [.slice a n cap,int p] 142,true⟩) (hy:By S0 a n) (hy_rb:OffY a n rb) (hn:n≤2000) (p0:0≤p) (p1:p+1200≤1000000)  (k:∀ (x1 x2 x3:Option Addr) (d1 d2 d3:Nat) (b:Box) (p':Int) S',Ext [rb] S0 S'→S' rb=some ⟨Cs [.slice a n cap,int p'] 142,true⟩→p≤p'→p'≤p+1200→(BoxM S0 S' x1 x2 x3 d2 d3 b)→(BoxY b)→K (.agg #[.slice x1 b.rs.length d1,.slice x2 b.es.length d2,.slice x3 b.cs.length d3]) S') :
  zC 120 #[vN rb 0] S0 K:=by
 refine zGo (sf:=s120) Tryz.func120 ?_
 have H:=Loc.start1 ho
 refine zR (zAl H O fun b2 S hb2 hE H=>?_)
 have hy_b2:=hy.ne hb2
 replace hy:=hy.mono hE
 refine zNR (zt O (vK O (ct125 (H.get .h1) hy hy_rb hn (by omega) (by omega) (by decide) (by decide) fun x10 d10 rs10 p10 S hE ho10 hp10 hq10 hs10 hl10 hor10=>?_)))
 replace H:=H.callX hE .h1 ho10
 replace hy:=hy.qy hE hy_rb
 refine vK O (ct198 hs10 (by omega) fun x111 d111 q11 S hE hq11 hM11=>?_)
 have hM11_b2:=hM11.old (H.get .h)
 have hM11_rb:=hM11.old (H.get .h1)
 replace hM11:=hM11.backX H.qx
 have hz11:=rules_y hl10 hq11
 replace H:=H.call hE
 replace hy:=hy.mono hE
 obtain ⟨r11,rfl⟩:∃ r:List Rule,q11=(⟨r,[],[]⟩:Box):=by rcases hq11 with rfl | rfl<;>exact ⟨_,rfl⟩
 refine zAl H O fun b3 S hb3 hE H=>?_
 have hy_b3:=hy.ne hb3
 replace hy:=hy.mono hE
 have hM11_b3:=hM11.ne hb3
 replace hM11:=hM11.mono hE
 refine v5 H O O O .h O fun S hE H=>?_
 replace hy:=hy.qy hE hy_b3
 replace hM11:=hM11.qy hE hM11_b3
 refine zN (zSS (zt O (vK O (ct121 (H.get .h2) hy hy_rb hn (by omega) (by omega) (by omega) (by omega) fun r13 p13 S hE ho13 hp13 hq13 hr13 hs13=>?_))))
 replace H:=H.callX hE .h2 ho13
 replace hy:=hy.qy hE hy_rb
 replace hM11:=hM11.qy hE hM11_rb
 refine zt O (zN (zM ?_))
 refine vB (fun E S m_=>∃ (j:Int) (x1:Option Addr) (x2:Option Addr) (x3:Option Addr) (d1:Nat) (d2:Nat) (d3:Nat) (b:Box) (q:Int),E=Env.lst [(0,vN rb 0),(2,vN b2 0),(3,vN b3 0),(4,int j)]∧Loc [rb] S0 S [(b3,Cs [.slice x1 b.rs.length d1,.slice x2 b.es.length d2,.slice x3 b.cs.length d3] 29),(b2,Cs [.slice none 0 0,.slice none 0 0,.slice none 0 0] 29),(rb,Cs [.slice a n cap,int q] 142)]∧(0≤j)∧(j≤15)∧(BoxM S0 S x1 x2 x3 d2 d3 b)∧(BoxY b)∧(p≤q)∧(By S a n)∧(NotIn x1 x2 x3 b3)∧(NotIn x1 x2 x3 b2)∧(NotIn x1 x2 x3 rb)∧(OffY a n b3)∧(OffY a n b2)∧(OffY a n rb)∧(q≤p+131+(15-j)*61)∧m_=j.toNat) ?_ ?_
 ·skip
  refine ⟨_,_,?le,r13,x111,none,none,d111,0,0,(⟨r11,[],[]⟩:Box),_,O,H,(by omega),(by omega),hM11,hz11,(by omega),hy,hM11_b3,hM11_b2,hM11_rb,hy_b3,hy_b2,hy_rb,(by omega),O⟩
  case le=>exact Env.qle ⟨O,O,O,O,⟨⟩⟩
 ·skip
  rintro _ S _ ⟨j,x1,x2,x3,d1,d2,d3,b,q,rfl,H,hj0,hj1,hM,hz,hq0,hy,hM_b3,hM_b2,hM_rb,hy_b3,hy_b2,hy_rb,hq1,rfl⟩
  refine zSS (zt O (za (W_gtr O O fun t15 h15=>zN ?_)))
  rcases t15 with _|_
  ·replace h15:=bF h15
   refine zr O (vz (z0 (z0 (vJ (ze (zR (zLn (vs:=[_,_,_]) H O .h O (v5 H O O O .h1 O fun S hE H=>?_))))))))
   replace hM:=hM.qy hE hM_b2
   refine zN (zi (⟨trivial,_,(zU (ws:=[_,_,_]) H O .h1 O zK),?_⟩))
   exact k _ _ _ _ _ _ b _ _ H.qx (H.get .h2) (by omega) (by omega) hM hz
  ·replace h15:=bT h15
   refine zj O (zv (ze (zJ (zM (zR (zt O (vK O (ct121 (H.get .h2) hy hy_rb hn (by omega) (by omega) (by omega) (by omega) fun r19 p19 S hE ho19 hp19 hq19 hr19 hs19=>?_))))))))
   replace H:=H.callX hE .h2 ho19
   replace hM:=hM.qy hE hM_rb
   replace hy:=hy.qy hE hy_rb
   refine za (vX O O fun t20 h20=>zN ?_)
   rcases t20 with _|_
   ·replace h20:=bF h20
    refine zr O ?_
    refine wpS_cut (fun E S=>∃ (b7:Nat) (y1:Option Addr) (y2:Option Addr) (y3:Option Addr) (e1:Nat) (e2:Nat) (e3:Nat) (c:Box) (qq:Int),E=Env.lst [(0,vN rb 0),(2,vN b2 0),(3,vN b3 0),(4,int j),(7,vN b7 0)]∧Loc [rb] S0 S [(b7,Cs [.slice y1 c.rs.length e1,.slice y2 c.es.length e2,.slice y3 c.cs.length e3] 29),(b3,Cs [.slice x1 b.rs.length d1,.slice x2 b.es.length d2,.slice x3 b.cs.length d3] 29),(b2,Cs [.slice none 0 0,.slice none 0 0,.slice none 0 0] 29),(rb,Cs [.slice a n cap,int qq] 142)]∧(BoxM S0 S y1 y2 y3 e2 e3 c)∧(BoxY c)∧(q≤qq)∧(qq≤q+61)∧(By S a n)∧(NotIn y1 y2 y3 b7)∧(NotIn y1 y2 y3 b3)∧(NotIn y1 y2 y3 b2)∧(NotIn y1 y2 y3 rb)∧(OffY a n b7)∧(OffY a n b3)∧(OffY a n b2)∧(OffY a n rb)) ?_ ?_
    ·skip
     refine zY [rb] (ve 0 O O (fun S' hS'=>zA fun K hK=>zO O (zF (hS' O) (nin1 (by rintro rfl;exact absurd H.nodup (by simp))) (H.cells (vs:=[_,_,_]) .h O)) hK) (vC 1 O O O (ve 2 O O (fun S' hS'=>zA fun K hK=>zO O (zF (hS' O) (nin1 (by rintro rfl;exact absurd H.nodup (by simp))) (H.cells (vs:=[_,_,_]) .h O)) hK) (wpD_two 3 8 (by kernel_rfl) O O O O ?_ ?_))))
     ·skip
      refine zn (zP O (ct54 (H.get .h2) hy hy_rb hn (by omega) (by omega) hM.e hM.slc hM_rb.p2 hM_rb.p3 hM.l2 hz.z fun s34 p34 S hE ho34 hp34 hq34 hl34=>?_))
      replace H:=H.callX hE .h2 ho34
      replace hM:=hM.qy hE hM_rb
      replace hy:=hy.qy hE hy_rb
      refine ⟨fun _=>hE.ext,wpD_two 4 8 (by kernel_rfl) O O O O ?_ ?_⟩
      ·skip
       refine zn (zP O (ct32 hM.r hM.e hM.slc hM.l2 hM.l3 hz.z fun x135 x235 x335 x435 d135 d235 d335 d435 r35 S hE hr35 hM35 hD35 hl35=>?_))
       have hM35_b3:=hM35.old (H.get .h)
       have hM35_b2:=hM35.old (H.get .h1)
       have hM35_rb:=hM35.old (H.get .h2)
       replace hM35:=hM35.backX H.qx
       have hz35:BoxY r35.1:=by rw [hr35];exact boxOutP_Y _ _
       replace H:=H.call hE
       replace hy:=hy.mono hE
       refine zLd (vC 5 O O O (vF 6 O O (fun _ _ hK=>vo O O hK) (vF 7 O O (fun _ _ hK=>vo O O hK) (zy 8 (by kernel_rfl) O O (zn (W_alloc H O fun b7 S hb7 hE H=>?_))))))
       have hy_b7:=hy.ne hb7
       replace hy:=hy.mono hE
       have hM35_b7:=hM35.ne hb7
       replace hM35:=hM35.mono hE
       refine ⟨fun _=>hE.up.ext,zy 9 (by kernel_rfl) O O (zn (zSt H O O O .h O fun S hE H=>?_))⟩
       replace hy:=hy.qy hE hy_b7
       replace hM35:=hM35.qy hE hM35_b7
       refine zLd (vC 10 O O O (zS (ze ?_)))
       refine ⟨_,?le,b7,x135,x235,x335,d135,d235,d335,r35.1,_,O,H,hM35,hz35,(by omega),(by omega),hy,hM35_b7,hM35_b3,hM35_b2,hM35_rb,hy_b7,hy_b3,hy_b2,hy_rb⟩
       case le=>exact Env.qle ⟨O,O,O,O,O,⟨⟩⟩
      ·skip
       refine zn (W_alloc H O fun b7 S hb7 hE H=>?_)
       replace hM:=hM.mono hE
       have hy_b7:=hy.ne hb7
       replace hy:=hy.mono hE
       refine ⟨fun _=>hE.up.ext,zy 4 (by kernel_rfl) O O (zn (zP O (ct32 hM.r hM.e hM.slc hM.l2 hM.l3 hz.z fun x135 x235 x335 x435 d135 d235 d335 d435 r35 S hE hr35 hM35 hD35 hl35=>?_)))⟩
       have hM35_b7:=hM35.old (H.get .h)
       have hM35_b3:=hM35.old (H.get .h1)
       have hM35_b2:=hM35.old (H.get .h2)
       have hM35_rb:=hM35.old (H.get .h3)
       replace hM35:=hM35.backX H.qx
       have hz35:BoxY r35.1:=by rw [hr35];exact boxOutP_Y _ _
       replace H:=H.call hE
       replace hy:=hy.mono hE
       refine zLd (vC 5 O O O (vF 6 O O (fun _ _ hK=>vo O O hK) (vF 7 O O (fun _ _ hK=>vo O O hK) (zy 9 (by kernel_rfl) O O (zn (zSt H O O O .h O fun S hE H=>?_))))))
       replace hy:=hy.qy hE hy_b7
       replace hM35:=hM35.qy hE hM35_b7
       refine zLd (vC 10 O O O (zS (ze ?_)))
       refine ⟨_,?le,b7,x135,x235,x335,d135,d235,d335,r35.1,_,O,H,hM35,hz35,(by omega),(by omega),hy,hM35_b7,hM35_b3,hM35_b2,hM35_rb,hy_b7,hy_b3,hy_b2,hy_rb⟩
       case le=>exact Env.qle ⟨O,O,O,O,O,⟨⟩⟩
     ·skip
      refine zn (W_alloc H O fun b7 S hb7 hE H=>?_)
      replace hM:=hM.mono hE
      have hy_b7:=hy.ne hb7
      replace hy:=hy.mono hE
      refine ⟨fun _=>hE.up.ext,zy 3 (by kernel_rfl) O O (zn (zP O (ct54 (H.get .h3) hy hy_rb hn (by omega) (by omega) hM.e hM.slc hM_rb.p2 hM_rb.p3 hM.l2 hz.z fun s34 p34 S hE ho34 hp34 hq34 hl34=>?_)))⟩
      replace H:=H.callX hE .h3 ho34
      replace hM:=hM.qy hE hM_rb
      replace hy:=hy.qy hE hy_rb
      refine ⟨fun _=>hE.ext,zy 4 (by kernel_rfl) O O (zn (zP O (ct32 hM.r hM.e hM.slc hM.l2 hM.l3 hz.z fun x135 x235 x335 x435 d135 d235 d335 d435 r35 S hE hr35 hM35 hD35 hl35=>?_)))⟩
      have hM35_b7:=hM35.old (H.get .h)
      have hM35_b3:=hM35.old (H.get .h1)
      have hM35_b2:=hM35.old (H.get .h2)
      have hM35_rb:=hM35.old (H.get .h3)
      replace hM35:=hM35.backX H.qx
      have hz35:BoxY r35.1:=by rw [hr35];exact boxOutP_Y _ _
      replace H:=H.call hE
      replace hy:=hy.mono hE
      refine zLd (vC 5 O O O (vF 6 O O (fun _ _ hK=>vo O O hK) (vF 7 O O (fun _ _ hK=>vo O O hK) (zy 9 (by kernel_rfl) O O (zn (zSt H O O O .h O fun S hE H=>?_))))))
      replace hy:=hy.qy hE hy_b7
      replace hM35:=hM35.qy hE hM35_b7
      refine zLd (vC 10 O O O (zS (ze ?_)))
      refine ⟨_,?le,b7,x135,x235,x335,d135,d235,d335,r35.1,_,O,H,hM35,hz35,(by omega),(by omega),hy,hM35_b7,hM35_b3,hM35_b2,hM35_rb,hy_b7,hy_b3,hy_b2,hy_rb⟩
      case le=>exact Env.qle ⟨O,O,O,O,O,⟨⟩⟩
    ·skip
     rintro _ S ⟨b7,y1,y2,y3,e1,e2,e3,c,qq,rfl,H,hM2,hz2,hq2,hq3,hy,hM2_b7,hM2_b3,hM2_b2,hM2_rb,hy_b7,hy_b3,hy_b2,hy_rb⟩
     refine zV (zLn (vs:=[_,_,_]) H O .h O (v5 H O O O .h1 O fun S hE H=>?_))
     replace hM2:=hM2.qy hE hM2_b3
     replace hy:=hy.qy hE hy_b3
     refine vl (z_ (ze (zV (zt O (zSb O O (zt O (zN ?_)))))))
     refine ⟨_,_,?lt,?le,(j-1),y1,y2,y3,e1,e2,e3,c,_,O,(H.sub (.cons _ (.cons_cons _ (.cons_cons _ (.cons_cons _ .slnil))))),(by omega),(by omega),hM2,hz2,(by omega),hy,hM2_b3,hM2_b2,hM2_rb,hy_b3,hy_b2,hy_rb,(by omega),O⟩
     case lt=>omega
     case le=>exact Env.qle ⟨O,O,O,O,⟨⟩⟩
   ·replace h20:=bT h20
    refine zj O ?_
    refine wpS_cut (fun E S=>∃ (b5:Nat) (y1:Option Addr) (y2:Option Addr) (y3:Option Addr) (e1:Nat) (e2:Nat) (e3:Nat) (c:Box) (qq:Int),E=Env.lst [(0,vN rb 0),(2,vN b2 0),(3,vN b3 0),(4,int j),(5,vN b5 0)]∧Loc [rb] S0 S [(b5,Cs [.slice y1 c.rs.length e1,.slice y2 c.es.length e2,.slice y3 c.cs.length e3] 29),(b3,Cs [.slice x1 b.rs.length d1,.slice x2 b.es.length d2,.slice x3 b.cs.length d3] 29),(b2,Cs [.slice none 0 0,.slice none 0 0,.slice none 0 0] 29),(rb,Cs [.slice a n cap,int qq] 142)]∧(BoxM S0 S y1 y2 y3 e2 e3 c)∧(BoxY c)∧(q≤qq)∧(qq≤q+61)∧(By S a n)∧(NotIn y1 y2 y3 b5)∧(NotIn y1 y2 y3 b3)∧(NotIn y1 y2 y3 b2)∧(NotIn y1 y2 y3 rb)∧(OffY a n b5)∧(OffY a n b3)∧(OffY a n b2)∧(OffY a n rb)) ?_ ?_
    ·skip
     refine zY [rb] (ve 0 O O (fun S' hS'=>zA fun K hK=>zO O (zF (hS' O) (nin1 (by rintro rfl;exact absurd H.nodup (by simp))) (H.cells (vs:=[_,_,_]) .h O)) hK) (vC 1 O O O (ve 2 O O (fun S' hS'=>zA fun K hK=>zO O (zF (hS' O) (nin1 (by rintro rfl;exact absurd H.nodup (by simp))) (H.cells (vs:=[_,_,_]) .h O)) hK) (wpD_two 3 8 (by kernel_rfl) O O O O ?_ ?_))))
     ·skip
      refine zn (zP O (ct74 (H.get .h2) hy hy_rb hn (by omega) (by omega) hM.e hM.slc hM_rb.p2 hM_rb.p3 hM.l2 hz.z fun s25 p25 S hE ho25 hp25 hq25 hl25=>?_))
      replace H:=H.callX hE .h2 ho25
      replace hM:=hM.qy hE hM_rb
      replace hy:=hy.qy hE hy_rb
      refine ⟨fun _=>hE.ext,wpD_two 4 8 (by kernel_rfl) O O O O ?_ ?_⟩
      ·skip
       refine zn (zP O (ct26 hM.r hM.e hM.slc hM.l2 hM.l3 hz.z fun x126 x226 x326 x426 d126 d226 d326 d426 r26 S hE hr26 hM26 hD26 hl26=>?_))
       have hM26_b3:=hM26.old (H.get .h)
       have hM26_b2:=hM26.old (H.get .h1)
       have hM26_rb:=hM26.old (H.get .h2)
       replace hM26:=hM26.backX H.qx
       have hz26:BoxY r26.1:=by rw [hr26];exact boxInP_Y _ _
       replace H:=H.call hE
       replace hy:=hy.mono hE
       refine zLd (vC 5 O O O (vF 6 O O (fun _ _ hK=>vo O O hK) (vF 7 O O (fun _ _ hK=>vo O O hK) (zy 8 (by kernel_rfl) O O (zn (W_alloc H O fun b5 S hb5 hE H=>?_))))))
       have hy_b5:=hy.ne hb5
       replace hy:=hy.mono hE
       have hM26_b5:=hM26.ne hb5
       replace hM26:=hM26.mono hE
       refine ⟨fun _=>hE.up.ext,zy 9 (by kernel_rfl) O O (zn (zSt H O O O .h O fun S hE H=>?_))⟩
       replace hy:=hy.qy hE hy_b5
       replace hM26:=hM26.qy hE hM26_b5
       refine zLd (vC 10 O O O (zS (ze ?_)))
       refine ⟨_,?le,b5,x126,x226,x326,d126,d226,d326,r26.1,_,O,H,hM26,hz26,(by omega),(by omega),hy,hM26_b5,hM26_b3,hM26_b2,hM26_rb,hy_b5,hy_b3,hy_b2,hy_rb⟩
       case le=>exact Env.qle ⟨O,O,O,O,O,⟨⟩⟩
      ·skip
       refine zn (W_alloc H O fun b5 S hb5 hE H=>?_)
       replace hM:=hM.mono hE
       have hy_b5:=hy.ne hb5
       replace hy:=hy.mono hE
       refine ⟨fun _=>hE.up.ext,zy 4 (by kernel_rfl) O O (zn (zP O (ct26 hM.r hM.e hM.slc hM.l2 hM.l3 hz.z fun x126 x226 x326 x426 d126 d226 d326 d426 r26 S hE hr26 hM26 hD26 hl26=>?_)))⟩
       have hM26_b5:=hM26.old (H.get .h)
       have hM26_b3:=hM26.old (H.get .h1)
       have hM26_b2:=hM26.old (H.get .h2)
       have hM26_rb:=hM26.old (H.get .h3)
       replace hM26:=hM26.backX H.qx
       have hz26:BoxY r26.1:=by rw [hr26];exact boxInP_Y _ _
       replace H:=H.call hE
       replace hy:=hy.mono hE
       refine zLd (vC 5 O O O (vF 6 O O (fun _ _ hK=>vo O O hK) (vF 7 O O (fun _ _ hK=>vo O O hK) (zy 9 (by kernel_rfl) O O (zn (zSt H O O O .h O fun S hE H=>?_))))))
       replace hy:=hy.qy hE hy_b5
       replace hM26:=hM26.qy hE hM26_b5
       refine zLd (vC 10 O O O (zS (ze ?_)))
       refine ⟨_,?le,b5,x126,x226,x326,d126,d226,d326,r26.1,_,O,H,hM26,hz26,(by omega),(by omega),hy,hM26_b5,hM26_b3,hM26_b2,hM26_rb,hy_b5,hy_b3,hy_b2,hy_rb⟩
       case le=>exact Env.qle ⟨O,O,O,O,O,⟨⟩⟩
     ·skip
      refine zn (W_alloc H O fun b5 S hb5 hE H=>?_)
      replace hM:=hM.mono hE
      have hy_b5:=hy.ne hb5
      replace hy:=hy.mono hE
      refine ⟨fun _=>hE.up.ext,zy 3 (by kernel_rfl) O O (zn (zP O (ct74 (H.get .h3) hy hy_rb hn (by omega) (by omega) hM.e hM.slc hM_rb.p2 hM_rb.p3 hM.l2 hz.z fun s25 p25 S hE ho25 hp25 hq25 hl25=>?_)))⟩
      replace H:=H.callX hE .h3 ho25
      replace hM:=hM.qy hE hM_rb
      replace hy:=hy.qy hE hy_rb
      refine ⟨fun _=>hE.ext,zy 4 (by kernel_rfl) O O (zn (zP O (ct26 hM.r hM.e hM.slc hM.l2 hM.l3 hz.z fun x126 x226 x326 x426 d126 d226 d326 d426 r26 S hE hr26 hM26 hD26 hl26=>?_)))⟩
      have hM26_b5:=hM26.old (H.get .h)
      have hM26_b3:=hM26.old (H.get .h1)
      have hM26_b2:=hM26.old (H.get .h2)
      have hM26_rb:=hM26.old (H.get .h3)
      replace hM26:=hM26.backX H.qx
      have hz26:BoxY r26.1:=by rw [hr26];exact boxInP_Y _ _
      replace H:=H.call hE
      replace hy:=hy.mono hE
      refine zLd (vC 5 O O O (vF 6 O O (fun _ _ hK=>vo O O hK) (vF 7 O O (fun _ _ hK=>vo O O hK) (zy 9 (by kernel_rfl) O O (zn (zSt H O O O .h O fun S hE H=>?_))))))
      replace hy:=hy.qy hE hy_b5
      replace hM26:=hM26.qy hE hM26_b5
      refine zLd (vC 10 O O O (zS (ze ?_)))
      refine ⟨_,?le,b5,x126,x226,x326,d126,d226,d326,r26.1,_,O,H,hM26,hz26,(by omega),(by omega),hy,hM26_b5,hM26_b3,hM26_b2,hM26_rb,hy_b5,hy_b3,hy_b2,hy_rb⟩
      case le=>exact Env.qle ⟨O,O,O,O,O,⟨⟩⟩
    ·skip
     rintro _ S ⟨b5,y1,y2,y3,e1,e2,e3,c,qq,rfl,H,hM2,hz2,hq2,hq3,hy,hM2_b5,hM2_b3,hM2_b2,hM2_rb,hy_b5,hy_b3,hy_b2,hy_rb⟩
     refine zV (zLn (vs:=[_,_,_]) H O .h O (v5 H O O O .h1 O fun S hE H=>?_))
     replace hM2:=hM2.qy hE hM2_b3
     replace hy:=hy.qy hE hy_b3
     refine vl (z_ (ze (zV (zt O (zSb O O (zt O (zN ?_)))))))
     refine ⟨_,_,?lt,?le,(j-1),y1,y2,y3,e1,e2,e3,c,_,O,(H.sub (.cons _ (.cons_cons _ (.cons_cons _ (.cons_cons _ .slnil))))),(by omega),(by omega),hM2,hz2,(by omega),hy,hM2_b3,hM2_b2,hM2_rb,hy_b3,hy_b2,hy_rb,(by omega),O⟩
     case lt=>omega
     case le=>exact Env.qle ⟨O,O,O,O,⟨⟩⟩
theorem ct51 (ho:S0 rb=some ⟨Cs [.slice a n cap,int p] 142,true⟩) (hy:By S0 a n) (hy_rb:OffY a n rb) (hn:n≤2000) (p0:0≤p) (p1:p+1400≤1000000) (m0:1≤m) (m1:m≤1000000) (k:∀ (x1 x2 x3:Option Addr) (d1 d2 d3:Nat) (b:Box) (p':Int) S',Ext [rb] S0 S'→S' rb=some ⟨Cs [.slice a n cap,int p'] 142,true⟩→p≤p'→p'≤p+1400→(Sl S' 7 x1 (vf b.rs))→(Sl S' 2 x2 (zW b.es))→(Sl S' 7 x3 (z5 b.cs))→(b.es.length≤d2)→(b.cs.length≤d3)→(BoxZ b)→(Org S0 none x1)→(Org S0 none x2)→(Org S0 none x3)→K (.agg #[.slice x1 b.rs.length d1,.slice x2 b.es.length d2,.slice x3 b.cs.length d3]) S') :
  zC 51 #[vN rb 0,int m] S0 K:=by
 refine zGo (sf:=s51) Tryz.func51 ?_
 have H:=Loc.start1 ho
 have hy0:=hy
 refine zR (zAl H O fun b4 S hb4 hE H=>?_)
 replace hy:=hy.mono hE
 refine zNR (zt O (vK O (ct120 (H.get .h1) hy hy_rb hn (by omega) (by omega)  fun x18 x28 x38 d18 d28 d38 b8 p8 S hE ho8 hp8 hq8 hM8 hz8=>?_)))
 have hM8_b4:=hM8.old (H.get .h)
 have hM8_rb:=hM8.old (H.get .h1)
 replace hM8:=hM8.backX H.qx
 replace H:=H.callX hE .h1 ho8
 replace hy:=hy.qy hE hy_rb
 refine zAl H O fun b5 S hb5 hE H=>?_
 have hy_b5:=hy.ne hb5
 replace hy:=hy.mono hE
 have hM8_b5:=hM8.ne hb5
 replace hM8:=hM8.mono hE
 refine v5 H O O O .h O fun S hE H=>?_
 replace hy:=hy.qy hE hy_b5
 replace hM8:=hM8.qy hE hM8_b5
 refine zN ?_
 refine wpS_cut (fun E S=>∃ (x1:Option Addr) (x2:Option Addr) (x3:Option Addr) (d1:Nat) (d2:Nat) (d3:Nat) (b:Box) (q:Int),E=Env.lst [(0,vN rb 0),(4,vN b4 0),(5,vN b5 0)]∧Loc [rb] S0 S [(b5,Cs [.slice x1 b.rs.length d1,.slice x2 b.es.length d2,.slice x3 b.cs.length d3] 29),(b4,Cs [.slice none 0 0,.slice none 0 0,.slice none 0 0] 29),(rb,Cs [.slice a n cap,int q] 142)]∧(Sl S 7 x1 (vf b.rs))∧(Sl S 2 x2 (zW b.es))∧(Sl S 7 x3 (z5 b.cs))∧(∀ b off,x1=some ⟨b,off,none⟩→b≠b4)∧(∀ b off,x2=some ⟨b,off,none⟩→b≠b4)∧(∀ b off,x3=some ⟨b,off,none⟩→b≠b4)∧(b.es.length≤d2)∧(b.cs.length≤d3)∧(BoxZ b)∧(Org S0 none x1)∧(Org S0 none x2)∧(Org S0 none x3)∧(p≤q)∧(q≤p+1400)) ?_ ?_
 ·skip
  refine zJ ?_
  have q1:=hM8.r
  have q2:=hM8.e
  have hO:=hM8.ownO
  have t13:=hM8.t13
  have t23:=hM8.t23
  have hcp2:=hM8.l2
  have hcp3:=hM8.l3
  have o1:=hM8.o1
  have o2:=hM8.o2
  have hz:=hz8.z
  obtain ⟨y1,y2,y3,y4⟩:=id hz8
  have q1_b5:=hM8_b5.p1
  have q2_b5:=hM8_b5.p2
  have hO_b5:=hM8_b5.p3
  have q1_b4:=hM8_b4.p1
  have q2_b4:=hM8_b4.p2
  have hO_b4:=hM8_b4.p3
  have q1_rb:=hM8_rb.p1
  have q2_rb:=hM8_rb.p2
  have hO_rb:=hM8_rb.p3
  refine zV (zt O (zt O (vK O (ct52 (H.get .h2) hy hy_rb hn (by omega) (by omega) (by omega) (by omega) fun t11 p11 S hE ho11 hp11 hq11 h11=>?_))))
  replace H:=H.callX hE .h2 ho11
  replace hy:=hy.qy hE hy_rb
  replace q1:=q1.qy hE q1_rb
  replace q2:=q2.qy hE q2_rb
  replace hO:=hO.qy hE hO_rb
  refine zN ?_
  rcases t11 with _|_
  ·replace h11:=bF h11
   refine zr O (zv (ze ?_))
   refine ⟨_,?le,x18,x28,x38,d18,d28,d38,b8,_,O,H,q1,q2,hO.sl,q1_b4,q2_b4,hO_b4,hcp2,hcp3,hz,o1,o2,hO.org,(by omega),(by omega)⟩
   case le=>exact Env.qle ⟨O,O,O,⟨⟩⟩
  ·replace h11:=bT h11
   refine zj O (zR (vW O (zL1 H O .h O (zLl O (zt O (zNR (zt O (vK O (ct121 (H.get .h2) hy hy_rb hn (by omega) (by omega) (by omega) (by omega) fun r16 p16 S hE ho16 hp16 hq16 hr16 hs16=>?_)))))))))
   replace H:=H.callX hE .h2 ho16
   replace hy:=hy.qy hE hy_rb
   replace q1:=q1.qy hE q1_rb
   replace q2:=q2.qy hE q2_rb
   replace hO:=hO.qy hE hO_rb
   refine zN (zM (zR (za (vX O O fun t25 h25=>zt O (zN ?_)))))
   rcases t25 with _|_
   ·replace h25:=bF h25
    refine zr O (zR (za (vX O O fun t30 h30=>zt O (zN ?_))))
    rcases t30 with _|_
    ·replace h30:=bF h30
     refine zr O (zR (za (vX O O fun t43 h43=>zt O (zN ?_))))
     rcases t43 with _|_
     ·replace h43:=bF h43
      refine zr O (zR (za (vX O O fun t53 h53=>zt O (zN ?_))))
      rcases t53 with _|_
      ·replace h53:=bF h53
       refine zr O (zR (za (vX O O fun t65 h65=>zt O (zN ?_))))
       rcases t65 with _|_
       ·replace h65:=bF h65
        refine zr O (zR (za (vX O O fun t70 h70=>zt O (zN ?_))))
        rcases t70 with _|_
        ·replace h70:=bF h70
         refine zr O (zR (za (vX O O fun t80 h80=>zt O (zN ?_))))
         rcases t80 with _|_
         ·replace h80:=bF h80
          refine zr O (zR (zt O (za (W_gtr O O fun t18 h18=>zN ?_))))
          rcases t18 with _|_
          ·replace h18:=bF h18
           refine zr O (zv (z_ (ze ?_)))
           refine ⟨_,?le,x18,x28,x38,d18,d28,d38,b8,_,O,H,q1,q2,hO.sl,q1_b4,q2_b4,hO_b4,hcp2,hcp3,hz,o1,o2,hO.org,(by omega),(by omega)⟩
           case le=>exact Env.qle ⟨O,O,O,⟨⟩⟩
          ·replace h18:=bT h18
           obtain ⟨x0,hx0⟩:∃ x,b8.cs[0]? = some x:=⟨b8.cs[0]'(by omega),by simp⟩
           have hyx:=y4 x0 (List.mem_of_getElem? hx0)
           rcases hO with ⟨_,hnil,_⟩ | ⟨m,rfl,hm0,csm,hom,hnm,hclm,hctm,_⟩
           ·exact absurd (congrArg List.length hnil) (by simp;omega)
           replace H:=H.also (.inl hm0) (by simp [hO_b5 m 0 rfl,hO_b4 m 0 rfl,hO_rb m 0 rfl]) hom
           have q1_m:=t13 m rfl
           have q2_m:=t23 m rfl
           have hlm:7≤csm.length:=by rw [List.length_map] at hnm;have h9:=h18;have:=Nat.mul_le_mul_right 7 (show 1≤d38 by omega);omega
           refine zj O (zV (vW O (zL1 H O .h1 O (zIa O O (vW O (vW O (za (W_store H O O O O O (by decide) .h (by show 0+0*7+3+1≤csm.length;omega) O fun S hE H=>?_))))))))
           replace q1:=q1.qy hE q1_m
           replace q2:=q2.qy hE q2_m
           have hct9:(setl csm (0*7+3) [int 80]).take ((b8.cs.set 0 {x0 with o:=⟨x0.o.a,80⟩}).length*7)=(z5 (b8.cs.set 0 {x0 with o:=⟨x0.o.a,80⟩})).flatten:=by
            have h9:=row_cell (j:=3) (v:=int 80) (k:=7) (rows:=z5 b8.cs) (by simpa using hctm) zG (vp hx0) (by decide)
            simpa [z5,List.map_set] using h9
           have hls:(b8.cs.set 0 {x0 with o:=⟨x0.o.a,80⟩}).length=b8.cs.length:=List.length_set
           have H9:Loc [rb] S0 S [(m,_),(b5,_),(b4,_),(rb,_)]:=H
           rw [← hls] at H9
           replace H:=H9
           refine vl (z_ (ze ?_))
           refine ⟨_,?le,x18,x28,(some ⟨m,0,none⟩),d18,d28,d38,({b8 with cs:=b8.cs.set 0 {x0 with o:=⟨x0.o.a,80⟩}}:Box),_,O,(H.sub (.cons _ (.cons_cons _ (.cons_cons _ (.cons_cons _ .slnil))))),q1,q2,(vc (n:=(b8.cs.set 0 {x0 with o:=⟨x0.o.a,80⟩}).length*7) (H.get .h) (by simp) hct9 zG),q1_b4,q2_b4,(own_ne (by rintro rfl;exact absurd H.nodup (by simp))),hcp2,(by simpa using hcp3),(boxz_set hz8 (by simp;omega)),o1,o2,(.own hm0),(by omega),(by omega)⟩
           case le=>exact Env.qle ⟨O,O,O,⟨⟩⟩
         ·replace h80:=bT h80
          refine zj O (zR (zt O (za (W_gtr O O fun t82 h82=>zN ?_))))
          rcases t82 with _|_
          ·replace h82:=bF h82
           refine zr O (zv (z_ (ze ?_)))
           refine ⟨_,?le,x18,x28,x38,d18,d28,d38,b8,_,O,H,q1,q2,hO.sl,q1_b4,q2_b4,hO_b4,hcp2,hcp3,hz,o1,o2,hO.org,(by omega),(by omega)⟩
           case le=>exact Env.qle ⟨O,O,O,⟨⟩⟩
          ·replace h82:=bT h82
           obtain ⟨x0,hx0⟩:∃ x,b8.cs[0]? = some x:=⟨b8.cs[0]'(by omega),by simp⟩
           have hyx:=y4 x0 (List.mem_of_getElem? hx0)
           rcases hO with ⟨_,hnil,_⟩ | ⟨m,rfl,hm0,csm,hom,hnm,hclm,hctm,_⟩
           ·exact absurd (congrArg List.length hnil) (by simp;omega)
           replace H:=H.also (.inl hm0) (by simp [hO_b5 m 0 rfl,hO_b4 m 0 rfl,hO_rb m 0 rfl]) hom
           have q1_m:=t13 m rfl
           have q2_m:=t23 m rfl
           have hlm:7≤csm.length:=by rw [List.length_map] at hnm;have h9:=h82;have:=Nat.mul_le_mul_right 7 (show 1≤d38 by omega);omega
           refine zj O (zY [] (zLf 0 O O O (ve 1 O O (fun S' hS'=>zA fun K hK=>zE O (zB (hS' O) (by simp) (H.cell .h1 O)) hK) (zLf 2 O O O (ve 3 O O (fun S' hS'=>zA fun K hK=>zE O (zB (hS' O) (by simp) (H.cell .h1 O)) hK) (vF 4 O O (fun _ _ hK=>vu O O (by omega) (by omega) hK) (zLf 5 O O O (ve 6 O O (fun S' hS'=>zA fun K hK=>zE O (zB (hS' O) (by simp) (vS (i:=6) ((vc (H.get .h) O hctm zG).at (vp hx0)) O)) hK) (vF 7 O O (fun _ _ hK=>W_catS O O (by simp only [List.length_cons,List.length_nil];omega) hK) (vF 8 O O (fun _ _ hK=>vu O O (by omega) (by omega) hK) (zLf 9 O O O (zy 10 (by kernel_rfl) O O (zn (W_store H O O O O O (by decide) .h (by show 0+0*7+6+1≤csm.length;omega) O fun S hE H=>?_))))))))))))))
           replace q1:=q1.qy hE q1_m
           replace q2:=q2.qy hE q2_m
           have hct9:(setl csm (0*7+6) [str (x0.ne++[97,59])]).take ((b8.cs.set 0 {x0 with ne:=x0.ne++[97,59]}).length*7)=(z5 (b8.cs.set 0 {x0 with ne:=x0.ne++[97,59]})).flatten:=by
            have h9:=row_cell (j:=6) (v:=str (x0.ne++[97,59])) (k:=7) (rows:=z5 b8.cs) (by simpa using hctm) zG (vp hx0) (by decide)
            simpa [z5,List.map_set] using h9
           have hls:(b8.cs.set 0 {x0 with ne:=x0.ne++[97,59]}).length=b8.cs.length:=List.length_set
           have H9:Loc [rb] S0 S [(m,_),(b5,_),(b4,_),(rb,_)]:=H
           rw [← hls] at H9
           replace H:=H9
           refine zLd (zS (z_ (ze ?_)))
           refine ⟨_,?le,x18,x28,(some ⟨m,0,none⟩),d18,d28,d38,({b8 with cs:=b8.cs.set 0 {x0 with ne:=x0.ne++[97,59]}}:Box),_,O,(H.sub (.cons _ (.cons_cons _ (.cons_cons _ (.cons_cons _ .slnil))))),q1,q2,(vc (n:=(b8.cs.set 0 {x0 with ne:=x0.ne++[97,59]}).length*7) (H.get .h) (by simp) hct9 zG),q1_b4,q2_b4,(own_ne (by rintro rfl;exact absurd H.nodup (by simp))),hcp2,(by simpa using hcp3),(boxz_set hz8 (by simp;omega)),o1,o2,(.own hm0),(by omega),(by omega)⟩
           case le=>exact Env.qle ⟨O,O,O,⟨⟩⟩
        ·replace h70:=bT h70
         refine zj O (zR (zt O (za (W_gtr O O fun t72 h72=>zN ?_))))
         rcases t72 with _|_
         ·replace h72:=bF h72
          refine zr O (zv (z_ (ze ?_)))
          refine ⟨_,?le,x18,x28,x38,d18,d28,d38,b8,_,O,H,q1,q2,hO.sl,q1_b4,q2_b4,hO_b4,hcp2,hcp3,hz,o1,o2,hO.org,(by omega),(by omega)⟩
          case le=>exact Env.qle ⟨O,O,O,⟨⟩⟩
         ·replace h72:=bT h72
          obtain ⟨x0,hx0⟩:∃ x,b8.cs[0]? = some x:=⟨b8.cs[0]'(by omega),by simp⟩
          have hyx:=y4 x0 (List.mem_of_getElem? hx0)
          rcases hO with ⟨_,hnil,_⟩ | ⟨m,rfl,hm0,csm,hom,hnm,hclm,hctm,_⟩
          ·exact absurd (congrArg List.length hnil) (by simp;omega)
          replace H:=H.also (.inl hm0) (by simp [hO_b5 m 0 rfl,hO_b4 m 0 rfl,hO_rb m 0 rfl]) hom
          have q1_m:=t13 m rfl
          have q2_m:=t23 m rfl
          have hlm:7≤csm.length:=by rw [List.length_map] at hnm;have h9:=h72;have:=Nat.mul_le_mul_right 7 (show 1≤d38 by omega);omega
          refine zj O (zY [rb] (zLf 0 O O O (ve 1 O O (fun S' hS'=>zA fun K hK=>zE O (zB (hS' O) (nin1 (by rintro rfl;exact absurd H.nodup (by simp))) (H.cell .h1 O)) hK) (vC 2 O O O (zy 3 (by kernel_rfl) O O (zn (zP O (ct123 (H.get .h3) hy hy_rb hn (by omega) (by omega) (by omega) (by omega) fun s76 p76 S hE ho76 hp76 hq76 hl76=>?_))))))))
          replace H:=H.callX hE .h3 ho76
          replace q1:=q1.qy hE q1_rb
          replace q2:=q2.qy hE q2_rb
          refine ⟨fun _=>hE.ext,vF 4 O O (fun _ _ hK=>vu O O (by omega) (by omega) hK) (zLf 5 O O O (zy 6 (by kernel_rfl) O O (zn (W_store H O O O O O (by decide) .h (by show 0+0*7+5+1≤csm.length;omega) O fun S hE H=>?_))))⟩
          replace q1:=q1.qy hE q1_m
          replace q2:=q2.qy hE q2_m
          have hct9:(setl csm (0*7+5) [str s76]).take ((b8.cs.set 0 {x0 with he:=s76}).length*7)=(z5 (b8.cs.set 0 {x0 with he:=s76})).flatten:=by
           have h9:=row_cell (j:=5) (v:=str s76) (k:=7) (rows:=z5 b8.cs) (by simpa using hctm) zG (vp hx0) (by decide)
           simpa [z5,List.map_set] using h9
          have hls:(b8.cs.set 0 {x0 with he:=s76}).length=b8.cs.length:=List.length_set
          have H9:Loc [rb] S0 S [(m,_),(b5,_),(b4,_),(rb,_)]:=H
          rw [← hls] at H9
          replace H:=H9
          refine zLd (zS (z_ (ze ?_)))
          refine ⟨_,?le,x18,x28,(some ⟨m,0,none⟩),d18,d28,d38,({b8 with cs:=b8.cs.set 0 {x0 with he:=s76}}:Box),_,O,(H.sub (.cons _ (.cons_cons _ (.cons_cons _ (.cons_cons _ .slnil))))),q1,q2,(vc (n:=(b8.cs.set 0 {x0 with he:=s76}).length*7) (H.get .h) (by simp) hct9 zG),q1_b4,q2_b4,(own_ne (by rintro rfl;exact absurd H.nodup (by simp))),hcp2,(by simpa using hcp3),(boxz_set hz8 (by simp;omega)),o1,o2,(.own hm0),(by omega),(by omega)⟩
          case le=>exact Env.qle ⟨O,O,O,⟨⟩⟩
       ·replace h65:=bT h65
        refine zj O (zV (zt O (vK O (ct125 (H.get .h2) hy hy_rb hn (by omega) (by omega) (by omega) (by omega) fun x67 d67 rs67 p67 S hE ho67 hp67 hq67 hs67 hl67 hor67=>?_))))
        have hs67_b5:=hor67.ne nofun (H.get .h)
        have hs67_b4:=hor67.ne nofun (H.get .h1)
        replace hor67:=hor67.backX H.qx
        replace H:=H.callX hE .h2 ho67
        replace q2:=q2.qy hE q2_rb
        replace hO:=hO.qy hE hO_rb
        refine vW O (v5 H O O O .h O fun S hE H=>?_)
        replace q2:=q2.qy hE q2_b5
        replace hO:=hO.qy hE hO_b5
        replace hs67:=hs67.qy hE hs67_b5
        refine vl (z_ (ze ?_))
        refine ⟨_,?le,x67,x28,x38,d67,d28,d38,({b8 with rs:=rs67}:Box),_,O,H,hs67,q2,hO.sl,hs67_b4,q2_b4,hO_b4,hcp2,hcp3,⟨(by show rs67.length≤_;omega),hz.2.1,hz.2.2.1,hz.2.2.2⟩,hor67,o2,hO.org,(by omega),(by omega)⟩
        case le=>exact Env.qle ⟨O,O,O,⟨⟩⟩
      ·replace h53:=bT h53
       refine zj O (zY [rb] (zLf 0 O O O (ve 1 O O (fun S' hS'=>zA fun K hK=>zE O (zB (hS' O) (nin1 (by rintro rfl;exact absurd H.nodup (by simp))) (H.cell .h O)) hK) (vC 2 O O O (vC 4 O O O (zy 3 (by kernel_rfl) O O (zn (zP O (ct124 (H.get .h2) hy hy_rb hn (by omega) (by omega) (by omega) (by omega) fun e57 p57 S hE ho57 hp57 hq57=>?_)))))))))
       replace H:=H.callX hE .h2 ho57
       replace hy:=hy.qy hE hy_rb
       replace q1:=q1.qy hE q1_rb
       replace q2:=q2.qy hE q2_rb
       replace hO:=hO.qy hE hO_rb
       refine ⟨fun _=>hE.ext,zy 5 (by kernel_rfl) O O (zn (zP O (ct124 (H.get .h2) hy hy_rb hn (by omega) (by omega) (by omega) (by omega) fun e59 p59 S hE ho59 hp59 hq59=>?_)))⟩
       replace H:=H.callX hE .h2 ho59
       replace q1:=q1.qy hE q1_rb
       replace q2:=q2.qy hE q2_rb
       replace hO:=hO.qy hE hO_rb
       refine ⟨fun _=>hE.ext,vF 6 O O (fun _ _ hK=>vr (cs:=[_,_,_,_,_,_,_]) O O hK) (zy 7 (by kernel_rfl) O O (zn (zT (cs:=[_,_,_,_,_,_,_]) H O O fun b61 S hb61 hE H=>?_)))⟩
       replace q1:=q1.mono hE
       replace q2:=q2.mono hE
       have hO_b61:=hO.ne hb61
       replace hO:=hO.mono hE
       refine ⟨fun _=>hE.up.ext,zy 8 (by kernel_rfl) O O ?_⟩
       have Ho62:=H
       refine zn (W_appendO H hO (fun q e=>by simp [hO_b61 q 0 e,hO_b5 q 0 e,hO_b4 q 0 e,hO_rb q 0 e]) (by rw [List.length_map];rfl) O (Src.own H .h O) (by simp [v4]) O (by decide) (by decide) (by simp;omega) O fun b62 m62 cap62 cs62 S hb62 hm62 hx62 H hE hn62 hcl62 hct62=>?_)
       obtain ⟨l62,hes62⟩:∃ l,l=b8.cs++[⟨e57,e59,[],[],[]⟩]:=⟨_,rfl⟩
       have hl62:(z5 b8.cs).length+1=l62.length:=by simp [hes62]
       have hll62:b8.cs.length+1=l62.length:=by simp [hes62]
       rw [hl62] at hn62 hct62 ⊢
       have hO62:OwnO S0 S (some ⟨b62,0,none⟩) 49 7 cap62 (z5 l62):=.inr ⟨b62,rfl,(by rcases hb62 with e | e;(rw [e];exact hm62);exact Ho62.g.isNone e),_,H.get .h,by simpa using hn62,hcl62,by (rw [List.length_map,hct62,hes62];simp [z5]),zG⟩
       have q1_m62:=q1.offO t13 hx62
       replace q1:=q1.qy hE q1_m62
       have q2_m62:=q2.offO t23 hx62
       replace q2:=q2.qy hE q2_m62
       have hO62_b5:=own_ne (a:=b62) (b:=b5) (by rintro rfl;exact absurd H.nodup (by simp))
       have hO62_b4:=own_ne (a:=b62) (b:=b4) (by rintro rfl;exact absurd H.nodup (by simp))
       replace H:=H.drop1
       refine zLd (zLf 9 O O O (zy 10 (by kernel_rfl) O O (zn (zSt H O O O .h1 O fun S hE H=>?_))))
       replace q1:=q1.qy hE q1_b5
       replace q2:=q2.qy hE q2_b5
       replace hO62:=hO62.qy hE hO62_b5
       refine zLd (zS (z_ (ze ?_)))
       refine ⟨_,?le,x18,x28,_,d18,d28,cap62,({b8 with cs:=l62}:Box),_,O,(H.sub (.cons _ (.cons_cons _ (.cons_cons _ (.cons_cons _ .slnil))))),q1,q2,hO62.sl,q1_b4,q2_b4,hO62_b4,hcp2,(by simpa using hO62.cap),(boxz_snoc hz8 (by simp) hes62),o1,o2,hO62.org,(by omega),(by omega)⟩
       case le=>exact Env.qle ⟨O,O,O,⟨⟩⟩
     ·replace h43:=bT h43
      refine zj O (zR (zt O (za (W_gtr O O fun t45 h45=>zN ?_))))
      rcases t45 with _|_
      ·replace h45:=bF h45
       refine zr O (zv (z_ (ze ?_)))
       refine ⟨_,?le,x18,x28,x38,d18,d28,d38,b8,_,O,H,q1,q2,hO.sl,q1_b4,q2_b4,hO_b4,hcp2,hcp3,hz,o1,o2,hO.org,(by omega),(by omega)⟩
       case le=>exact Env.qle ⟨O,O,O,⟨⟩⟩
      ·replace h45:=bT h45
       obtain ⟨x0,hx0⟩:∃ x,b8.cs[0]? = some x:=⟨b8.cs[0]'(by omega),by simp⟩
       have hyx:=y4 x0 (List.mem_of_getElem? hx0)
       rcases hO with ⟨_,hnil,_⟩ | ⟨m,rfl,hm0,csm,hom,hnm,hclm,hctm,_⟩
       ·exact absurd (congrArg List.length hnil) (by simp;omega)
       replace H:=H.also (.inl hm0) (by simp [hO_b5 m 0 rfl,hO_b4 m 0 rfl,hO_rb m 0 rfl]) hom
       have q1_m:=t13 m rfl
       have q2_m:=t23 m rfl
       have hlm:7≤csm.length:=by rw [List.length_map] at hnm;have h9:=h45;have:=Nat.mul_le_mul_right 7 (show 1≤d38 by omega);omega
       refine zj O (zY [rb] (zLf 0 O O O (ve 1 O O (fun S' hS'=>zA fun K hK=>zE O (zB (hS' O) (nin1 (by rintro rfl;exact absurd H.nodup (by simp))) (H.cell .h1 O)) hK) (vC 2 O O O (zy 3 (by kernel_rfl) O O (zn (zP O (ct123 (H.get .h3) hy hy_rb hn (by omega) (by omega) (by omega) (by omega) fun s49 p49 S hE ho49 hp49 hq49 hl49=>?_))))))))
       replace H:=H.callX hE .h3 ho49
       replace q1:=q1.qy hE q1_rb
       replace q2:=q2.qy hE q2_rb
       refine ⟨fun _=>hE.ext,vF 4 O O (fun _ _ hK=>vu O O (by omega) (by omega) hK) (zLf 5 O O O (zy 6 (by kernel_rfl) O O (zn (W_store H O O O O O (by decide) .h (by show 0+0*7+4+1≤csm.length;omega) O fun S hE H=>?_))))⟩
       replace q1:=q1.qy hE q1_m
       replace q2:=q2.qy hE q2_m
       have hct9:(setl csm (0*7+4) [str s49]).take ((b8.cs.set 0 {x0 with kn:=s49}).length*7)=(z5 (b8.cs.set 0 {x0 with kn:=s49})).flatten:=by
        have h9:=row_cell (j:=4) (v:=str s49) (k:=7) (rows:=z5 b8.cs) (by simpa using hctm) zG (vp hx0) (by decide)
        simpa [z5,List.map_set] using h9
       have hls:(b8.cs.set 0 {x0 with kn:=s49}).length=b8.cs.length:=List.length_set
       have H9:Loc [rb] S0 S [(m,_),(b5,_),(b4,_),(rb,_)]:=H
       rw [← hls] at H9
       replace H:=H9
       refine zLd (zS (z_ (ze ?_)))
       refine ⟨_,?le,x18,x28,(some ⟨m,0,none⟩),d18,d28,d38,({b8 with cs:=b8.cs.set 0 {x0 with kn:=s49}}:Box),_,O,(H.sub (.cons _ (.cons_cons _ (.cons_cons _ (.cons_cons _ .slnil))))),q1,q2,(vc (n:=(b8.cs.set 0 {x0 with kn:=s49}).length*7) (H.get .h) (by simp) hct9 zG),q1_b4,q2_b4,(own_ne (by rintro rfl;exact absurd H.nodup (by simp))),hcp2,(by simpa using hcp3),(boxz_set hz8 (by simp;omega)),o1,o2,(.own hm0),(by omega),(by omega)⟩
       case le=>exact Env.qle ⟨O,O,O,⟨⟩⟩
    ·replace h30:=bT h30
     refine zj O (zR (zt O (za (W_gtr O O fun t32 h32=>zN ?_))))
     rcases t32 with _|_
     ·replace h32:=bF h32
      refine zr O (zv (z_ (ze ?_)))
      refine ⟨_,?le,x18,x28,x38,d18,d28,d38,b8,_,O,H,q1,q2,hO.sl,q1_b4,q2_b4,hO_b4,hcp2,hcp3,hz,o1,o2,hO.org,(by omega),(by omega)⟩
      case le=>exact Env.qle ⟨O,O,O,⟨⟩⟩
     ·replace h32:=bT h32
      obtain ⟨x0,hx0⟩:∃ x,b8.cs[0]? = some x:=⟨b8.cs[0]'(by omega),by simp⟩
      have hyx:=y4 x0 (List.mem_of_getElem? hx0)
      obtain ⟨p3,f3,rfl,_⟩:=hO.sl.row 0 _ (vp hx0)
      refine zj O (zY [] (zLf 0 O O O (ve 1 O O (fun S' hS'=>zA fun K hK=>zE O (zB (hS' O) (by simp) (H.cell .h O)) hK) (zLf 2 O O O (ve 3 O O (fun S' hS'=>zA fun K hK=>zE O (zB (hS' O) (by simp) (H.cell .h O)) hK) (vF 4 O O (fun _ _ hK=>vu O O (by omega) (by omega) hK) (ve 5 O O (fun S' hS'=>zA fun K hK=>zO (vs:=[_,_,_,_,_,_,_]) O (zF (hS' O) (by simp) (hO.sl.at (vp hx0))) hK) (zy 6 (by kernel_rfl) O O (zn (zT (cs:=[_,_,_,_,_,_,_]) H O O fun b39 S hb39 hE H=>?_))))))))))
      replace q1:=q1.mono hE
      replace q2:=q2.mono hE
      have hO_b39:=hO.ne hb39
      replace hO:=hO.mono hE
      refine ⟨fun _=>hE.up.ext,zy 7 (by kernel_rfl) O O ?_⟩
      have Ho40:=H
      refine zn (W_appendO H hO (fun q e=>by simp [hO_b39 q 0 e,hO_b5 q 0 e,hO_b4 q 0 e,hO_rb q 0 e]) (by rw [List.length_map];rfl) O (Src.own H .h O) (by simp [v4]) O (by decide) (by decide) (by simp;omega) O fun b40 m40 cap40 cs40 S hb40 hm40 hx40 H hE hn40 hcl40 hct40=>?_)
      obtain ⟨l40,hes40⟩:∃ l,l=b8.cs++[x0]:=⟨_,rfl⟩
      have hl40:(z5 b8.cs).length+1=l40.length:=by simp [hes40]
      have hll40:b8.cs.length+1=l40.length:=by simp [hes40]
      rw [hl40] at hn40 hct40 ⊢
      have hO40:OwnO S0 S (some ⟨b40,0,none⟩) 49 7 cap40 (z5 l40):=.inr ⟨b40,rfl,(by rcases hb40 with e | e;(rw [e];exact hm40);exact Ho40.g.isNone e),_,H.get .h,by simpa using hn40,hcl40,by (rw [List.length_map,hct40,hes40];simp [z5]),zG⟩
      have q1_m40:=q1.offO t13 hx40
      replace q1:=q1.qy hE q1_m40
      have q2_m40:=q2.offO t23 hx40
      replace q2:=q2.qy hE q2_m40
      have hO40_b5:=own_ne (a:=b40) (b:=b5) (by rintro rfl;exact absurd H.nodup (by simp))
      have hO40_b4:=own_ne (a:=b40) (b:=b4) (by rintro rfl;exact absurd H.nodup (by simp))
      replace H:=H.drop1
      refine zLd (zLf 8 O O O (zy 9 (by kernel_rfl) O O (zn (zSt H O O O .h1 O fun S hE H=>?_))))
      replace q1:=q1.qy hE q1_b5
      replace q2:=q2.qy hE q2_b5
      replace hO40:=hO40.qy hE hO40_b5
      refine zLd (zS (z_ (ze ?_)))
      refine ⟨_,?le,x18,x28,_,d18,d28,cap40,({b8 with cs:=l40}:Box),_,O,(H.sub (.cons _ (.cons_cons _ (.cons_cons _ (.cons_cons _ .slnil))))),q1,q2,hO40.sl,q1_b4,q2_b4,hO40_b4,hcp2,(by simpa using hO40.cap),(boxz_snoc hz8 (by omega) hes40),o1,o2,hO40.org,(by omega),(by omega)⟩
      case le=>exact Env.qle ⟨O,O,O,⟨⟩⟩
   ·replace h25:=bT h25
    refine zj O (zV (zt O (vK O (ct122 (H.get .h2) hy hy_rb hn (by omega) (by omega) (by omega) (by omega) fun x27 d27 es27 p27 S hE ho27 hp27 hq27 hs27 hc27 hl27 hor27=>?_))))
    have hs27_b5:=hor27.ne nofun (H.get .h)
    have hs27_b4:=hor27.ne nofun (H.get .h1)
    replace hor27:=hor27.backX H.qx
    replace H:=H.callX hE .h2 ho27
    replace q1:=q1.qy hE q1_rb
    replace hO:=hO.qy hE hO_rb
    refine vW O (v5 H O O O .h O fun S hE H=>?_)
    replace q1:=q1.qy hE q1_b5
    replace hO:=hO.qy hE hO_b5
    replace hs27:=hs27.qy hE hs27_b5
    refine vl (z_ (ze ?_))
    refine ⟨_,?le,x18,x27,x38,d18,d27,d38,({b8 with es:=es27}:Box),_,O,H,q1,hs27,hO.sl,q1_b4,hs27_b4,hO_b4,hc27,hcp3,⟨hz.1,(by show es27.length≤_;omega),hz.2.2.1,hz.2.2.2⟩,o1,hor27,hO.org,(by omega),(by omega)⟩
    case le=>exact Env.qle ⟨O,O,O,⟨⟩⟩
 ·skip
  rintro _ S ⟨x1,x2,x3,d1,d2,d3,b,q,rfl,H,q1,q2,q3,q1_b4,q2_b4,q3_b4,hc2,hc3,hz,o1,o2,o3,hq0,hq1⟩
  refine zR (zLn (vs:=[_,_,_]) H O .h O (v5 H O O O .h1 O fun S hE H=>?_))
  replace q1:=q1.qy hE q1_b4
  replace q2:=q2.qy hE q2_b4
  replace q3:=q3.qy hE q3_b4
  refine zN (zi (⟨trivial,_,(zU (ws:=[_,_,_]) H O .h1 O zK),?_⟩))
  exact k _ _ _ _ _ _ b _ _ H.qx (H.get .h2) (by omega) (by omega) q1 q2 q3 hc2 hc3 hz o1 o2 o3
theorem ct12 {n0:Nat} (hy0:By S0 a n0) (hc:n0≤cap) (k:∀ (x1 x2 x3:Option Addr) (d1 d2 d3:Nat) (b:Box) (s:Seg) S',Ext [] S0 S'→(Sl S' 7 x1 (vf b.rs))→(Sl S' 2 x2 (zW b.es))→(Sl S' 7 x3 (z5 b.cs))→(b.es.length≤d2)→(b.cs.length≤d3)→(BoxZ b)→(s.dt.length≤20)→(Org S0 none x1)→(Org S0 none x2)→(Org S0 none x3)→K (.tuple #[.agg #[.slice x1 b.rs.length d1,.slice x2 b.es.length d2,.slice x3 b.cs.length d3],s.v]) S') :
  zC 12 #[.slice a n0 cap] S0 K:=by
 refine zGh (sf:=s12) Tryz.func12 fun H=>zR (zAl H O fun b2 S hb2 hE H=>zAl H O fun b3 S hb3 hE H=>zNR (zt O (vK O (ct50 (hy0.mono H.qx) hc fun rb n S hE hrb ho hn hle hy=>?_))))
 have hy_rb:=((hy0.mono H.qx).ne hrb).le hle
 have hy_b3:=(hy0.off0 (H.new1 .h)).le hle
 have hy_b2:=(hy0.off0 (H.new1 .h1)).le hle
 replace H:=H.adopt hE hrb ho
 replace hy:=hy
 refine zt O (zNR (zt O (vK O (ct51 (H.get .h) hy hy_rb hn (by omega) (by omega) (by decide) (by decide) fun x19 x29 x39 d19 d29 d39 b9 p9 S hE ho9 hp9 hq9 k19 k29 k39 lc29 lc39 hz9 o19 o29 o39=>?_))))
 have k19_rb:=o19.ne nofun (H.get .h)
 have k19_b3:=o19.ne nofun (H.get .h1)
 have k19_b2:=o19.ne nofun (H.get .h2)
 have k29_rb:=o29.ne nofun (H.get .h)
 have k29_b3:=o29.ne nofun (H.get .h1)
 have k29_b2:=o29.ne nofun (H.get .h2)
 have k39_rb:=o39.ne nofun (H.get .h)
 have k39_b3:=o39.ne nofun (H.get .h1)
 have k39_b2:=o39.ne nofun (H.get .h2)
 replace o19:=o19.back H.qx
 replace o29:=o29.back H.qx
 replace o39:=o39.back H.qx
 replace H:=H.callX hE .h ho9
 replace hy:=hy.qy hE hy_rb
 refine zAl H O fun b5 S hb5 hE H=>?_
 have hy_b5:=hy.ne hb5
 replace hy:=hy.mono hE
 have k19_b5:=k19.ne hb5
 replace k19:=k19.mono hE
 have k29_b5:=k29.ne hb5
 replace k29:=k29.mono hE
 have k39_b5:=k39.ne hb5
 replace k39:=k39.mono hE
 refine v5 H O O O .h O fun S hE H=>?_
 replace hy:=hy.qy hE hy_b5
 replace k19:=k19.qy hE k19_b5
 replace k29:=k29.qy hE k29_b5
 replace k39:=k39.qy hE k39_b5
 refine zN (zSS (zt O (vK O (ct52 (H.get .h1) hy hy_rb hn (by omega) (by omega) (by decide) (by decide) fun t11 p11 S hE ho11 hp11 hq11 h11=>?_))))
 replace H:=H.callX hE .h1 ho11
 replace hy:=hy.qy hE hy_rb
 replace k19:=k19.qy hE k19_rb
 replace k29:=k29.qy hE k29_rb
 replace k39:=k39.qy hE k39_rb
 refine zN ?_
 rcases t11 with _|_
 ·replace h11:=bF h11
  refine zr O (zv (ze (zJ (zY [rb] (ve 0 O O (fun S' hS'=>zA fun K hK=>zO O (zF (hS' O) (nin1 (by rintro rfl;exact absurd H.nodup (by simp))) (H.cells (vs:=[_,_,_]) .h O)) hK) (vC 1 O O O (ve 2 O O (fun S' hS'=>zA fun K hK=>zO O (zF (hS' O) (nin1 (by rintro rfl;exact absurd H.nodup (by simp))) (H.cells (vs:=[_,_,_]) .h O)) hK) (zy 3 (by kernel_rfl) O O (zn (zP O (ct54 (H.get .h1) hy hy_rb hn (by omega) (by omega) k29 k39 k29_rb k39_rb lc29 hz9 fun s18 p18 S hE ho18 hp18 hq18 hl18=>?_)))))))))))
  replace H:=H.callX hE .h1 ho18
  replace k19:=k19.qy hE k19_rb
  replace k29:=k29.qy hE k29_rb
  replace k39:=k39.qy hE k39_rb
  refine ⟨fun _=>hE.ext,zy 4 (by kernel_rfl) O O (zn (zSt H O O O .h3 O fun S hE H=>?_))⟩
  replace k19:=k19.qy hE k19_b2
  replace k29:=k29.qy hE k29_b2
  replace k39:=k39.qy hE k39_b2
  refine zLd (zy 5 (by kernel_rfl) O O (zn (zSt H O O O .h2 O fun S hE H=>?_)))
  replace k19:=k19.qy hE k19_b3
  replace k29:=k29.qy hE k29_b3
  replace k39:=k39.qy hE k39_b3
  refine zLd (zS (ze (zi (⟨trivial,_,(zU (ws:=[_,_,_]) H O .h3 O (zU (ws:=[_,_,_,_,_,_,_]) H O .h2 O zK)),?_⟩))))
  exact k _ _ _ _ _ _ b9 s18 _ H.qx k19 k29 k39 lc29 lc39 hz9 hl18 o19 o29 o39
 ·replace h11:=bT h11
  refine zj O (zJ (zY [rb] (ve 0 O O (fun S' hS'=>zA fun K hK=>zO O (zF (hS' O) (nin1 (by rintro rfl;exact absurd H.nodup (by simp))) (H.cells (vs:=[_,_,_]) .h O)) hK) (vC 1 O O O (zy 2 (by kernel_rfl) O O (zn (zP O (ct53 (H.get .h1) hy hy_rb hn (by omega) (by omega) (by decide) (by decide) fun s14 p14 S hE ho14 hp14 hq14 hl14=>?_))))))))
  replace H:=H.callX hE .h1 ho14
  replace k19:=k19.qy hE k19_rb
  replace k29:=k29.qy hE k29_rb
  replace k39:=k39.qy hE k39_rb
  refine ⟨fun _=>hE.ext,zy 3 (by kernel_rfl) O O (zn (zSt H O O O .h3 O fun S hE H=>?_))⟩
  replace k19:=k19.qy hE k19_b2
  replace k29:=k29.qy hE k29_b2
  replace k39:=k39.qy hE k39_b2
  refine zLd (zy 4 (by kernel_rfl) O O (zn (zSt H O O O .h2 O fun S hE H=>?_)))
  replace k19:=k19.qy hE k19_b3
  replace k29:=k29.qy hE k29_b3
  replace k39:=k39.qy hE k39_b3
  refine zLd (zS (ze (zi (zw (⟨trivial,_,(zU (ws:=[_,_,_]) H O .h3 O (zU (ws:=[_,_,_,_,_,_,_]) H O .h2 O zK)),?_⟩)))))
  exact k _ _ _ _ _ _ b9 s14 _ H.qx k19 k29 k39 lc29 lc39 hz9 hl14 o19 o29 o39
end
section
variable {S0:St} {K:Value→St→Prop}
variable {c1 c2:Nat} {a1 a2:Option Addr}
theorem ct15   (k:∀  S',Ext [] S0 S'→K (.bool true) S') :
  zC 15 #[] S0 K:=by
 refine zGh (sf:=s15) Tryz.func15 fun H=>zR (zt O (zNR (vK O (ct60 (by simp) fun t1 S hE h1=>?_))))
 replace H:=H.call hE
 refine zt O (zN (zi (z9 O ?_)))
 rw [show t1=true from h1.2 linP_a]
 exact k _ H.qx
theorem ct28 {l1 l2:List End} (h1:Sl S0 2 a1 (zW l1)) (h2:Sl S0 2 a2 (zW l2)) (hl1:l1.length≤1099511627776) (hl2:l2.length≤1099511627776) (k:∀ (t:Bool) S',Ext [] S0 S'→(t=true↔l1=l2)→K (.bool t) S') :
  zC 28 #[.slice a1 l1.length c1,.slice a2 l2.length c2] S0 K:=by
 refine zGh (sf:=s28) Tryz.func28 fun H=>zR (zt O (zN (zSS (zt O (zLl O (zt O (zLl O (za (W_neI O O fun t10 h10=>zN ?_)))))))))
 rcases t10 with _|_
 ·replace h10:=bF h10
  refine zr O (zv (ze (zSS (zt O (zN (zM ?_))))))
  refine vB (fun E S m_=>∃ (i:Nat),E=Env.lst [(0,.slice a1 l1.length c1),(1,.slice a2 l2.length c2),(5,int i)]∧Loc [] S0 S []∧(i≤l1.length)∧(l1.length=l2.length)∧(l1.take i=l2.take i)∧m_=l1.length-i) ?_ ?_
  ·skip
   refine ⟨_,_,?le,0,O,H,(by omega),(by omega),O,O⟩
   case le=>exact Env.qle ⟨O,O,O,⟨⟩⟩
  ·skip
   rintro _ S _ ⟨i,rfl,H,hi,hlen,hp,rfl⟩
   refine zSS (zt O (zt O (zLl O (za (vU O O fun t14 h14=>zN ?_)))))
   rcases t14 with _|_
   ·replace h14:=bF h14
    refine zr O (vz (z0 (z0 (vJ (ze (zR (zt O (zN (zi (z9 O ?_))))))))))
    exact k _ _ H.qx ⟨fun _=>eq_of_take hlen (by omega) hp,fun _=>rfl⟩
   ·replace h14:=bT h14
    obtain ⟨x,hx⟩:∃ x,l1[i]? = some x:=⟨l1[i]'(by omega),by simp⟩
    obtain ⟨y,hy⟩:∃ y,l2[i]? = some y:=⟨l2[i]'(by omega),by simp⟩
    obtain ⟨p1,f1,rfl,hc1⟩:=h1.row i _ (endRows_at hx)
    obtain ⟨p2,f2,rfl,hc2⟩:=h2.row i _ (endRows_at hy)
    refine zj O (zv (ze (zJ (zM (zJ (zY [] (vC 0 O O O (vC 1 O O O (vF 2 O O (fun _ _ hK=>vu O O (by omega) (by omega) hK) (ve 3 O O (fun S' hS'=>zA fun K hK=>zO (vs:=[_,_]) O (zF (hS' O) (by simp) (H.qx.cells hc1)) hK) (vC 4 O O O (vC 5 O O O (vF 6 O O (fun _ _ hK=>vu O O (by omega) (by omega) hK) (ve 7 O O (fun S' hS'=>zA fun K hK=>zO (vs:=[_,_]) O (zF (hS' O) (by simp) (H.qx.cells hc2)) hK) (zCm 8 O O (fun S' _=>zA fun K hK=>W_neE O O hK) fun t25 h25=>zS (ze ?_))))))))))))))))
    rcases t25 with _|_
    ·replace h25:=bF h25
     refine zr O (zv (z_ (ze (zV (zt O (zAd O O (zt O (zN ?_))))))))
     refine ⟨_,_,?lt,?le,(i+1),O,H,(by omega),(by omega),(take_eq_succ hx hy hp (End.ext' (Classical.not_not.1 h25))),O⟩
     case lt=>omega
     case le=>exact Env.qle ⟨O,O,O,⟨⟩⟩
    ·replace h25:=bT h25
     refine zj O (zR (zt O (zN (zi (vj (zw (zw (vj (zw (z9 O ?_))))))))))
     exact k _ _ H.qx ⟨nofun,fun h=>absurd h (ne_at hx hy (End.ne' h25))⟩
 ·replace h10:=bT h10
  refine zj O (zR (zt O (zN (zi (zw (z9 O ?_))))))
  exact k _ _ H.qx ⟨nofun,fun h=>absurd (congrArg List.length h) (by omega)⟩
theorem ct69 {l1 l2:List Rule} (h1:Sl S0 7 a1 (vf l1)) (h2:Sl S0 7 a2 (vf l2)) (hl1:l1.length≤1099511627776) (hl2:l2.length≤1099511627776) (k:∀ (t:Bool) S',Ext [] S0 S'→(t=true↔l1=l2)→K (.bool t) S') :
  zC 69 #[.slice a1 l1.length c1,.slice a2 l2.length c2] S0 K:=by
 refine zGh (sf:=s69) Tryz.func69 fun H=>zR (zt O (zN (zSS (zt O (zLl O (zt O (zLl O (za (W_neI O O fun t10 h10=>zN ?_)))))))))
 rcases t10 with _|_
 ·replace h10:=bF h10
  refine zr O (zv (ze (zSS (zt O (zN (zM ?_))))))
  refine vB (fun E S m_=>∃ (i:Nat),E=Env.lst [(0,.slice a1 l1.length c1),(1,.slice a2 l2.length c2),(5,int i)]∧Loc [] S0 S []∧(i≤l1.length)∧(l1.length=l2.length)∧(l1.take i=l2.take i)∧m_=l1.length-i) ?_ ?_
  ·skip
   refine ⟨_,_,?le,0,O,H,(by omega),(by omega),O,O⟩
   case le=>exact Env.qle ⟨O,O,O,⟨⟩⟩
  ·skip
   rintro _ S _ ⟨i,rfl,H,hi,hlen,hp,rfl⟩
   refine zSS (zt O (zt O (zLl O (za (vU O O fun t14 h14=>zN ?_)))))
   rcases t14 with _|_
   ·replace h14:=bF h14
    refine zr O (vz (z0 (z0 (vJ (ze (zR (zt O (zN (zi (z9 O ?_))))))))))
    exact k _ _ H.qx ⟨fun _=>eq_of_take hlen (by omega) hp,fun _=>rfl⟩
   ·replace h14:=bT h14
    obtain ⟨x,hx⟩:∃ x,l1[i]? = some x:=⟨l1[i]'(by omega),by simp⟩
    obtain ⟨y,hy⟩:∃ y,l2[i]? = some y:=⟨l2[i]'(by omega),by simp⟩
    obtain ⟨p1,f1,rfl,hc1⟩:=h1.row i _ (ruleRows_at hx)
    obtain ⟨p2,f2,rfl,hc2⟩:=h2.row i _ (ruleRows_at hy)
    refine zj O (zv (ze (zJ (zM (zJ (zY [] (vC 0 O O O (vC 1 O O O (vF 2 O O (fun _ _ hK=>vu O O (by omega) (by omega) hK) (ve 3 O O (fun S' hS'=>zA fun K hK=>zO (vs:=[_,_,_,_,_,_,_]) O (zF (hS' O) (by simp) (H.qx.cells hc1)) hK) (vC 4 O O O (vC 5 O O O (vF 6 O O (fun _ _ hK=>vu O O (by omega) (by omega) hK) (ve 7 O O (fun S' hS'=>zA fun K hK=>zO (vs:=[_,_,_,_,_,_,_]) O (zF (hS' O) (by simp) (H.qx.cells hc2)) hK) (zCm 8 O O (fun S' _=>zA fun K hK=>W_neR O O hK) fun t25 h25=>zS (ze ?_))))))))))))))))
    rcases t25 with _|_
    ·replace h25:=bF h25
     refine zr O (zv (z_ (ze (zV (zt O (zAd O O (zt O (zN ?_))))))))
     refine ⟨_,_,?lt,?le,(i+1),O,H,(by omega),(by omega),(take_eq_succ hx hy hp (Classical.not_not.1 h25)),O⟩
     case lt=>omega
     case le=>exact Env.qle ⟨O,O,O,⟨⟩⟩
    ·replace h25:=bT h25
     refine zj O (zR (zt O (zN (zi (vj (zw (zw (vj (zw (z9 O ?_))))))))))
     exact k _ _ H.qx ⟨nofun,fun h=>absurd h (ne_at hx hy h25)⟩
 ·replace h10:=bT h10
  refine zj O (zR (zt O (zN (zi (zw (z9 O ?_))))))
  exact k _ _ H.qx ⟨nofun,fun h=>absurd (congrArg List.length h) (by omega)⟩
theorem ct19 {a3:Option Addr} {c3:Nat} {b:Box} {x1 x2 x3:Option Addr} {d1 d2 d3:Nat} {c:Box} (h1:Sl S0 7 a1 (vf b.rs)) (h2:Sl S0 2 a2 (zW b.es)) (h3:Sl S0 7 a3 (z5 b.cs)) (hz:BoxZ b) (k1:Sl S0 7 x1 (vf c.rs)) (k2:Sl S0 2 x2 (zW c.es)) (k3:Sl S0 7 x3 (z5 c.cs)) (hy:BoxZ c) (k:∀ (t:Bool) S',Ext [] S0 S'→(t=true↔b=c)→K (.bool t) S') :
  zC 19 #[.agg #[.slice a1 b.rs.length c1,.slice a2 b.es.length c2,.slice a3 b.cs.length c3],.agg #[.slice x1 c.rs.length d1,.slice x2 c.es.length d2,.slice x3 c.cs.length d3]] S0 K:=by
 refine zGh (sf:=s19) Tryz.func19 fun H=>?_
 obtain ⟨z1,z2,z3,_⟩:=id hz
 obtain ⟨w1,w2,w3,_⟩:=id hy
 refine zR (zBx H O O fun b2 S hb2 hE H=>zBx H O O fun b3 S hb3 hE H=>zt O (zN (zSS (vW O (vW O (zL1 H O .h1 O (vW O (vW O (zL1 H O .h O (vK O (ct28 (h2.mono H.qx) (k2.mono H.qx) (by omega) (by omega) fun t12 S hE h12=>?_)))))))))))
 replace H:=H.call hE
 refine zNt O (zt O ?_)
 rcases t12 with _|_
 ·replace h12:=bF h12
  refine zL O (zL O (zL O (zL O (zL O (zL O (zL O (vw O O O O (zt O (zL O (zL O (zL O (zL O (zL O (zL O (vw O O O O (zN (zj O (zR (zt O (zN (zi (zw (z9 O ?_)))))))))))))))))))))))
  exact k _ _ H.qx ⟨nofun,fun h=>absurd (congrArg Box.es h) h12⟩
 ·replace h12:=bT h12
  refine zh O (zD O (zh O (vq H O .h1 O (zh O (W_lenL O (zh O (zD O (zh O (vq H O .h O (zh O (W_lenL O (zh O (W_neI O O fun t21 h21=>vw O O O O (zt O ?_))))))))))))))
  rcases t21 with _|_
  ·replace h21:=bF h21
   refine zh O (zD O (zh O (vq H O .h1 O (zh O (zD O (zh O (vq H O .h O (zh O (zP O (ct69 (h1.mono H.qx) (k1.mono H.qx) (by omega) (by omega) fun t28 S hE h28=>?_))))))))))
   replace H:=H.call hE
   refine zh O (W_not O (vw O O O O (zN ?_)))
   rcases t28 with _|_
   ·replace h28:=bF h28
    refine zj O (zR (zt O (zN (zi (zw (z9 O ?_))))))
    exact k _ _ H.qx ⟨nofun,fun h=>absurd (congrArg Box.rs h) h28⟩
   ·replace h28:=bT h28
    refine zr O (zv (ze (zSS (zt O (zN (zM ?_))))))
    refine vB (fun E S m_=>∃ (i:Nat),E=Env.lst [(2,vN b2 0),(3,vN b3 0),(5,int i)]∧Loc [] S0 S [(b3,Cs [.slice x1 c.rs.length d1,.slice x2 c.es.length d2,.slice x3 c.cs.length d3] 29),(b2,Cs [.slice a1 b.rs.length c1,.slice a2 b.es.length c2,.slice a3 b.cs.length c3] 29)]∧(i≤b.cs.length)∧(b.es=c.es)∧(b.rs=c.rs)∧(b.cs.length=c.cs.length)∧(b.cs.take i=c.cs.take i)∧m_=b.cs.length-i) ?_ ?_
    ·skip
     refine ⟨_,_,?le,0,O,H,(by omega),h12,h28,(by omega),O,O⟩
     case le=>exact Env.qle ⟨O,O,O,⟨⟩⟩
    ·skip
     rintro _ S _ ⟨i,rfl,H,hi,hes,hrs,hlen,hp,rfl⟩
     refine zSS (zt O (vW O (zL1 H O .h1 O (zLl O (za (vU O O fun t35 h35=>zN ?_))))))
     rcases t35 with _|_
     ·replace h35:=bF h35
      refine zr O (vz (z0 (z0 (vJ (ze (zR (zt O (zN (zi (z9 O ?_))))))))))
      exact k _ _ H.qx ⟨fun _=>box_eq hrs hes (eq_of_take hlen (by omega) hp),fun _=>rfl⟩
     ·replace h35:=bT h35
      obtain ⟨x,hx⟩:∃ x,b.cs[i]? = some x:=⟨b.cs[i]'(by omega),by simp⟩
      obtain ⟨y,hy2⟩:∃ y,c.cs[i]? = some y:=⟨c.cs[i]'(by omega),by simp⟩
      obtain ⟨p1,f1,rfl,hc1⟩:=h3.row i _ (vp hx)
      obtain ⟨p2,f2,rfl,hc2⟩:=k3.row i _ (vp hy2)
      refine zj O (zv (ze (zJ (zM (zJ (zY [] (zLf 0 O O O (ve 1 O O (fun S' hS'=>zA fun K hK=>zE O (zB (hS' O) (by simp) (H.cell .h1 O)) hK) (vC 2 O O O (vF 3 O O (fun _ _ hK=>vu O O (by omega) (by omega) hK) (ve 4 O O (fun S' hS'=>zA fun K hK=>zO (vs:=[_,_,_,_,_,_,_]) O (zF (hS' O) (by simp) (H.qx.cells hc1)) hK) (zLf 5 O O O (ve 6 O O (fun S' hS'=>zA fun K hK=>zE O (zB (hS' O) (by simp) (H.cell .h O)) hK) (vC 7 O O O (vF 8 O O (fun _ _ hK=>vu O O (by omega) (by omega) hK) (ve 9 O O (fun S' hS'=>zA fun K hK=>zO (vs:=[_,_,_,_,_,_,_]) O (zF (hS' O) (by simp) (H.qx.cells hc2)) hK) (zCm 10 O O (fun S' _=>zA fun K hK=>W_neC O O hK) fun t48 h48=>zS (ze ?_))))))))))))))))))
      rcases t48 with _|_
      ·replace h48:=bF h48
       refine zr O (zv (z_ (ze (zV (zt O (zAd O O (zt O (zN ?_))))))))
       refine ⟨_,_,?lt,?le,(i+1),O,H,(by omega),hes,hrs,hlen,(take_eq_succ hx hy2 hp (Classical.not_not.1 h48)),O⟩
       case lt=>omega
       case le=>exact Env.qle ⟨O,O,O,⟨⟩⟩
      ·replace h48:=bT h48
       refine zj O (zR (zt O (zN (zi (vj (zw (zw (vj (zw (z9 O ?_))))))))))
       exact k _ _ H.qx ⟨nofun,fun h=>absurd (congrArg Box.cs h) (ne_at hx hy2 h48)⟩
  ·replace h21:=bT h21
   refine zL O (zL O (zL O (zL O (zL O (zL O (vw O O O O (zN (zj O (zR (zt O (zN (zi (zw (z9 O ?_))))))))))))))
   exact k _ _ H.qx ⟨nofun,fun h=>absurd (congrArg (fun x=>x.cs.length) h) (by show ¬ b.cs.length=c.cs.length;omega)⟩
end
section
open Go
end
section
open Go
section
variable {E:Env} {S:St} {K:Value→St→Prop}
theorem grd4:Tryz.prog.eqGuardType Tryz.prog.depth 4=false:=by kernel_rfl
theorem W_eqvBP {P:Program} {ty:TypeId} {x y:Operand} {t u r neg:Bool} (hx:E.ev x=some (.bool t)) (hy:E.ev y=some (.bool u)) (hg:P.eqGuardType P.depth ty=false) (he:EqF P Op.maxDepth ty (.bool t) (.bool u) r) (k:K (.bool (r != neg)) S):(SOp.eqv neg ty x y).W P E S K:=by
 simp only [SOp.W,hx,hy]
 refine ⟨rfl,?_⟩
 have hge:∀ (op:BinOp) (K':Unit→St→Prop),K' () S→vG P (Go.eqGuard op ty x y (.bool t) (.bool u)) S K' (fun _ _=>False):=by
  intro op K' h
  unfold Go.eqGuard
  cases op<;>first
   | exact h
   | (simp only [zz,program,vG,hg,Bool.not_true,Bool.not_false,Bool.false_eq_true,if_true,if_false,zH];exact h)
 simp only [zz]
 exact hge _ _ (he.go _ _ _ k)
theorem W_eqvB {x y:Operand} {t u neg:Bool} (hx:E.ev x=some (.bool t)) (hy:E.ev y=some (.bool u)) (k:K (.bool ((decide (t=u)) != neg)) S):(SOp.eqv neg 4 x y).W Tryz.prog E S K:=
 W_eqvBP hx hy grd4 (e4 (d:=9999) t u) k
theorem W_eqB {x y:Operand} {t u:Bool} (hx:E.ev x=some (.bool t)) (hy:E.ev y=some (.bool u)) (k:K (.bool (decide (t=u))) S):(SOp.eqv false 4 x y).W Tryz.prog E S K:=
 W_eqvB hx hy (by simpa using k)
end
end
section
variable {S0:St} {K:Value→St→Prop}
set_option maxRecDepth 100000
theorem walk8 {a a1:Option Addr} {n0 cap n1 cap1:Nat} {S0:St} (hG:GlobI S0) (hy0:By S0 a n0) (hc:n0≤cap) (hy1:By S0 a1 n1) (hc1:n1≤cap1) :
  Go1 Tryz.prog true (FinR Tryz.prog fun v S=>v=.bool true∧S.g=.idle) (Go.Conc.G (Frame.enter Tryz.prog 8 [.slice a n0 cap,.slice a1 n1 cap1].toArray .normal) []) S0:=by
 refine go1_slim (sf:=s8) (args:=[.slice a n0 cap,.slice a1 n1 cap1]) (fun _ _ h=>h.2) (by kernel_rfl) Tryz.func8 (by kernel_rfl) (of_decide_eq_true O) ?_
 have H:=Loc.start [] S0
 refine zR (zt O (zN (zSS (zt O (zLl O (za (W_gtr O O fun t17 h17=>zt O ?_)))))))
 rcases t17 with _|_
 ·replace h17:=bF h17
  refine zh O (vP O (zh O (W_lenL O (zh O (W_gtr O O fun t21 h21=>vw O O O O (zN ?_))))))
  rcases t21 with _|_
  ·replace h21:=bF h21
   refine zr O (zv (ze (zR (zt O (vK O (ct12 (hy0.mono H.qx) hc fun x125 x225 x325 d125 d225 d325 b25 s25 S hE k125 k225 k325 lc225 lc325 hz25 hl25 o125 o225 o325=>?_))))))
   replace H:=H.call hE
   refine zt O (zEx O O (zEx O O (zAl H O fun b5 S hb5 hE H=>?_)))
   have k125_b5:=k125.ne hb5
   replace k125:=k125.mono hE
   have k225_b5:=k225.ne hb5
   replace k225:=k225.mono hE
   have k325_b5:=k325.ne hb5
   replace k325:=k325.mono hE
   refine zAl H O fun b6 S hb6 hE H=>?_
   have k125_b6:=k125.ne hb6
   replace k125:=k125.mono hE
   have k225_b6:=k225.ne hb6
   replace k225:=k225.mono hE
   have k325_b6:=k325.ne hb6
   replace k325:=k325.mono hE
   refine v5 H O O O .h1 O fun S hE H=>?_
   replace k125:=k125.qy hE k125_b5
   replace k225:=k225.qy hE k225_b5
   replace k325:=k325.qy hE k325_b5
   refine v5 H O O O .h O fun S hE H=>?_
   replace k125:=k125.qy hE k125_b6
   replace k225:=k225.qy hE k225_b6
   replace k325:=k325.qy hE k325_b6
   refine zNR (zt O (vK O (ct34 (hy1.mono H.qx) hc1 fun s29 S hE hl29=>?_)))
   replace H:=H.call hE
   replace k125:=k125.mono hE
   replace k225:=k225.mono hE
   replace k325:=k325.mono hE
   refine zAl H O fun b7 S hb7 hE H=>?_
   have k125_b7:=k125.ne hb7
   replace k125:=k125.mono hE
   have k225_b7:=k225.ne hb7
   replace k225:=k225.mono hE
   have k325_b7:=k325.ne hb7
   replace k325:=k325.mono hE
   refine v5 H O O O .h O fun S hE H=>?_
   replace k125:=k125.qy hE k125_b7
   replace k225:=k225.qy hE k225_b7
   replace k325:=k325.qy hE k325_b7
   refine zN (zSS (zLn (vs:=[_,_,_]) H O .h2 O (vK O (ct14 k125 k225 k325 lc225 lc325 hz25 fun t31 S hE h31=>?_))))
   replace H:=H.call hE
   replace k125:=k125.mono hE
   replace k225:=k225.mono hE
   replace k325:=k325.mono hE
   refine zNt O (zt O ?_)
   rcases t31 with _|_
   ·replace h31:=bF h31
    refine zL O (zL O (vw O O O O (zN (zj O (zJ (zY [] (ve 0 O O (fun S' hS'=>zA fun K hK=>zO O (zF (hS' O) (by simp) (H.cells (vs:=[_,_,_]) .h2 O)) hK) (ve 2 O O (fun S' hS'=>zA fun K hK=>zO O (zF (hS' O) (by simp) (H.cells (vs:=[_,_,_]) .h2 O)) hK) (zy 1 (by kernel_rfl) O O (zn (zP O (ct17 (hG.mono H.qx).g k125 k225 k325 lc225 lc325 hz25 fun t38 S hE h38=>?_))))))))))))
    replace H:=H.call hE
    replace k125:=k125.mono hE
    replace k225:=k225.mono hE
    replace k325:=k325.mono hE
    refine ⟨fun _=>hE.up.ext,zy 3 (by kernel_rfl) O O (zn (zP O (ct14 k125 k225 k325 lc225 lc325 hz25 fun t40 S hE h40=>?_)))⟩
    replace H:=H.call hE
    refine zLd (zCm 4 O O (fun S' _=>zA fun K hK=>W_eqB O O hK) fun t41 h41=>vC 5 O O O ?_)
    rcases t41 with _|_
    ·replace h41:=bF h41
     exact absurd (by rw [Bool.eq_iff_iff,h38,h40]) h41
    ·replace h41:=bT h41
     refine zy 6 (by kernel_rfl) O O (step_yes O (zP O (ct15  fun S hE =>?_)))
     replace H:=H.call hE
     refine zLd (vF 7 O O (fun _ _ hK=>vL O O O O hK) (vC 8 O O O (zS (ze (zi (zw (z9 O ?_)))))))
     first | exact ⟨rfl,H.g.eq.trans hG.i⟩
   ·replace h31:=bT h31
    refine zh O (vZ (vs:=[_,_,_,_,_,_,_]) H O .h O (zh O (zP O (ct29  fun t35 S hE h35=>?_))))
    replace H:=H.call hE
    replace k125:=k125.mono hE
    replace k225:=k225.mono hE
    replace k325:=k325.mono hE
    refine vw O O O O (zN ?_)
    rcases t35 with _|_
    ·replace h35:=bF h35
     refine zr O (zv (ze (zR (zLn (vs:=[_,_,_]) H O .h2 O (zLn (vs:=[_,_,_,_,_,_,_]) H O .h O (vK O (ct13 (hG.mono H.qx) k125 k225 k325 lc225 lc325 hz25 (by omega) fun x148 x248 x348 x448 d248 d348 r48 S hE hr48 hR48=>?_)))))))
     replace hR48:=hR48.back H.qx
     have hZ48:BoxZ r48.1:=by rw [hr48];exact (boxOutP_Y _ _).z
     replace H:=H.call hE
     replace k125:=k125.mono hE
     replace k225:=k225.mono hE
     replace k325:=k325.mono hE
     have hE48:r48=(b25,[]):=by rw [hr48];exact (boxOutP_not (s:=s29) (fun h=>h35 h.2.1)).1 h31
     refine zt O (zEx O O (zEx O O (zAl H O fun b8 S hb8 hE H=>?_)))
     have k125_b8:=k125.ne hb8
     replace k125:=k125.mono hE
     have k225_b8:=k225.ne hb8
     replace k225:=k225.mono hE
     have k325_b8:=k325.ne hb8
     replace k325:=k325.mono hE
     have hR48_b8:=hR48.ne hb8
     replace hR48:=hR48.mono hE
     refine v5 H O O O .h O fun S hE H=>?_
     replace k125:=k125.qy hE k125_b8
     replace k225:=k225.qy hE k225_b8
     replace k325:=k325.qy hE k325_b8
     replace hR48:=hR48.qy hE hR48_b8
     refine zt O (zNR (zLn (vs:=[_,_,_]) H O .h3 O (zLn (vs:=[_,_,_,_,_,_,_]) H O .h1 O (vK O (ct24 (hG.mono H.qx) k125 k225 k325 lc225 lc325 hz25 (by omega) fun x154 x254 x354 x454 d254 d354 r54 S hE hr54 hR54=>?_)))))
     replace hR54:=hR54.back H.qx
     have hZ54:BoxZ r54.1:=by rw [hr54];exact (boxInP_Y _ _).z
     replace H:=H.call hE
     replace k125:=k125.mono hE
     replace k225:=k225.mono hE
     replace k325:=k325.mono hE
     replace hR48:=hR48.mono hE
     have hE54:r54=(b25,[]):=by rw [hr54];exact (boxInP_not (s:=s29) (fun h=>h35 h.2.1)).1 h31
     refine zt O (zEx O O (zEx O O (zAl H O fun b10 S hb10 hE H=>?_)))
     have k125_b10:=k125.ne hb10
     replace k125:=k125.mono hE
     have k225_b10:=k225.ne hb10
     replace k225:=k225.mono hE
     have k325_b10:=k325.ne hb10
     replace k325:=k325.mono hE
     have hR48_b10:=hR48.ne hb10
     replace hR48:=hR48.mono hE
     have hR54_b10:=hR54.ne hb10
     replace hR54:=hR54.mono hE
     refine v5 H O O O .h O fun S hE H=>?_
     replace k125:=k125.qy hE k125_b10
     replace k225:=k225.qy hE k225_b10
     replace k325:=k325.qy hE k325_b10
     replace hR48:=hR48.qy hE hR48_b10
     replace hR54:=hR54.qy hE hR54_b10
     refine zt O (zNR (zLn (vs:=[_,_,_]) H O .h4 O (zLn (vs:=[_,_,_,_,_,_,_]) H O .h2 O (vK O (ct18 (hG.mono H.qx).g (s:=s29) k125 k225 k325 lc225 lc325 hz25 (by omega) fun x160 x260 x360 d160 d260 d360 S hE q160 q260 q360 m260 m360=>?_)))))
     have hT:=boxTurnP_seg (s:=s29) h31 (fun h=>h35 h.1)
     rw [hT] at q160 q260 q360 m260 m360 ⊢
     replace H:=H.call hE
     replace k125:=k125.mono hE
     replace k225:=k225.mono hE
     replace k325:=k325.mono hE
     replace hR48:=hR48.mono hE
     replace hR54:=hR54.mono hE
     refine zt O (zEx O O (zEx O O (zEx O O (zAl H O fun b12 S hb12 hE H=>?_))))
     have k125_b12:=k125.ne hb12
     replace k125:=k125.mono hE
     have k225_b12:=k225.ne hb12
     replace k225:=k225.mono hE
     have k325_b12:=k325.ne hb12
     replace k325:=k325.mono hE
     have hR48_b12:=hR48.ne hb12
     replace hR48:=hR48.mono hE
     have hR54_b12:=hR54.ne hb12
     replace hR54:=hR54.mono hE
     have q160_b12:=q160.ne hb12
     replace q160:=q160.mono hE
     have q260_b12:=q260.ne hb12
     replace q260:=q260.mono hE
     have q360_b12:=q360.ne hb12
     replace q360:=q360.mono hE
     refine zAl H O fun b13 S hb13 hE H=>?_
     have k125_b13:=k125.ne hb13
     replace k125:=k125.mono hE
     have k225_b13:=k225.ne hb13
     replace k225:=k225.mono hE
     have k325_b13:=k325.ne hb13
     replace k325:=k325.mono hE
     have hR48_b13:=hR48.ne hb13
     replace hR48:=hR48.mono hE
     have hR54_b13:=hR54.ne hb13
     replace hR54:=hR54.mono hE
     have q160_b13:=q160.ne hb13
     replace q160:=q160.mono hE
     have q260_b13:=q260.ne hb13
     replace q260:=q260.mono hE
     have q360_b13:=q360.ne hb13
     replace q360:=q360.mono hE
     refine v5 H O O O .h1 O fun S hE H=>?_
     replace k125:=k125.qy hE k125_b12
     replace k225:=k225.qy hE k225_b12
     replace k325:=k325.qy hE k325_b12
     replace hR48:=hR48.qy hE hR48_b12
     replace hR54:=hR54.qy hE hR54_b12
     replace q160:=q160.qy hE q160_b12
     replace q260:=q260.qy hE q260_b12
     replace q360:=q360.qy hE q360_b12
     refine v5 H O O O .h O fun S hE H=>?_
     replace k125:=k125.qy hE k125_b13
     replace k225:=k225.qy hE k225_b13
     replace k325:=k325.qy hE k325_b13
     replace hR48:=hR48.qy hE hR48_b13
     replace hR54:=hR54.qy hE hR54_b13
     replace q160:=q160.qy hE q160_b13
     replace q260:=q260.qy hE q260_b13
     replace q360:=q360.qy hE q360_b13
     refine zt O (zNR (zLn (vs:=[_,_,_]) H O .h3 O (zLn (vs:=[_,_,_]) H O .h6 O (vK O (ct19 hR48.h1 hR48.h2 hR48.h3 hZ48 k125 k225 k325 hz25 fun t66 S hE h66=>?_)))))
     replace H:=H.call hE
     replace k125:=k125.mono hE
     replace k225:=k225.mono hE
     replace k325:=k325.mono hE
     replace hR54:=hR54.mono hE
     replace q160:=q160.mono hE
     replace q260:=q260.mono hE
     replace q360:=q360.mono hE
     refine zt O ?_
     rcases t66 with _|_
     ·replace h66:=bF h66
      exact absurd (by rw [hE48]) h66
     ·replace h66:=bT h66
      refine zh O (vZ (vs:=[_,_,_]) H O .h2 O (zh O (vZ (vs:=[_,_,_]) H O .h6 O (zh O (zP O (ct19 hR54.h1 hR54.h2 hR54.h3 hZ54 k125 k225 k325 hz25 fun t70 S hE h70=>?_))))))
      replace H:=H.call hE
      replace k125:=k125.mono hE
      replace k225:=k225.mono hE
      replace k325:=k325.mono hE
      replace q160:=q160.mono hE
      replace q260:=q260.mono hE
      replace q360:=q360.mono hE
      refine vw O O O O (zt O ?_)
      rcases t70 with _|_
      ·replace h70:=bF h70
       exact absurd (by rw [hE54]) h70
      ·replace h70:=bT h70
       refine zh O (vZ (vs:=[_,_,_]) H O .h1 O (zh O (vZ (vs:=[_,_,_]) H O .h6 O (zh O (zP O (ct19 q160 q260 q360 hz25 k125 k225 k325 hz25 fun t75 S hE h75=>?_))))))
       replace H:=H.call hE
       refine vw O O O O (zt O ?_)
       rcases t75 with _|_
       ·replace h75:=bF h75
        exact absurd rfl h75
       ·replace h75:=bT h75
        refine zh O (vP O (zh O (W_lenL O (zh O (vP O (zh O (W_lenL O (zh O (W_add O O (by rw [hE48,hE54];simp) (by rw [hE48,hE54];simp) (zh O (vX O O fun t83 h83=>vw O O O O (zt O ?_))))))))))))
        rcases t83 with _|_
        ·replace h83:=bF h83
         exact absurd (by rw [hE48,hE54];rfl) h83
        ·replace h83:=bT h83
         refine zh O (vP O (zh O (W_not O (vw O O O O (zt O (zh O (zP O (ct15  fun S hE =>?_))))))))
         replace H:=H.call hE
         refine vw O O O O (zt O (zN (zi (z9 O ?_))))
         first | exact ⟨rfl,H.g.eq.trans hG.i⟩
    ·replace h35:=bT h35
     refine zj O (zJ (zY [] (ve 0 O O (fun S' hS'=>zA fun K hK=>zO O (zF (hS' O) (by simp) (H.cells (vs:=[_,_,_]) .h2 O)) hK) (ve 2 O O (fun S' hS'=>zA fun K hK=>zO O (zF (hS' O) (by simp) (H.cells (vs:=[_,_,_]) .h2 O)) hK) (zy 1 (by kernel_rfl) O O (zn (zP O (ct17 (hG.mono H.qx).g k125 k225 k325 lc225 lc325 hz25 fun t38 S hE h38=>?_))))))))
     replace H:=H.call hE
     replace k125:=k125.mono hE
     replace k225:=k225.mono hE
     replace k325:=k325.mono hE
     refine ⟨fun _=>hE.up.ext,zy 3 (by kernel_rfl) O O (zn (zP O (ct14 k125 k225 k325 lc225 lc325 hz25 fun t40 S hE h40=>?_)))⟩
     replace H:=H.call hE
     refine zLd (zCm 4 O O (fun S' _=>zA fun K hK=>W_eqB O O hK) fun t41 h41=>vC 5 O O O ?_)
     rcases t41 with _|_
     ·replace h41:=bF h41
      exact absurd (by rw [Bool.eq_iff_iff,h38,h40]) h41
     ·replace h41:=bT h41
      refine zy 6 (by kernel_rfl) O O (step_yes O (zP O (ct15  fun S hE =>?_)))
      replace H:=H.call hE
      refine zLd (vF 7 O O (fun _ _ hK=>vL O O O O hK) (vC 8 O O O (zS (ze (zi (zw (z9 O ?_)))))))
      first | exact ⟨rfl,H.g.eq.trans hG.i⟩
  ·replace h21:=bT h21
   refine zj O (zR (zt O (zN (zi (zw (z9 O ?_))))))
   first | exact ⟨rfl,H.g.eq.trans hG.i⟩
 ·replace h17:=bT h17
  refine zL O (zL O (zL O (vw O O O O (zN (zj O (zR (zt O (zN (zi (zw (z9 O ?_)))))))))))
  first | exact ⟨rfl,H.g.eq.trans hG.i⟩
end
end Go.Proofs.YtnccejlibbgpkaaGreatDoor
