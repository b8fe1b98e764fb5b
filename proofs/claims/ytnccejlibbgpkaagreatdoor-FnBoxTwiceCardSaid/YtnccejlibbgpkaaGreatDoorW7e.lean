/-
  The law FnBoxTwice answers true at every input that its row allows, at every start that lays its variables: part 5 of 8.
-/
import GoSem.Step
import Derived.Conc.Token
import Derived.AtR
import Derived.Conc.Own2
import Derived.Conc.CrowdComm
import Derived.Conc.CrowdTrace
import Derived.Conc.Fork
import Derived.Conc.CrowdStepC
import Derived.Below
import Derived.Laws.Append
import Derived.Test.YtnccejlibbgpkaaGreatDoorChecked
import Derived.Test.YtnccejlibbgpkaaGreatDoorProg
import Derived.MapKept
import Derived.Conc.EventLaws
import Derived.Test.YtnccejlibbgpkaaGreatDoorW7d
set_option linter.unusedSimpArgs false
set_option linter.unusedVariables false
set_option linter.unusedSectionVars false
namespace Go.Proofs.YtnccejlibbgpkaaGreatDoor
set_option maxHeartbeats 1000000
section
variable {S0:St} {K:Value→St→Prop}
variable {b:Box} {bx c n1 n2 n3:Nat} {x1 x2:Option Addr} {s:Seg}
theorem ct75 {m:Nat} {csm:List Value} (hG:Glob S0) (hB:BoxP b) (hg:S0.g=.sends c ((vL b s).2.map Seg.v)) (hdt:s.dt.length≤1048576) (hbx:S0 bx=some ⟨Cs [.slice x1 b.rs.length n1,.slice x2 b.es.length n2,sl m 0 b.cs.length n3] 29,true⟩) (h1:Sl S0 7 x1 (vf b.rs)) (h2:Sl S0 2 x2 (zV b.es)) (hn2:b.es.length≤n2) (hn3:b.cs.length≤n3) (hm:S0 m=some ⟨Cs csm 49,true⟩) (hcm:b.cs.length*7≤csm.length) (hctm:csm.take (b.cs.length*7)=(z5 b.cs).flatten) (hne:bx≠m) (qG_bx:bx∉[1,2,4]) (qG_m:m∉[1,2,4]) (q1_bx:∀ b off,x1=some ⟨b,off,none⟩→b≠bx) (q1_m:∀ b off,x1=some ⟨b,off,none⟩→b≠m) (q2_bx:∀ b off,x2=some ⟨b,off,none⟩→b≠bx) (q2_m:∀ b off,x2=some ⟨b,off,none⟩→b≠m) (k:∀ (x2' x3':Option Addr) (d2 d3:Nat) S',Ext [bx,m] {S0 with g:=.sends c []} S'→S' bx=some ⟨Cs [.slice x1 b.rs.length n1,.slice x2' (vL b s).1.es.length d2,.slice x3' (vL b s).1.cs.length d3] 29,true⟩→Sl S' 7 x1 (vf b.rs)→Sl S' 2 x2' (zV (vL b s).1.es)→(vL b s).1.es.length≤d2→Sl S' 7 x3' (z5 (vL b s).1.cs)→(vL b s).1.cs.length≤d3→Org S0 x2 x2'→Org S0 (some ⟨m,0,none⟩) x3'→OffS x2' x3'→K (.tuple #[]) S') :
  zC 75 #[vN bx 0,s.v,.chan (some c)] S0 K:=by
 refine zGo (sf:=s75) Tryz.func75 ?_
 have H:=Loc.start2 hbx hm hne
 have q1:=h1
 have q2:=h2
 have qG:=hG
 obtain ⟨hz1,hz2,hz3,hz4⟩:=hB.small
 have hT:=hB.1
 have hnot:=fun h=>(boxInP_not (b:=b) (s:=s) h).1 hB
 refine zR (zBx H O O fun b4 S hb4 hE H=>?_)
 have q1_b4:=q1.ne hb4
 replace q1:=q1.mono hE
 have q2_b4:=q2.ne hb4
 replace q2:=q2.mono hE
 have qG_b4:=qG.ne hb4
 replace qG:=qG.mono hE
 refine zN ?_
 refine wpS_cut (fun E S=>∃ (b6:Nat) (e6:End) (t7:Bool),E=Env.lst [(0,vN bx 0),(2,.chan (some c)),(4,vN b4 0),(6,vN b6 0),(7,.bool t7)]∧Loc [bx,m] S0 S [(b6,Cs e6.row 31),(b4,Cs s.row 33),(bx,Cs [.slice x1 b.rs.length n1,.slice x2 b.es.length n2,sl m 0 b.cs.length n3] 29),(m,Cs csm 49)]∧(t7=true→endP b.es s.d.p=some e6)∧(t7=false→endP b.es s.d.p=none∧e6=⟨0,0⟩)∧(Sl S 7 x1 (vf b.rs))∧(Sl S 2 x2 (zV b.es))∧(Glob S)∧(∀ b off,x1=some ⟨b,off,none⟩→b≠b6)∧(∀ b off,x1=some ⟨b,off,none⟩→b≠b4)∧(∀ b off,x1=some ⟨b,off,none⟩→b≠bx)∧(∀ b off,x1=some ⟨b,off,none⟩→b≠m)∧(∀ b off,x2=some ⟨b,off,none⟩→b≠b6)∧(∀ b off,x2=some ⟨b,off,none⟩→b≠b4)∧(∀ b off,x2=some ⟨b,off,none⟩→b≠bx)∧(∀ b off,x2=some ⟨b,off,none⟩→b≠m)∧(b6∉[1,2,4])∧(b4∉[1,2,4])∧(bx∉[1,2,4])∧(m∉[1,2,4])) ?_ ?_
 ·skip
  refine zY [] (vC 0 O O O (vF 1 O O (fun _ _ hK=>vj O hK) (zLf 2 O O O (ve 3 O O (fun S' hS'=>zA fun K hK=>zO O (zF (hS' O) (by simp) (H.cells (vs:=[_]) .h1 O)) hK) (zLf 4 O O O (zLf 5 O O O (ve 6 O O (fun S' hS'=>zA fun K hK=>zE O (zB (hS' O) (by simp) (H.cell .h O)) hK) (wpD_two 7 11 (by kernel_rfl) O O O O ?_ ?_))))))))
  ·skip
   refine zn (zP O (ct25 q2 hn2 (by omega) fun e27 t27 S hE hy27 hn27=>?_))
   replace H:=H.call hE
   replace q1:=q1.mono hE
   replace q2:=q2.mono hE
   replace qG:=qG.mono hE
   refine zLd (vC 8 O O O (vF 9 O O (fun _ _ hK=>vo O O hK) (vF 10 O O (fun _ _ hK=>vo O O hK) (zy 11 (by kernel_rfl) O O (zn (W_alloc H O fun b6 S hb6 hE H=>?_))))))
   have q1_b6:=q1.ne hb6
   replace q1:=q1.mono hE
   have q2_b6:=q2.ne hb6
   replace q2:=q2.mono hE
   have qG_b6:=qG.ne hb6
   replace qG:=qG.mono hE
   refine ⟨fun _=>hE.up.ext,zy 12 (by kernel_rfl) O O (zn (zSt H O O O .h O fun S hE H=>?_))⟩
   replace q1:=q1.qy hE q1_b6
   replace q2:=q2.qy hE q2_b6
   replace qG:=qG.qy hE qG_b6
   refine zLd (vC 13 O O O (zT (ze ?_)))
   replace H:=H.front .h3
   replace H:=H.front .h3
   replace H:=H.front .h3
   replace H:=H.front .h3
   refine ⟨_,?le,b6,e27,t27,O,H,hy27,hn27,q1,q2,qG,q1_b6,q1_b4,q1_bx,q1_m,q2_b6,q2_b4,q2_bx,q2_m,qG_b6,qG_b4,qG_bx,qG_m⟩
   case le=>exact Env.qle ⟨O,O,O,O,O,⟨⟩⟩
  ·skip
   refine zn (W_alloc H O fun b6 S hb6 hE H=>?_)
   have q1_b6:=q1.ne hb6
   replace q1:=q1.mono hE
   have q2_b6:=q2.ne hb6
   replace q2:=q2.mono hE
   have qG_b6:=qG.ne hb6
   replace qG:=qG.mono hE
   refine ⟨fun _=>hE.up.ext,zy 7 (by kernel_rfl) O O (zn (zP O (ct25 q2 hn2 (by omega) fun e27 t27 S hE hy27 hn27=>?_)))⟩
   replace H:=H.call hE
   replace q1:=q1.mono hE
   replace q2:=q2.mono hE
   replace qG:=qG.mono hE
   refine zLd (vC 8 O O O (vF 9 O O (fun _ _ hK=>vo O O hK) (vF 10 O O (fun _ _ hK=>vo O O hK) (zy 12 (by kernel_rfl) O O (zn (zSt H O O O .h O fun S hE H=>?_))))))
   replace q1:=q1.qy hE q1_b6
   replace q2:=q2.qy hE q2_b6
   replace qG:=qG.qy hE qG_b6
   refine zLd (vC 13 O O O (zT (ze ?_)))
   replace H:=H.front .h3
   replace H:=H.front .h3
   replace H:=H.front .h3
   replace H:=H.front .h3
   refine ⟨_,?le,b6,e27,t27,O,H,hy27,hn27,q1,q2,qG,q1_b6,q1_b4,q1_bx,q1_m,q2_b6,q2_b4,q2_bx,q2_m,qG_b6,qG_b4,qG_bx,qG_m⟩
   case le=>exact Env.qle ⟨O,O,O,O,O,⟨⟩⟩
 ·skip
  rintro _ S ⟨b6,e6,t7,rfl,H,hy,hn,q1,q2,qG,q1_b6,q1_b4,q1_bx,q1_m,q2_b6,q2_b4,q2_bx,q2_m,qG_b6,qG_b4,qG_bx,qG_m⟩
  have h7:t7=true↔t7=true:=Iff.rfl
  refine zJ (zJ (zY [] (ve 0 O O (fun S' hS'=>zA fun K hK=>zO O (zF (hS' O) (by simp) (H.cells (vs:=[_,_,_,_,_,_,_]) .h1 O)) hK) (zy 1 (by kernel_rfl) O O (zn (zP O (ct31 (by omega) fun t31 S hE h31=>?_)))))))
  replace H:=H.call hE
  replace q1:=q1.mono hE
  replace q2:=q2.mono hE
  replace qG:=qG.mono hE
  refine ⟨fun _=>hE.up.ext,vF 2 O O (fun _ _ hK=>W_not O hK) (vC 3 O O O ?_)⟩
  rcases t31 with _|_
  ·replace h31:=bF h31
   refine ve 4 O O (fun S' _=>vd O (by decide)) (ve 5 O O (fun S' _=>vd O (by decide)) (ve 6 O O (fun S' _=>vd O (by decide)) (ve 7 O O (fun S' _=>vd O (by decide)) (vF 8 O O (fun _ _ hK=>vM O O O O hK) (vC 9 O O O (ve 10 O O (fun S' _=>vd O (by decide)) (ve 11 O O (fun S' _=>vd O (by decide)) (vF 12 O O (fun _ _ hK=>vM O O O O hK) (vC 13 O O O (ve 14 O O (fun S' _=>vd O (by decide)) (ve 15 O O (fun S' _=>vd O (by decide)) (ve 16 O O (fun S' _=>vd O (by decide)) (ve 17 O O (fun S' _=>vd O (by decide)) (ve 18 O O (fun S' _=>vd O (by decide)) (ve 19 O O (fun S' _=>vd O (by decide)) (ve 20 O O (fun S' _=>vd O (by decide)) (zy 21 (by kernel_rfl) O O (step_no O (by decide) (⟨fun _=>fun _ _ _ h=>h,ve 22 O O (fun S' _=>vd O (by decide)) (vF 23 O O (fun _ _ hK=>vM O O O O hK) (zT (ze (zj O (zi (zw (⟨trivial,_,zM,?_⟩)))))))⟩)))))))))))))))))))
   have hr:vL b s=(b,[]):=by
    exact hnot (fun h=>h31 h.2.1)
   rw [hr] at hg k
   replace H:=H.quiet (by exact hg)
   exact k x2 (some ⟨m,0,none⟩) n2 n3 S H.qx (H.get .h2) q1 q2 hn2 (vc (H.get .h3) rfl (by simpa using hctm) zG) hn3 (.same _ _) (.same _ _) (.at q2_m)
  ·replace h31:=bT h31
   refine ve 4 O O (fun S' _=>vi O fun K hK=>zD O hK) (ve 5 O O (fun S' _=>vi O fun K hK=>zD O hK) (ve 6 O O (fun S' hS'=>vi O fun K hK=>zE O (zB (hS' O) (by simp) (H.cell .h1 O)) hK) (zCm 7 O O (fun S' _=>vi O fun K hK=>W_bin O O O hK) fun t37 h37=>vF 8 O O (fun _ _ hK=>vM O O O O hK) (vC 9 O O O ?_))))
   rcases t37 with _|_
   ·replace h37:=bF h37
    refine ve 10 O O (fun S' _=>vi O fun K hK=>vP O hK) (ve 11 O O (fun S' _=>vi O fun K hK=>W_not O hK) (vF 12 O O (fun _ _ hK=>vM O O O O hK) (vC 13 O O O ?_)))
    rcases t7 with _|_
    ·replace h7:=bF h7
     refine ve 14 O O (fun S' _=>vd O (by decide)) (ve 15 O O (fun S' _=>vd O (by decide)) (ve 16 O O (fun S' _=>vd O (by decide)) (ve 17 O O (fun S' _=>vd O (by decide)) (ve 18 O O (fun S' _=>vd O (by decide)) (ve 19 O O (fun S' _=>vd O (by decide)) (ve 20 O O (fun S' _=>vd O (by decide)) (zy 21 (by kernel_rfl) O O (step_no O (by decide) (⟨fun _=>fun _ _ _ h=>h,ve 22 O O (fun S' _=>vd O (by decide)) (vF 23 O O (fun _ _ hK=>vM O O O O hK) (zT (ze (zj O (zi (zw (⟨trivial,_,zM,?_⟩)))))))⟩)))))))))
     have hr:vL b s=(b,[]):=by
      by_cases ho:s.s.out
      ·exact boxInP_none ⟨hB,h31,ho,Classical.not_not.1 h37⟩ (hn rfl).1
      ·exact hnot (fun h=>ho h.2.2.1)
     rw [hr] at hg k
     replace H:=H.quiet (by exact hg)
     exact k x2 (some ⟨m,0,none⟩) n2 n3 S H.qx (H.get .h2) q1 q2 hn2 (vc (H.get .h3) rfl (by simpa using hctm) zG) hn3 (.same _ _) (.same _ _) (.at q2_m)
    ·replace h7:=bT h7
     refine ve 14 O O (fun S' _=>vi O fun K hK=>vP O hK) (ve 15 O O (fun S' _=>vi O fun K hK=>vj O hK) (ve 16 O O (fun S' _=>vi O fun K hK=>zD O hK) (ve 17 O O (fun S' hS'=>vi O fun K hK=>zE O (zB (hS' O) (by simp) (H.cell .h2 O)) hK) (ve 18 O O (fun S' hS'=>vi O fun K hK=>zO O (zF (hS' O) (by simp) (H.cells (vs:=[_,_]) .h O)) hK) (ve 19 O O (fun S' _=>vi O fun K hK=>zD O hK) (ve 20 O O (fun S' hS'=>vi O fun K hK=>zO O (zF (hS' O) (by simp) (H.cells (vs:=[_,_]) .h1 O)) hK) (zy 21 (by kernel_rfl) O O (step_yes O (zP O (ct87 q1 (by omega) fun t51 S hE h51=>?_))))))))))
     replace H:=H.call hE
     replace q1:=q1.mono hE
     replace q2:=q2.mono hE
     replace qG:=qG.mono hE
     refine zLd (ve 22 O O (fun S' _=>vi O fun K hK=>W_not O hK) (vF 23 O O (fun _ _ hK=>vM O O O O hK) (zT (ze ?_))))
     rcases t51 with _|_
     ·replace h51:=bF h51
      refine zj O (zi (zw (⟨trivial,_,zM,?_⟩)))
      have hr:vL b s=(b,[]):=by
       by_cases ho:s.s.out
       ·exact boxInP_deny ⟨hB,h31,ho,Classical.not_not.1 h37⟩ (hy rfl) (fun hm2=>h51 ⟨hT.2.1 _ (endP_mem (hy rfl)).2,ho,hm2⟩)
       ·exact hnot (fun h=>ho h.2.2.1)
      rw [hr] at hg k
      replace H:=H.quiet (by exact hg)
      exact k x2 (some ⟨m,0,none⟩) n2 n3 S H.qx (H.get .h2) q1 q2 hn2 (vc (H.get .h3) rfl (by simpa using hctm) zG) hn3 (.same _ _) (.same _ _) (.at q2_m)
     ·replace h51:=bT h51
      have hyes:BoxP b∧SegP s∧s.s.out∧s.d.a=50:=⟨hB,h31,h51.2.1,Classical.not_not.1 h37⟩
      refine zr O (zv (ze (zR (zLn (vs:=[_,_]) H O .h O (vZ O (zSs H O O O .h1 O fun S hE H=>?_))))))
      replace q1:=q1.qy hE q1_b4
      replace q2:=q2.qy hE q2_b4
      replace qG:=qG.qy hE qG_b4
      refine zN (zJ (zY [] (vC 0 O O O (vF 1 O O (fun _ _ hK=>vj O hK) (ve 2 O O (fun S' hS'=>zA fun K hK=>zO O (zF (hS' O) (by simp) (H.cells (vs:=[_,_,_]) .h2 O)) hK) (ve 3 O O (fun S' hS'=>zA fun K hK=>zO O (zF (hS' O) (by simp) (H.cells (vs:=[_,_]) .h O)) hK) (zLf 4 O O O (ve 5 O O (fun S' hS'=>zA fun K hK=>zO O (zF (hS' O) (by simp) (H.cells (vs:=[_,_]) .h1 O)) hK) (zy 6 (by kernel_rfl) O O (zn (zP O (ct65 (b:=b) (vc (H.get .h3) O (by simpa using hctm) zG) (by omega) fun S hE =>?_))))))))))))
      replace H:=H.call hE
      replace q1:=q1.mono hE
      replace q2:=q2.mono hE
      replace qG:=qG.mono hE
      refine zLd (vC 7 O O O (zT (ze ?_)))
      refine wpS_cut (fun E S=>∃ (b4:Nat) (kk:Nat) (x:Conn),E=Env.lst [(0,vN bx 0),(2,.chan (some c)),(4,vN b4 0),(8,int kk)]∧Loc [bx,m] S0 S [(m,Cs csm 49),(b4,Cs ({s with d:=e6}:Seg).row 33),(bx,Cs [.slice x1 b.rs.length n1,.slice x2 b.es.length n2,sl m 0 b.cs.length n3] 29)]∧(b.cs[kk]? = some x)∧(vL b s=inO b s kk)∧(x.i=e6)∧(e6.ok)∧(Sl S 7 x1 (vf b.rs))∧(Sl S 2 x2 (zV b.es))∧(Glob S)∧(∀ b off,x1=some ⟨b,off,none⟩→b≠m)∧(∀ b off,x1=some ⟨b,off,none⟩→b≠b4)∧(∀ b off,x1=some ⟨b,off,none⟩→b≠bx)∧(∀ b off,x2=some ⟨b,off,none⟩→b≠m)∧(∀ b off,x2=some ⟨b,off,none⟩→b≠b4)∧(∀ b off,x2=some ⟨b,off,none⟩→b≠bx)∧(m∉[1,2,4])∧(b4∉[1,2,4])∧(bx∉[1,2,4])) ?_ ?_
      ·skip
       refine zR (zt O (za (vT O O fun t64 h64=>zN ?_)))
       rcases t64 with _|_
       ·replace h64:=bF h64
        have hr:=boxInP_in hyes (hy rfl) h51.2.2 (by omega)
        obtain ⟨x,hx⟩:∃ x,b.cs[(vE b.cs e6 s.s).toNat]? = some x:=⟨b.cs[(vE b.cs e6 s.s).toNat]'(by have:=findC_bd b.cs e6 s.s;omega),by simp⟩
        refine zr O (zv (ze ?_))
        replace H:=H.front .h2
        replace H:=H.front .h2
        replace H:=H.front .h3
        refine ⟨_,?le,b4,(vE b.cs e6 s.s).toNat,x,O,(H.takeL 3),hx,hr,(findC_is (e:=e6) (f:=s.s) b.cs (vE b.cs e6 s.s).toNat x (by omega) hx).1,(by have h9:=hT.2.1 _ (endP_mem (hy rfl)).2;unfold End.inn InE at h9;exact ⟨.inl h9.1,h9.2⟩),q1,q2,qG,q1_m,q1_b4,q1_bx,q2_m,q2_b4,q2_bx,qG_m,qG_b4,qG_bx⟩
        case le=>exact Env.qle ⟨rfl,rfl,rfl,(by show some (int (vE b.cs e6 s.s))=_;congr 2;omega),trivial⟩
       ·replace h64:=bT h64
        refine zj O (zSS (vZ O (vZ O (zL1 H O .h1 O (za (W_neI O O fun t68 h68=>zN ?_))))))
        rcases t68 with _|_
        ·replace h68:=bF h68
         refine zr O (zv (ze (zi (zw (⟨trivial,_,zM,?_⟩)))))
         have hr:vL b s=(b,[]):=by
          exact boxInP_ctl hyes (hy rfl) h51.2.2 (by omega) (Classical.not_not.1 h68)
         rw [hr] at hg k
         replace H:=H.quiet (by exact hg)
         exact k x2 (some ⟨m,0,none⟩) n2 n3 S H.qx (H.get .h2) q1 q2 hn2 (vc (H.get .h3) rfl (by simpa using hctm) zG) hn3 (.same _ _) (.same _ _) (.at q2_m)
        ·replace h68:=bT h68
         have hr:=boxInP_one hyes (hy rfl) h51.2.2 (by omega) h68
         refine zj O (zU (zt O (zLn (vs:=[_,_,_,_,_,_,_]) H O .h1 O (za (W_send (vs:=[]) O O (by rw [H.g.eq,hg,hr];rfl) ?_)))))
         replace H:=H.sent (.sends c [])
         replace q1:=q1.sent (.sends c [])
         replace q2:=q2.sent (.sends c [])
         refine zN (zi (zw (⟨trivial,_,zM,?_⟩)))
         rw [hr] at k
         exact k x2 (some ⟨m,0,none⟩) n2 n3 _ H.qx (H.get .h2) q1 q2 hn2 (vc (H.get .h3) rfl (by simpa using hctm) zG) hn3 (.same _ _) (.same _ _) (.at q2_m)
      ·skip
       rintro _ S ⟨b4,kk,x,rfl,H,hx,hr,hx6,he6,q1,q2,qG,q1_m,q1_b4,q1_bx,q2_m,q2_b4,q2_bx,qG_m,qG_b4,qG_bx⟩
       have hkl:=(List.getElem?_eq_some_iff.1 hx).1
       have hbd:kk*7+7≤csm.length:=by have:=Nat.mul_le_mul_right 7 (show kk+1≤b.cs.length by omega);omega
       have hcx:=(hB.2.2.2 _ _ hx).1
       have hhe:=hcx.2.2.2.2.2.1
       have hkn:=hcx.2.2.2.2.1
       have hnr:=hcx.2.2.2.2.2.2.2
       have hhe1:StrP (vu x.he s):=addedS_ok hhe
       have hz5:=hz4 x (List.mem_of_getElem? hx)
       have hh2:=hhe1.2.2
       have hol:=added_lines x.he s
       have hnl3:(zu (vu x.he s)).1.length≤(vu x.he s).length:=strLines_len _
       have hdl:((zu (vu x.he s)).1.drop (zu x.he).1.length).length=(zu (vu x.he s)).1.length-(zu x.he).1.length:=List.length_drop ..
       refine zR (zt O (za (vj O (vZ O (zL1 H O .h2 O (zt O (zIa O O (zt O (v4 (zt O (za (vj O (vZ O (za (zE O (vS (i:=5) (v:=str x.he) (vV (H.get .h) (row_sub (by simpa using hctm) zG (vp hx))) O) (vK O (ct35 (by omega) fun b82 cap82 S hE hb82 hO82=>?_)))))))))))))))))
       replace H:=H.call hE
       replace q1:=q1.mono hE
       replace q2:=q2.mono hE
       replace qG:=qG.mono hE
       refine zt O (zEx O O (zEx O O (zt O (zt O (zN (zJ (zY [] (vC 0 O O O (vC 1 O O O (vF 2 O O (fun _ _ hK=>vj O hK) (zLf 3 O O O (ve 4 O O (fun S' hS'=>zA fun K hK=>zE O (zB (hS' O) (by simp) (vS (i:=5) (v:=str x.he) (vV (H.get .h) (row_sub (by simpa using hctm) zG (vp hx))) O)) hK) (ve 5 O O (fun S' hS'=>zA fun K hK=>zO O (zF (hS' O) (by simp) (H.cells (vs:=[_,_,_,_,_,_,_]) .h1 O)) hK) (zy 6 (by kernel_rfl) O O (zn (zP O (ct130 (s:=({s with d:=e6}:Seg)) (by omega) hdt (by have h9:=h31.2.2.1;show -1099511627776≤s.sq∧s.sq≤1099511627776;omega) fun S hE =>?_)))))))))))))))))
       replace H:=H.call hE
       have e91:vu x.he ({s with d:=e6}:Seg)=vu x.he s:=rfl
       rw [e91]
       replace q1:=q1.mono hE
       replace q2:=q2.mono hE
       replace qG:=qG.mono hE
       refine zLd (vF 7 O O (fun _ _ hK=>vj O hK) (zLf 8 O O O (zy 9 (by kernel_rfl) O O (zn (W_store H O O O O O (by decide) .h (by show 0+kk*7+5+1≤csm.length;omega) O fun S hE H=>?_)))))
       have hct1:(setl csm (0+kk*7+5) [str (vu x.he s)]).take ((b.cs.set kk {x with he:=(vu x.he s)}).length*7)=(z5 (b.cs.set kk {x with he:=(vu x.he s)})).flatten:=by
        have h9:=row_cell (j:=5) (v:=str (vu x.he s)) (k:=7) (rows:=z5 b.cs) (by simpa using hctm) zG (vp hx) (by decide)
        simpa [z5,List.map_set] using h9
       have hx1:(b.cs.set kk {x with he:=(vu x.he s)})[kk]? = some {x with he:=(vu x.he s)}:=by simp [hkl]
       replace q1:=q1.qy hE q1_m
       replace q2:=q2.qy hE q2_m
       replace qG:=qG.qy hE qG_m
       refine zLd (zT (ze (zR (zt O (za (vj O (vZ O (za (zE O (vS (i:=5) (v:=str (vu x.he s)) (vV (H.get .h) (row_sub (by simpa using hct1) zG (vp hx1))) O) (vK O (ct35 (by omega) fun b99 cap99 S hE hb99 hO99=>?_)))))))))))
       obtain ⟨cs99,ho99,hn99,hcl99,hct99,_⟩:=hO99
       replace H:=H.adopt hE hb99 ho99
       replace q1:=q1.mono hE
       replace q2:=q2.mono hE
       replace qG:=qG.mono hE
       refine zt O (zEx O O (zEx O O (zt O (zt O (zN (zSS (zt O (zt O (zLl O (za (W_slDrop (l:=(zu (vu x.he s)).1) (f:=strRows) O O hol (by simpa using hn99) (vc (H.get .h) (n:=(zu (vu x.he s)).1.length*1) (by simp) (by simpa using hct99) strRows_one) (by simp [strRows]) (by simp) fun a105 cap105 hs105 hc105 hf105=>?_)))))))))))
       have hs105_m:=hf105 m (by rintro _ _ e rfl;cases e;exact absurd H.nodup (by simp))
       have hs105_b4:=hf105 b4 (by rintro _ _ e rfl;cases e;exact absurd H.nodup (by simp))
       have hs105_bx:=hf105 bx (by rintro _ _ e rfl;cases e;exact absurd H.nodup (by simp))
       refine zLl O (zt O (zN (zK ?_)))
       refine vA (fun E S m_=>∃ (i:Nat) (csb:List Value),E=Env.lst [(0,vN bx 0),(2,.chan (some c)),(4,vN b4 0),(8,int kk),(9,vN m (0+kk*7)),(105,.slice a105 ((zu (vu x.he s)).1.drop (zu x.he).1.length).length cap105),(106,int ((zu (vu x.he s)).1.drop (zu x.he).1.length).length),(107,int i)]∧Loc [bx,m] S0 S [(m,Cs csb 49),(b4,Cs ({s with d:=e6}:Seg).row 33),(bx,Cs [.slice x1 b.rs.length n1,.slice x2 b.es.length n2,sl m 0 b.cs.length n3] 29)]∧(i≤((zu (vu x.he s)).1.drop (zu x.he).1.length).length)∧(csb.length=csm.length)∧(csb.take ((b.cs.set kk ({x with he:=(vu x.he s),ne:=x.ne++linesIn b.es (((zu (vu x.he s)).1.drop (zu x.he).1.length).take i)}:Conn)).length*7)=(z5 (b.cs.set kk ({x with he:=(vu x.he s),ne:=x.ne++linesIn b.es (((zu (vu x.he s)).1.drop (zu x.he).1.length).take i)}:Conn))).flatten)∧(Sl S 1 a105 (strRows ((zu (vu x.he s)).1.drop (zu x.he).1.length)))∧(Sl S 7 x1 (vf b.rs))∧(Sl S 2 x2 (zV b.es))∧(Glob S)∧(∀ b off,x1=some ⟨b,off,none⟩→b≠m)∧(∀ b off,x1=some ⟨b,off,none⟩→b≠b4)∧(∀ b off,x1=some ⟨b,off,none⟩→b≠bx)∧(∀ b off,x2=some ⟨b,off,none⟩→b≠m)∧(∀ b off,x2=some ⟨b,off,none⟩→b≠b4)∧(∀ b off,x2=some ⟨b,off,none⟩→b≠bx)∧(m∉[1,2,4])∧(b4∉[1,2,4])∧(bx∉[1,2,4])∧(∀ b off,a105=some ⟨b,off,none⟩→b≠m)∧(∀ b off,a105=some ⟨b,off,none⟩→b≠b4)∧(∀ b off,a105=some ⟨b,off,none⟩→b≠bx)∧m_=((zu (vu x.he s)).1.drop (zu x.he).1.length).length-i) ?_ ?_
       ·skip
        replace H:=H.front .h3
        replace H:=H.front .h3
        replace H:=H.front .h3
        refine ⟨_,_,?le,0,(setl csm (0+kk*7+5) [str (vu x.he s)]),O,(H.takeL 3),(by omega),(by rw [setl_len (by simp;omega)]),(by simpa [linesIn] using hct1),hs105,q1,q2,qG,q1_m,q1_b4,q1_bx,q2_m,q2_b4,q2_bx,qG_m,qG_b4,qG_bx,hs105_m,hs105_b4,hs105_bx,O⟩
        case le=>exact Env.qle ⟨O,O,O,O,O,O,O,O,⟨⟩⟩
       ·skip
        rintro _ S _ ⟨i,csb,rfl,H,hi,hcb,hct,hs105,q1,q2,qG,q1_m,q1_b4,q1_bx,q2_m,q2_b4,q2_bx,qG_m,qG_b4,qG_bx,hs105_m,hs105_b4,hs105_bx,rfl⟩
        refine zR (za (vT O O fun t108 h108=>zN (zJ ?_)))
        rcases t108 with _|_
        ·replace h108:=bF h108
         refine zr O (vz (zZ (zZ (vH (ze (zJ ?_))))))
         obtain ⟨xk,hxd⟩:∃ y:Conn,y=({x with he:=(vu x.he s),ne:=x.ne++linesIn b.es ((zu (vu x.he s)).1.drop (zu x.he).1.length)}:Conn):=⟨_,rfl⟩
         have hie:i=((zu (vu x.he s)).1.drop (zu x.he).1.length).length:=by omega
         rw [hie,List.take_length] at hct
         have hxe:xk=heardC b.es x s:=by rw [hxd,heardC_eq]
         rw [show ({x with he:=(vu x.he s),ne:=x.ne++linesIn b.es ((zu (vu x.he s)).1.drop (zu x.he).1.length)}:Conn)=xk by rw [hxd]] at hct
         have hxk:(b.cs.set kk xk)[kk]? = some xk:=by simp [hkl]
         have hk1:xk.kn=x.kn:=by rw [hxd]
         have hk2:xk.he=(vu x.he s):=by rw [hxd]
         have hk3:xk.ne=x.ne++linesIn b.es ((zu (vu x.he s)).1.drop (zu x.he).1.length):=by rw [hxd]
         have hk4:xk.i=x.i:=by rw [hxd]
         have hk5:=congrArg List.length hk1
         have hk6:=congrArg List.length hk2
         have hk7:xk.ne.length≤240:=by rw [hk3];exact heard_ne_len hT hnr hhe
         have hfl:=streamO_grow (es:=b.es) hz2 (l:=xk.kn) (by omega)
         have hbk:=backO_bd xk.kn (vt b.es xk.kn).2 s.ak
         have hat:=outO_bd xk.he xk.ne s.sq
         have hr2:=inO_at (b:=b) (s:=s) hx hxe
         rw [hk4,hx6] at hr2
         rw [hr2] at hr
         have hS2:SegP ({s with d:=e6,ak:=backD 0 (vQ xk.kn (vt b.es xk.kn).2) s.ak}:Seg):=⟨h31.1,he6,h31.2.2.1,by show 0≤backD 0 (vQ xk.kn (vt b.es xk.kn).2) s.ak∧backD 0 (vQ xk.kn (vt b.es xk.kn).2) s.ak≤240;have:=hkn.2.2;omega,h31.2.2.2.2⟩
         refine zY [] (vC 0 O O O (vF 1 O O (fun _ _ hK=>vj O hK) (zLf 2 O O O (ve 3 O O (fun S' hS'=>zA fun K hK=>zE O (zB (hS' O) (by simp) (vS (i:=5) (v:=str xk.he) (vV (H.get .h) (row_sub (by simpa using hct) zG (vp hxk))) O)) hK) (vC 4 O O O (vF 5 O O (fun _ _ hK=>vj O hK) (zLf 6 O O O (ve 7 O O (fun S' hS'=>zA fun K hK=>zE O (zB (hS' O) (by simp) (vS (i:=6) (v:=str xk.ne) (vV (H.get .h) (row_sub (by simpa using hct) zG (vp hxk))) O)) hK) (zLf 9 O O O (ve 10 O O (fun S' hS'=>zA fun K hK=>zE O (zB (hS' O) (by simp) (H.cell .h1 O)) hK) (zy 8 (by kernel_rfl) O O (zn (zP O (ct99 (by omega) (by omega) fun b134 cap134 S hE hb134 hO134=>?_))))))))))))))
         replace H:=H.call hE
         replace q1:=q1.mono hE
         replace q2:=q2.mono hE
         replace qG:=qG.mono hE
         refine ⟨fun _=>hE.up.ext,zy 11 (by kernel_rfl) O O (zn (zP O (ct132 hO134.sl (by have:=spansO_len xk.he xk.ne;omega) (SpM_spansO _ _) fun S hE =>?_)))⟩
         replace H:=H.call hE
         replace q1:=q1.mono hE
         replace q2:=q2.mono hE
         replace qG:=qG.mono hE
         refine zLd (vC 12 O O O (zT (ze (zJ (zY [] (vC 0 O O O (vF 1 O O (fun _ _ hK=>vj O hK) (zLf 2 O O O (ve 3 O O (fun S' hS'=>zA fun K hK=>zE O (zB (hS' O) (by simp) (vS (i:=4) (v:=str xk.kn) (vV (H.get .h) (row_sub (by simpa using hct) zG (vp hxk))) O)) hK) (vC 4 O O O (vF 5 O O (fun _ _ hK=>vj O hK) (ve 6 O O (fun S' hS'=>zA fun K hK=>zO O (zF (hS' O) (by simp) (H.cells (vs:=[_,_,_]) .h2 O)) hK) (vC 7 O O O (zLf 9 O O O (ve 10 O O (fun S' hS'=>zA fun K hK=>zE O (zB (hS' O) (by simp) (H.cell .h1 O)) hK) (zy 8 (by kernel_rfl) O O (zn (zP O (ct101 (es:=b.es) (cs:=b.cs.set kk xk) (j:=kk) (x:=xk) qG q2 (vc (H.get .h) O (by simpa using hct) zG) hn2 (by omega) (by simp [hkl]) hkl (by omega) (by rw [hk1];exact hkn.lines) fun S hE =>?_)))))))))))))))))))
         replace H:=H.call hE
         replace q1:=q1.mono hE
         replace q2:=q2.mono hE
         refine ⟨fun _=>hE.up.ext,zy 11 (by kernel_rfl) O O (zn (zP O (ct38 (by omega) (by omega) (by have h9:=h31.2.2.2.1;show -1099511627776≤s.ak∧s.ak≤1099511627776;omega) fun S hE =>?_)))⟩
         replace H:=H.call hE
         replace q1:=q1.mono hE
         replace q2:=q2.mono hE
         refine zLd (zLf 12 O O O (zy 13 (by kernel_rfl) O O (zn (zSt H O O O .h1 O fun S hE H=>?_))))
         replace q1:=q1.qy hE q1_b4
         replace q2:=q2.qy hE q2_b4
         refine zLd (zT (ze (zJ (zY [] (ve 0 O O (fun S' hS'=>zA fun K hK=>zO O (zF (hS' O) (by simp) (H.cells (vs:=[_,_,_,_,_,_,_]) .h1 O)) hK) (vC 1 O O O (vF 2 O O (fun _ _ hK=>vj O hK) (zLf 3 O O O (ve 4 O O (fun S' hS'=>zA fun K hK=>zE O (zB (hS' O) (by simp) (vS (i:=6) (v:=str xk.ne) (vV (H.get .h) (row_sub (by simpa using hct) zG (vp hxk))) O)) hK) (vC 5 O O O (vC 8 O O O (zy 6 (by kernel_rfl) O O (zn (zP O (ct133 (s:=({s with d:=e6,ak:=backD 0 (vQ xk.kn (vt b.es xk.kn).2) s.ak}:Seg)) hS2 (by omega) ⟨hat.1,Int.le_trans hat.2 (by omega)⟩ fun b157 S hE hb157 hs157=>?_)))))))))))))))
         have hs157_m:∀ b off,(some ⟨b157,0,none⟩:Option Addr)=some ⟨b,off,none⟩→b≠m:=by
          rintro _ _ e rfl;cases e;exact absurd (H.get .h) (by rw [hb157];nofun)
         have hs157_b4:∀ b off,(some ⟨b157,0,none⟩:Option Addr)=some ⟨b,off,none⟩→b≠b4:=by
          rintro _ _ e rfl;cases e;exact absurd (H.get .h1) (by rw [hb157];nofun)
         have hs157_bx:∀ b off,(some ⟨b157,0,none⟩:Option Addr)=some ⟨b,off,none⟩→b≠bx:=by
          rintro _ _ e rfl;cases e;exact absurd (H.get .h2) (by rw [hb157];nofun)
         replace H:=H.call hE
         obtain ⟨L2,hL2⟩:∃ L2,L2=cutO ({s with d:=e6,ak:=backD 0 (vQ xk.kn (vt b.es xk.kn).2) s.ak}:Seg) xk.ne (outD 0 (vQ xk.he xk.ne) s.sq).toNat:=⟨_,rfl⟩
         have hL2b:L2.length≤1000:=by rw [hL2];have:=cutO_len ({s with d:=e6,ak:=backD 0 (vQ xk.kn (vt b.es xk.kn).2) s.ak}:Seg) xk.ne (outD 0 (vQ xk.he xk.ne) s.sq).toNat;omega
         rw [← hL2] at hs157 hr ⊢
         replace q1:=q1.mono hE
         replace q2:=q2.mono hE
         refine zLd (vF 7 O O (fun _ _ hK=>W_lenL O hK) (zT (ze (zK ?_))))
         refine vA (fun E S m_=>∃ (i:Nat),E=Env.lst [(2,.chan (some c)),(157,sl b157 0 L2.length L2.length),(158,int L2.length),(159,int i)]∧Loc [bx,m] {S0 with g:=.sends c ((L2.drop i).map Seg.v)} S [(bx,Cs [.slice x1 b.rs.length n1,.slice x2 b.es.length n2,sl m 0 b.cs.length n3] 29),(m,Cs csb 49)]∧(i≤L2.length)∧(Sl S 7 (some ⟨b157,0,none⟩) (segRows L2))∧(Sl S 7 x1 (vf b.rs))∧(Sl S 2 x2 (zV b.es))∧m_=L2.length-i) ?_ ?_
         ·skip
          replace H:=H.quiet (show S0.g=.sends c ((L2.drop 0).map Seg.v) by rw [hg,hr];rfl)
          replace H:=H.front .h
          replace H:=H.front .h2
          refine ⟨_,_,?le,0,O,(H.takeL 2),(by omega),hs157,q1,q2,O⟩
          case le=>exact Env.qle ⟨O,O,O,O,⟨⟩⟩
         ·skip
          rintro _ S _ ⟨i,rfl,H,hi,hs157,q1,q2,rfl⟩
          refine zR (za (vT O O fun t160 h160=>zN (zJ ?_)))
          rcases t160 with _|_
          ·replace h160:=bF h160
           refine zr O (vz (zZ (zZ (vH (⟨trivial,_,zM,?_⟩)))))
           rw [show i=L2.length by omega,List.drop_length] at H
           rw [hr] at k
           exact k x2 (some ⟨m,0,none⟩) n2 n3 _ H.qx (by have:=H.get .h;rw [List.length_set];exact this) q1 q2 hn2 (vc (H.get .h1) rfl (by simpa using hct) zG) (by rw [List.length_set];exact hn3) (.same _ _) (.same _ _) (.at q2_m)
          ·replace h160:=bT h160
           obtain ⟨z,hz⟩:∃ z,L2[i]? = some z:=⟨L2[i]'(by omega),by simp⟩
           obtain ⟨p,off,he,hcz⟩:=hs157.row i _ (segRows_at hz)
           cases he
           refine zj O (zv (ze (zJ (zK (zR (zIa O O (za (zO (vs:=[_,_,_,_,_,_,_]) O hcz (zAl H O fun b18 S hb18 hE H=>?_)))))))))
           have hs157_b18:=hs157.ne hb18
           replace hs157:=hs157.mono hE
           have q1_b18:=q1.ne hb18
           replace q1:=q1.mono hE
           have q2_b18:=q2.ne hb18
           replace q2:=q2.mono hE
           refine zSs H O O O .h O fun S hE H=>?_
           replace hs157:=hs157.qy hE hs157_b18
           replace q1:=q1.qy hE q1_b18
           replace q2:=q2.qy hE q2_b18
           refine zN (zU (zt O (zLn (vs:=[_,_,_,_,_,_,_]) H O .h O (za (W_send (vs:=(L2.drop (i+1)).map Seg.v) O O (by rw [H.g.eq];show Gh.sends _ _=_;rw [List.drop_eq_getElem_cons (by omega),show L2[i]=z from (List.getElem?_eq_some_iff.1 hz).2];rfl) ?_)))))
           replace H:=H.sent (.sends c ((L2.drop (i+1)).map Seg.v))
           replace q1:=q1.sent (.sends c ((L2.drop (i+1)).map Seg.v))
           replace q2:=q2.sent (.sends c ((L2.drop (i+1)).map Seg.v))
           replace hs157:=hs157.sent (.sends c ((L2.drop (i+1)).map Seg.v))
           refine vl (z_ (ze (zU (zAd O O (zt O (zN ?_))))))
           replace H:=H.front .h2
           replace H:=H.front .h2
           refine ⟨_,_,?lt,?le,(i+1),O,(H.takeL 2),(by omega),hs157,q1,q2,O⟩
           case lt=>omega
           case le=>exact Env.qle ⟨O,O,O,O,⟨⟩⟩
        ·replace h108:=bT h108
         obtain ⟨y,hy9⟩:∃ y,((zu (vu x.he s)).1.drop (zu x.he).1.length)[i]? = some y:=⟨((zu (vu x.he s)).1.drop (zu x.he).1.length)[i]'(by omega),by simp⟩
         obtain ⟨p,off,he,hcy⟩:=hs105.row i _ (strRows_at hy9)
         subst he
         have hyl:=hhe1.lines y (List.mem_of_mem_drop (List.mem_of_getElem? hy9))
         have hneb:=heard_take_len (c:=x) (s:=s) i hT hnr hhe
         have hxi:(b.cs.set kk ({x with he:=(vu x.he s),ne:=x.ne++linesIn b.es (((zu (vu x.he s)).1.drop (zu x.he).1.length).take i)}:Conn))[kk]? = some ({x with he:=(vu x.he s),ne:=x.ne++linesIn b.es (((zu (vu x.he s)).1.drop (zu x.he).1.length).take i)}:Conn):=by simp [hkl]
         refine zj O (zv (ze (zJ (zK (zR (zIa O O (za (zE O (vS (i:=0) hcy O) (zt O (zN (zY [] (vC 0 O O O (vF 1 O O (fun _ _ hK=>vj O hK) (zLf 2 O O O (ve 3 O O (fun S' hS'=>zA fun K hK=>zE O (zB (hS' O) (by simp) (vS (i:=6) (v:=str (x.ne++linesIn b.es (((zu (vu x.he s)).1.drop (zu x.he).1.length).take i))) (vV (H.get .h) (row_sub (by simpa using hct) zG (vp hxi))) O)) hK) (vC 4 O O O (vF 5 O O (fun _ _ hK=>vj O hK) (zLf 6 O O O (ve 7 O O (fun S' hS'=>zA fun K hK=>zO O (zF (hS' O) (by simp) (H.cells (vs:=[_]) .h2 O)) hK) (vC 8 O O O (zy 9 (by kernel_rfl) O O (zn (zP O (ct98 qG q2 hn2 (by omega) (hhe1.lines y (List.mem_of_mem_drop (List.mem_of_getElem? hy9))) fun S hE =>?_))))))))))))))))))))))))
         replace H:=H.call hE
         replace q1:=q1.mono hE
         replace q2:=q2.mono hE
         replace qG:=qG.mono hE
         replace hs105:=hs105.mono hE
         refine ⟨fun _=>hE.up.ext,vF 10 O O (fun _ _ hK=>W_catS O O (by have:=lineIn_le (l:=y) hT;simp;omega) hK) (vF 11 O O (fun _ _ hK=>W_catS O O (by have:=lineIn_le (l:=y) hT;simp only [List.length_append,List.length_cons,List.length_nil] at hneb ⊢;omega) hK) (vF 12 O O (fun _ _ hK=>vj O hK) (zLf 13 O O O (zy 14 (by kernel_rfl) O O (zn (W_store H O O O O O (by decide) .h (by show 0+kk*7+6+1≤csb.length;omega) O fun S hE H=>?_))))))⟩
         replace q1:=q1.qy hE q1_m
         replace q2:=q2.qy hE q2_m
         replace qG:=qG.qy hE qG_m
         replace hs105:=hs105.qy hE hs105_m
         refine zLd (zT (z_ (ze (zU (zAd O O (zt O (zN ?_)))))))
         replace H:=H.front .h2
         replace H:=H.front .h2
         replace H:=H.front .h2
         refine ⟨_,_,?lt,?le,(i+1),_,O,H,(by omega),(by rw [setl_len (by simp;omega)];exact hcb),(by
          have h9:=row_cell (j:=6) (v:=str (x.ne++linesIn b.es (((zu (vu x.he s)).1.drop (zu x.he).1.length).take i)++(lineIn b.es y++[59]))) (k:=7) (rows:=z5 (b.cs.set kk ({x with he:=(vu x.he s),ne:=x.ne++linesIn b.es (((zu (vu x.he s)).1.drop (zu x.he).1.length).take i)}:Conn))) (by simpa using hct) zG (vp hxi) (by decide)
          rw [vU hy9,linesIn_snoc]
          simpa [z5,List.map_set] using h9),hs105,q1,q2,qG,q1_m,q1_b4,q1_bx,q2_m,q2_b4,q2_bx,qG_m,qG_b4,qG_bx,hs105_m,hs105_b4,hs105_bx,rfl⟩
         case lt=>omega
         case le=>exact Env.qle ⟨O,O,O,O,O,O,O,O,⟨⟩⟩
   ·replace h37:=bT h37
    refine ve 10 O O (fun S' _=>vd O (by decide)) (ve 11 O O (fun S' _=>vd O (by decide)) (vF 12 O O (fun _ _ hK=>vM O O O O hK) (vC 13 O O O (ve 14 O O (fun S' _=>vd O (by decide)) (ve 15 O O (fun S' _=>vd O (by decide)) (ve 16 O O (fun S' _=>vd O (by decide)) (ve 17 O O (fun S' _=>vd O (by decide)) (ve 18 O O (fun S' _=>vd O (by decide)) (ve 19 O O (fun S' _=>vd O (by decide)) (ve 20 O O (fun S' _=>vd O (by decide)) (zy 21 (by kernel_rfl) O O (step_no O (by decide) (⟨fun _=>fun _ _ _ h=>h,ve 22 O O (fun S' _=>vd O (by decide)) (vF 23 O O (fun _ _ hK=>vM O O O O hK) (zT (ze (zj O (zi (zw (⟨trivial,_,zM,?_⟩)))))))⟩)))))))))))))
    have hr:vL b s=(b,[]):=by
     exact hnot (fun h=>h37 h.2.2.2)
    rw [hr] at hg k
    replace H:=H.quiet (by exact hg)
    exact k x2 (some ⟨m,0,none⟩) n2 n3 S H.qx (H.get .h2) q1 q2 hn2 (vc (H.get .h3) rfl (by simpa using hctm) zG) hn3 (.same _ _) (.same _ _) (.at q2_m)
theorem ct75n (hG:Glob S0) (hB:BoxP b) (hg:S0.g=.sends c ((vL b s).2.map Seg.v)) (hdt:s.dt.length≤1048576) (hbx:S0 bx=some ⟨Cs [.slice x1 b.rs.length n1,.slice x2 b.es.length n2,.slice none b.cs.length n3] 29,true⟩) (h1:Sl S0 7 x1 (vf b.rs)) (h2:Sl S0 2 x2 (zV b.es)) (hn2:b.es.length≤n2) (hn3:b.cs.length≤n3) (hcs0:b.cs=[]) (qG_bx:bx∉[1,2,4]) (q1_bx:∀ b off,x1=some ⟨b,off,none⟩→b≠bx) (q2_bx:∀ b off,x2=some ⟨b,off,none⟩→b≠bx) (k:∀ (x2' x3':Option Addr) (d2 d3:Nat) S',Ext [bx] {S0 with g:=.sends c []} S'→S' bx=some ⟨Cs [.slice x1 b.rs.length n1,.slice x2' (vL b s).1.es.length d2,.slice x3' (vL b s).1.cs.length d3] 29,true⟩→Sl S' 7 x1 (vf b.rs)→Sl S' 2 x2' (zV (vL b s).1.es)→(vL b s).1.es.length≤d2→Sl S' 7 x3' (z5 (vL b s).1.cs)→(vL b s).1.cs.length≤d3→Org S0 x2 x2'→Org S0 none x3'→OffS x2' x3'→K (.tuple #[]) S') :
  zC 75 #[vN bx 0,s.v,.chan (some c)] S0 K:=by
 refine zGo (sf:=s75) Tryz.func75 ?_
 have H:=Loc.start1 hbx
 have q1:=h1
 have q2:=h2
 have qG:=hG
 obtain ⟨hz1,hz2,hz3,hz4⟩:=hB.small
 have hT:=hB.1
 have hnot:=fun h=>(boxInP_not (b:=b) (s:=s) h).1 hB
 refine zR (zBx H O O fun b4 S hb4 hE H=>?_)
 have q1_b4:=q1.ne hb4
 replace q1:=q1.mono hE
 have q2_b4:=q2.ne hb4
 replace q2:=q2.mono hE
 have qG_b4:=qG.ne hb4
 replace qG:=qG.mono hE
 refine zN ?_
 refine wpS_cut (fun E S=>∃ (b6:Nat) (e6:End) (t7:Bool),E=Env.lst [(0,vN bx 0),(2,.chan (some c)),(4,vN b4 0),(6,vN b6 0),(7,.bool t7)]∧Loc [bx] S0 S [(b6,Cs e6.row 31),(b4,Cs s.row 33),(bx,Cs [.slice x1 b.rs.length n1,.slice x2 b.es.length n2,.slice none b.cs.length n3] 29)]∧(t7=true→endP b.es s.d.p=some e6)∧(t7=false→endP b.es s.d.p=none∧e6=⟨0,0⟩)∧(Sl S 7 x1 (vf b.rs))∧(Sl S 2 x2 (zV b.es))∧(Glob S)∧(∀ b off,x1=some ⟨b,off,none⟩→b≠b6)∧(∀ b off,x1=some ⟨b,off,none⟩→b≠b4)∧(∀ b off,x1=some ⟨b,off,none⟩→b≠bx)∧(∀ b off,x2=some ⟨b,off,none⟩→b≠b6)∧(∀ b off,x2=some ⟨b,off,none⟩→b≠b4)∧(∀ b off,x2=some ⟨b,off,none⟩→b≠bx)∧(b6∉[1,2,4])∧(b4∉[1,2,4])∧(bx∉[1,2,4])) ?_ ?_
 ·skip
  refine zY [] (vC 0 O O O (vF 1 O O (fun _ _ hK=>vj O hK) (zLf 2 O O O (ve 3 O O (fun S' hS'=>zA fun K hK=>zO O (zF (hS' O) (by simp) (H.cells (vs:=[_]) .h1 O)) hK) (zLf 4 O O O (zLf 5 O O O (ve 6 O O (fun S' hS'=>zA fun K hK=>zE O (zB (hS' O) (by simp) (H.cell .h O)) hK) (wpD_two 7 11 (by kernel_rfl) O O O O ?_ ?_))))))))
  ·skip
   refine zn (zP O (ct25 q2 hn2 (by omega) fun e27 t27 S hE hy27 hn27=>?_))
   replace H:=H.call hE
   replace q1:=q1.mono hE
   replace q2:=q2.mono hE
   replace qG:=qG.mono hE
   refine zLd (vC 8 O O O (vF 9 O O (fun _ _ hK=>vo O O hK) (vF 10 O O (fun _ _ hK=>vo O O hK) (zy 11 (by kernel_rfl) O O (zn (W_alloc H O fun b6 S hb6 hE H=>?_))))))
   have q1_b6:=q1.ne hb6
   replace q1:=q1.mono hE
   have q2_b6:=q2.ne hb6
   replace q2:=q2.mono hE
   have qG_b6:=qG.ne hb6
   replace qG:=qG.mono hE
   refine ⟨fun _=>hE.up.ext,zy 12 (by kernel_rfl) O O (zn (zSt H O O O .h O fun S hE H=>?_))⟩
   replace q1:=q1.qy hE q1_b6
   replace q2:=q2.qy hE q2_b6
   replace qG:=qG.qy hE qG_b6
   refine zLd (vC 13 O O O (zT (ze ?_)))
   replace H:=H.front .h2
   replace H:=H.front .h2
   replace H:=H.front .h2
   refine ⟨_,?le,b6,e27,t27,O,H,hy27,hn27,q1,q2,qG,q1_b6,q1_b4,q1_bx,q2_b6,q2_b4,q2_bx,qG_b6,qG_b4,qG_bx⟩
   case le=>exact Env.qle ⟨O,O,O,O,O,⟨⟩⟩
  ·skip
   refine zn (W_alloc H O fun b6 S hb6 hE H=>?_)
   have q1_b6:=q1.ne hb6
   replace q1:=q1.mono hE
   have q2_b6:=q2.ne hb6
   replace q2:=q2.mono hE
   have qG_b6:=qG.ne hb6
   replace qG:=qG.mono hE
   refine ⟨fun _=>hE.up.ext,zy 7 (by kernel_rfl) O O (zn (zP O (ct25 q2 hn2 (by omega) fun e27 t27 S hE hy27 hn27=>?_)))⟩
   replace H:=H.call hE
   replace q1:=q1.mono hE
   replace q2:=q2.mono hE
   replace qG:=qG.mono hE
   refine zLd (vC 8 O O O (vF 9 O O (fun _ _ hK=>vo O O hK) (vF 10 O O (fun _ _ hK=>vo O O hK) (zy 12 (by kernel_rfl) O O (zn (zSt H O O O .h O fun S hE H=>?_))))))
   replace q1:=q1.qy hE q1_b6
   replace q2:=q2.qy hE q2_b6
   replace qG:=qG.qy hE qG_b6
   refine zLd (vC 13 O O O (zT (ze ?_)))
   replace H:=H.front .h2
   replace H:=H.front .h2
   replace H:=H.front .h2
   refine ⟨_,?le,b6,e27,t27,O,H,hy27,hn27,q1,q2,qG,q1_b6,q1_b4,q1_bx,q2_b6,q2_b4,q2_bx,qG_b6,qG_b4,qG_bx⟩
   case le=>exact Env.qle ⟨O,O,O,O,O,⟨⟩⟩
 ·skip
  rintro _ S ⟨b6,e6,t7,rfl,H,hy,hn,q1,q2,qG,q1_b6,q1_b4,q1_bx,q2_b6,q2_b4,q2_bx,qG_b6,qG_b4,qG_bx⟩
  have h7:t7=true↔t7=true:=Iff.rfl
  refine zJ (zJ (zY [] (ve 0 O O (fun S' hS'=>zA fun K hK=>zO O (zF (hS' O) (by simp) (H.cells (vs:=[_,_,_,_,_,_,_]) .h1 O)) hK) (zy 1 (by kernel_rfl) O O (zn (zP O (ct31 (by omega) fun t31 S hE h31=>?_)))))))
  replace H:=H.call hE
  replace q1:=q1.mono hE
  replace q2:=q2.mono hE
  refine ⟨fun _=>hE.up.ext,vF 2 O O (fun _ _ hK=>W_not O hK) (vC 3 O O O ?_)⟩
  rcases t31 with _|_
  ·replace h31:=bF h31
   refine ve 4 O O (fun S' _=>vd O (by decide)) (ve 5 O O (fun S' _=>vd O (by decide)) (ve 6 O O (fun S' _=>vd O (by decide)) (ve 7 O O (fun S' _=>vd O (by decide)) (vF 8 O O (fun _ _ hK=>vM O O O O hK) (vC 9 O O O (ve 10 O O (fun S' _=>vd O (by decide)) (ve 11 O O (fun S' _=>vd O (by decide)) (vF 12 O O (fun _ _ hK=>vM O O O O hK) (vC 13 O O O (ve 14 O O (fun S' _=>vd O (by decide)) (ve 15 O O (fun S' _=>vd O (by decide)) (ve 16 O O (fun S' _=>vd O (by decide)) (ve 17 O O (fun S' _=>vd O (by decide)) (ve 18 O O (fun S' _=>vd O (by decide)) (ve 19 O O (fun S' _=>vd O (by decide)) (ve 20 O O (fun S' _=>vd O (by decide)) (zy 21 (by kernel_rfl) O O (step_no O (by decide) (⟨fun _=>fun _ _ _ h=>h,ve 22 O O (fun S' _=>vd O (by decide)) (vF 23 O O (fun _ _ hK=>vM O O O O hK) (zT (ze (zj O (zi (zw (⟨trivial,_,zM,?_⟩)))))))⟩)))))))))))))))))))
   have hr:vL b s=(b,[]):=by
    exact hnot (fun h=>h31 h.2.1)
   rw [hr] at hg k
   replace H:=H.quiet (by exact hg)
   exact k x2 none n2 n3 S H.qx (H.get .h2) q1 q2 hn2 (by rw [hcs0];exact Sl.nil 7) hn3 (.same _ _) (.same _ _) .nil
  ·replace h31:=bT h31
   refine ve 4 O O (fun S' _=>vi O fun K hK=>zD O hK) (ve 5 O O (fun S' _=>vi O fun K hK=>zD O hK) (ve 6 O O (fun S' hS'=>vi O fun K hK=>zE O (zB (hS' O) (by simp) (H.cell .h1 O)) hK) (zCm 7 O O (fun S' _=>vi O fun K hK=>W_bin O O O hK) fun t37 h37=>vF 8 O O (fun _ _ hK=>vM O O O O hK) (vC 9 O O O ?_))))
   rcases t37 with _|_
   ·replace h37:=bF h37
    refine ve 10 O O (fun S' _=>vi O fun K hK=>vP O hK) (ve 11 O O (fun S' _=>vi O fun K hK=>W_not O hK) (vF 12 O O (fun _ _ hK=>vM O O O O hK) (vC 13 O O O ?_)))
    rcases t7 with _|_
    ·replace h7:=bF h7
     refine ve 14 O O (fun S' _=>vd O (by decide)) (ve 15 O O (fun S' _=>vd O (by decide)) (ve 16 O O (fun S' _=>vd O (by decide)) (ve 17 O O (fun S' _=>vd O (by decide)) (ve 18 O O (fun S' _=>vd O (by decide)) (ve 19 O O (fun S' _=>vd O (by decide)) (ve 20 O O (fun S' _=>vd O (by decide)) (zy 21 (by kernel_rfl) O O (step_no O (by decide) (⟨fun _=>fun _ _ _ h=>h,ve 22 O O (fun S' _=>vd O (by decide)) (vF 23 O O (fun _ _ hK=>vM O O O O hK) (zT (ze (zj O (zi (zw (⟨trivial,_,zM,?_⟩)))))))⟩)))))))))
     have hr:vL b s=(b,[]):=by
      by_cases ho:s.s.out
      ·exact boxInP_none ⟨hB,h31,ho,Classical.not_not.1 h37⟩ (hn rfl).1
      ·exact hnot (fun h=>ho h.2.2.1)
     rw [hr] at hg k
     replace H:=H.quiet (by exact hg)
     exact k x2 none n2 n3 S H.qx (H.get .h2) q1 q2 hn2 (by rw [hcs0];exact Sl.nil 7) hn3 (.same _ _) (.same _ _) .nil
    ·replace h7:=bT h7
     refine ve 14 O O (fun S' _=>vi O fun K hK=>vP O hK) (ve 15 O O (fun S' _=>vi O fun K hK=>vj O hK) (ve 16 O O (fun S' _=>vi O fun K hK=>zD O hK) (ve 17 O O (fun S' hS'=>vi O fun K hK=>zE O (zB (hS' O) (by simp) (H.cell .h2 O)) hK) (ve 18 O O (fun S' hS'=>vi O fun K hK=>zO O (zF (hS' O) (by simp) (H.cells (vs:=[_,_]) .h O)) hK) (ve 19 O O (fun S' _=>vi O fun K hK=>zD O hK) (ve 20 O O (fun S' hS'=>vi O fun K hK=>zO O (zF (hS' O) (by simp) (H.cells (vs:=[_,_]) .h1 O)) hK) (zy 21 (by kernel_rfl) O O (step_yes O (zP O (ct87 q1 (by omega) fun t51 S hE h51=>?_))))))))))
     replace H:=H.call hE
     replace q1:=q1.mono hE
     replace q2:=q2.mono hE
     refine zLd (ve 22 O O (fun S' _=>vi O fun K hK=>W_not O hK) (vF 23 O O (fun _ _ hK=>vM O O O O hK) (zT (ze ?_))))
     rcases t51 with _|_
     ·replace h51:=bF h51
      refine zj O (zi (zw (⟨trivial,_,zM,?_⟩)))
      have hr:vL b s=(b,[]):=by
       by_cases ho:s.s.out
       ·exact boxInP_deny ⟨hB,h31,ho,Classical.not_not.1 h37⟩ (hy rfl) (fun hm2=>h51 ⟨hT.2.1 _ (endP_mem (hy rfl)).2,ho,hm2⟩)
       ·exact hnot (fun h=>ho h.2.2.1)
      rw [hr] at hg k
      replace H:=H.quiet (by exact hg)
      exact k x2 none n2 n3 S H.qx (H.get .h2) q1 q2 hn2 (by rw [hcs0];exact Sl.nil 7) hn3 (.same _ _) (.same _ _) .nil
     ·replace h51:=bT h51
      have hyes:BoxP b∧SegP s∧s.s.out∧s.d.a=50:=⟨hB,h31,h51.2.1,Classical.not_not.1 h37⟩
      refine zr O (zv (ze (zR (zLn (vs:=[_,_]) H O .h O (vZ O (zSs H O O O .h1 O fun S hE H=>?_))))))
      replace q1:=q1.qy hE q1_b4
      replace q2:=q2.qy hE q2_b4
      refine zN (zJ (zY [] (vC 0 O O O (vF 1 O O (fun _ _ hK=>vj O hK) (ve 2 O O (fun S' hS'=>zA fun K hK=>zO O (zF (hS' O) (by simp) (H.cells (vs:=[_,_,_]) .h2 O)) hK) (ve 3 O O (fun S' hS'=>zA fun K hK=>zO O (zF (hS' O) (by simp) (H.cells (vs:=[_,_]) .h O)) hK) (zLf 4 O O O (ve 5 O O (fun S' hS'=>zA fun K hK=>zO O (zF (hS' O) (by simp) (H.cells (vs:=[_,_]) .h1 O)) hK) (zy 6 (by kernel_rfl) O O (zn (zP O (ct65 (b:=b) (by rw [hcs0];exact Sl.nil 7) (by omega) fun S hE =>?_))))))))))))
      replace H:=H.call hE
      replace q1:=q1.mono hE
      replace q2:=q2.mono hE
      refine zLd (vC 7 O O O (zT (ze (zSS (zt O (za (vT O O fun t64 h64=>zN ?_)))))))
      rcases t64 with _|_
      ·replace h64:=bF h64
       exact absurd (show vE b.cs e6 s.s<0 by rw [hcs0];simp [vE]) h64
      ·replace h64:=bT h64
       refine zj O (zSS (vZ O (vZ O (zL1 H O .h1 O (za (W_neI O O fun t68 h68=>zN ?_))))))
       rcases t68 with _|_
       ·replace h68:=bF h68
        refine zr O (zv (ze (zi (zw (⟨trivial,_,zM,?_⟩)))))
        have hr:vL b s=(b,[]):=by
         exact boxInP_ctl hyes (hy rfl) h51.2.2 (by omega) (Classical.not_not.1 h68)
        rw [hr] at hg k
        replace H:=H.quiet (by exact hg)
        exact k x2 none n2 n3 S H.qx (H.get .h2) q1 q2 hn2 (by rw [hcs0];exact Sl.nil 7) hn3 (.same _ _) (.same _ _) .nil
       ·replace h68:=bT h68
        have hr:=boxInP_one hyes (hy rfl) h51.2.2 (by omega) h68
        refine zj O (zU (zt O (zLn (vs:=[_,_,_,_,_,_,_]) H O .h1 O (za (W_send (vs:=[]) O O (by rw [H.g.eq,hg,hr];rfl) ?_)))))
        replace H:=H.sent (.sends c [])
        replace q1:=q1.sent (.sends c [])
        replace q2:=q2.sent (.sends c [])
        refine zN (zi (zw (⟨trivial,_,zM,?_⟩)))
        rw [hr] at k
        exact k x2 none n2 n3 _ H.qx (H.get .h2) q1 q2 hn2 (by rw [hcs0];exact Sl.nil 7) hn3 (.same _ _) (.same _ _) .nil
   ·replace h37:=bT h37
    refine ve 10 O O (fun S' _=>vd O (by decide)) (ve 11 O O (fun S' _=>vd O (by decide)) (vF 12 O O (fun _ _ hK=>vM O O O O hK) (vC 13 O O O (ve 14 O O (fun S' _=>vd O (by decide)) (ve 15 O O (fun S' _=>vd O (by decide)) (ve 16 O O (fun S' _=>vd O (by decide)) (ve 17 O O (fun S' _=>vd O (by decide)) (ve 18 O O (fun S' _=>vd O (by decide)) (ve 19 O O (fun S' _=>vd O (by decide)) (ve 20 O O (fun S' _=>vd O (by decide)) (zy 21 (by kernel_rfl) O O (step_no O (by decide) (⟨fun _=>fun _ _ _ h=>h,ve 22 O O (fun S' _=>vd O (by decide)) (vF 23 O O (fun _ _ hK=>vM O O O O hK) (zT (ze (zj O (zi (zw (⟨trivial,_,zM,?_⟩)))))))⟩)))))))))))))
    have hr:vL b s=(b,[]):=by
     exact hnot (fun h=>h37 h.2.2.2)
    rw [hr] at hg k
    replace H:=H.quiet (by exact hg)
    exact k x2 none n2 n3 S H.qx (H.get .h2) q1 q2 hn2 (by rw [hcs0];exact Sl.nil 7) hn3 (.same _ _) (.same _ _) .nil
end
section
variable {S0:St} {K:Value→St→Prop}
theorem ct135 {a:Option Addr} {n c:Nat} (hn:n≤c) (k:∀  S',Ext [] S0 S'→K (.slice a n n) S') :
  zC 135 #[.slice a n c] S0 K:=by
 refine zGh (sf:=s135) Tryz.func135 fun H=>zR (zt O (v4 (zt O (zt O (zLl O (zt O (zLl O (za (W_clip O O O hn (zt O (zN (zi (z9 O ?_)))))))))))))
 exact k _ H.qx
def Seg.nil:Seg:=⟨⟨0,0⟩,⟨0,0⟩,0,0,[]⟩
end
section
open Go
open Go.Conc (G born)
def base (P:Program):Frame:={(default:Frame) with fn:=P.funcs.size,defers:=[],mode:=.panicking [goexitEntry]}
theorem step_born {P:Program} {f:FuncId} {fn:Func} {cap:Array Value} (hf:P.funcs[f]? = some fn) (hb:fn.body.isSome=true) (hn:(fn.name == "runtime.NumGoroutine")=false) (w:World) :
    stepG P false (born P {target:=.fn (.func f) cap,args:=#[]}) w=.go (G (Frame.enter P f cap .deferred) [base P]) w:=by
  have hbn:fn.body.isNone=false:=by cases h:fn.body<;>simp_all
  have hse:seen P P.funcs.size #[]=#[]:=by first | rfl | simp [seen]
  have hr:(invoke (.fn (.func f) cap) #[]).runT P w #[]=(.ok (.enter f cap) w,#[]):=by
    simp only [invoke,callFunc,program,bind,pure,Sem.bind,Sem.runT,hf,hn,hbn,Bool.false_eq_true,if_false,Array.empty_append]
  simp only [born,stepG,unwind,callDeferred,hr]
  simp [GStep.after,G,base,hse]
def shutD (ats:Array TypeId) (ty:TypeId) (cs:Array Bool) (c:Nat):Deferred:={target:=.builtin .close ats ty cs,args:=#[.chan (some c)]}
theorem run_close {P:Program} {ats:Array TypeId} {ty:TypeId} {cs:Array Bool} {c s r:Nat} {tm:Bool} {w:World} (hc:w.heap[c]? = some (.chan 0 #[] false s r tm)) :
    (invoke (.builtin .close ats ty cs) #[.chan (some c)]).runT P w #[]=(.ok (.value (.tuple #[])) (w.shut c s r tm),Conc.closeEvents c):=by
  simp only [invoke,builtin,close_some,getObj,setObj,bind,pure,Sem.bind,Sem.runT,hc,Bool.false_eq_true,if_false]
  rfl
theorem atShut_ret {P:Program} {fr:Frame} {c n:Nat} {cs:List Frame} {ats:Array TypeId} {ty:TypeId} {ks:Array Bool} (hm:fr.mode=.returning) (hd:fr.defers=[shutD ats ty ks c]) (hq:(P.funcs[fr.fn]?).any (·.norace)=false)
    (h:Conc.QuitsIn P n (G {fr with defers:=[]} cs)):AtShut1 P c (G fr cs):=by
  refine ⟨rfl,?_,G {fr with defers:=[]} cs,n,fun w s r tm hc=>?_,h⟩
  · simp [mayWake,G,hm]
  · have hr:=run_close (P:=P) (ats:=ats) (ty:=ty) (cs:=ks) hc
    simp only [G,stepG,unwind,hm,hd,shutD,callDeferred,hr]
    rw [Conc.seen_eq hq (by intro e he f;simp only [Conc.closeEvents,List.mem_toArray,List.mem_cons,List.not_mem_nil,or_false] at he;rcases he with rfl | rfl<;>simp)]
    simp [GStep.after,hm]
theorem step_base {P:Program} (w:World):stepG P false (G (base P) []) w=.go {frame:=base P,callers:=[],status:=.finished,dying:=none} w:=by
 have hn:P.funcs[P.funcs.size]? = none:=by simp
 have ht:(default:Frame).todo=[]:=rfl
 simp only [G,stepG,base,unwind,Frame.catches,hn,ht]
 simp [goexitEntry]
theorem quits_base {P:Program}:Conc.QuitsIn P 1 (G (base P) []):=
 .inr ⟨rfl,_,fun w=>step_base w,rfl⟩
theorem quits_ret {P:Program} {fr:Frame} {fn:Func} (hm:fr.mode=.returning) (hd:fr.defers=[]) (hk:fr.kind=.deferred) (hf:P.funcs[fr.fn]? = some fn) (hr:fn.results=#[]):Conc.QuitsIn P 2 (G fr [base P]):=by
 refine .inr ⟨rfl,G (base P) [],fun w=>?_,quits_base⟩
 have hse:seen P fr.fn #[]=#[]:=by first | rfl | simp [seen]
 have hres:(results fn fr.tmps).runT P w #[]=(.ok (.tuple #[]) w,#[]):=by
  rw [Sem.runT_eq,results_none hr _ P w,(by simp [results,hr]:(results fn fr.tmps).events P w #[]=#[])]
 simp only [G,stepG,unwind,hm,hd,hf,hres,doReturn,hk]
 simp [GStep.after,base,hse,goexitEntry]
structure PassFn (P:Program) (f:FuncId) (fn:Func) (is:List SI):Prop where
 hf:P.funcs[f]? = some fn
 hn:(fn.name == "runtime.NumGoroutine")=false
 hr:fn.results=#[]
 ht:fn.ntmps=10
 hq:fn.norace=false
 hb:∃ (i0 i1:Nat) (o0 o1:Array Oper) (p0 p1:Oper) (ats:Array TypeId),fn.body=some (.seq (.region i0 o0 false) (.region i1 o1 false))∧o0.size=2∧o0[0]? = some p0∧o0[1]? = some p1∧slimI P 10 false o0 p0=some ⟨some 4,.load1 (.tmp 0),none,[]⟩ ∧
  p1.op=.defer {callee:=.builtin .close,args:=#[.tmp 4],argTypes:=ats}∧p1.dst=none∧p1.guard=none∧p0.guard=none∧p0.dst=some 4∧slimCode P 10 (.region i1 o1 false)=some (.run is)
theorem pass_child {P:Program} {f:FuncId} {fn:Func} {is:List SI} (h:PassFn P f fn is) {v0 v1 v2 v3:Value} {S:St} {c:Nat} {Fin:Goroutine→St→Prop}
    (hc:∀ K:Value→St→Prop,K (.chan (some c)) S→(SOp.load1 (.tmp 0)).W P (Env.of [v0,v1,v2,v3]) S K)
    (hw:wpS P (.run is) ((Env.of [v0,v1,v2,v3]).set (some 4) (.chan (some c))) S fun e _ S'=>e=.normal∧∀ g,AtShut1 P c g→Fin g S'):Go1 P false Fin (born P {target:=.fn (.func f) #[v0,v1,v2,v3],args:=#[]}) S:=by
  obtain ⟨i0,i1,o0,o1,p0,p1,ats,hb,hs0,hp0,hp1,hl0,hop1,hd1,hg1,hg0,hd0,hsl⟩:=h.hb
  have hbs:fn.body.isSome=true:=by rw [hb];rfl
  refine .step' rfl fun w hin=>⟨_,w,#[],S,step_born h.hf hbs h.hn w,rfl,.refl hin,by simp,?_⟩
  let b:Frame:={fn:=f,tmps:=#[],todo:=[],defers:=[],mode:=.run,kind:=.deferred}
  have he:Frame.enter P f #[v0,v1,v2,v3] .deferred=b.atR {tmps:=#[v0,v1,v2,v3]++Array.replicate 6 undef,defers:=[]} [.code (.seq (.region i0 o0 false) (.region i1 o1 false))]:=by
    simp [Frame.enter,Frame.atR,h.hf,hb,h.ht,b]
  rw [he]
  refine .ctl (cs':=[base P]) (fr':=b.atR {tmps:=#[v0,v1,v2,v3]++Array.replicate 6 undef,defers:=[]} [.code (.region i0 o0 false),.code (.region i1 o1 false)]) (fun w=>by simp [G,stepG,stepG.exec,Frame.atR]) ?_
  refine .ctl (cs':=[base P]) (fr':=b.atR {tmps:=#[v0,v1,v2,v3]++Array.replicate 6 undef,defers:=[]} [.inRegion o0 [0,1],.code (.region i1 o1 false)]) (fun w=>by simp [G,stepG,stepG.exec,Frame.atR,hs0,List.range,List.range.loop]) ?_
  have hfit:Fits {tmps:=#[v0,v1,v2,v3]++Array.replicate 6 undef,defers:=[]} 10 (Env.of [v0,v1,v2,v3]):=by
    refine ⟨by simp,fun t v ht=>?_⟩
    rw [Env.get_of] at ht
    have hlt:t<4:=by have:=(List.getElem?_eq_some_iff.1 ht).1;simpa using this
    simp only
    rw [Array.getElem?_append_left (by simpa using hlt)]
    simpa using ht
  have hk:b.kind≠.early:=by simp [b]
  refine .op hp0 (by simp [Region.wanted,hg0]) hk (.inl rfl) ?_
  have hop:=slimI_op hl0 (Env.of [v0,v1,v2,v3]) (Act.eval {tmps:=#[v0,v1,v2,v3]++Array.replicate 6 undef,defers:=[]}) S (fun v S'=>v=.chan (some c)∧S'=S) p0 rfl rfl (fun x v hx=>hfit.ev hx) (hc _ ⟨rfl,rfl⟩)
  have hop2:vG P (execOp (Act.eval {tmps:=#[v0,v1,v2,v3]++Array.replicate 6 undef,defers:=[]}) p0) S (UponS P fun v S'=>v=.chan (some c)∧S'=S) (fun _ _=>False):=by
    rcases hop with hop | hop
    · exact hop
    · exfalso
      unfold slimI at hl0
      split at hl0
      case isFalse=>cases hl0
      simp only [Option.some.injEq,SI.mk.injEq] at hl0
      have hl:=hl0.2.1
      unfold CommO at hop
      cases hpo:p0.op<;>simp only [hpo] at hop hl<;>first | exact hop.elim | (simp [slimOp?] at hl)
  have rest:Go1 P false Fin (G (b.atR (({tmps:=#[v0,v1,v2,v3]++Array.replicate 6 undef,defers:=[]}:Act).put p0.dst (.chan (some c))) (.inRegion o0 [1]::[.code (.region i1 o1 false)])) [base P]) S:=?_
  · refine semW_mono (fun nx S' hu=>?_) (fun _ _ q=>q) _ _ hop2
    cases nx<;>simp only [UponS] at hu<;>first | (obtain ⟨rfl,rfl⟩:=hu;exact rest) | (exact absurd hu.1 (by intro e;cases e)) | (exact hu _ _ _ _ fun v S'' q=>by obtain ⟨rfl,rfl⟩:=q;rw [Frame.finish_atR,hp0];exact rest) | exact hu.elim
  rw [hd0]
  have hfit4:=hfit.put (d:=some 4) (by simp) (.chan (some c))
  refine .op hp1 (by simp [Region.wanted,hg1]) hk (.inl rfl) ?_
  have h4:Act.eval (({tmps:=#[v0,v1,v2,v3]++Array.replicate 6 undef,defers:=[]}:Act).put (some 4) (.chan (some c))) (.tmp 4)=.chan (some c):=rfl
  simp only [execOp,hop1,resolve,List.map_toArray,List.map_cons,List.map_nil,h4,zz,zH,UponOp]
  rw [hd1]
  refine .ctl (cs':=[base P]) (fr':=b.atR ({(({tmps:=#[v0,v1,v2,v3]++Array.replicate 6 undef,defers:=[]}:Act).put (some 4) (.chan (some c))) with defers:=shutD ats p1.type #[false] c::[]}:Act) [.code (.region i1 o1 false)]) (fun w=>by simp [G,stepG,stepG.exec,Frame.atR,Act.put,shutD]) ?_
  have hfit5:Fits ({(({tmps:=#[v0,v1,v2,v3]++Array.replicate 6 undef,defers:=[]}:Act).put (some 4) (.chan (some c))) with defers:=shutD ats p1.type #[false] c::[]}:Act) 10 ((Env.of [v0,v1,v2,v3]).set (some 4) (.chan (some c))):=⟨hfit4.1,hfit4.2⟩
  refine wpS_sound (n:=10) _ _ _ _ S _ (fun e a' S2=>e=.normal∧a'.defers=[shutD ats p1.type #[false] c]∧∀ g,AtShut1 P c g→Fin g S2) hsl hfit5 hw (fun e a' E' S2 _ hd q=>?_) false Fin b [] [base P] hk (fun e a' S2 q=>?_)
  · obtain ⟨rfl,q⟩:=q
    exact ⟨rfl,hd,q⟩
  · obtain ⟨rfl,hd,q⟩:=q
    refine .off (fun todo=>.fin (q _ (atShut_ret (n:=2) rfl (by exact hd) ?_ ?_)))
    · show (P.funcs[f]?).any (·.norace)=false
      rw [h.hf];simp [h.hq]
    · exact quits_ret rfl rfl rfl h.hf h.hr
end
section
open Go
def rpass:List SI:=[i_ 5 (.fieldAddr 3 (t_ 1)),i_ 6 (.load1 (t_ 5)),i_ 7 (.loadN 7 (t_ 3)),i_ 8 (.load1 (t_ 0)),i_ 9 (.callv (t_ 6) [t_ 2,t_ 7,t_ 8])]
theorem pf134:PassFn Tryz.prog 134 Tryz.f134 rpass where
 hf:=Tryz.func134
 hn:=by rfl
 hr:=by rfl
 ht:=by rfl
 hq:=by rfl
 hb:=⟨_,_,_,_,_,_,_,rfl,rfl,rfl,rfl,by kernel_rfl,rfl,rfl,rfl,rfl,rfl,by kernel_rfl⟩
theorem pf160:PassFn Tryz.prog 160 Tryz.f160 rpass where
 hf:=Tryz.func160
 hn:=by rfl
 hr:=by rfl
 ht:=by rfl
 hq:=by rfl
 hb:=⟨_,_,_,_,_,_,_,rfl,rfl,rfl,rfl,by kernel_rfl,rfl,rfl,rfl,rfl,rfl,by kernel_rfl⟩
end
section
open Go
open Go.Conc (born recvd)
section
variable {E:Env} {S S0:St} {K:Value→St→Prop} {X:List Nat} {L:List (Nat × Obj)}
theorem W_makeChan (H:Loc X S0 S L) (k:∀ c S',S c=none→Ext [] S S'→Loc X S0 S' ((c,.chan 0 #[] false 0 0 false)::L)→K (.chan (some c)) S'):(SOp.raw (.makeChan 158 (.const (int 0))) 158).W Tryz.prog E S K:=by
 refine .mk fun ρ hρ=>?_
 have h1:=hρ (.const (int 0)) (by simp [Op.operands]) _ rfl
 obtain ⟨i,hi⟩:∃ i,Tryz.prog.info? 33=some i:=Option.isSome_iff_exists.1 (by kernel_rfl)
 have hm:¬ ((0:Int)<0∨(0:Int)>IntKind.i64.max∨(i.bytes:Int)*0>2 ^ 48-112):=by
  have:IntKind.i64.max=9223372036854775807:=rfl
  omega
 simp only [execOp,h1,Instr.makeChan,asInt,zz,zH,zX Tryz.underlying158,semW_typeInfo hi]
 refine semW_ite_neg hm ?_
 intro c hc
 exact k c _ hc (.put_new hc _) (H.alloc hc _)
theorem zero33:∃ i,Tryz.prog.info? 33=some i∧i.zero=some Seg.nil.v:=by
 have h:((Tryz.prog.info? 33).bind (·.zero))=some Seg.nil.v:=by kernel_rfl
 exact Option.bind_eq_some_iff.1 h
theorem W_recv {ty:TypeId} {x:Operand} {c:Nat} {v:Value} {vs:List Value} {J:Hp→Prop} {D:Nat→Prop} (hx:E.ev x=some (.chan (some c))) (hg:S.g=.hears c (v::vs) J D) (k:K (.tuple #[v,.bool true]) {S with g:=.hears c vs J D}):(SOp.raw (.recv 158 x true) ty).W Tryz.prog E S K:=by
 obtain ⟨i,hi,hz⟩:=zero33
 exact .comm fun ρ hρ=>⟨rfl,c,_,_,i,_,hρ x (by simp [Op.operands]) _ hx,Tryz.underlying158,hi,hz,.inl ⟨v,vs,J,D,hg,k⟩⟩
theorem W_recvEnd {ty:TypeId} {x:Operand} {c:Nat} {J:Hp→Prop} {D:Nat→Prop} (hx:E.ev x=some (.chan (some c))) (hg:S.g=.hears c [] J D) (k:∀ H:Hp,J H→(∀ b e e',S b=some e→H b=some e'→e=e'∧e.wr=false∧D b)→K (.tuple #[Seg.nil.v,.bool false]) ⟨fun b=>(S b).or (H b),.idle⟩):(SOp.raw (.recv 158 x true) ty).W Tryz.prog E S K:=by
 obtain ⟨i,hi,hz⟩:=zero33
 exact .comm fun ρ hρ=>⟨rfl,c,_,_,i,_,hρ x (by simp [Op.operands]) _ hx,Tryz.underlying158,hi,hz,.inr ⟨J,D,hg,k⟩⟩
theorem W_go {ty:TypeId} {x:Operand} {f:FuncId} {cap:Array Value} {c:Nat} {vs:List Value} {J:Hp→Prop} {Hw Hm:Hp} (hx:E.ev x=some (.func (.func f) #[] cap)) (hg:S.g=.idle) (hc:S c=some ⟨.chan 0 #[] false 0 0 false,true⟩) (hwc:Hw c=none) (hmc:Hm c=none)
    (hws:∀ b e,Hw b=some e→∃ e0,S b=some e0∧e.o=e0.o∧(e.wr=true→e0.wr=true)) (hms:∀ b e,Hm b=some e→∃ e0,S b=some e0∧e.o=e0.o∧(e.wr=true→e0.wr=true)) (hcp:∀ b e e',Hw b=some e→Hm b=some e'→e.wr=false∧e'.wr=false)
    (hch:Go1 Tryz.prog false (fun g S=>S.g=.sends c []∧J S.h∧AtShut1 Tryz.prog c g) (born Tryz.prog {target:=.fn (.func f) cap,args:=#[]}) ⟨Hw,.sends c vs⟩) (k:K undef ⟨Hm,.hears c vs J (fun b=>∃ e,Hw b=some e)⟩):(SOp.raw (.go ⟨.value x,#[],#[]⟩) ty).W Tryz.prog E S K:=
  .comm fun ρ hρ=>⟨rfl,x,f,cap,c,vs,J,Hw,Hm,rfl,hρ x (by simp [Op.operands,Call.operands]) _ hx,hg,hc,hwc,hmc,hws,hms,hcp,hch,k⟩
end
structure GlobR (S:St):Prop where
 g:Glob S
 ro:∀ b∈[1,2,4],∀ e,S b=some e→e.wr=false
theorem cell_there {S:St} {a:Addr} {v:Value} (h:S.cell? a=some v):∃ e,S a.block=some e:=by
 unfold St.cell? at h
 split at h
 ·exact ⟨_,‹_›⟩
 ·cases h
theorem Glob.there {S:St} (h:Glob S):∀ b∈[1,2,4],∃ e,S b=some e:=by
 intro b hb
 simp only [List.mem_cons,List.not_mem_nil,or_false] at hb
 rcases hb with rfl | rfl | rfl
 ·obtain ⟨t,a,h1⟩:=h.e1;exact cell_there h1
 ·obtain ⟨t,a,h1⟩:=h.e2;exact cell_there h1
 ·exact cell_there h.p2
theorem GlobR.mono {S S':St} (h:GlobR S) (he:Ext [] S S'):GlobR S':=by
 refine ⟨h.g.mono he,fun b hb e hs=>?_⟩
 obtain ⟨e0,h0⟩:=h.g.there b hb
 have:=he.get h0
 rw [hs] at this;cases this
 exact h.ro b hb e h0
theorem cell_agree {S T:St} {a:Addr} {v:Value} (h:S.cell? a=some v) (ht:∀ o w,S a.block=some ⟨o,w⟩→∃ w',T a.block=some ⟨o,w'⟩):T.cell? a=some v:=by
 unfold St.cell? at h ⊢
 split at h
 ·rename_i c e f wr hs
  obtain ⟨w',h1⟩:=ht _ _ hs
  rw [h1];exact h
 ·cases h
theorem cells_agree {S T:St} {a:Addr} {n:Nat} {vs:List Value} (h:S.cells? a n=some vs) (ht:∀ o w,S a.block=some ⟨o,w⟩→∃ w',T a.block=some ⟨o,w'⟩):T.cells? a n=some vs:=by
 unfold St.cells? at h ⊢
 split at h
 ·rename_i c e f wr hs
  obtain ⟨w',h1⟩:=ht _ _ hs
  rw [h1];exact h
 ·cases h
theorem Glob.agree {S T:St} (h:Glob S) (ht:∀ b∈[1,2,4],∀ o w,S b=some ⟨o,w⟩→∃ w',T b=some ⟨o,w'⟩):Glob T:=
 ⟨cell_agree h.p2 (ht 4 (by simp)),cell_agree h.p3 (ht 4 (by simp)),let ⟨t,a,h1⟩:=h.e1;⟨t,a,cell_agree h1 (ht 1 (by simp))⟩,let ⟨t,a,h1⟩:=h.e2;⟨t,a,cell_agree h1 (ht 2 (by simp))⟩⟩
theorem Sl.agree {S T:St} {k:Nat} {a:Option Addr} {rows:List (List Value)} (h:Sl S k a rows) (ht:∀ b off,a=some ⟨b,off,none⟩→∀ e,S b=some e→T b=some e):Sl T k a rows where
 row i r hr:=by
  obtain ⟨b,off,h1,h2⟩:=h.row i r hr
  exact ⟨b,off,h1,cells_agree h2 fun o w hs=>⟨w,ht b off h1 _ hs⟩⟩
 base ad ha:=by
  obtain ⟨b,off,c,e,f,wr,h1,h2,h3⟩:=h.base ad ha
  subst h1
  exact ⟨b,off,c,e,f,wr,rfl,ht b off ha _ h2,h3⟩
def giveW (S0 S:St) (c r v:Nat):Hp:=fun b=>if b=c∨b=r then none else if b=v then (S b).map (fun e=>⟨e.o,false⟩) else if (S0 b).isSome∧b∉[1,2,4] then none else S b
def keepM (S0 S:St) (c r v:Nat):Hp:=fun b=>if b=c then none else if b=v then (S b).map (fun e=>⟨e.o,false⟩) else if (S0 b).isSome∨b=r then S b else none
section
variable {S0 S:St} {c r v:Nat}
theorem giveW_c:giveW S0 S c r v c=none:=by simp [giveW]
theorem giveW_r:giveW S0 S c r v r=none:=by simp [giveW]
theorem keepM_c:keepM S0 S c r v c=none:=by simp [keepM]
theorem giveW_sub:∀ b e,giveW S0 S c r v b=some e→∃ e0,S b=some e0∧e.o=e0.o∧(e.wr=true→e0.wr=true):=by
 intro b e h
 unfold giveW at h
 split at h
 ·cases h
 ·split at h
  ·obtain ⟨e0,h0,rfl⟩:=Option.map_eq_some_iff.1 h
   exact ⟨e0,h0,rfl,nofun⟩
  ·split at h
   ·cases h
   ·exact ⟨e,h,rfl,id⟩
theorem keepM_sub:∀ b e,keepM S0 S c r v b=some e→∃ e0,S b=some e0∧e.o=e0.o∧(e.wr=true→e0.wr=true):=by
 intro b e h
 unfold keepM at h
 split at h
 ·cases h
 ·split at h
  ·obtain ⟨e0,h0,rfl⟩:=Option.map_eq_some_iff.1 h
   exact ⟨e0,h0,rfl,nofun⟩
  ·split at h
   ·exact ⟨e,h,rfl,id⟩
   ·cases h
theorem give_keep (hR:GlobR S):∀ b e e',giveW S0 S c r v b=some e→keepM S0 S c r v b=some e'→e.wr=false∧e'.wr=false:=by
 intro b e e' h h'
 unfold giveW at h
 unfold keepM at h'
 split at h
 ·cases h
 ·rename_i hn
  simp only [not_or] at hn
  rw [if_neg hn.1] at h'
  split at h
  ·rename_i hv
   rw [if_pos hv] at h'
   obtain ⟨_,_,rfl⟩:=Option.map_eq_some_iff.1 h
   obtain ⟨_,_,rfl⟩:=Option.map_eq_some_iff.1 h'
   exact ⟨rfl,rfl⟩
  ·rename_i hv
   rw [if_neg hv] at h'
   split at h
   ·cases h
   ·rename_i hs
    split at h'
    ·rename_i hk
     have hk:(S0 b).isSome:=hk.resolve_right hn.2
     have hm:b∈[1,2,4]:=Classical.byContradiction fun hm=>hs ⟨hk,hm⟩
     have h1:S b=some e:=h
     have h2:S b=some e':=h'
     exact ⟨hR.ro b hm e h1,hR.ro b hm e' h2⟩
    ·cases h'
theorem giveW_new {b:Nat} (h0:S0 b=none) (h1:b≠c) (h2:b≠r) (h3:b≠v):giveW S0 S c r v b=S b:=by
 unfold giveW;rw [if_neg (by simp [h1,h2]),if_neg h3,if_neg (by simp [h0])]
theorem giveW_glob {b:Nat} (hb:b∈[1,2,4]) (h1:b≠c) (h2:b≠r) (h3:b≠v):giveW S0 S c r v b=S b:=by
 unfold giveW;rw [if_neg (by simp [h1,h2]),if_neg h3,if_neg (by simp only [not_and,Classical.not_not];exact fun _=>hb)]
theorem giveW_v {e:Ent} (h:S v=some e) (h1:v≠c) (h2:v≠r):giveW S0 S c r v v=some ⟨e.o,false⟩:=by
 unfold giveW;rw [if_neg (by simp [h1,h2]),if_pos rfl,h];rfl
theorem keepM_v {e:Ent} (h:S v=some e) (h1:v≠c):keepM S0 S c r v v=some ⟨e.o,false⟩:=by
 unfold keepM;rw [if_neg h1,if_pos rfl,h];rfl
theorem keepM_old {b:Nat} {e:Ent} (h0:S0 b=some e) (h1:b≠c) (h2:b≠v):keepM S0 S c r v b=S b:=by
 unfold keepM;rw [if_neg h1,if_neg h2,if_pos (by simp [h0])]
theorem keepM_r (h1:r≠c) (h2:r≠v):keepM S0 S c r v r=S r:=by
 unfold keepM;rw [if_neg h1,if_neg h2,if_pos (by simp)]
theorem keepM_none {b:Nat} (h0:S0 b=none) (h2:b≠r) (h3:b≠v):keepM S0 S c r v b=none:=by
 unfold keepM
 by_cases hc:b=c
 ·rw [if_pos hc]
 ·rw [if_neg hc,if_neg h3,if_neg (by simp [h0,h2])]
end
def TurnPost (b r:Box) (bx:Nat) (x1 x2 x3:Option Addr) (S0 S':St):Prop:=∃ (x2' x3':Option Addr) (d2 d3:Nat),S' bx=some ⟨Cs [.slice x1 b.rs.length b.rs.length,.slice x2' r.es.length d2,.slice x3' r.cs.length d3] 29,true⟩∧Sl S' 7 x1 (vf b.rs)∧Sl S' 2 x2' (zV r.es)∧r.es.length≤d2 ∧
 Sl S' 7 x3' (z5 r.cs)∧r.cs.length≤d3∧Org S0 x2 x2'∧Org S0 x3 x3'∧OffS x2' x3'
structure TurnC (tf:FuncId) (b:Box) (s:Seg) (r:Box × List Seg):Prop where
 h:∀ (x1 x2 x3:Option Addr) (bx c d3:Nat) (S00 S0:St) (K:Value→St→Prop),Glob S0→S0.g=.sends c (r.2.map Seg.v)→S0 bx=some ⟨Cs [.slice x1 b.rs.length b.rs.length,.slice x2 b.es.length b.es.length,.slice x3 b.cs.length b.cs.length] 29,true⟩→Sl S0 7 x1 (vf b.rs)→Sl S0 2 x2 (zV b.es) →
  OwnO S00 S0 x3 49 7 d3 (z5 b.cs)→bx∉[1,2,4]→(∀ b off,x3=some ⟨b,off,none⟩→b∉[1,2,4]∧b≠bx)→(∀ b off,x1=some ⟨b,off,none⟩→b≠bx)→(∀ b off,x2=some ⟨b,off,none⟩→b≠bx)→OffB x1 x3→OffB x2 x3 →
  (∀ S',Gro {S0 with g:=.sends c []} S'→TurnPost b r.1 bx x1 x2 x3 S0 S'→K (.tuple #[]) S')→Calls1 Tryz.prog tf #[vN bx 0,s.v,.chan (some c)] S0 K
theorem connRows_nil {cs:List Conn} (h:z5 cs=[]):cs=[]:=by cases cs with
 | nil=>rfl
 | cons=>simp [z5] at h
theorem turn55 {b:Box} {s:Seg} (hB:BoxP b) (hdt:s.dt.length≤1048576):TurnC 55 b s (boxOutP b s) where
 h x1 x2 x3 bx c d3 S00 S0 K hG hg hbx h1 h2 hO q0 q3 q1 q2 o1 o2 k:=by
  rcases hO with ⟨rfl,hr0,hd⟩ | ⟨m,rfl,hm0,cs,hm,hle,hcl,hct,h7⟩
  ·have hcs0:=connRows_nil hr0
   exact ct55n hG hB hg hdt hbx h1 h2 (Nat.le_refl _) (Nat.le_refl _) hcs0 (by rw [hcs0];rfl) q0 q1 q2 fun x2' x3' d2 d3 S' hE p1 p2 p3 p4 p5 p6 p7 p8 p9=>k S' hE.g ⟨x2',x3',d2,d3,p1,p2,p3,p4,p5,p6,p7,p8,p9⟩
  ·have hl:(z5 b.cs).length=b.cs.length:=by simp
   rw [hl] at hle hct
   have hm2:=q3 m 0 rfl
   exact ct55 hG hB hg hdt hbx h1 h2 (Nat.le_refl _) (Nat.le_refl _) hm (by rw [hcl];exact Nat.mul_le_mul_right _ hle) hct hm2.2.symm rfl q0 hm2.1 q1 (fun b off e=>o1 b off m e rfl) q2 (fun b off e=>o2 b off m e rfl) fun x2' x3' d2 d3 S' hE p1 p2 p3 p4 p5 p6 p7 p8 p9=>k S' hE.g ⟨x2',x3',d2,d3,p1,p2,p3,p4,p5,p6,p7,p8,p9⟩
theorem turn75 {b:Box} {s:Seg} (hB:BoxP b) (hdt:s.dt.length≤1048576):TurnC 75 b s (vL b s) where
 h x1 x2 x3 bx c d3 S00 S0 K hG hg hbx h1 h2 hO q0 q3 q1 q2 o1 o2 k:=by
  rcases hO with ⟨rfl,hr0,hd⟩ | ⟨m,rfl,hm0,cs,hm,hle,hcl,hct,h7⟩
  ·have hcs0:=connRows_nil hr0
   exact ct75n hG hB hg hdt hbx h1 h2 (Nat.le_refl _) (Nat.le_refl _) hcs0 q0 q1 q2 fun x2' x3' d2 d3 S' hE p1 p2 p3 p4 p5 p6 p7 p8 p9=>k S' hE.g ⟨x2',x3',d2,d3,p1,p2,p3,p4,p5,p6,p7,p8,p9⟩
  ·have hl:(z5 b.cs).length=b.cs.length:=by simp
   rw [hl] at hle hct
   have hm2:=q3 m 0 rfl
   exact ct75 hG hB hg hdt hbx h1 h2 (Nat.le_refl _) (Nat.le_refl _) hm (by rw [hcl];exact Nat.mul_le_mul_right _ hle) hct hm2.2.symm q0 hm2.1 q1 (fun b off e=>o1 b off m e rfl) q2 (fun b off e=>o2 b off m e rfl) fun x2' x3' d2 d3 S' hE p1 p2 p3 p4 p5 p6 p7 p8 p9=>k S' hE.g ⟨x2',x3',d2,d3,p1,p2,p3,p4,p5,p6,p7,p8,p9⟩
end
section
open Go
open Go.Conc (born recvd)
theorem TurnPost.ghost {b r:Box} {bx:Nat} {x1 x2 x3:Option Addr} {S0 S':St} (h:TurnPost b r bx x1 x2 x3 S0 S') (g g':Gh):TurnPost b r bx x1 x2 x3 {S0 with g:=g} {S' with g:=g'}:=by
 obtain ⟨x2',x3',d2,d3,p1,p2,p3,p4,p5,p6,p7,p8,p9⟩:=h
 exact ⟨x2',x3',d2,d3,p1,p2.sent g',p3.sent g',p4,p5.sent g',p6,p7,p8,p9⟩
def JP (b r:Box) (bx:Nat) (x1 x2 x3:Option Addr) (Hw:Hp):Hp→Prop:=fun H=>Gro ⟨Hw,.idle⟩ ⟨H,.idle⟩∧TurnPost b r bx x1 x2 x3 ⟨Hw,.idle⟩ ⟨H,.idle⟩
theorem pass_worker {f:FuncId} {fn:Func} (hf:PassFn Tryz.prog f fn rpass) {tf:FuncId} {tfn:Func} (htf:Tryz.prog.funcs[tf]? = some tfn) (hb:tfn.body.isSome=true) (hn:(tfn.name == "runtime.NumGoroutine")=false) {b:Box} {s:Seg} {r:Box × List Seg} (hT:TurnC tf b s r)
    {S00:St} {Hw:Hp} {c b2 b3 b6 b7 d3:Nat} {x1 x2 x3:Option Addr} (hG:Glob ⟨Hw,.sends c (r.2.map Seg.v)⟩) (h7:(⟨Hw,.sends c (r.2.map Seg.v)⟩:St).cell? ⟨b7,0,none⟩=some (.chan (some c))) (h2:(⟨Hw,.sends c (r.2.map Seg.v)⟩:St).cell? ⟨b2,3,none⟩=some (.func (.func tf) #[] #[]))
    (h3:(⟨Hw,.sends c (r.2.map Seg.v)⟩:St).cells? ⟨b3,0,none⟩ 7=some s.row) (h6:Hw b6=some ⟨Cs [.slice x1 b.rs.length b.rs.length,.slice x2 b.es.length b.es.length,.slice x3 b.cs.length b.cs.length] 29,true⟩)
    (s1:Sl ⟨Hw,.sends c (r.2.map Seg.v)⟩ 7 x1 (vf b.rs)) (s2:Sl ⟨Hw,.sends c (r.2.map Seg.v)⟩ 2 x2 (zV b.es)) (hO:OwnO S00 ⟨Hw,.sends c (r.2.map Seg.v)⟩ x3 49 7 d3 (z5 b.cs))
    (q0:b6∉[1,2,4]) (q3:∀ b off,x3=some ⟨b,off,none⟩→b∉[1,2,4]∧b≠b6) (q1:∀ b off,x1=some ⟨b,off,none⟩→b≠b6) (q2:∀ b off,x2=some ⟨b,off,none⟩→b≠b6) (o1:OffB x1 x3) (o2:OffB x2 x3) :
    Go1 Tryz.prog false (fun g S'=>S'.g=.sends c []∧JP b r.1 b6 x1 x2 x3 Hw S'.h∧AtShut1 Tryz.prog c g) (born Tryz.prog {target:=.fn (.func f) #[vN b7 0,vN b2 0,vN b6 0,vN b3 0],args:=#[]}) ⟨Hw,.sends c (r.2.map Seg.v)⟩:=by
  refine pass_child hf (c:=c) (fun K k=>zE rfl h7 k) ?_
  refine zU ?_
  refine za (zD rfl ?_)
  refine za (zE rfl h2 ?_)
  refine za (zO (vs:=s.row) rfl h3 ?_)
  refine za (zE rfl h7 ?_)
  refine za (W_callv (vs:=[vN b6 0,s.v,.chan (some c)]) rfl rfl htf hb hn ?_)
  rw [show (#[]++[vN b6 0,s.v,Value.chan (some c)].toArray++#[]:Array Value)=#[vN b6 0,s.v,.chan (some c)] by rfl]
  refine hT.h x1 x2 x3 b6 c d3 S00 ⟨Hw,.sends c (r.2.map Seg.v)⟩ _ hG rfl h6 s1 s2 hO q0 q3 q1 q2 o1 o2 fun S' hE hP=>?_
  exact vl ⟨rfl,fun g hgs=>⟨hE.eq,⟨⟨rfl,hE.keep,hE.ro,hE.new⟩,hP.ghost .idle .idle⟩,hgs⟩⟩
def lpass:SCode:=.loop (.seq (.run r56_6) (.seq (.cond (t_ 18) .skip (.exit 0)) (.block 1 (.seq (.run r56_7) (.run r56_8)))))
def cpass (ty f:Nat):SCode:=.seq (.run [i_ 2 (.box ty (t_ 0)),i_ 3 (.box 33 (t_ 1)),i_ 4 (.alloc 29 (.agg #[.slice none 0 0,.slice none 0 0,.slice none 0 0])),i_ 5 (.mv (.const (.slice none 0 0)))]) (.seq (.run r56_1) (.seq (.run r56_2) (.seq (.run [i_ 14 (.mkFunc (.func f) [] [t_ 7,t_ 2,t_ 6,t_ 3]),n_ (.raw (.go ⟨.value (t_ 14),#[],#[]⟩) 0)]) (.seq (.run r56_4) (.seq (.seq (.run r56_5) (.block 0 lpass)) (.seq (.draw r56_9) .ret))))))
theorem c56_eq:c56=cpass 91 134:=rfl
theorem c76_eq:c76=cpass 111 160:=rfl
theorem join_ext {S0 Sp Sm S:St} {H:Hp} {c r v:Nat} (hi:S0.g=.idle) (hR:GlobR Sp) (hE:Ext [] S0 Sp) (hc0:S0 c=none) (hr0:S0 r=none) (hv0:S0 v=none) (hcv:v≠c) (hcr:r≠c) (hrv:r≠v) (hv:∃ e,Sp v=some e∧Odd e.o) (hr:∃ o,Sp r=some ⟨o,true⟩)
    (hSm:Sm.h=keepM S0 Sp c r v) (hM:Ext [r] Sm S) (hW:Gro ⟨giveW S0 Sp c r v,.idle⟩ ⟨H,.idle⟩) (hcp:∀ b e e',S b=some e→H b=some e'→e=e'∧e.wr=false∧∃ e,giveW S0 Sp c r v b=some e) :
    Ext [] S0 ⟨fun b=>(S b).or (H b),.idle⟩∧Stays [] ⟨H,.idle⟩ ⟨fun b=>(S b).or (H b),.idle⟩∧(∀ b,H b≠none→giveW S0 Sp c r v b=none→S0 b=none):=by
  have hm:∀ b,Sm b=keepM S0 Sp c r v b:=fun b=>by rw [show Sm b=Sm.h b from rfl,hSm]
  have stay:∀ b e,S0 b=some e→S b=some e:=by
    intro b e hb
    have h1:b≠c:=by rintro rfl;rw [hc0] at hb;cases hb
    have h2:b≠v:=by rintro rfl;rw [hv0] at hb;cases hb
    have h3:b≠r:=by rintro rfl;rw [hr0] at hb;cases hb
    refine hM.ext b e (by simpa using h3) ?_
    rw [hm,keepM_old hb h1 h2]
    exact hE.get hb
  have newM:∀ b e,S0 b=none→S b=some e→e.wr=true∨Odd e.o:=by
    intro b e hb he
    by_cases h2:b=r
    · subst h2
      obtain ⟨o,ho⟩:=hr
      obtain ⟨o',ho'⟩:=hM.g.keep b ⟨o,true⟩ (by rw [hm,keepM_r hcr hrv];exact ho)
      rw [he] at ho';cases ho'
      exact .inl rfl
    · by_cases h3:b=v
      · subst h3
        obtain ⟨e0,h0,hodd⟩:=hv
        have:=hM.g.ro b ⟨e0.o,false⟩ (by rw [hm];exact keepM_v h0 hcv) rfl
        rw [he] at this;cases this
        exact .inr hodd
      · exact hM.g.new b e (by rw [hm];exact keepM_none hb h2 h3) he
  have newW:∀ b e,S0 b=none→S b=none→H b=some e→e.wr=true∨Odd e.o:=by
    intro b e hb hs he
    cases hg:giveW S0 Sp c r v b with
    | none=>exact hW.new b e hg he
    | some e1=>
      have h2:b≠r:=by rintro rfl;rw [giveW_r] at hg;cases hg
      have h1:b≠c:=by rintro rfl;rw [giveW_c] at hg;cases hg
      have h3:b≠v:=by
        rintro rfl
        obtain ⟨e0,h0,_⟩:=hv
        obtain ⟨o,ho⟩:=hM.g.keep b ⟨e0.o,false⟩ (by rw [hm];exact keepM_v h0 hcv)
        rw [hs] at ho;cases ho
      rw [giveW_new hb h1 h2 h3] at hg
      rcases hE.g.new b e1 hb hg with hw | hodd
      · obtain ⟨o,ho⟩:=hW.keep b e1 (by show giveW S0 Sp c r v b=_;rw [giveW_new hb h1 h2 h3];exact hg)
        have h9:(⟨H,.idle⟩:St) b=some e:=he
        rw [h9] at ho;cases ho
        exact .inl hw
      · cases hw:e1.wr with
        | false=>
          have:=hW.ro b e1 (by show giveW S0 Sp c r v b=_;rw [giveW_new hb h1 h2 h3];exact hg) hw
          have h9:(⟨H,.idle⟩:St) b=some e:=he
          rw [h9] at this;cases this
          exact .inr hodd
        | true=>
          obtain ⟨o,ho⟩:=hW.keep b e1 (by show giveW S0 Sp c r v b=_;rw [giveW_new hb h1 h2 h3];exact hg)
          have h9:(⟨H,.idle⟩:St) b=some e:=he
          rw [h9] at ho;cases ho
          exact .inl hw
  have st:Stays [] S0 ⟨fun b=>(S b).or (H b),.idle⟩:=fun b e _ hb=>by
    show (S b).or (H b)=_
    rw [stay b e hb];rfl
  refine ⟨⟨⟨hi.symm ▸ rfl,fun b e hb=>⟨e.o,st b e (by simp) hb⟩,fun b e hb _=>st b e (by simp) hb,fun b e hb he=>?_⟩,st⟩,fun b e _ hb=>?_,fun b hb hg=>?_⟩
  · have he:(S b).or (H b)=some e:=he
    cases hs:S b with
    | some e1=>rw [hs] at he;cases he;exact newM b _ hb hs
    | none=>rw [hs] at he;exact newW b e hb hs he
  · show (S b).or (H b)=_
    cases hs:S b with
    | none=>exact hb
    | some e1=>
      obtain ⟨h1,_⟩:=hcp b e1 e hs hb
      rw [h1];rfl
  · cases h0:S0 b with
    | none=>rfl
    | some e=>
      cases hh:H b with
      | none=>exact absurd hh hb
      | some e'=>
        obtain ⟨_,_,e2,h2⟩:=hcp b e e' (stay b e h0) hh
        rw [hg] at h2;cases h2
end
section
open Go
open Go.Conc (born recvd)
theorem Sl.stays {S S':St} {k:Nat} {a:Option Addr} {rows:List (List Value)} (h:Sl S k a rows) (he:Stays [] S S'):Sl S' k a rows:=h.agree fun b off _ e hb=>he b e (by simp) hb
theorem Loc.rest {S0 S1 S S':St} {X:List Nat} {L:List (Nat × Obj)} (hE:Ext [] S0 S') (hs:Stays [] S S') (H:Loc X S1 S L) (h0:∀ b o,(b,o)∈L→S0 b=none):Loc [] S0 S' L:=
 ⟨hE.g,hE.ext,fun b o hb=>hs b _ (by simp) (H.own b o hb),fun b o hb=>.inl (h0 b o hb),H.nodup⟩
theorem offS_of {S0 S:St} {a x:Option Addr} {e:TypeId} {k cap:Nat} {rows:List (List Value)} (h:OwnO S0 S x e k cap rows) (ho:OffB a x):OffS a x:=by
 rintro b off b' off' ha rfl
 rcases h with ⟨h,_⟩ | ⟨m,h,_⟩
 ·cases h
 ·cases h;exact ho b off b' ha rfl
theorem Sl.in_ {S:St} {k:Nat} {a:Option Addr} {rows:List (List Value)} (h:Sl S k a rows):∀ b off,a=some ⟨b,off,none⟩→∃ e,S b=some e:=by
 rintro b off rfl
 obtain ⟨_,_,c,e,f,wr,e1,h2,_⟩:=h.base _ rfl
 cases e1
 exact ⟨_,h2⟩
theorem pass_code {ty:Nat} {f:FuncId} {fn:Func} (hf:PassFn Tryz.prog f fn rpass) {tf:FuncId} {tfn:Func} (htf:Tryz.prog.funcs[tf]? = some tfn) (hb:tfn.body.isSome=true) (hn:(tfn.name == "runtime.NumGoroutine")=false) {b:Box} {s:Seg} {r:Box × List Seg} (hT:TurnC tf b s r)
    (hrs:r.1.rs=b.rs) (hr2:r.2.length≤100000) {S0:St} {a1 a2 a3:Option Addr} {c1 c2 c3:Nat} (hR:GlobR S0) (hi:S0.g=.idle) (h1:Sl S0 7 a1 (vf b.rs)) (h2:Sl S0 2 a2 (zV b.es)) (h3:Sl S0 7 a3 (z5 b.cs)) (hc2:b.es.length≤c2) (hz:BoxZ b)
    {Q:SEx→Env→St→Prop} (k:∀ (x1 x2 x3 x4:Option Addr) (d2 d3:Nat) E S',Ext [] S0 S'→Sl S' 7 x1 (vf r.1.rs)→Sl S' 2 x2 (zV r.1.es)→r.1.es.length≤d2→Sl S' 7 x3 (z5 r.1.cs)→r.1.cs.length≤d3→Sl S' 7 x4 (segRows r.2) →
      Org S0 none x1→Org S0 none x2→Org S0 none x3→Org S0 none x4→OffS x1 x2→OffS x1 x3→OffS x2 x3→OffS x1 x4→OffS x2 x4→OffS x3 x4→(∃ vs,resVals E S' [.cellN 4 3,.tmp 5]=some vs∧resVal vs=.tuple #[.agg #[.slice x1 r.1.rs.length r.1.rs.length,.slice x2 r.1.es.length d2,.slice x3 r.1.cs.length d3],.slice x4 r.2.length r.2.length])→Q .ret E S') :
    wpS Tryz.prog (cpass ty f) (Env.of [.agg #[.slice a1 b.rs.length c1,.slice a2 b.es.length c2,.slice a3 b.cs.length c3,.func (.func tf) #[] #[]],s.v]) S0 Q:=by
  have H:=Loc.start [] S0
  refine zJ ?_
  refine zU ?_
  refine za (W_box H rfl rfl fun b2 S hb2 hE H=>?_)
  refine za (W_box H rfl rfl fun b3 S hb3 hE H=>?_)
  refine za (W_alloc H rfl fun b4 S hb4 hE H=>?_)
  refine za (vP rfl ?_)
  refine vl ?_
  refine ze ?_
  refine zJ ?_
  refine zU ?_
  refine za (zD rfl ?_)
  refine za (W_loadN (vs:=[_,_,_]) H rfl (.tail (.tail .head)) rfl ?_)
  refine za (zP rfl (ct66 (h1.mono H.qx) (h2.mono H.qx) (h3.mono H.qx) hc2 hz fun x1 x2 x3 d3 S hE hx1 hx2 hO o1 o2 of1 of2 of3=>?_))
  have n1_b4:=o1.ne nofun (H.get .head)
  have n2_b4:=o2.ne nofun (H.get .head)
  have n3_b4:=hO.off (H.get .head)
  replace o1:=o1.back H.qx
  replace o2:=o2.back H.qx
  replace hO:=hO.back H.qx
  replace H:=H.call hE
  refine za (W_alloc H rfl fun b6 S hb6 hE H=>?_)
  have n1_b6:=hx1.ne hb6
  have n2_b6:=hx2.ne hb6
  have n3_b6:=hO.sl.ne hb6
  replace hx1:=hx1.mono hE
  replace hx2:=hx2.mono hE
  replace hO:=hO.mono hE
  refine za (W_store H rfl rfl rfl rfl rfl (by decide) .head (of_decide_eq_true rfl) rfl fun S hE H=>?_)
  replace hx1:=hx1.qy hE n1_b6
  replace hx2:=hx2.qy hE n2_b6
  replace hO:=hO.qy hE n3_b6
  refine vl ?_
  refine ze ?_
  refine zJ ?_
  refine zU ?_
  refine za (W_makeChan H fun c S hc hE H=>?_)
  have n1_c:=hx1.ne hc
  have n2_c:=hx2.ne hc
  have n3_c:=hO.sl.ne hc
  replace hx1:=hx1.mono hE
  replace hx2:=hx2.mono hE
  replace hO:=hO.mono hE
  refine za (W_alloc H rfl fun b7 S hb7 hE H=>?_)
  have n1_b7:=hx1.ne hb7
  have n2_b7:=hx2.ne hb7
  have n3_b7:=hO.sl.ne hb7
  replace hx1:=hx1.mono hE
  replace hx2:=hx2.mono hE
  replace hO:=hO.mono hE
  refine za (W_store H rfl rfl rfl rfl rfl (by decide) .head (of_decide_eq_true rfl) rfl fun S hE H=>?_)
  replace hx1:=hx1.qy hE n1_b7
  replace hx2:=hx2.qy hE n2_b7
  replace hO:=hO.qy hE n3_b7
  refine vl ?_
  refine ze ?_
  refine zJ ?_
  refine zU ?_
  refine za (W_mkFunc rfl rfl ?_)
  have hE0:=H.qx
  have hRp:=hR.mono hE0
  have z7:=H.new1 .head
  have zc:=H.new1 (.tail .head)
  have z6:=H.new1 (.tail (.tail .head))
  have z4:=H.new1 (.tail (.tail (.tail .head)))
  have z3:=H.new1 (.tail (.tail (.tail (.tail .head))))
  have z2:=H.new1 (.tail (.tail (.tail (.tail (.tail .head)))))
  have nd:=H.nodup
  simp only [List.map_cons,List.map_nil,List.nodup_cons,List.mem_cons,List.not_mem_nil,or_false,not_or,not_false_eq_true,and_true,List.nodup_nil] at nd
  obtain ⟨⟨d7c,d76,d74,d73,d72⟩,⟨dc6,dc4,dc3,dc2⟩,⟨d64,d63,d62⟩,⟨d43,d42⟩,d32⟩:=nd
  have g7:=hR.g.ne z7
  have gc:=hR.g.ne zc
  have g6:=hR.g.ne z6
  have g4:=hR.g.ne z4
  have hgl:∀ x∈[1,2,4],giveW S0 S c b4 b7 x=S x:=fun x hx=>giveW_glob hx (by rintro rfl;exact gc hx) (by rintro rfl;exact g4 hx) (by rintro rfl;exact g7 hx)
  have hnw:∀ {x:Nat},S0 x=none→x≠c→x≠b4→x≠b7→giveW S0 S c b4 b7 x=S x:=fun h0 h1 h2 h3=>giveW_new h0 h1 h2 h3
  have w7:giveW S0 S c b4 b7 b7=some ⟨Cs [.chan (some c)] 158,false⟩:=giveW_v (H.get .head) d7c d74
  have w2:=(hnw z2 (fun e=>dc2 e.symm) (fun e=>d42 e.symm) (fun e=>d72 e.symm)).trans (H.get (.tail (.tail (.tail (.tail (.tail .head))))))
  have w3:=(hnw z3 (fun e=>dc3 e.symm) (fun e=>d43 e.symm) (fun e=>d73 e.symm)).trans (H.get (.tail (.tail (.tail (.tail .head)))))
  have w6:=(hnw z6 (fun e=>dc6 e.symm) d64 (fun e=>d76 e.symm)).trans (H.get (.tail (.tail .head)))
  have m1:∀ x off,x1=some ⟨x,off,none⟩→S0 x=none:=fun x off e=>by
    rcases o1 with rfl | o1
    · cases e
    · exact o1 x off e
  have m2:∀ x off,x2=some ⟨x,off,none⟩→S0 x=none:=fun x off e=>by
    rcases o2 with rfl | o2
    · cases e
    · exact o2 x off e
  have m3:∀ x off,x3=some ⟨x,off,none⟩→S0 x=none:=fun x off e=>by
    rcases hO with ⟨rfl,_⟩ | ⟨m,rfl,h0,_⟩
    · cases e
    · cases e;exact h0
  have o3:Org S0 none x3:=.inr m3
  have wx1:Sl ⟨giveW S0 S c b4 b7,.sends c (r.2.map Seg.v)⟩ 7 x1 (vf b.rs):=hx1.agree fun x off e en hen=>(hnw (m1 x off e) (n1_c x off e) (n1_b4 x off e) (n1_b7 x off e)).trans hen
  have wx2:Sl ⟨giveW S0 S c b4 b7,.sends c (r.2.map Seg.v)⟩ 2 x2 (zV b.es):=hx2.agree fun x off e en hen=>(hnw (m2 x off e) (n2_c x off e) (n2_b4 x off e) (n2_b7 x off e)).trans hen
  have wx3:OwnO S0 ⟨giveW S0 S c b4 b7,.sends c (r.2.map Seg.v)⟩ x3 49 7 d3 (z5 b.cs):=by
    rcases hO with h | ⟨m,rfl,h0,cs,h4,h5⟩
    · exact .inl h
    · exact .inr ⟨m,rfl,h0,cs,(hnw h0 (n3_c m 0 rfl) (n3_b4 m 0 rfl) (n3_b7 m 0 rfl)).trans h4,h5⟩
  have hch:=pass_worker hf htf hb hn hT (S00:=S0) (Hw:=giveW S0 S c b4 b7) (c:=c) (b2:=b2) (b3:=b3) (b6:=b6) (b7:=b7) (d3:=d3) (x1:=x1) (x2:=x2) (x3:=x3)
    (hRp.g.agree fun x hx o w hs=>⟨w,(hgl x hx).trans hs⟩) (by simp [St.cell?,w7]) (by simp [St.cell?,w2]) (by simp [St.cells?,w3]) w6 wx1 wx2 wx3 g6 (fun x off e=>⟨hR.g.ne (m3 x off e),n3_b6 x off e⟩) n1_b6 n2_b6 of1 of2
  refine za (W_go (Hw:=giveW S0 S c b4 b7) (Hm:=keepM S0 S c b4 b7) (J:=JP b r.1 b6 x1 x2 x3 (giveW S0 S c b4 b7)) rfl (H.g.eq.trans hi) (H.get (.tail .head)) giveW_c keepM_c giveW_sub keepM_sub (give_keep hRp) hch ?_)
  refine vl ?_
  refine ze ?_
  have hm4:keepM S0 S c b4 b7 b4=some ⟨Cs [.slice none 0 0,.slice none 0 0,.slice none 0 0] 29,true⟩:=(keepM_r (fun e=>dc4 e.symm) (fun e=>d74 e.symm)).trans (H.get (.tail (.tail (.tail .head))))
  have hm7:keepM S0 S c b4 b7 b7=some ⟨Cs [.chan (some c)] 158,false⟩:=keepM_v (H.get .head) d7c
  have hmo:∀ x,keepM S0 S c b4 b7 x=none→S0 x=none:=fun x hx=>by
    cases h0:S0 x with
    | none=>rfl
    | some e=>
      rw [keepM_old h0 (by rintro rfl;rw [zc] at h0;cases h0) (by rintro rfl;rw [z7] at h0;cases h0)] at hx
      have h9:=hE0.get h0
      have h8:S x=none:=hx
      rw [h8] at h9;cases h9
  generalize hKM:keepM S0 S c b4 b7=KM at hm4 hm7 hmo
  generalize hJ0:JP b r.1 b6 x1 x2 x3 (giveW S0 S c b4 b7)=J
  generalize hD0:(fun b=>∃ e,giveW S0 S c b4 b7 b=some e)=D
  have M:Loc [b4] ⟨KM,.hears c (r.2.map Seg.v) J D⟩ ⟨KM,.hears c (r.2.map Seg.v) J D⟩ [(b4,Cs [.slice none 0 0,.slice none 0 0,.slice none 0 0] 29)]:=Loc.start1 hm4
  refine zJ ?_
  refine zU ?_
  refine za (zS (cs:=[]) M rfl rfl fun b8 S1 hb8 hE1 M=>?_)
  refine za (vP rfl ?_)
  refine vl ?_
  refine ze ?_
  refine zJ ?_
  refine zJ ?_
  refine zU ?_
  have h17:S1 b7=some ⟨Cs [.chan (some c)] 158,false⟩:=hE1.get hm7
  refine za (zE (v:=.chan (some c)) rfl (by simp [St.cell?,h17]) ?_)
  refine vl ?_
  refine ze ?_
  refine zK ?_
  refine vA (fun E S m_=>∃ (i b8 cap:Nat) (cs:List Value),E=Env.lst [(4,vN b4 0),(6,vN b6 0),(8,sl b8 0 i cap),(16,.chan (some c))]∧Loc [b4] ⟨KM,.hears c ((r.2.map Seg.v).drop i) J D⟩ S [(b8,Cs cs 33),(b4,Cs [.slice none 0 0,.slice none 0 0,.slice none 0 0] 29)]∧i≤r.2.length∧i≤cap∧cs.length=cap*7∧cs.take (i*7)=(segRows (r.2.take i)).flatten∧m_=r.2.length-i) ?_ ?_
  · refine ⟨_,_,?le,0,b8,0,[],rfl,M,(by omega),(by omega),(by simp),(by simp),rfl⟩
    case le=>exact Env.qle ⟨rfl,rfl,rfl,rfl,trivial⟩
  · rintro _ S2 _ ⟨i,b8,cap,cs,rfl,M,hil,hic,hcl,hct,rfl⟩
    refine zJ ?_
    refine zU ?_
    by_cases hlt:i<r.2.length
    · obtain ⟨y,hy⟩:∃ y,r.2[i]? = some y:=⟨r.2[i],by simp⟩
      refine za (W_recv (v:=y.v) (vs:=(r.2.map Seg.v).drop (i+1)) (J:=J) (D:=D) rfl (by rw [M.g.eq];show Gh.hears _ _ _ _=_;rw [List.drop_eq_getElem_cons (by simpa using hlt)];simp only [List.getElem_map,(List.getElem?_eq_some_iff.1 hy).2]) ?_)
      replace M:=M.sent (.hears c ((r.2.map Seg.v).drop (i+1)) J D)
      refine za (vo rfl rfl ?_)
      refine vl ?_
      refine ze ?_
      refine zJ ?_
      refine zj rfl ?_
      refine zv ?_
      refine ze ?_
      refine zK ?_
      refine zJ ?_
      refine zU ?_
      refine za (vo rfl rfl ?_)
      refine za (W_alloc M rfl fun b9 S3 hb9 hE3 M=>?_)
      refine za (W_store M rfl rfl rfl rfl rfl (by decide) .head (of_decide_eq_true rfl) rfl fun S3 hE3 M=>?_)
      refine vl ?_
      refine ze ?_
      refine zU ?_
      refine za (vP rfl ?_)
      refine za (W_loadN (vs:=[_,_,_,_,_,_,_]) M rfl .head rfl ?_)
      refine za (zS (cs:=[_,_,_,_,_,_,_]) M rfl rfl fun b22 S3 hb22 hE3 M=>?_)
      refine za (W_append M rfl rfl (.tail (.tail .head)) hcl hic (Src.own M (n:=1) .head rfl) (by simp [vY,setl]) rfl (by decide) (by omega) rfl fun b23 cap23 cs23 S3 hb23 M hE3 hn23 hcl23 hct23=>?_)
      refine za (vP rfl ?_)
      refine vl ?_
      refine z_ ?_
      refine ze ?_
      refine ⟨_,_,?lt,?le,i+1,b23,cap23,cs23,rfl,M.sub (.cons_cons _ (.cons _ (.cons _ (.cons_cons _ .slnil)))),(by omega),hn23,hcl23,?_,rfl⟩
      case lt=>omega
      case le=>exact Env.qle ⟨rfl,rfl,rfl,rfl,trivial⟩
      refine hct23.trans ?_
      rw [hct,vU hy]
      simp [segRows]
    · obtain rfl:i=r.2.length:=by omega
      rw [List.take_length] at hct
      refine za (W_recvEnd (J:=J) (D:=D) rfl (by rw [M.g.eq];show Gh.hears _ _ _ _=_;rw [List.drop_of_length_le (by simp)]) fun HH hJ hcp=>?_)
      subst hJ0 hD0
      obtain ⟨hW,x2',x3',d2,d3',p1,p2,p3,p4,p5,p6,p7,p8,p9⟩:=hJ
      obtain ⟨hF,hst,hnone⟩:=join_ext (Sm:=⟨KM,_⟩) hi hRp hE0 zc z4 z7 d7c (fun e=>dc4 e.symm) (fun e=>d74 e.symm) ⟨_,H.get .head,⟨_,rfl⟩⟩ ⟨_,H.get (.tail (.tail (.tail .head)))⟩ hKM.symm M.qx hW hcp
      have z8:S0 b8=none:=hmo b8 ((M.fresh b8 _ (Has.mem .head)).resolve_right (by
        intro hm
        obtain rfl:=List.mem_singleton.1 hm
        exact absurd M.nodup (by simp)))
      have n8:∀ x e,HH x=some e→x≠b8:=by
        rintro x e hx rfl
        have:=(hcp x _ e (M.get .head) hx).2.1
        cases this
      have hstS:Stays [] S2 ⟨fun b=>(S2 b).or (HH b),.idle⟩:=fun x e _ hx=>by
        show (S2 x).or (HH x)=_
        rw [hx];rfl
      have F:=Loc.rest hF hstS M (fun x o hx=>by
        simp only [List.mem_cons,Prod.mk.injEq,List.not_mem_nil,or_false] at hx
        rcases hx with ⟨rfl,_⟩ | ⟨rfl,_⟩
        · exact z8
        · exact z4)
      replace F:=F.also (.inl z6) (by
        simp only [List.map_cons,List.map_nil,List.mem_cons,List.not_mem_nil,or_false,not_or]
        exact ⟨n8 b6 _ p1,d64⟩) (hst b6 _ (by simp) p1)
      have hg1:=p2.stays hst
      have hg2:=p3.stays hst
      have hg3:=p5.stays hst
      have i1:=p2.in_
      have i2:=p3.in_
      have i3:=p5.in_
      have Q2:Org S0 none x2':=by
        rcases p7 with rfl | p7
        · exact o2
        · exact .inr fun x off e=>hnone x (by obtain ⟨en,hen⟩:=i2 x off e;intro hc;have h9:HH x=some en:=hen;rw [hc] at h9;cases h9) (p7 x off e)
      have Q3:Org S0 none x3':=by
        rcases p8 with rfl | p8
        · exact o3
        · exact .inr fun x off e=>hnone x (by obtain ⟨en,hen⟩:=i3 x off e;intro hc;have h9:HH x=some en:=hen;rw [hc] at h9;cases h9) (p8 x off e)
      have T12:OffS x1 x2':=by
        rcases p7 with rfl | p7
        · exact of3
        · exact OffS.new (wx1.sent .idle) (.inr p7)
      have T13:OffS x1 x3':=by
        rcases p8 with rfl | p8
        · exact offS_of hO of1
        · exact OffS.new (wx1.sent .idle) (.inr p8)
      have T14:OffS x1 (some ⟨b8,0,none⟩):=.at fun x off e=>by obtain ⟨en,hen⟩:=i1 x off e;exact n8 x en hen
      have T24:OffS x2' (some ⟨b8,0,none⟩):=.at fun x off e=>by obtain ⟨en,hen⟩:=i2 x off e;exact n8 x en hen
      have T34:OffS x3' (some ⟨b8,0,none⟩):=.at fun x off e=>by obtain ⟨en,hen⟩:=i3 x off e;exact n8 x en hen
      have u1:∀ x off,x1=some ⟨x,off,none⟩→x≠b4:=fun x off e=>n1_b4 x off e
      have u2:∀ x off,x2'=some ⟨x,off,none⟩→x≠b4:=by
        rintro x off e rfl
        obtain ⟨en,hen⟩:=i2 x off e
        have:=(hcp x _ en (M.get (.tail .head)) hen).2.1
        cases this
      have u3:∀ x off,x3'=some ⟨x,off,none⟩→x≠b4:=by
        rintro x off e rfl
        obtain ⟨en,hen⟩:=i3 x off e
        have:=(hcp x _ en (M.get (.tail .head)) hen).2.1
        cases this
      refine za (vo rfl rfl ?_)
      refine vl ?_
      refine ze ?_
      refine zJ ?_
      refine zr rfl ?_
      refine vz ?_
      refine zZ ?_
      refine zZ ?_
      refine vH ?_
      refine ze ?_
      refine zJ ?_
      refine zY [b4] ?_
      refine wpD_lt 0 rfl (by kernel_rfl) rfl (fun S' hS'=>zA fun K hK=>zO rfl (zF (hS' rfl) (nin1 d64) (F.cells (vs:=[_,_,_]) .head rfl)) hK) ?_
      refine wpD_lt 1 rfl (by kernel_rfl) rfl (fun S' _=>zA fun K hK=>vP rfl hK) ?_
      refine zy 2 (by kernel_rfl) rfl rfl ?_
      refine zn (zP rfl (ct135 hic fun S4 hE4=>?_))
      replace F:=F.call hE4
      replace hg1:=hg1.mono hE4
      replace hg2:=hg2.mono hE4
      replace hg3:=hg3.mono hE4
      refine ⟨fun _=>hE4.up.ext,?_⟩
      refine zy 3 (by kernel_rfl) rfl rfl ?_
      refine zn (W_store F rfl rfl rfl rfl rfl (by decide) (.tail (.tail .head)) (of_decide_eq_true rfl) rfl fun S5 hE5 F=>?_)
      replace hg1:=hg1.qy hE5 u1
      replace hg2:=hg2.qy hE5 u2
      replace hg3:=hg3.qy hE5 u3
      refine ⟨ldNo (by kernel_rfl),?_⟩
      refine zy 4 (by kernel_rfl) rfl rfl ?_
      refine zn (vP rfl ?_)
      refine ⟨ldNo (by kernel_rfl),?_⟩
      refine zT ?_
      refine ze ?_
      refine zi ?_
      rw [← hrs] at hg1
      refine k x1 x2' x3' (some ⟨b8,0,none⟩) d2 d3' _ _ F.qx hg1 hg2 p4 hg3 p6 (vc (F.get (.tail .head)) (n:=r.2.length*7) (by simp) hct segRows_seven) o1 Q2 Q3 (.new z8) T12 T13 p9 T14 T24 T34 ⟨_,zW (ws:=[_,_,_]) F rfl (.tail (.tail .head)) rfl (z0 rfl zM),?_⟩
      rw [hrs];rfl
end
section
theorem putE_pre (es:List End) (e:End):es <+: putE es e:=by
 unfold putE;split
 ·exact List.prefix_rfl
 ·exact List.prefix_append _ _
theorem lineOut_pre (es:List End) (l:Bs):es <+: (vO es l).1:=by
 unfold vO
 split
 ·exact List.prefix_rfl
 ·exact putE_pre _ _
theorem linesOut_pre (es:List End) (ls:List Bs):es <+: (linesOut es ls).1:=by
 induction ls generalizing es with
 | nil=>exact List.prefix_rfl
 | cons l ls ih=>exact (lineOut_pre es l).trans (ih _)
theorem idxOf_pre {es t:List End} {e:End} (h:es <+: t) (he:e∈es):t.idxOf e=es.idxOf e:=by
 obtain ⟨r,rfl⟩:=h
 rw [List.idxOf_append,if_pos he]
theorem mem_pre {es t:List End} {e:End} (h:es <+: t) (he:e∈es):e∈t:=h.subset he
theorem portE_pre {es t:List End} {e:End} (h:es <+: t) (he:e∈es):portE t e=portE es e:=by
 unfold portE;rw [if_pos he,if_pos (mem_pre h he),idxOf_pre h he]
theorem putE_in {es:List End} {e:End} (h:putP es e≠0):e∈putE es e:=by
 unfold putP at h
 unfold putE
 by_cases hm:e∈es
 ·rw [if_pos (.inl hm)];exact hm
 ·rw [if_neg hm] at h
  by_cases hf:6≤es.length
  ·rw [if_pos hf] at h;exact absurd rfl h
  ·rw [if_neg (by simp [hm,hf])];simp
theorem putP_portE {es:List End} {e:End} (h:putP es e≠0):portE (putE es e) e=putP es e:=by
 by_cases hm:e∈es
 ·obtain ⟨h1,h2⟩:=putE_mem hm;rw [h1,h2]
 ·by_cases hf:6≤es.length
  ·exact absurd (putE_full hm hf).2 h
  ·obtain ⟨h1,h2⟩:=putE_new hm hf
   rw [h1,h2]
   unfold portE
   rw [if_pos (by simp),List.idxOf_append,if_neg hm]
   simp
theorem put_again {es t:List End} {e:End} (h:putE es e <+: t) (h6:t.length≤6):putE t e=t∧putP t e=putP es e:=by
 by_cases hm:e∈es
 ·obtain ⟨h1,h2⟩:=putE_mem hm
  rw [h1] at h
  have:=mem_pre h hm
  obtain ⟨h3,h4⟩:=putE_mem this
  exact ⟨h3,by rw [h4,h2,portE_pre h hm]⟩
 ·by_cases hf:6≤es.length
  ·obtain ⟨h1,h2⟩:=putE_full hm hf
   rw [h1] at h
   have he:es=t:=h.eq_of_length (by have:=h.length_le;omega)
   subst he
   exact ⟨h1,rfl⟩
  ·obtain ⟨h1,h2⟩:=putE_new hm hf
   have hp:putP es e≠0:=by rw [h2];omega
   have hin:=putE_in hp
   have:=mem_pre h hin
   obtain ⟨h3,h4⟩:=putE_mem this
   exact ⟨h3,by rw [h4,portE_pre h hin,putP_portE hp]⟩
theorem lineOut_again {es t:List End} {l:Bs} (h:(vO es l).1 <+: t) (h6:t.length≤6):vO t l=(t,(vO es l).2):=by
 unfold vO at h ⊢
 cases hs:says l with
 | none=>rfl
 | some e=>
  rw [hs] at h
  simp only at h ⊢
  obtain ⟨h1,h2⟩:=put_again h h6
  rw [h1,h2]
theorem linesOut_again {es t:List End} {ls:List Bs} (h:(linesOut es ls).1 <+: t) (h6:t.length≤6):linesOut t ls=(t,(linesOut es ls).2):=by
 induction ls generalizing es with
 | nil=>rfl
 | cons l ls ih=>
  simp only [linesOut] at h ⊢
  have h1:(vO es l).1 <+: t:=(linesOut_pre _ ls).trans h
  rw [lineOut_again h1 h6]
  simp only
  rw [ih h]
theorem streamO_again {es t:List End} {l:Bs} (h:(vt es l).1 <+: t) (h6:t.length≤6):vt t l=(t,(vt es l).2):=linesOut_again h h6
theorem knows_eq {es:List End} {l:Bs} (h:knowsP es l):(vt es l).1=es:=((linesOut_pre es _).eq_of_length h.symm).symm
theorem knows_pre {es t:List End} {l:Bs} (h:knowsP es l) (hp:es <+: t) (h6:t.length≤6):knowsP t l∧(vt t l).2=(vt es l).2:=by
 have h1:=knows_eq h
 have h2:=streamO_again (es:=es) (t:=t) (l:=l) (by rw [h1];exact hp) h6
 exact ⟨by unfold knowsP;rw [h2],by rw [h2]⟩
theorem says_inn {l:Bs} {e:End} (h:says l=some e):e.inn:=by
 unfold says at h
 obtain ⟨x,_,hx⟩:=Option.bind_eq_some_iff.1 h
 split at hx
 ·rename_i hi;cases hx;exact hi
 ·cases hx
theorem TabP_put {es:List End} {e:End} (h:TabP es) (he:e.inn):TabP (putE es e):=by
 unfold putE
 split
 ·exact h
 ·rename_i hn
  simp only [not_or] at hn
  refine ⟨by simp;omega,fun x hx=>?_,?_⟩
  ·rcases List.mem_append.1 hx with hx | hx
   ·exact h.2.1 x hx
   ·simp at hx;subst hx;exact he
  ·rw [List.nodup_append]
   refine ⟨h.2.2,by simp,fun x hx y hy=>?_⟩
   simp at hy;subst hy
   rintro rfl;exact hn.1 hx
theorem TabP_line {es:List End} (l:Bs) (h:TabP es):TabP (vO es l).1:=by
 unfold vO
 split
 ·exact h
 ·rename_i e hs;exact TabP_put h (says_inn hs)
theorem TabP_lines {es:List End} (ls:List Bs) (h:TabP es):TabP (linesOut es ls).1:=by
 induction ls generalizing es with
 | nil=>exact h
 | cons l ls ih=>exact ih (TabP_line l h)
theorem endP_pre {es t:List End} {p:Int} {e:End} (h:es <+: t) (he:endP es p=some e):endP t p=some e:=by
 unfold endP at he ⊢
 split at he
 ·rename_i h5
  rw [if_pos h5]
  obtain ⟨r,rfl⟩:=h
  rw [List.getElem?_append_left (List.getElem?_eq_some_iff.1 he).1];exact he
 ·cases he
theorem lineIn_pre {es t:List End} {l:Bs} (h:es <+: t):lineIn es l=l∨lineIn es l=lineIn t l:=by
 cases hb:boxP l with
 | none=>exact .inl (lineIn_none hb)
 | some p=>
  cases he:endP es p with
  | none=>exact .inl (lineIn_no hb he)
  | some e=>exact .inr (by rw [lineIn_yes hb he,lineIn_yes hb (endP_pre h he)])
theorem near_pre {es t:List End} {he ne:Bs} (h:nearP es he ne) (hp:es <+: t):nearP t he ne:=by
 refine ⟨h.1,h.2.1,h.2.2.1,fun i l m hl hm=>?_⟩
 rcases h.2.2.2 i l m hl hm with h1 | h1
 ·exact .inl h1
 ·rcases lineIn_pre (l:=l) hp with h2 | h2
  ·exact .inl (h1.trans h2)
  ·exact .inr (h1.trans h2)
theorem ConnP_pre {es t:List End} {c:Conn} (h:ConnP es c) (hp:es <+: t) (h6:t.length≤6):ConnP t c:=
 ⟨h.1,h.2.1,h.2.2.1,mem_pre hp h.2.2.2.1,h.2.2.2.2.1,h.2.2.2.2.2.1,(knows_pre h.2.2.2.2.2.2.1 hp h6).1,near_pre h.2.2.2.2.2.2.2 hp⟩
theorem BoxP_pre {b:Box} {t:List End} (h:BoxP b) (hp:b.es <+: t) (ht:TabP t):BoxP {b with es:=t}:=
 ⟨ht,h.2.1,h.2.2.1,fun k c hc=>⟨ConnP_pre (h.2.2.2 k c hc).1 hp ht.1,(h.2.2.2 k c hc).2⟩⟩
theorem spl_app {s:UInt8} (a b:Bs):∃ r,(spl s (a++b)).1=(spl s a).1++r:=by
 induction a with
 | nil=>exact ⟨_,rfl⟩
 | cons c a ih=>
  obtain ⟨r,hr⟩:=ih
  simp only [List.cons_append,spl]
  split
  ·exact ⟨r,by simp [hr]⟩
  ·rcases h1:spl s a with ⟨ls,x⟩
   rcases h2:spl s (a++b) with ⟨ms,y⟩
   rw [h1,h2] at hr
   simp only at hr
   cases ls with
   | nil=>simp only [List.nil_append] at hr;exact ⟨_,rfl⟩
   | cons l ls=>
    cases ms with
    | nil=>simp at hr
    | cons m ms=>
     simp only [List.cons_append,List.cons.injEq] at hr
     exact ⟨r,by simp [hr.1,hr.2]⟩
theorem spl_app0 {s:UInt8} (a b:Bs) (h:(spl s a).2=[]):spl s (a++b)=((spl s a).1++(spl s b).1,(spl s b).2):=by
 induction a with
 | nil=>rfl
 | cons c a ih=>
  simp only [List.cons_append,spl] at h ⊢
  split at h
  ·rename_i hc
   simp only at h
   rw [if_pos hc,if_pos hc,ih h]
   simp
  ·rename_i hc
   rw [if_neg hc,if_neg hc]
   rcases h1:spl s a with ⟨ls,x⟩
   rw [h1] at h ih
   cases ls with
   | nil=>simp at h
   | cons l ls=>
    simp only at h ih
    rw [ih h]
    simp
theorem grown_pre (l:Bs) (s:Seg):l <+: grown l s:=by
 unfold grown;split
 ·exact List.prefix_rfl
 ·exact List.prefix_append _ _
theorem addedS_pre (l:Bs) (s:Seg):l <+: vu l s:=by
 unfold vu;split
 ·exact grown_pre l s
 ·exact List.prefix_rfl
theorem added_old (l:Bs) (s:Seg):(zu (vu l s)).1=(zu l).1++(zu (vu l s)).1.drop (zu l).1.length:=by
 obtain ⟨r,hr⟩:=addedS_pre l s
 rw [← hr]
 obtain ⟨q,hq⟩:=spl_app (s:=59) l r
 simp only [zu]
 rw [hq]
 simp
theorem grown_again (l:Bs) (s:Seg):grown (grown l s) s=grown l s:=by
 by_cases h:s.sq<0∨(l.length:Int)<s.sq∨s.sq+s.dt.length≤l.length
 ·have e:grown l s=l:=by unfold grown;rw [if_pos h]
  rw [e,e]
 ·have e:grown l s=l++s.dt.drop ((l.length:Int)-s.sq).toNat:=by unfold grown;rw [if_neg h]
  rw [e]
  unfold grown
  rw [if_pos]
  simp only [not_or] at h
  refine .inr (.inr ?_)
  rw [List.length_append,List.length_drop]
  omega
theorem addedS_again (l:Bs) (s:Seg):vu (vu l s) s=vu l s:=by
 unfold vu
 split
 ·rename_i h
  simp only [grown_again,if_pos h,ite_self]
 ·rename_i h
  simp [h]
theorem no59_dig (n:Nat):(59:UInt8)∉dig n:=fun h=>by
 have:=dig_mem h
 have e:(59:UInt8).toNat=59:=rfl
 omega
theorem no59_eTxt (a p:Int):(59:UInt8)∉eTxt a p:=by
 unfold eTxt
 simp only [List.mem_append,not_or]
 exact ⟨⟨no59_dig _,by decide⟩,no59_dig _⟩
theorem no59_line (e:End):(59:UInt8)∉e.line:=by
 unfold End.line
 split
 ·simp only [List.mem_append,not_or]
  exact ⟨by decide,no59_eTxt _ _⟩
 ·simp
theorem no59_in {es:List End} {l:Bs} (h:(59:UInt8)∉l):(59:UInt8)∉lineIn es l:=by
 unfold lineIn
 split
 ·exact h
 ·split
  ·exact h
  ·exact no59_line _
theorem spl_linesIn (es:List End) (ls:List Bs) (h:∀ l∈ls,(59:UInt8)∉l):zu (linesIn es ls)=(ls.map (lineIn es),[]):=by
 induction ls with
 | nil=>rfl
 | cons l ls ih=>
  have e:linesIn es (l::ls)=lineIn es l++59::linesIn es ls:=by simp [linesIn]
  rw [e]
  simp only [zu] at ih ⊢
  rw [spl_cons (no59_in (h l (by simp))),ih fun x hx=>h x (by simp [hx])]
  rfl
theorem StrP.clean {l:Bs}:∀ x∈(zu l).1,(59:UInt8)∉x:=(spl_clean 59 l).1
theorem near_heard {es:List End} {c:Conn} {s:Seg} (hT:TabP es) (h:nearP es c.he c.ne) (hs:StrP c.he):nearP es (heardC es c s).he (heardC es c s).ne:=by
 rw [heardC_eq]
 have hl:=heard_ne_len (s:=s) hT h hs
 have hold:=added_old c.he s
 generalize hnew:(zu (vu c.he s)).1.drop (zu c.he).1.length=new at *
 have hcl:∀ l∈new,(59:UInt8)∉l:=fun l hl=>StrP.clean (l:=vu c.he s) l (by rw [← hnew] at hl;exact List.mem_of_mem_drop hl)
 have hne:zu (c.ne++linesIn es new)=((zu c.ne).1++new.map (lineIn es),[]):=by
  have h1:=spl_linesIn es new hcl
  simp only [zu] at h1 ⊢
  rw [spl_app0 _ _ h.2.1,h1]
 refine ⟨?_,?_,hl,fun i l m hi hm=>?_⟩
 ·show (zu (vu c.he s)).1.length=(zu (c.ne++linesIn es new)).1.length
  rw [hne,hold];simp only [List.length_append,List.length_map];rw [h.1]
 ·show (zu (c.ne++linesIn es new)).2=[]
  rw [hne]
 ·have hi:(zu (vu c.he s)).1[i]? = some l:=hi
  have hm:(zu (c.ne++linesIn es new)).1[i]? = some m:=hm
  rw [hold] at hi
  rw [hne] at hm
  simp only at hm
  by_cases h1:i<(zu c.he).1.length
  ·rw [List.getElem?_append_left h1] at hi
   rw [List.getElem?_append_left (by rw [← h.1];exact h1)] at hm
   exact h.2.2.2 i l m hi hm
  ·rw [List.getElem?_append_right (by omega)] at hi
   rw [List.getElem?_append_right (by rw [← h.1];omega),List.getElem?_map,← h.1,hi] at hm
   simp only [Option.map_some,Option.some.injEq] at hm
   exact .inr hm.symm
theorem heardC_io (es:List End) (c:Conn) (s:Seg):(heardC es c s).i=c.i∧(heardC es c s).o=c.o∧(heardC es c s).kn=c.kn:=by rw [heardC_eq];exact ⟨rfl,rfl,rfl⟩
theorem ConnP_heard {es:List End} {c:Conn} {s:Seg} (hT:TabP es) (h:ConnP es c):ConnP es (heardC es c s):=by
 obtain ⟨h1,h2,h3⟩:=heardC_io es c s
 refine ⟨by rw [h1];exact h.1,by rw [h2];exact h.2.1,by rw [h2];exact h.2.2.1,by rw [h1];exact h.2.2.2.1,by rw [h3];exact h.2.2.2.2.1,?_,by rw [h3];exact h.2.2.2.2.2.2.1,near_heard hT h.2.2.2.2.2.2.2 h.2.2.2.2.2.1⟩
 rw [heardC_eq];exact addedS_ok h.2.2.2.2.2.1
theorem heardC_again {es:List End} {c:Conn} {s:Seg}:heardC es (heardC es c s) s=heardC es c s:=by
 rw [heardC_eq es c s,heardC_eq]
 simp only [addedS_again,List.drop_of_length_le (Nat.le_refl _)]
 simp [linesIn]
theorem findC_set {cs:List Conn} {k:Nat} {c c0:Conn} (hx:cs[k]? = some c0) (hi:c.i=c0.i∧c.o=c0.o) (e f:End):vE (cs.set k c) e f=vE cs e f:=by
 induction cs generalizing k with
 | nil=>simp at hx
 | cons x cs ih=>
  cases k with
  | zero=>simp at hx;subst hx;simp [vE,hi.1,hi.2]
  | succ k=>simp only [List.getElem?_cons_succ] at hx;simp only [List.set_cons_succ,vE,ih hx]
theorem findC_set_take {cs:List Conn} {k j:Nat} {c c0:Conn} (hx:cs[k]? = some c0) (hi:c.i=c0.i∧c.o=c0.o) (e f:End):vE ((cs.set k c).take j) e f=vE (cs.take j) e f:=by
 rw [List.take_set]
 by_cases h:k<j
 ·exact findC_set (by rw [List.getElem?_take,if_pos h];exact hx) hi e f
 ·rw [List.set_eq_of_length_le (by simp;omega)]
theorem findC_snoc {cs:List Conn} {x:Conn} {e f:End} (h:vE cs e f<0):vE (cs++[x]) e f=if x.i=e∧x.o=f then (cs.length:Int) else -1:=by
 induction cs with
 | nil=>simp [vE]
 | cons y cs ih=>
  simp only [vE] at h
  split at h
  ·omega
  ·rename_i hn
   have hb:=findC_bd cs e f
   split at h
   ·rename_i hlt
    have:=ih hlt
    simp only [List.cons_append,vE,if_neg hn,this]
    split
    ·rw [if_neg (by omega)];simp
    ·rfl
   ·omega
end
section
@[ext] theorem Box.ext' {a b:Box} (h1:a.rs=b.rs) (h2:a.es=b.es) (h3:a.cs=b.cs):a=b:=by
 cases a;cases b;simp_all
theorem knownC_io (c:Conn) (s:Seg):(vR c s).i=c.i∧(vR c s).o=c.o∧(vR c s).he=c.he∧(vR c s).ne=c.ne:=by rw [knownC_eq];exact ⟨rfl,rfl,rfl,rfl⟩
theorem knownC_again (c:Conn) (s:Seg):vR (vR c s) s=vR c s:=by
 rw [knownC_eq c s,knownC_eq]
 simp only [addedS_again]
theorem placeC_spec {cs:List Conn} {e f:End} (h3:cs.length≤3):((vX cs e f).2<0∧vX cs e f=(cs,-1)∧vE cs e f<0) ∨
    ∃ (cs1:List Conn) (k:Nat) (c0:Conn),vX cs e f=(cs1,(k:Int))∧cs1[k]? = some c0∧vE cs1 e f=k∧cs1.length≤3∧(cs1=cs∨(cs1=cs++[⟨e,f,[],[],[]⟩]∧k=cs.length∧vE cs e f<0∧c0=⟨e,f,[],[],[]⟩)):=by
  have hb:=findC_bd cs e f
  by_cases h:0≤vE cs e f
  · refine .inr ⟨cs,(vE cs e f).toNat,cs[(vE cs e f).toNat]'(by omega),?_,by simp,by omega,h3,.inl rfl⟩
    rw [placeC_old h];congr 1;omega
  · by_cases hl:cs.length=3
    · exact .inl ⟨by rw [placeC_full h hl];simp,placeC_full h hl,by omega⟩
    · refine .inr ⟨cs++[⟨e,f,[],[],[]⟩],cs.length,⟨e,f,[],[],[]⟩,placeC_new h hl,by simp,?_,by simp;omega,.inr ⟨rfl,rfl,by omega,rfl⟩⟩
      rw [findC_snoc (by omega),if_pos ⟨rfl,rfl⟩]
theorem knowsP_nil (es:List End):knowsP es []:=rfl
theorem nearP_nil (es:List End):nearP es [] []:=⟨rfl,rfl,by simp,fun i l m h=>by simp [zu,spl] at h⟩
theorem ctl_box {b b1:Box} {s:Seg} {port:Int} (hb1:BoxP b1) (hi:s.s.inn) (ho:s.d.out) (hp:s.d.p=21) (hm:s.s∈b1.es) :
    BoxP (ctlO b1 s port).1∧(ctlO b1 s port).1.rs=b1.rs∧b1.es <+: (ctlO b1 s port).1.es∧(ctlO b1 s port).2.length≤1000∧ctlO (ctlO b1 s port).1 s port=ctlO b1 s port ∧
    (((ctlO b1 s port)=(b1,[])∧(vX b1.cs s.s s.d).2<0)∨∃ (cs1:List Conn) (k:Nat) (c0:Conn),vX b1.cs s.s s.d=(cs1,(k:Int))∧cs1[k]? = some c0∧vE cs1 s.s s.d=k∧(cs1=b1.cs∨(cs1=b1.cs++[⟨s.s,s.d,[],[],[]⟩]∧k=b1.cs.length∧vE b1.cs s.s s.d<0∧c0=⟨s.s,s.d,[],[],[]⟩)) ∧
      ConnP b1.es c0∧ctlO b1 s port=(⟨b1.rs,(vt b1.es (vR c0 s).kn).1,cs1.set k (vR c0 s)⟩,cutO {s with s:=⟨50,port⟩,ak:=backD 0 (vQ (vR c0 s).he (vR c0 s).ne) s.ak} (vt b1.es (vR c0 s).kn).2 (outD 0 (vQ (vR c0 s).kn (vt b1.es (vR c0 s).kn).2) s.sq).toNat)):=by
  rcases placeC_spec (e:=s.s) (f:=s.d) hb1.2.2.1 with ⟨h,h1,h2⟩ | ⟨cs1,k,c0,hpl,hx,hf,h3,hcs⟩
  · have e:=ctlO_no (b:=b1) (s:=s) (port:=port) h
    rw [h1] at e
    have e':ctlO b1 s port=(b1,[]):=e
    rw [e']
    exact ⟨hb1,rfl,List.prefix_rfl,by simp,e',.inl ⟨rfl,h⟩⟩
  · have hE:=ctlO_yes (b:=b1) (s:=s) (port:=port) (c0:=c0) (c:=vR c0 s) (by rw [hpl];simp) (by rw [hpl];simpa using hx) rfl
    simp only [hpl,Int.toNat_natCast] at hE
    obtain ⟨k1,k2,k3,k4⟩:=knownC_io c0 s
    have hB2:∀ (j:Nat) (c:Conn),cs1[j]? = some c→ConnP b1.es c∧vE (cs1.take j) c.i c.o<0:=by
      rcases hcs with rfl | ⟨rfl,rfl,hfn,rfl⟩
      · exact hb1.2.2.2
      · intro j c hc
        by_cases hj:j<b1.cs.length
        · rw [List.getElem?_append_left hj] at hc
          rw [List.take_append_of_le_length (by omega)]
          exact hb1.2.2.2 j c hc
        · rw [List.getElem?_append_right (by omega)] at hc
          have hj0:j-b1.cs.length=0:=by
            have:=(List.getElem?_eq_some_iff.1 hc).1;simp at this;omega
          rw [hj0] at hc
          simp at hc;subst hc
          refine ⟨⟨hi,ho,hp,hm,StrP_nil,StrP_nil,knowsP_nil _,nearP_nil _⟩,?_⟩
          rw [show j=b1.cs.length by omega,List.take_append_of_le_length (Nat.le_refl _),List.take_length]
          exact hfn
    have hc0:=(hB2 k c0 hx).1
    generalize hst:vt b1.es (vR c0 s).kn=st at hE
    have hpre:b1.es <+: st.1:=by rw [← hst];exact linesOut_pre _ _
    have hT:TabP st.1:=by rw [← hst];exact TabP_lines _ hb1.1
    have hkn:StrP (vR c0 s).kn:=by rw [knownC_eq];exact addedS_ok hc0.2.2.2.2.1
    have hck:ConnP st.1 (vR c0 s):=by
      refine ⟨by rw [k1];exact hc0.1,by rw [k2];exact hc0.2.1,by rw [k2];exact hc0.2.2.1,by rw [k1];exact mem_pre hpre hc0.2.2.2.1,hkn,by rw [k3];exact hc0.2.2.2.2.2.1,?_,by rw [k3,k4];exact near_pre hc0.2.2.2.2.2.2.2 hpre⟩
      have:=streamO_again (es:=b1.es) (t:=st.1) (l:=(vR c0 s).kn) (by rw [hst];exact List.prefix_rfl) hT.1
      unfold knowsP;rw [this]
    have hag:=streamO_again (es:=b1.es) (t:=st.1) (l:=(vR c0 s).kn) (by rw [hst];exact List.prefix_rfl) hT.1
    have hkl:=(List.getElem?_eq_some_iff.1 hx).1
    have hset:(cs1.set k (vR c0 s))[k]? = some (vR c0 s):=by simp [hkl]
    have hBr:BoxP ⟨b1.rs,st.1,cs1.set k (vR c0 s)⟩:=by
      refine ⟨hT,hb1.2.1,by simpa using h3,fun j c hc=>?_⟩
      have hc:(cs1.set k (vR c0 s))[j]? = some c:=hc
      show ConnP st.1 c∧vE ((cs1.set k (vR c0 s)).take j) c.i c.o<0
      rw [findC_set_take hx ⟨k1,k2⟩]
      by_cases hj:j=k
      · subst hj
        rw [hset] at hc;cases hc
        rw [k1,k2]
        exact ⟨hck,(hB2 j c0 hx).2⟩
      · rw [List.getElem?_set_ne (fun e=>hj e.symm)] at hc
        exact ⟨ConnP_pre (hB2 j c hc).1 hpre hT.1,(hB2 j c hc).2⟩
    rw [hE]
    refine ⟨hBr,rfl,hpre,?_,?_,.inr ⟨cs1,k,c0,hpl,hx,hf,hcs,hc0,by rw [hst]⟩⟩
    · have h9:=cutO_len {s with s:=⟨50,port⟩,ak:=backD 0 (vQ (vR c0 s).he (vR c0 s).ne) s.ak} st.2 (outD 0 (vQ (vR c0 s).kn st.2) s.sq).toNat
      have h8:=streamO_grow (es:=b1.es) (l:=(vR c0 s).kn) hb1.1.1 hkn.2.2
      rw [hst] at h8
      show (cutO _ _ _).length≤1000
      omega
    · have hf2:vE (cs1.set k (vR c0 s)) s.s s.d=k:=by rw [findC_set hx ⟨k1,k2⟩];exact hf
      have hp2:vX (cs1.set k (vR c0 s)) s.s s.d=(cs1.set k (vR c0 s),(k:Int)):=by rw [placeC_old (by omega),hf2]
      have hE2:=ctlO_yes (b:=⟨b1.rs,st.1,cs1.set k (vR c0 s)⟩) (s:=s) (port:=port) (c0:=vR c0 s) (c:=vR (vR c0 s) s) (by show ¬ (vX (cs1.set k (vR c0 s)) s.s s.d).2<0;rw [hp2];simp) (by show (vX (cs1.set k (vR c0 s)) s.s s.d).1[(vX (cs1.set k (vR c0 s)) s.s s.d).2.toNat]? = _;rw [hp2];simpa using hset) rfl
      simp only [knownC_again,hp2,Int.toNat_natCast,hag,hst] at hE2
      rw [hE2]
      simp
open Classical in
theorem boxOutP_ok {b:Box} {s:Seg} (h:BoxP b):BoxP (boxOutP b s).1∧(boxOutP b s).1.rs=b.rs∧b.es <+: (boxOutP b s).1.es∧(boxOutP b s).2.length≤1000∧boxOutP (boxOutP b s).1 s=boxOutP b s:=by
 by_cases hy:BoxP b∧SegP s∧s.s.inn∧s.d.out∧mayR b.rs s.s s.d=true
 case neg=>
  have e:=(boxOutP_not hy).1 h
  rw [e];exact ⟨h,rfl,List.prefix_rfl,by simp,e⟩
 by_cases hp:putP b.es s.s=0
 ·have e:=boxOutP_full hy hp
  rw [e];exact ⟨h,rfl,List.prefix_rfl,by simp,e⟩
 have hT:=TabP_put h.1 hy.2.2.1
 have hB1:BoxP {b with es:=putE b.es s.s}:=BoxP_pre h (putE_pre _ _) hT
 by_cases hc:s.d.p=21
 ·have e:=boxOutP_ctl hy hp hc
  have hm:s.s∈putE b.es s.s:=putE_in hp
  obtain ⟨q1,q2,q3,q4,q5,_⟩:=ctl_box (b:=b) (port:=putP b.es s.s) hB1 hy.2.2.1 hy.2.2.2.1 hc hm
  rw [e]
  refine ⟨q1,q2,(putE_pre _ _).trans q3,q4,?_⟩
  obtain ⟨a1,a2⟩:=put_again q3 q1.1.1
  have hy2:BoxP (ctlO {b with es:=putE b.es s.s} s (putP b.es s.s)).1∧SegP s∧s.s.inn∧s.d.out∧mayR (ctlO {b with es:=putE b.es s.s} s (putP b.es s.s)).1.rs s.s s.d=true:=⟨q1,hy.2.1,hy.2.2.1,hy.2.2.2.1,by rw [q2];exact hy.2.2.2.2⟩
  rw [boxOutP_ctl hy2 (by rw [a2];exact hp) hc,a1,a2]
  exact q5
 ·have e:=boxOutP_one hy hp hc
  obtain ⟨a1,a2⟩:=put_again (es:=b.es) (e:=s.s) List.prefix_rfl hT.1
  rw [e]
  refine ⟨hB1,rfl,putE_pre _ _,by simp,?_⟩
  rw [boxOutP_one (b:={b with es:=putE b.es s.s}) ⟨hB1,hy.2⟩ (by show ¬ putP (putE b.es s.s) s.s=0;rw [a2];exact hp) hc]
  simp only [a1,a2]
theorem in_box {b:Box} {s:Seg} {k:Nat} {c0:Conn} (h:BoxP b) (hx:b.cs[k]? = some c0):inO b s k=({b with cs:=b.cs.set k (heardC b.es c0 s)},cutO {s with d:=c0.i,ak:=backD 0 (vQ c0.kn (vt b.es c0.kn).2) s.ak} (heardC b.es c0 s).ne (outD 0 (vQ (heardC b.es c0 s).he (heardC b.es c0 s).ne) s.sq).toNat) ∧
    BoxP {b with cs:=b.cs.set k (heardC b.es c0 s)}∧(heardC b.es c0 s).ne.length≤240:=by
  obtain ⟨k1,k2,k3⟩:=heardC_io b.es c0 s
  have hc:=h.2.2.2 k c0 hx
  have hC:=ConnP_heard (s:=s) h.1 hc.1
  have e:=inO_at (b:=b) (s:=s) hx rfl
  rw [k1,k3] at e
  refine ⟨e,⟨h.1,h.2.1,by simpa using h.2.2.1,fun j c hj=>?_⟩,hC.2.2.2.2.2.2.2.2.2.1⟩
  have hkl:=(List.getElem?_eq_some_iff.1 hx).1
  have hj:(b.cs.set k (heardC b.es c0 s))[j]? = some c:=hj
  show ConnP b.es c∧vE ((b.cs.set k (heardC b.es c0 s)).take j) c.i c.o<0
  rw [findC_set_take hx ⟨k1,k2⟩]
  by_cases hjk:j=k
  · subst hjk
    have:(b.cs.set j (heardC b.es c0 s))[j]? = some (heardC b.es c0 s):=by simp [hkl]
    rw [this] at hj;cases hj
    rw [k1,k2]
    exact ⟨hC,hc.2⟩
  · rw [List.getElem?_set_ne (fun e=>hjk e.symm)] at hj
    exact h.2.2.2 j c hj
open Classical in
theorem boxInP_ok {b:Box} {s:Seg} (h:BoxP b):BoxP (vL b s).1∧(vL b s).1.rs=b.rs∧(vL b s).1.es=b.es∧(vL b s).2.length≤1000∧vL (vL b s).1 s=vL b s:=by
 have idle:vL b s=(b,[])→BoxP (vL b s).1∧(vL b s).1.rs=b.rs∧(vL b s).1.es=b.es∧(vL b s).2.length≤1000∧vL (vL b s).1 s=vL b s:=fun e=>by
  rw [e];exact ⟨h,rfl,rfl,by simp,e⟩
 by_cases hy:BoxP b∧SegP s∧s.s.out∧s.d.a=50
 case neg=>exact idle ((boxInP_not hy).1 h)
 cases he:endP b.es s.d.p with
 | none=>exact idle (boxInP_none hy he)
 | some e=>
  by_cases hm:mayR b.rs e s.s=true
  case neg=>exact idle (boxInP_deny hy he hm)
  by_cases hf:0≤vE b.cs e s.s
  ·have hE:=boxInP_in hy he hm hf
   have hb:=findC_bd b.cs e s.s
   obtain ⟨c0,hx⟩:∃ c0,b.cs[(vE b.cs e s.s).toNat]? = some c0:=⟨b.cs[(vE b.cs e s.s).toNat]'(by omega),by simp⟩
   obtain ⟨q1,q2,q3⟩:=in_box (s:=s) h hx
   obtain ⟨k1,k2,k3⟩:=heardC_io b.es c0 s
   rw [q1] at hE
   rw [hE]
   refine ⟨q2,rfl,rfl,?_,?_⟩
   ·have:=cutO_len {s with d:=c0.i,ak:=backD 0 (vQ c0.kn (vt b.es c0.kn).2) s.ak} (heardC b.es c0 s).ne (outD 0 (vQ (heardC b.es c0 s).he (heardC b.es c0 s).ne) s.sq).toNat
    show (cutO _ _ _).length≤1000
    omega
   ·have hf2:vE (b.cs.set (vE b.cs e s.s).toNat (heardC b.es c0 s)) e s.s=vE b.cs e s.s:=findC_set hx ⟨k1,k2⟩ e s.s
    have hkl:=(List.getElem?_eq_some_iff.1 hx).1
    have hx2:(b.cs.set (vE b.cs e s.s).toNat (heardC b.es c0 s))[(vE b.cs e s.s).toNat]? = some (heardC b.es c0 s):=by simp [hkl]
    have hE2:=boxInP_in (b:={b with cs:=b.cs.set (vE b.cs e s.s).toNat (heardC b.es c0 s)}) (s:=s) (e:=e) ⟨q2,hy.2⟩ he hm (by show 0≤vE (b.cs.set _ _) e s.s;rw [hf2];exact hf)
    have hE3:vL {b with cs:=b.cs.set (vE b.cs e s.s).toNat (heardC b.es c0 s)} s=inO {b with cs:=b.cs.set (vE b.cs e s.s).toNat (heardC b.es c0 s)} s (vE b.cs e s.s).toNat:=by
     rw [hE2];show inO _ _ (vE (b.cs.set _ _) e s.s).toNat=_;rw [hf2]
    obtain ⟨p1,_⟩:=in_box (b:={b with cs:=b.cs.set (vE b.cs e s.s).toNat (heardC b.es c0 s)}) (s:=s) q2 hx2
    rw [hE3,p1]
    simp only [heardC_again,k1,k3,List.set_set]
  ·by_cases hc:s.s.p=21
   ·exact idle (boxInP_ctl hy he hm hf hc)
   ·have hE:=boxInP_one hy he hm hf hc
    rw [hE]
    exact ⟨h,rfl,rfl,by simp,hE⟩
end
section
open Go
structure BoxR (S0 S:St) (x1 x2 x3 x4:Option Addr) (d2 d3:Nat) (r:Box × List Seg):Prop where
 h1:Sl S 7 x1 (vf r.1.rs)
 h2:Sl S 2 x2 (zV r.1.es)
 h3:Sl S 7 x3 (z5 r.1.cs)
 h4:Sl S 7 x4 (segRows r.2)
 l2:r.1.es.length≤d2
 l3:r.1.cs.length≤d3
 o1:Org S0 none x1
 o2:Org S0 none x2
 o3:Org S0 none x3
 o4:Org S0 none x4
 t12:OffS x1 x2
 t13:OffS x1 x3
 t23:OffS x2 x3
 t14:OffS x1 x4
 t24:OffS x2 x4
 t34:OffS x3 x4
theorem BoxR.nil (S0 S:St):BoxR S0 S none none none none 0 0 (Box.nil,[]):=⟨.nil _,.nil _,.nil _,.nil _,Nat.le_refl _,Nat.le_refl _,.same _ _,.same _ _,.same _ _,.same _ _,.nil,.nil,.nil,.nil,.nil,.nil⟩
theorem BoxR.mono {S0 S S':St} {x1 x2 x3 x4:Option Addr} {d2 d3:Nat} {r:Box × List Seg} (h:BoxR S0 S x1 x2 x3 x4 d2 d3 r) (he:Ext [] S S'):BoxR S0 S' x1 x2 x3 x4 d2 d3 r:=
 {h with h1:=h.h1.mono he,h2:=h.h2.mono he,h3:=h.h3.mono he,h4:=h.h4.mono he}
theorem BoxR.qy {S0 S S':St} {x1 x2 x3 x4:Option Addr} {d2 d3 b:Nat} {r:Box × List Seg} (h:BoxR S0 S x1 x2 x3 x4 d2 d3 r) (he:Ext [b] S S') (n:(∀ b' off,x1=some ⟨b',off,none⟩→b'≠b)∧(∀ b' off,x2=some ⟨b',off,none⟩→b'≠b)∧(∀ b' off,x3=some ⟨b',off,none⟩→b'≠b)∧(∀ b' off,x4=some ⟨b',off,none⟩→b'≠b)):BoxR S0 S' x1 x2 x3 x4 d2 d3 r:=
 {h with h1:=h.h1.qy he n.1,h2:=h.h2.qy he n.2.1,h3:=h.h3.qy he n.2.2.1,h4:=h.h4.qy he n.2.2.2}
theorem BoxR.back {S00 S0 S:St} {x1 x2 x3 x4:Option Addr} {d2 d3:Nat} {r:Box × List Seg} (h:BoxR S0 S x1 x2 x3 x4 d2 d3 r) (he:Ext [] S00 S0):BoxR S00 S x1 x2 x3 x4 d2 d3 r:=
 {h with o1:=h.o1.back he,o2:=h.o2.back he,o3:=h.o3.back he,o4:=h.o4.back he}
theorem BoxR.ne {S0 S:St} {x1 x2 x3 x4:Option Addr} {d2 d3 b:Nat} {r:Box × List Seg} (h:BoxR S0 S x1 x2 x3 x4 d2 d3 r) (hb:S b=none):(∀ b' off,x1=some ⟨b',off,none⟩→b'≠b)∧(∀ b' off,x2=some ⟨b',off,none⟩→b'≠b)∧(∀ b' off,x3=some ⟨b',off,none⟩→b'≠b)∧(∀ b' off,x4=some ⟨b',off,none⟩→b'≠b):=
 ⟨h.h1.ne hb,h.h2.ne hb,h.h3.ne hb,h.h4.ne hb⟩
theorem BoxR.old {S0 S:St} {x1 x2 x3 x4:Option Addr} {d2 d3 b:Nat} {e:Ent} {r:Box × List Seg} (h:BoxR S0 S x1 x2 x3 x4 d2 d3 r) (hb:S0 b=some e):(∀ b' off,x1=some ⟨b',off,none⟩→b'≠b)∧(∀ b' off,x2=some ⟨b',off,none⟩→b'≠b)∧(∀ b' off,x3=some ⟨b',off,none⟩→b'≠b)∧(∀ b' off,x4=some ⟨b',off,none⟩→b'≠b):=
 ⟨h.o1.ne nofun hb,h.o2.ne nofun hb,h.o3.ne nofun hb,h.o4.ne nofun hb⟩
structure GlobI (S:St):Prop where
 r:GlobR S
 i:S.g=.idle
theorem GlobI.mono {S S':St} (h:GlobI S) (he:Ext [] S S'):GlobI S':=⟨h.r.mono he,he.g.eq.trans h.i⟩
theorem GlobI.g {S:St} (h:GlobI S):Glob S:=h.r.g
section
variable {S0:St} {K:Value→St→Prop} {a1 a2 a3:Option Addr} {c1 c2 c3:Nat} {b:Box} {s:Seg}
theorem ct56 (hG:GlobI S0) (h1:Sl S0 7 a1 (vf b.rs)) (h2:Sl S0 2 a2 (zV b.es)) (h3:Sl S0 7 a3 (z5 b.cs)) (hc2:b.es.length≤c2) (hz:BoxZ b) (hB:BoxP b) (hdt:s.dt.length≤1048576)
    (k:∀ (x1 x2 x3 x4:Option Addr) (d2 d3:Nat) (r:Box × List Seg) S',Ext [] S0 S'→r=boxOutP b s→BoxR S0 S' x1 x2 x3 x4 d2 d3 r→K (.tuple #[.agg #[.slice x1 r.1.rs.length r.1.rs.length,.slice x2 r.1.es.length d2,.slice x3 r.1.cs.length d3],.slice x4 r.2.length r.2.length]) S') :
    Calls1 Tryz.prog 56 #[.agg #[.slice a1 b.rs.length c1,.slice a2 b.es.length c2,.slice a3 b.cs.length c3,.func (.func 55) #[] #[]],s.v] S0 K:=by
  refine calls1_slim (sf:=s56) Tryz.func56 k56 (of_decide_eq_true rfl) ?_
  show wpS Tryz.prog c56 (Env.of [.agg #[.slice a1 b.rs.length c1,.slice a2 b.es.length c2,.slice a3 b.cs.length c3,.func (.func 55) #[] #[]],s.v]) S0 _
  rw [c56_eq]
  obtain ⟨_,q2,_,q4,_⟩:=boxOutP_ok (s:=s) hB
  refine pass_code pf134 Tryz.func55 (by kernel_rfl) (by kernel_rfl) (turn55 hB hdt) q2 (by omega) hG.r hG.i h1 h2 h3 hc2 hz fun x1 x2 x3 x4 d2 d3 E S' hE p1 p2 p3 p4 p5 p6 o1 o2 o3 o4 t12 t13 t23 t14 t24 t34 hv=>?_
  obtain ⟨vs,hv1,hv2⟩:=hv
  exact ⟨trivial,vs,hv1,by rw [hv2];exact k x1 x2 x3 x4 d2 d3 _ S' hE rfl ⟨p1,p2,p4,p6,p3,p5,o1,o2,o3,o4,t12,t13,t23,t14,t24,t34⟩⟩
theorem ct76 (hG:GlobI S0) (h1:Sl S0 7 a1 (vf b.rs)) (h2:Sl S0 2 a2 (zV b.es)) (h3:Sl S0 7 a3 (z5 b.cs)) (hc2:b.es.length≤c2) (hz:BoxZ b) (hB:BoxP b) (hdt:s.dt.length≤1048576)
    (k:∀ (x1 x2 x3 x4:Option Addr) (d2 d3:Nat) (r:Box × List Seg) S',Ext [] S0 S'→r=vL b s→BoxR S0 S' x1 x2 x3 x4 d2 d3 r→K (.tuple #[.agg #[.slice x1 r.1.rs.length r.1.rs.length,.slice x2 r.1.es.length d2,.slice x3 r.1.cs.length d3],.slice x4 r.2.length r.2.length]) S') :
    Calls1 Tryz.prog 76 #[.agg #[.slice a1 b.rs.length c1,.slice a2 b.es.length c2,.slice a3 b.cs.length c3,.func (.func 75) #[] #[]],s.v] S0 K:=by
  refine calls1_slim (sf:=s76) Tryz.func76 k76 (of_decide_eq_true rfl) ?_
  show wpS Tryz.prog c76 (Env.of [.agg #[.slice a1 b.rs.length c1,.slice a2 b.es.length c2,.slice a3 b.cs.length c3,.func (.func 75) #[] #[]],s.v]) S0 _
  rw [c76_eq]
  obtain ⟨_,q2,_,q4,_⟩:=boxInP_ok (s:=s) hB
  refine pass_code pf160 Tryz.func75 (by kernel_rfl) (by kernel_rfl) (turn75 hB hdt) q2 (by omega) hG.r hG.i h1 h2 h3 hc2 hz fun x1 x2 x3 x4 d2 d3 E S' hE p1 p2 p3 p4 p5 p6 o1 o2 o3 o4 t12 t13 t23 t14 t24 t34 hv=>?_
  obtain ⟨vs,hv1,hv2⟩:=hv
  exact ⟨trivial,vs,hv1,by rw [hv2];exact k x1 x2 x3 x4 d2 d3 _ S' hE rfl ⟨p1,p2,p4,p6,p3,p5,o1,o2,o3,o4,t12,t13,t23,t14,t24,t34⟩⟩
end
end
section
variable {S0:St} {K:Value→St→Prop}
variable {b:Box} {c1 c2 c3:Nat} {a1 a2 a3:Option Addr} {s:Seg}
theorem boxOutP_no (h:¬ BoxP b):boxOutP b s=(Box.nil,[]):=(boxOutP_not (fun h2=>h h2.1)).2 h
theorem boxInP_no (h:¬ BoxP b):vL b s=(Box.nil,[]):=(boxInP_not (fun h2=>h h2.1)).2 h
theorem ct13 (hG:GlobI S0) (h1:Sl S0 7 a1 (vf b.rs)) (h2:Sl S0 2 a2 (zV b.es)) (h3:Sl S0 7 a3 (z5 b.cs)) (hc2:b.es.length≤c2) (hc3:b.cs.length≤c3) (hz:BoxZ b) (hl:s.dt.length≤1048576) (k:∀ (x1 x2 x3 x4:Option Addr) (d2 d3:Nat) (r:Box × List Seg) S',Ext [] S0 S'→(r=boxOutP b s)→(BoxR S0 S' x1 x2 x3 x4 d2 d3 r)→K (.tuple #[.agg #[.slice x1 r.1.rs.length r.1.rs.length,.slice x2 r.1.es.length d2,.slice x3 r.1.cs.length d3],.slice x4 r.2.length r.2.length]) S') :
  zC 13 #[.agg #[.slice a1 b.rs.length c1,.slice a2 b.es.length c2,.slice a3 b.cs.length c3],s.v] S0 K:=by
 refine zGh (sf:=s13) Tryz.func13 fun H=>?_
 have hzz:=hz
 obtain ⟨z1,z2,z3,hz4⟩:=hz
 refine zR (zBx H O O fun b2 S hb2 hE H=>zBx H O O fun b3 S hb3 hE H=>zAl H O fun b4 S hb4 hE H=>zt O (zN (zSS (zLn (vs:=[_,_,_]) H O .h2 O (vK O (ct17 (hG.mono H.qx).g (h1.mono H.qx) (h2.mono H.qx) (h3.mono H.qx) hc2 hc3 hzz fun t7 S hE h7=>?_))))))
 replace H:=H.call hE
 refine zNt O (zN ?_)
 rcases t7 with _|_
 ·replace h7:=bF h7
  refine zj O (zR (za (vv (cs:=[_,_,_]) O O (zSs H O O O .h O fun S hE H=>zt O (zN (zi (zw (⟨trivial,_,(zW (ws:=[_,_,_]) H O .h O (z0 O zM)),?_⟩))))))))
  exact k none none none none 0 0 _ _ H.qx (boxOutP_no h7).symm (BoxR.nil _ _)
 ·replace h7:=bT h7
  refine zr O (zv (ze (zR (zLn (vs:=[_,_,_]) H O .h2 O (za (vv (cs:=[_,_,_,_]) O O (zLn (vs:=[_,_,_,_,_,_,_]) H O .h1 O (vK O (ct56 (hG.mono H.qx) (h1.mono H.qx) (h2.mono H.qx) (h3.mono H.qx) hc2 hzz h7 hl fun x113 x213 x313 x413 d213 d313 r13 S hE hr13 hR13=>?_)))))))))
  have hR13_b4:=hR13.old (H.get .h)
  replace hR13:=hR13.back H.qx
  replace H:=H.call hE
  refine zEx O O (zEx O O (zSs H O O O .h O fun S hE H=>?_))
  replace hR13:=hR13.qy hE hR13_b4
  refine zt O (zN (zi (⟨trivial,_,(zW (ws:=[_,_,_]) H O .h O (z0 O zM)),?_⟩)))
  exact k x113 x213 x313 x413 d213 d313 _ _ H.qx hr13 hR13
theorem ct24 (hG:GlobI S0) (h1:Sl S0 7 a1 (vf b.rs)) (h2:Sl S0 2 a2 (zV b.es)) (h3:Sl S0 7 a3 (z5 b.cs)) (hc2:b.es.length≤c2) (hc3:b.cs.length≤c3) (hz:BoxZ b) (hl:s.dt.length≤1048576) (k:∀ (x1 x2 x3 x4:Option Addr) (d2 d3:Nat) (r:Box × List Seg) S',Ext [] S0 S'→(r=vL b s)→(BoxR S0 S' x1 x2 x3 x4 d2 d3 r)→K (.tuple #[.agg #[.slice x1 r.1.rs.length r.1.rs.length,.slice x2 r.1.es.length d2,.slice x3 r.1.cs.length d3],.slice x4 r.2.length r.2.length]) S') :
  zC 24 #[.agg #[.slice a1 b.rs.length c1,.slice a2 b.es.length c2,.slice a3 b.cs.length c3],s.v] S0 K:=by
 refine zGh (sf:=s24) Tryz.func24 fun H=>?_
 have hzz:=hz
 obtain ⟨z1,z2,z3,hz4⟩:=hz
 refine zR (zBx H O O fun b2 S hb2 hE H=>zBx H O O fun b3 S hb3 hE H=>zAl H O fun b4 S hb4 hE H=>zt O (zN (zSS (zLn (vs:=[_,_,_]) H O .h2 O (vK O (ct17 (hG.mono H.qx).g (h1.mono H.qx) (h2.mono H.qx) (h3.mono H.qx) hc2 hc3 hzz fun t7 S hE h7=>?_))))))
 replace H:=H.call hE
 refine zNt O (zN ?_)
 rcases t7 with _|_
 ·replace h7:=bF h7
  refine zj O (zR (za (vv (cs:=[_,_,_]) O O (zSs H O O O .h O fun S hE H=>zt O (zN (zi (zw (⟨trivial,_,(zW (ws:=[_,_,_]) H O .h O (z0 O zM)),?_⟩))))))))
  exact k none none none none 0 0 _ _ H.qx (boxInP_no h7).symm (BoxR.nil _ _)
 ·replace h7:=bT h7
  refine zr O (zv (ze (zR (zLn (vs:=[_,_,_]) H O .h2 O (za (vv (cs:=[_,_,_,_]) O O (zLn (vs:=[_,_,_,_,_,_,_]) H O .h1 O (vK O (ct76 (hG.mono H.qx) (h1.mono H.qx) (h2.mono H.qx) (h3.mono H.qx) hc2 hzz h7 hl fun x113 x213 x313 x413 d213 d313 r13 S hE hr13 hR13=>?_)))))))))
  have hR13_b4:=hR13.old (H.get .h)
  replace hR13:=hR13.back H.qx
  replace H:=H.call hE
  refine zEx O O (zEx O O (zSs H O O O .h O fun S hE H=>?_))
  replace hR13:=hR13.qy hE hR13_b4
  refine zt O (zN (zi (⟨trivial,_,(zW (ws:=[_,_,_]) H O .h O (z0 O zM)),?_⟩)))
  exact k x113 x213 x313 x413 d213 d313 _ _ H.qx hr13 hR13
end
section
open Go
section
variable {P:Program} {X:List Nat} {S0 S S':St} {L L':List (Nat × Obj)} {E:Env} {K:Value→St→Prop}
structure By (S:St) (a:Option Addr) (n:Nat):Prop where
 c:∀ i,i<n→∃ b off c,a=some ⟨b,off,none⟩∧S.cell? ⟨b,off+i,none⟩=some (.int .u8 c)∧0≤c∧c≤255
def OffY (a:Option Addr) (n b:Nat):Prop:=0<n→∀ b' off,a=some ⟨b',off,none⟩→b'≠b
theorem By.mono {a:Option Addr} {n:Nat} (h:By S a n) (he:Ext [] S S'):By S' a n:=⟨fun i hi=>by
 obtain ⟨b,off,c,h1,h2,h3⟩:=h.c i hi
 exact ⟨b,off,c,h1,he.cell h2,h3⟩⟩
theorem By.ne {a:Option Addr} {n:Nat} (h:By S a n) {b:Nat} (hb:S b=none):OffY a n b:=by
 intro h0 b' off ha e
 obtain ⟨b1,o1,c,h1,h2,_⟩:=h.c 0 h0
 rw [ha] at h1;cases h1;subst e
 rw [St.cell?,hb] at h2;cases h2
theorem By.ne2 {a:Option Addr} {n:Nat} (h:By S a n) {b b0:Nat} (h0:OffY a n b0) (hb:b=b0∨S b=none):OffY a n b:=by
 rcases hb with rfl | hb
 ·exact h0
 ·exact h.ne hb
theorem By.qy {a:Option Addr} {n:Nat} (h:By S a n) {b:Nat} (he:Ext [b] S S') (hne:OffY a n b):By S' a n:=⟨fun i hi=>by
 obtain ⟨b',off,c,h1,h2,h3⟩:=h.c i hi
 exact ⟨b',off,c,h1,zB he.ext (by simpa using hne (by omega) b' off h1) h2,h3⟩⟩
theorem By.le {a:Option Addr} {n m:Nat} (h:By S a n) (hm:m≤n):By S a m:=⟨fun i hi=>h.c i (by omega)⟩
theorem OffY.le {a:Option Addr} {n m b:Nat} (h:OffY a n b) (hm:m≤n):OffY a m b:=fun h0=>h (by omega)
theorem W_remI {x y:Operand} {n m:Int} (hx:E.ev x=some (int n)) (hy:E.ev y=some (int m)) (hn:0≤n) (hm:0<m) (k:∀ r,0≤r→r<m→K (int r) S):(SOp.bin .rem x y).W P E S K:=by
 refine W_bin (v:=int (n.tmod m)) hx hy (by simp only [binI];rw [if_neg (by omega)]) (k _ ?_ ?_)
 ·rw [Int.tmod_eq_emod_of_nonneg hn];exact Int.emod_nonneg _ (by omega)
 ·rw [Int.tmod_eq_emod_of_nonneg hn];exact Int.emod_lt_of_pos _ hm
theorem W_quoI {x y:Operand} {n m:Int} (hx:E.ev x=some (int n)) (hy:E.ev y=some (int m)) (hn:0≤n) (hm:0<m) (hb:n≤1099511627776) (k:∀ r,0≤r→r≤n→K (int r) S):(SOp.bin .quo x y).W P E S K:=by
 have e:n.tdiv m=n / m:=Int.tdiv_eq_ediv_of_nonneg hn
 have h0:0≤n / m:=Int.ediv_nonneg hn (by omega)
 have h1:n / m≤n:=Int.ediv_le_self _ hn
 refine W_bin (v:=int (n / m)) hx hy (by simp only [binI];rw [if_neg (by omega),e,wrap64_in (by omega) (by omega)]) (k _ h0 h1)
theorem W_remD {x y:Operand} {n m r:Int} (hr:n % m=r) (hx:E.ev x=some (int n)) (hy:E.ev y=some (int m)) (hn:0≤n) (hm:0<m) (k:K (int r) S):(SOp.bin .rem x y).W P E S K:=
 W_bin (v:=int r) hx hy (by simp only [binI];rw [if_neg (by omega),Int.tmod_eq_emod_of_nonneg hn,hr]) k
theorem W_quoD {x y:Operand} {n m r:Int} (hr:n / m=r) (hx:E.ev x=some (int n)) (hy:E.ev y=some (int m)) (hn:0≤n) (hm:0<m) (hb:n≤1099511627776) (k:K (int r) S):(SOp.bin .quo x y).W P E S K:=by
 have e:n.tdiv m=n / m:=Int.tdiv_eq_ediv_of_nonneg hn
 have h0:0≤n / m:=Int.ediv_nonneg hn (by omega)
 have h1:n / m≤n:=Int.ediv_le_self _ hn
 refine W_bin (v:=int r) hx hy (by simp only [binI];rw [if_neg (by omega),e,wrap64_in (by omega) (by omega),hr]) k
theorem W_xorI {x y:Operand} {n m:Int} (hx:E.ev x=some (int n)) (hy:E.ev y=some (int m)) (hn:0≤n) (hm:0≤m) (hn1:n<1099511627776) (hm1:m<1099511627776) (k:∀ r,0≤r→r<1099511627776→K (int r) S):(SOp.bin .xor x y).W P E S K:=by
 obtain ⟨n,rfl⟩:=Int.eq_ofNat_of_zero_le hn
 obtain ⟨m,rfl⟩:=Int.eq_ofNat_of_zero_le hm
 have e1:(BitVec.ofInt 64 (n:Int) ^^^ BitVec.ofInt 64 (m:Int)).toNat=n ^^^ m:=by
  rw [BitVec.toNat_xor,BitVec.ofInt_natCast,BitVec.ofInt_natCast,BitVec.toNat_ofNat,BitVec.toNat_ofNat,Nat.mod_eq_of_lt (by omega),Nat.mod_eq_of_lt (by omega)]
 have h1:n ^^^ m<2 ^ 40:=Nat.xor_lt_two_pow (by omega) (by omega)
 refine W_bin (v:=int ((n ^^^ m:Nat):Int)) hx hy ?_ (k _ (by omega) (by omega))
 simp only [binI]
 rw [show (BitVec.ofInt IntKind.i64.bits (n:Int) ^^^ BitVec.ofInt IntKind.i64.bits (m:Int)).toNat=n ^^^ m from e1,wrap64_in (by omega) (by omega)]
theorem at_ints (l:List Int) {m:Nat} (hl:l.length=m) {i:Int} (h0:0≤i) (h1:i<m):∃ n,(l.map int)[0+i.toNat*1]? = some (int n)∧n∈l:=by
 refine ⟨l[i.toNat]'(by omega),?_,List.getElem_mem _⟩
 rw [Nat.zero_add,Nat.mul_one,List.getElem?_map,List.getElem?_eq_getElem (by omega)];rfl
theorem at_strs (l:List Bs) {m:Nat} (hl:l.length=m) {i:Int} (h0:0≤i) (h1:i<m):∃ n,(l.map str)[0+i.toNat*1]? = some (str n)∧n∈l:=by
 refine ⟨l[i.toNat]'(by omega),?_,List.getElem_mem _⟩
 rw [Nat.zero_add,Nat.mul_one,List.getElem?_map,List.getElem?_eq_getElem (by omega)];rfl
theorem at_ends (l:List End) {m:Nat} (hl:l.length=m) {i:Int} (h0:0≤i) (h1:i<m):∃ e:End,subl (l.map End.row).flatten (0+i.toNat*2) 2=some [int e.a,int e.p]:=by
 have h2:i.toNat<l.length:=by omega
 refine ⟨l[i.toNat],?_⟩
 have hl2:∀ r∈l.map End.row,r.length=2:=by
  intro r hr;obtain ⟨x,_,rfl⟩:=List.mem_map.1 hr;rfl
 have h3:=flat_at (k:=2) (i:=i.toNat) (r:=l[i.toNat].row) hl2 (by rw [List.getElem?_map,List.getElem?_eq_getElem h2];rfl)
 have h4:=flat_len hl2
 rw [List.length_map] at h4
 rw [Nat.zero_add,subl,if_pos (by omega),h3]
theorem endl_len (e:End):e.line.length≤20:=by
 have:=eText_len e.a e.p
 rw [End.line_eq];split
 ·simp [PORT];omega
 ·simp
theorem Sl.at {k:Nat} {b off:Nat} {rows:List (List Value)} (h:Sl S k (some ⟨b,off,none⟩) rows) {i:Nat} {r:List Value} (hr:rows[i]? = some r):S.cells? ⟨b,off+i*k,none⟩ k=some r:=by
 obtain ⟨b',off',e,h2⟩:=h.row i r hr
 cases e;exact h2
theorem W_appendO {e:TypeId} {size bytes:Nat} {z:Value} {x y:Operand} {xa:Option Addr} {cap m:Nat} {rows:List (List Value)} {new:List Value} {v:Value} (H:Loc X S0 S L) (hO:OwnO S0 S xa e size cap rows) (hk:∀ q,xa=some ⟨q,0,none⟩→q∉L.map (·.1)) (hx:E.ev x=some (.slice xa rows.length cap)) (hy:E.ev y=some v)
    (hv:Src S size v m new) (h1:∀ u∈new,vY u=true) (hm:new.length=m*size) (h0:0<m) (hb:bytes≠0) (hfit:(rows.length+m)*bytes≤140737488355328) (hz:z.cells.size=size)
    (k:∀ b' m0 cap' cs' S',b'=m0∨S b'=none→S0 m0=none→(xa=some ⟨m0,0,none⟩∨(S m0=none))→Loc X S0 S' ((b',Cs cs' e)::L)→Ext [m0] S S'→rows.length+m≤cap'→cs'.length=cap'*size→cs'.take ((rows.length+m)*size)=rows.flatten++new→K (sl b' 0 (rows.length+m) cap') S'):(SOp.append e size bytes z x y).W P E S K:=by
  rcases hO with ⟨rfl,rfl,rfl⟩ | ⟨q,rfl,hq,cs,ho,hn,hcl,hct,hrl⟩
  · refine W_appendNew (old:=[]) H hx hy (by simpa using h0) (by simp [readC]) (by simp) hv hm hb hfit hz ?_
    intro b' cap' cs' S' hb' H' hE hn hcl hct
    exact k b' b' cap' cs' S' (.inl rfl) (H.g.isNone hb') (.inr hb') H' hE.up hn hcl hct
  · have H2:=H.also (.inl hq) (hk q rfl) ho
    refine W_append H2 hx hy .head hcl hn hv h1 hm hb hfit hz ?_
    intro b' cap' cs' S' hb' H' hE hn hcl hct'
    exact k b' q cap' cs' S' hb' hq (.inl rfl) H' hE hn hcl (by rw [hct',hct])
theorem By.off0 {a:Option Addr} {n:Nat} (h:By S0 a n) {b:Nat} (hb:S0 b=none):OffY a n b:=h.ne hb
theorem Sl.offO {k:Nat} {a xa:Option Addr} {rows:List (List Value)} (h:Sl S k a rows) {m0:Nat} (h1:∀ q,xa=some ⟨q,0,none⟩→∀ b off,a=some ⟨b,off,none⟩→b≠q) (hm:xa=some ⟨m0,0,none⟩∨S m0=none):∀ b off,a=some ⟨b,off,none⟩→b≠m0:=by
 rcases hm with e | e
 ·exact h1 m0 e
 ·exact h.ne e
end
end
section
variable {S0:St} {K:Value→St→Prop}
variable {b:Box} {m p:Int} {c1 c2 c3 cap n rb:Nat} {a a1 a2 a3:Option Addr}
theorem ct121 (ho:S0 rb=some ⟨Cs [.slice a n cap,int p] 142,true⟩) (hy:By S0 a n) (hy_rb:OffY a n rb) (hn:n≤2000) (p0:0≤p) (p1:p+1≤1000000) (m0:1≤m) (m1:m≤1099511627776) (k:∀ (r:Int) (p':Int) S',Ext [rb] S0 S'→S' rb=some ⟨Cs [.slice a n cap,int p'] 142,true⟩→p≤p'→p'≤p+1→(0≤r)→(r<m)→K (int r) S') :
  zC 121 #[vN rb 0,int m] S0 K:=by
 refine zGo (sf:=s121) Tryz.func121 ?_
 have H:=Loc.start1 ho
 refine zR (zt O (v4 (zt O (zt O (za (vj O (vZ O (zL1 H O .h O (zAd O O (za (vj O (vZ O (zSs H O O O .h O fun S hE H=>?_)))))))))))))
 replace hy:=hy.qy hE hy_rb
 refine zN (zSS (zt O (za (vT O O fun t16 h16=>zt O ?_))))
 rcases t16 with _|_
 ·replace h16:=bF h16
  refine zh O (vP O (zh O (vj O (zh O (zD O (zh O (vr H O .h O (zh O (W_lenL O (zh O (vW O O fun t23 h23=>vw O O O O (zN ?_))))))))))))
  rcases t23 with _|_
  ·replace h23:=bF h23
   obtain ⟨ab,ao,_,rfl,_⟩:=hy.c 0 (by omega)
   refine zr O (zv (ze (zR (zt O (za (vj O (vZ O (zL1 H O .h O (zSb O O (zt O (zN (zSS (zt O (zt O (za (vj O (vZ O (zL1 H O .h O (zLl O (za (vT O O fun t36 h36=>zN ?_)))))))))))))))))))))
   rcases t36 with _|_
   ·replace h36:=bF h36
    obtain ⟨i57,hi57⟩:∃ i,(p+1-1) % (n:Int)=i:=⟨_,rfl⟩
    have ha57:0≤i57:=hi57 ▸ Int.emod_nonneg _ (by omega)
    have hb57:i57<n:=hi57 ▸ Int.emod_lt_of_pos _ (by omega)
    obtain ⟨i74,hi74⟩:∃ i,((p+1-1)*7+3) % (n:Int)=i:=⟨_,rfl⟩
    have ha74:0≤i74:=hi74 ▸ Int.emod_nonneg _ (by omega)
    have hb74:i74<n:=hi74 ▸ Int.emod_lt_of_pos _ (by omega)
    obtain ⟨i89,hi89⟩:∃ i,(p+1-1) / (n:Int)=i:=⟨_,rfl⟩
    have ha89:0≤i89:=hi89 ▸ Int.ediv_nonneg (by omega) (by omega)
    have hb89:i89≤p+1-1:=hi89 ▸ Int.ediv_le_self _ (by omega)
    obtain ⟨_,_,c59,e59,hc59,hca59,hcb59⟩:=hy.c (i57).toNat (by omega)
    cases e59
    obtain ⟨_,_,c76,e76,hc76,hca76,hcb76⟩:=hy.c (i74).toNat (by omega)
    cases e76
    refine zr O (zv (ze (zJ (zY [] (vC 0 O O O (vF 1 O O (fun _ _ hK=>vj O hK) (zLf 2 O O O (ve 3 O O (fun S' hS'=>zA fun K hK=>zE O (zB (hS' O) (by simp) (H.cell .h O)) hK) (vC 4 O O O (vC 5 O O O (vF 6 O O (fun _ _ hK=>vj O hK) (zLf 7 O O O (ve 8 O O (fun S' hS'=>zA fun K hK=>zE O (zB (hS' O) (by simp) (H.cell .h O)) hK) (vF 9 O O (fun _ _ hK=>W_lenL O hK) (vF 10 O O (fun _ _ hK=>W_remD hi57 O O (by omega) (by omega) hK) (vF 11 O O (fun _ _ hK=>vq O O (by omega) (by omega) hK) (ve 12 O O (fun S' hS'=>zA fun K hK=>zE O (zB (hS' O) (by simp) (by simpa using hc59)) hK) (vF 13 O O (fun _ _ hK=>W_conv O (wrap64_in (by omega) (by omega)) hK) (vF 14 O O (fun _ _ hK=>W_mul O O (by omega) (by omega) hK) (vC 15 O O O (vF 16 O O (fun _ _ hK=>vj O hK) (zLf 17 O O O (ve 18 O O (fun S' hS'=>zA fun K hK=>zE O (zB (hS' O) (by simp) (H.cell .h O)) hK) (vC 19 O O O (vF 20 O O (fun _ _ hK=>W_mul O O (by omega) (by omega) hK) (vF 21 O O (fun _ _ hK=>W_add O O (by omega) (by omega) hK) (vC 22 O O O (vF 23 O O (fun _ _ hK=>vj O hK) ?_))))))))))))))))))))))))))))
    refine zLf 24 O O O (ve 25 O O (fun S' hS'=>zA fun K hK=>zE O (zB (hS' O) (by simp) (H.cell .h O)) hK) (vF 26 O O (fun _ _ hK=>W_lenL O hK) (vF 27 O O (fun _ _ hK=>W_remD hi74 O O (by omega) (by omega) hK) (vF 28 O O (fun _ _ hK=>vq O O (by omega) (by omega) hK) (ve 29 O O (fun S' hS'=>zA fun K hK=>zE O (zB (hS' O) (by simp) (by simpa using hc76)) hK) (vF 30 O O (fun _ _ hK=>W_conv O (wrap64_in (by omega) (by omega)) hK) (vF 31 O O (fun _ _ hK=>W_mul O O (by omega) (by omega) hK) (vF 32 O O (fun _ _ hK=>W_add O O (by omega) (by omega) hK) (vC 33 O O O (vF 34 O O (fun _ _ hK=>W_mul O O (by omega) (by omega) hK) (vF 35 O O (fun _ _ hK=>W_add O O (by omega) (by omega) hK) (vC 36 O O O (vC 37 O O O (vF 38 O O (fun _ _ hK=>vj O hK) (zLf 39 O O O (ve 40 O O (fun S' hS'=>zA fun K hK=>zE O (zB (hS' O) (by simp) (H.cell .h O)) hK) (vF 41 O O (fun _ _ hK=>W_lenL O hK) (vF 42 O O (fun _ _ hK=>W_quoD hi89 O O (by omega) (by omega) (by omega) hK) (vF 43 O O (fun _ _ hK=>W_mul O O (by omega) (by omega) hK) (vF 44 O O (fun _ _ hK=>W_add O O (by omega) (by omega) hK) (vC 45 O O O (zT (ze (zR (zt O (zt O (za (W_quoI O O (by omega) (by decide) (by omega) fun r94 hr94 hs94=>za (W_xorI O O (by omega) (by omega) (by omega) (by omega) fun r95 hr95 hs95=>?_)))))))))))))))))))))))))))))
    refine zt O (v4 (zt O (zt O (za (W_remI O O (by omega) (by omega) fun r98 hr98 hs98=>zt O (zN (zi (z9 O ?_))))))))
    exact k _ _ _ H.qx (H.get .h) (by omega) (by omega) (by omega) (by omega)
   ·replace h36:=bT h36
    obtain ⟨_,_,c43,e43,hc43,hca43,hcb43⟩:=hy.c (p+1-1).toNat (by omega)
    cases e43
    refine zj O (zR (zt O (za (vj O (vZ O (zL1 H O .h O (zt O (zIa O O (za (zE O (by simpa using hc43) (za (W_conv O (wrap64_in (by omega) (by omega)) (zt O (za (W_remI O O (by omega) (by omega) fun r46 hr46 hs46=>zt O (zN (zi (zw (z9 O ?_)))))))))))))))))))
    exact k _ _ _ H.qx (H.get .h) (by omega) (by omega) (by omega) (by omega)
  ·replace h23:=bT h23
   refine zj O (zR (zt O (zN (zi (zw (z9 O ?_))))))
   exact k _ _ _ H.qx (H.get .h) (by omega) (by omega) (by omega) (by omega)
 ·replace h16:=bT h16
  exact absurd h16 (by omega)
theorem ct52 (ho:S0 rb=some ⟨Cs [.slice a n cap,int p] 142,true⟩) (hy:By S0 a n) (hy_rb:OffY a n rb) (hn:n≤2000) (p0:0≤p) (p1:p+1≤1000000) (m0:1≤m) (m1:m≤1000000) (k:∀ (t:Bool) (p':Int) S',Ext [rb] S0 S'→S' rb=some ⟨Cs [.slice a n cap,int p'] 142,true⟩→p≤p'→p'≤p+1→(t=true↔t=true)→K (.bool t) S') :
  zC 52 #[vN rb 0,int m] S0 K:=by
 refine zGo (sf:=s52) Tryz.func52 ?_
 have H:=Loc.start1 ho
 refine zR (zt O (v4 (zt O (za (vT O O fun t6 h6=>zt O ?_)))))
 rcases t6 with _|_
 ·replace h6:=bF h6
  refine zL O (zL O (zL O (zL O (zL O (zL O (vw O O O O (zt O (zN (zi (z9 O ?_))))))))))
  exact k _ _ _ H.qx (H.get .h) (by omega) (by omega) Iff.rfl
 ·replace h6:=bT h6
  refine zh O (vP O (zh O (vP O (zh O (zP O (ct121 (H.get .h) hy hy_rb hn (by omega) (by omega) (by omega) (by omega) fun r10 p10 S hE ho10 hp10 hq10 hr10 hs10=>?_))))))
  replace H:=H.callX hE .h ho10
  refine zh O (vP O (zh O (W_sub O O (by omega) (by omega) (zh O (vW O O fun t13 h13=>vw O O O O (zt O (zN (zi (z9 O ?_)))))))))
  exact k _ _ _ H.qx (H.get .h) (by omega) (by omega) Iff.rfl
theorem ct127  (ho:S0 rb=some ⟨Cs [.slice a n cap,int p] 142,true⟩) (hy:By S0 a n) (hy_rb:OffY a n rb) (hn:n≤2000) (p0:0≤p) (p1:p+3≤1000000)  (k:∀ (e:End) (p':Int) S',Ext [rb] S0 S'→S' rb=some ⟨Cs [.slice a n cap,int p'] 142,true⟩→p≤p'→p'≤p+3→K (e.v) S') :
  zC 127 #[vN rb 0] S0 K:=by
 refine zGo (sf:=s127) Tryz.func127 ?_
 have H:=Loc.start1 ho
 refine zR (zAl H O fun b2 S hb2 hE H=>?_)
 replace hy:=hy.mono hE
 refine v4 (zt O (vK O (ct121 (H.get .h1) hy hy_rb hn (by omega) (by omega) (by omega) (by omega) fun r4 p4 S hE ho4 hp4 hq4 hr4 hs4=>?_)))
 replace H:=H.callX hE .h1 ho4
 replace hy:=hy.qy hE hy_rb
 refine zAd O O (zt O (vK O (ct121 (H.get .h1) hy hy_rb hn (by omega) (by omega) (by omega) (by omega) fun r7 p7 S hE ho7 hp7 hq7 hr7 hs7=>?_)))
 replace H:=H.callX hE .h1 ho7
 replace hy:=hy.qy hE hy_rb
 refine zAd O O (za (zS (cs:=[_,_,_,_,_]) H O O fun b9 S hb9 hE H=>?_))
 replace hy:=hy.mono hE
 refine zt O (vK O (ct121 (H.get .h2) hy hy_rb hn (by omega) (by omega) (by omega) (by omega) fun r11 p11 S hE ho11 hp11 hq11 hr11 hs11=>?_))
 replace H:=H.callX hE .h2 ho11
 obtain ⟨v13,hv13,hm13⟩:=at_ints [7,20,300,999,1+r7] (m:=5) rfl hr11 hs11
 refine zIa O O (zL1 H O .h hv13 (za (vv (cs:=[_,_]) O O (zSs H O O O .h1 O fun S hE H=>zN (zi (⟨trivial,_,(zW (ws:=[_,_]) H O .h1 O zM),?_⟩))))))
 exact k ⟨_,_⟩ _ _ H.qx (H.get .h2) (by omega) (by omega) 
theorem ct128  (ho:S0 rb=some ⟨Cs [.slice a n cap,int p] 142,true⟩) (hy:By S0 a n) (hy_rb:OffY a n rb) (hn:n≤2000) (p0:0≤p) (p1:p+2≤1000000)  (k:∀ (e:End) (p':Int) S',Ext [rb] S0 S'→S' rb=some ⟨Cs [.slice a n cap,int p'] 142,true⟩→p≤p'→p'≤p+2→K (e.v) S') :
  zC 128 #[vN rb 0] S0 K:=by
 refine zGo (sf:=s128) Tryz.func128 ?_
 have H:=Loc.start1 ho
 refine zR (zAl H O fun b2 S hb2 hE H=>?_)
 replace hy:=hy.mono hE
 refine v4 (zt O (vK O (ct121 (H.get .h1) hy hy_rb hn (by omega) (by omega) (by omega) (by omega) fun r4 p4 S hE ho4 hp4 hq4 hr4 hs4=>?_)))
 replace H:=H.callX hE .h1 ho4
 replace hy:=hy.qy hE hy_rb
 refine zAd O O (za (zS (cs:=[_,_,_,_]) H O O fun b6 S hb6 hE H=>?_))
 replace hy:=hy.mono hE
 refine zt O (vK O (ct121 (H.get .h2) hy hy_rb hn (by omega) (by omega) (by omega) (by omega) fun r8 p8 S hE ho8 hp8 hq8 hr8 hs8=>?_))
 replace H:=H.callX hE .h2 ho8
 obtain ⟨v10,hv10,hm10⟩:=at_ints [21,21,80,7] (m:=4) rfl hr8 hs8
 refine zIa O O (zL1 H O .h hv10 (za (vv (cs:=[_,_]) O O (zSs H O O O .h1 O fun S hE H=>zN (zi (⟨trivial,_,(zW (ws:=[_,_]) H O .h1 O zM),?_⟩))))))
 exact k ⟨_,_⟩ _ _ H.qx (H.get .h2) (by omega) (by omega) 
theorem ct124 (ho:S0 rb=some ⟨Cs [.slice a n cap,int p] 142,true⟩) (hy:By S0 a n) (hy_rb:OffY a n rb) (hn:n≤2000) (p0:0≤p) (p1:p+8≤1000000) (m0:1≤m) (m1:m≤1000000) (k:∀ (e:End) (p':Int) S',Ext [rb] S0 S'→S' rb=some ⟨Cs [.slice a n cap,int p'] 142,true⟩→p≤p'→p'≤p+8→K (e.v) S') :
  zC 124 #[vN rb 0,int m] S0 K:=by
 refine zGo (sf:=s124) Tryz.func124 ?_
 have H:=Loc.start1 ho
 refine zR (zAl H O fun b4 S hb4 hE H=>?_)
 replace hy:=hy.mono hE
 refine zN (zSS (zt O (zt O (vK O (ct52 (H.get .h1) hy hy_rb hn (by omega) (by omega) (by omega) (by omega) fun t7 p7 S hE ho7 hp7 hq7 h7=>?_)))))
 replace H:=H.callX hE .h1 ho7
 replace hy:=hy.qy hE hy_rb
 refine zN ?_
 rcases t7 with _|_
 ·replace h7:=bF h7
  refine zr O (zv (ze (zR (zt O (vK O (ct127 (H.get .h1) hy hy_rb hn (by omega) (by omega)  fun e20 p20 S hE ho20 hp20 hq20=>?_))))))
  replace H:=H.callX hE .h1 ho20
  replace hy:=hy.qy hE hy_rb
  refine zt O (vK O (ct128 (H.get .h1) hy hy_rb hn (by omega) (by omega)  fun e22 p22 S hE ho22 hp22 hq22=>?_))
  replace H:=H.callX hE .h1 ho22
  replace hy:=hy.qy hE hy_rb
  refine zt O (vK O (ct121 (H.get .h1) hy hy_rb hn (by omega) (by omega) (by omega) (by omega) fun r24 p24 S hE ho24 hp24 hq24 hr24 hs24=>?_))
  replace H:=H.callX hE .h1 ho24
  replace hy:=hy.qy hE hy_rb
  refine zAd O O (za (vv (cs:=[_,_]) O O (za (zS (cs:=[_,_,_,_,_,_]) H O O fun b27 S hb27 hE H=>?_))))
  replace hy:=hy.mono hE
  refine zt O (vK O (ct121 (H.get .h2) hy hy_rb hn (by omega) (by omega) (by omega) (by omega) fun r29 p29 S hE ho29 hp29 hq29 hr29 hs29=>?_))
  replace H:=H.callX hE .h2 ho29
  obtain ⟨f31,hf31⟩:=at_ends [e20,e22,⟨50,500+r24⟩] (m:=3) rfl hr29 hs29
  refine zIa O O (zLn (vs:=[_,_]) H O .h hf31 (zSs H O O O .h1 O fun S hE H=>zN (zi (⟨trivial,_,(zW (ws:=[_,_]) H O .h1 O zM),?_⟩))))
  exact k ⟨_,_⟩ _ _ H.qx (H.get .h2) (by omega) (by omega) 
 ·replace h7:=bT h7
  refine zj O (zR (za (vv (cs:=[_,_]) O O (za (vv (cs:=[_,_]) O O (za (vv (cs:=[_,_]) O O (za (vv (cs:=[_,_]) O O (za (vv (cs:=[_,_]) O O (za (vv (cs:=[_,_]) O O (za (zS (cs:=[_,_,_,_,_,_,_,_,_,_,_,_]) H O O fun b14 S hb14 hE H=>?_)))))))))))))))
  replace hy:=hy.mono hE
  refine zt O (vK O (ct121 (H.get .h2) hy hy_rb hn (by omega) (by omega) (by omega) (by omega) fun r16 p16 S hE ho16 hp16 hq16 hr16 hs16=>?_))
  replace H:=H.callX hE .h2 ho16
  obtain ⟨f18,hf18⟩:=at_ends [⟨0,0⟩,⟨10,5⟩,⟨1,0⟩,⟨1,1000⟩,⟨110,3⟩,⟨-1,-1⟩] (m:=6) rfl hr16 hs16
  refine zIa O O (zLn (vs:=[_,_]) H O .h hf18 (zSs H O O O .h1 O fun S hE H=>zN (zi (zw (⟨trivial,_,(zW (ws:=[_,_]) H O .h1 O zM),?_⟩)))))
  exact k ⟨_,_⟩ _ _ H.qx (H.get .h2) (by omega) (by omega) 
theorem ct222  (ho:S0 rb=some ⟨Cs [.slice a n cap,int p] 142,true⟩) (hy:By S0 a n) (hy_rb:OffY a n rb) (hn:n≤2000) (p0:0≤p) (p1:p+4≤1000000)  (k:∀ (s:Bs) (p':Int) S',Ext [rb] S0 S'→S' rb=some ⟨Cs [.slice a n cap,int p'] 142,true⟩→p≤p'→p'≤p+4→(s.length≤20)→K (str s) S') :
  zC 222 #[vN rb 0] S0 K:=by
 refine zGo (sf:=s222) Tryz.func222 ?_
 have H:=Loc.start1 ho
 refine zR (zt O (zN (zSS (zt O (vK O (ct121 (H.get .h) hy hy_rb hn (by omega) (by omega) (by omega) (by omega) fun r4 p4 S hE ho4 hp4 hq4 hr4 hs4=>?_))))))
 replace H:=H.callX hE .h ho4
 replace hy:=hy.qy hE hy_rb
 refine zN (zK (zR (za (vW O O fun t6 h6=>zt O (zN ?_)))))
 rcases t6 with _|_
 ·replace h6:=bF h6
  refine zr O (zR (za (vW O O fun t11 h11=>zt O (zN ?_))))
  rcases t11 with _|_
  ·replace h11:=bF h11
   refine zr O (zv (z_ (ze (zR (za (zS (cs:=[_,_,_,_]) H O O fun b17 S hb17 hE H=>?_))))))
   replace hy:=hy.mono hE
   refine zt O (vK O (ct121 (H.get .h1) hy hy_rb hn (by omega) (by omega) (by omega) (by omega) fun r19 p19 S hE ho19 hp19 hq19 hr19 hs19=>?_))
   replace H:=H.callX hE .h1 ho19
   obtain ⟨v21,hv21,hm21⟩:=at_strs [[97],[98,98],[103,101,116,32,102,105,108,101,49],[113,117,105,116]] (m:=4) rfl hr19 hs19
   have hml21:v21.length≤20:=by simp only [List.mem_cons,List.mem_nil_iff,or_false] at hm21;rcases hm21 with rfl | rfl | rfl | rfl<;>decide
   refine zIa O O (zL1 H O .h hv21 (zt O (zN (zi (z9 O ?_)))))
   exact k _ _ _ H.qx (H.get .h1) (by omega) (by omega) (by first | exact endl_len _ | assumption)
  ·replace h11:=bT h11
   refine zj O (zR (za (zS (cs:=[_,_,_,_,_,_,_,_,_,_]) H O O fun b12 S hb12 hE H=>?_)))
   replace hy:=hy.mono hE
   refine zt O (vK O (ct121 (H.get .h1) hy hy_rb hn (by omega) (by omega) (by omega) (by omega) fun r14 p14 S hE ho14 hp14 hq14 hr14 hs14=>?_))
   replace H:=H.callX hE .h1 ho14
   obtain ⟨v16,hv16,hm16⟩:=at_strs [[],[108,105,115,116],[117,115,101,114,32,97],[112,111,114,116,32,53,48,32,53,48,48],[112,111,114,116,32,49,48,48,32,57],[112,111,114,116,32,48,49,32,50],[112,111,114,116,32,49],[97,98,99,100,101,102,103,104,105,106,32,107,108,109,110,111],[112,111,114,116],[112,111,114,116,32,49,32,50,32,51]] (m:=10) rfl hr14 hs14
   have hml16:v16.length≤20:=by simp only [List.mem_cons,List.mem_nil_iff,or_false] at hm16;rcases hm16 with rfl | rfl | rfl | rfl | rfl | rfl | rfl | rfl | rfl | rfl<;>decide
   refine zIa O O (zL1 H O .h hv16 (zt O (zN (zi (vg (zw (z9 O ?_)))))))
   exact k _ _ _ H.qx (H.get .h1) (by omega) (by omega) (by first | exact endl_len _ | assumption)
 ·replace h6:=bT h6
  refine zj O (zR (zt O (vK O (ct127 (H.get .h) hy hy_rb hn (by omega) (by omega)  fun e8 p8 S hE ho8 hp8 hq8=>?_))))
  replace H:=H.callX hE .h ho8
  refine vK O (ct225  fun S hE =>?_)
  replace H:=H.call hE
  refine zt O (zN (zi (vg (zw (z9 O ?_)))))
  exact k _ _ _ H.qx (H.get .h) (by omega) (by omega) (by first | exact endl_len _ | assumption)
theorem ct200  (ho:S0 rb=some ⟨Cs [.slice a n cap,int p] 142,true⟩) (hy:By S0 a n) (hy_rb:OffY a n rb) (hn:n≤2000) (p0:0≤p) (p1:p+38≤1000000)  (k:∀ (s:Bs) (p':Int) S',Ext [rb] S0 S'→S' rb=some ⟨Cs [.slice a n cap,int p'] 142,true⟩→p≤p'→p'≤p+38→(s.length≤120)→K (str s) S') :
  zC 200 #[vN rb 0] S0 K:=by
 refine zGo (sf:=s200) Tryz.func200 ?_
 have H:=Loc.start1 ho
 refine zR (zt O (v4 (zt O (zN (zSS (zt O (vK O (ct121 (H.get .h) hy hy_rb hn (by omega) (by omega) (by omega) (by omega) fun r8 p8 S hE ho8 hp8 hq8 hr8 hs8=>?_))))))))
 replace H:=H.callX hE .h ho8
 replace hy:=hy.qy hE hy_rb
 refine zt O (zN (zK ?_))
 refine vA (fun E S m_=>∃ (j:Int) (tx:Bs) (q:Int),E=Env.lst [(0,vN rb 0),(3,str tx),(4,int j)]∧Loc [rb] S0 S [(rb,Cs [.slice a n cap,int q] 142)]∧(0≤j)∧(j≤8)∧(tx.length≤120)∧(p≤q)∧(q≤p+1+(8-j)*4)∧(By S a n)∧(OffY a n rb)∧m_=j.toNat) ?_ ?_
 ·skip
  refine ⟨_,_,?le,r8,[],p8,O,H,(by omega),(by omega),(by simp),(by omega),(by omega),hy,hy_rb,O⟩
  case le=>exact Env.qle ⟨O,O,O,⟨⟩⟩
 ·skip
  rintro _ S _ ⟨j,tx,q,rfl,H,hj0,hj1,htl,hq0,hq1,hy,hy_rb,rfl⟩
  refine zSS (zt O (za (W_gtr O O fun t10 h10=>zN ?_)))
  rcases t10 with _|_
  ·replace h10:=bF h10
   refine zr O (vz (zZ (zZ (vH (ze (zSS (zt O (vK O (ct121 (H.get .h) hy hy_rb hn (by omega) (by omega) (by omega) (by omega) fun r23 p23 S hE ho23 hp23 hq23 hr23 hs23=>?_)))))))))
   replace H:=H.callX hE .h ho23
   replace hy:=hy.qy hE hy_rb
   refine za (vW O O fun t24 h24=>zN ?_)
   rcases t24 with _|_
   ·replace h24:=bF h24
    refine zr O (zv (ze (zR (zt O (zt O (zN (zi (z9 O ?_))))))))
    exact k _ _ _ H.qx (H.get .h) (by omega) (by omega) (by first | (simp only [List.length_append];omega) | omega)
   ·replace h24:=bT h24
    refine zj O (zR (zt O (vK O (ct222 (H.get .h) hy hy_rb hn (by omega) (by omega)  fun s26 p26 S hE ho26 hp26 hq26 hl26=>?_))))
    replace H:=H.callX hE .h ho26
    refine zt O (v4 (zt O (za (vI O (zt O (za (vI O (zAd O O (za (W_leq O O fun t32 h32=>zN ?_))))))))))
    rcases t32 with _|_
    ·replace h32:=bF h32
     refine zr O (zv (ze (zR (zt O (zt O (zN (zi (z9 O ?_))))))))
     exact k _ _ _ H.qx (H.get .h) (by omega) (by omega) (by first | (simp only [List.length_append];omega) | omega)
    ·replace h32:=bT h32
     refine zj O (zU (zt O (zt O (za (W_catS O O (by omega) (zt O (v4 (zt O (zt O (zN (zi (z9 O ?_))))))))))))
     exact k _ _ _ H.qx (H.get .h) (by omega) (by omega) (by first | (simp only [List.length_append];omega) | omega)
  ·replace h10:=bT h10
   refine zj O (zv (ze (zJ (zK (zR (zt O (zt O (vK O (ct222 (H.get .h) hy hy_rb hn (by omega) (by omega)  fun s15 p15 S hE ho15 hp15 hq15 hl15=>?_)))))))))
   replace H:=H.callX hE .h ho15
   replace hy:=hy.qy hE hy_rb
   refine za (W_catS O O (by omega) (za (W_catS O O (by simp only [List.length_append,List.length_take,List.length_drop,List.length_cons,List.length_nil];omega) (zt O (v4 (zt O (za (vI O (za (W_leq O O fun t20 h20=>zN ?_))))))))))
   rcases t20 with _|_
   ·replace h20:=bF h20
    refine zr O (zv (z_ (ze (zU (zt O (zSb O O (zt O (zN ?_))))))))
    refine ⟨_,_,?lt,?le,(j-1),tx,p15,O,H,(by omega),(by omega),(by first | omega | (simp only [List.length_append,List.length_cons,List.length_nil] at h20 ⊢;omega)),(by omega),(by omega),hy,hy_rb,O⟩
    case lt=>omega
    case le=>exact Env.qle ⟨O,O,O,⟨⟩⟩
   ·replace h20:=bT h20
    refine zj O (zU (zt O (zt O (vl (z_ (ze (zU (zt O (zSb O O (zt O (zN ?_)))))))))))
    refine ⟨_,_,?lt,?le,(j-1),(tx++s15++[59]),p15,O,H,(by omega),(by omega),(by first | omega | (simp only [List.length_append,List.length_cons,List.length_nil] at h20 ⊢;omega)),(by omega),(by omega),hy,hy_rb,O⟩
    case lt=>omega
    case le=>exact Env.qle ⟨O,O,O,⟨⟩⟩
theorem ct126  (ho:S0 rb=some ⟨Cs [.slice a n cap,int p] 142,true⟩) (hy:By S0 a n) (hy_rb:OffY a n rb) (hn:n≤2000) (p0:0≤p) (p1:p+39≤1000000)  (k:∀ (s:Bs) (p':Int) S',Ext [rb] S0 S'→S' rb=some ⟨Cs [.slice a n cap,int p'] 142,true⟩→p≤p'→p'≤p+39→(s.length≤12)→K (str s) S') :
  zC 126 #[vN rb 0] S0 K:=by
 refine zGo (sf:=s126) Tryz.func126 ?_
 have H:=Loc.start1 ho
 refine zR (zt O (v4 (zt O (vK O (ct200 (H.get .h) hy hy_rb hn (by omega) (by omega)  fun s5 p5 S hE ho5 hp5 hq5 hl5=>?_)))))
 replace H:=H.callX hE .h ho5
 replace hy:=hy.qy hE hy_rb
 refine zt O (v4 (zt O (zt O (za (vI O (zt O (vK O (ct121 (H.get .h) hy hy_rb hn (by omega) (by omega) (by omega) (by omega) fun r10 p10 S hE ho10 hp10 hq10 hr10 hs10=>?_))))))))
 replace H:=H.callX hE .h ho10
 refine za (W_min2 O O (za (W_slShi O O (by omega) (by omega) (zt O (zN (zi (z9 O ?_)))))))
 exact k _ _ _ H.qx (H.get .h) (by omega) (by omega) (by simp only [List.length_take];omega)
theorem ct201 {l:Bs} (ho:S0 rb=some ⟨Cs [.slice a n cap,int p] 142,true⟩) (hy:By S0 a n) (hy_rb:OffY a n rb) (hn:n≤2000) (p0:0≤p) (p1:p+4≤1000000) (hl:l.length≤1000) (k:∀ (s:Bs) (p':Int) S',Ext [rb] S0 S'→S' rb=some ⟨Cs [.slice a n cap,int p'] 142,true⟩→p≤p'→p'≤p+4→(s.length≤l.length+1)→K (str s) S') :
  zC 201 #[vN rb 0,str l] S0 K:=by
 refine zGo (sf:=s201) Tryz.func201 ?_
 have H:=Loc.start1 ho
 refine zR (zt O (v4 (zt O (zt O (za (vI O (zAd O O (vK O (ct121 (H.get .h) hy hy_rb hn (by omega) (by omega) (by omega) (by omega) fun r11 p11 S hE ho11 hp11 hq11 hr11 hs11=>?_)))))))))
 replace H:=H.callX hE .h ho11
 replace hy:=hy.qy hE hy_rb
 refine zt O (v4 (zt O (vK O (ct121 (H.get .h) hy hy_rb hn (by omega) (by omega) (by omega) (by omega) fun r13 p13 S hE ho13 hp13 hq13 hr13 hs13=>?_))))
 replace H:=H.callX hE .h ho13
 replace hy:=hy.qy hE hy_rb
 refine za (zS (cs:=[_,_,_,_,_,_,_,_]) H O O fun b14 S hb14 hE H=>?_)
 replace hy:=hy.mono hE
 refine zt O (vK O (ct121 (H.get .h1) hy hy_rb hn (by omega) (by omega) (by omega) (by omega) fun r16 p16 S hE ho16 hp16 hq16 hr16 hs16=>?_))
 replace H:=H.callX hE .h1 ho16
 replace hy:=hy.qy hE hy_rb
 obtain ⟨v18,hv18,hm18⟩:=at_ints [32,48,49,57,59,97,112,r13] (m:=8) rfl hr16 hs16
 obtain ⟨c18,rfl⟩:∃ c:UInt8,v18=(c.toNat:Int):=⟨UInt8.ofNat v18.toNat,by
  have:0≤v18∧v18<256:=by
   simp only [List.mem_cons,List.mem_nil_iff,or_false] at hm18
   omega
  rw [UInt8.toNat_ofNat',Nat.mod_eq_of_lt (by omega)];omega⟩
 have hc18:=c18.toNat_lt
 refine zIa O O (zL1 H O .h hv18 (za (W_conv (m:=(c18.toNat:Int)) O (wrapu8_in (by omega) (by omega)) (za (zS (cs:=[_]) H O O fun b20 S hb20 hE H=>?_)))))
 replace hy:=hy.mono hE
 refine za (W_bytesStr (l:=[c18]) O (H.cells .h O) (zt O (zN (zSS (zt O (vK O (ct121 (H.get .h2) hy hy_rb hn (by omega) (by omega) (by omega) (by omega) fun r23 p23 S hE ho23 hp23 hq23 hr23 hs23=>?_)))))))
 replace H:=H.callX hE .h2 ho23
 refine zN (zK (zR (za (vW O O fun t39 h39=>zt O (zN ?_)))))
 rcases t39 with _|_
 ·replace h39:=bF h39
  refine zr O (zR (za (vW O O fun t50 h50=>zt O (zN ?_))))
  rcases t50 with _|_
  ·replace h50:=bF h50
   refine zr O (zR (zt O (zt O (za (vI O (za (vT O O fun t27 h27=>zN ?_)))))))
   rcases t27 with _|_
   ·replace h27:=bF h27
    refine zr O (zv (z_ (ze (zR (zt O (zt O (zN (zi (z9 O ?_)))))))))
    exact k _ _ _ H.qx (H.get .h2) (by omega) (by omega) (by first | omega | (simp only [List.length_append,List.length_take,List.length_drop,List.length_cons,List.length_nil];omega))
   ·replace h27:=bT h27
    refine zj O (zJ (zY [] (vC 0 O O O (vC 1 O O O (vF 2 O O (fun _ _ hK=>W_slShi O O (by omega) (by omega) hK) (vC 3 O O O (vF 4 O O (fun _ _ hK=>W_catS O O (by simp only [List.length_append,List.length_take,List.length_drop,List.length_cons,List.length_nil];omega) hK) (vC 5 O O O (vC 6 O O O (vF 7 O O (fun _ _ hK=>W_add O O (by omega) (by omega) hK) (vF 8 O O (fun _ _ hK=>W_slSlo O O (by omega) (by omega) hK) (vF 9 O O (fun _ _ hK=>W_catS O O (by simp only [List.length_append,List.length_take,List.length_drop,List.length_cons,List.length_nil];omega) hK) (vC 10 O O O (zT (ze (zi (vg (zw (z9 O ?_)))))))))))))))))))
    exact k _ _ _ H.qx (H.get .h2) (by omega) (by omega) (by first | omega | (simp only [List.length_append,List.length_take,List.length_drop,List.length_cons,List.length_nil];omega))
  ·replace h50:=bT h50
   refine zj O (zR (zt O (zt O (za (vI O (za (vT O O fun t54 h54=>zN ?_)))))))
   rcases t54 with _|_
   ·replace h54:=bF h54
    refine zr O (zv (z_ (ze (zR (zt O (zt O (zN (zi (z9 O ?_)))))))))
    exact k _ _ _ H.qx (H.get .h2) (by omega) (by omega) (by first | omega | (simp only [List.length_append,List.length_take,List.length_drop,List.length_cons,List.length_nil];omega))
   ·replace h54:=bT h54
    refine zj O (zJ (zY [] (vC 0 O O O (vC 1 O O O (vF 2 O O (fun _ _ hK=>W_slShi O O (by omega) (by omega) hK) (vC 3 O O O (vC 4 O O O (vF 5 O O (fun _ _ hK=>W_add O O (by omega) (by omega) hK) (vF 6 O O (fun _ _ hK=>W_slSlo O O (by omega) (by omega) hK) (vF 7 O O (fun _ _ hK=>W_catS O O (by simp only [List.length_append,List.length_take,List.length_drop,List.length_cons,List.length_nil];omega) hK) (vC 8 O O O (zT (ze (zi (vg (zw (z9 O ?_)))))))))))))))))
    exact k _ _ _ H.qx (H.get .h2) (by omega) (by omega) (by first | omega | (simp only [List.length_append,List.length_take,List.length_drop,List.length_cons,List.length_nil];omega))
 ·replace h39:=bT h39
  refine zj O (zJ (zY [] (vC 0 O O O (vC 1 O O O (vF 2 O O (fun _ _ hK=>W_slShi O O (by omega) (by omega) hK) (vC 3 O O O (vF 4 O O (fun _ _ hK=>W_catS O O (by simp only [List.length_append,List.length_take,List.length_drop,List.length_cons,List.length_nil];omega) hK) (vC 5 O O O (vC 6 O O O (vF 7 O O (fun _ _ hK=>W_slSlo O O (by omega) (by omega) hK) (vF 8 O O (fun _ _ hK=>W_catS O O (by simp only [List.length_append,List.length_take,List.length_drop,List.length_cons,List.length_nil];omega) hK) (vC 9 O O O (zT (ze (zi (vg (zw (z9 O ?_))))))))))))))))))
  exact k _ _ _ H.qx (H.get .h2) (by omega) (by omega) (by first | omega | (simp only [List.length_append,List.length_take,List.length_drop,List.length_cons,List.length_nil];omega))
theorem ct123 (ho:S0 rb=some ⟨Cs [.slice a n cap,int p] 142,true⟩) (hy:By S0 a n) (hy_rb:OffY a n rb) (hn:n≤2000) (p0:0≤p) (p1:p+44≤1000000) (m0:1≤m) (m1:m≤1000000) (k:∀ (s:Bs) (p':Int) S',Ext [rb] S0 S'→S' rb=some ⟨Cs [.slice a n cap,int p'] 142,true⟩→p≤p'→p'≤p+44→(s.length≤200)→K (str s) S') :
  zC 123 #[vN rb 0,int m] S0 K:=by
 refine zGo (sf:=s123) Tryz.func123 ?_
 have H:=Loc.start1 ho
 refine zR (zt O (v4 (zt O (vK O (ct200 (H.get .h) hy hy_rb hn (by omega) (by omega)  fun s7 p7 S hE ho7 hp7 hq7 hl7=>?_)))))
 replace H:=H.callX hE .h ho7
 replace hy:=hy.qy hE hy_rb
 refine zt O (zN (zSS (zt O (zt O (vK O (ct52 (H.get .h) hy hy_rb hn (by omega) (by omega) (by omega) (by omega) fun t10 p10 S hE ho10 hp10 hq10 h10=>?_))))))
 replace H:=H.callX hE .h ho10
 replace hy:=hy.qy hE hy_rb
 refine zN ?_
 rcases t10 with _|_
 ·replace h10:=bF h10
  refine zr O (zv (ze (zR (zt O (zt O (zN (zi (z9 O ?_))))))))
  exact k _ _ _ H.qx (H.get .h) (by omega) (by omega) (by first | omega | (simp only [List.length_append,List.length_cons,List.length_nil];omega))
 ·replace h10:=bT h10
  refine zj O (zSS (zt O (vK O (ct121 (H.get .h) hy hy_rb hn (by omega) (by omega) (by omega) (by omega) fun r12 p12 S hE ho12 hp12 hq12 hr12 hs12=>?_))))
  replace H:=H.callX hE .h ho12
  replace hy:=hy.qy hE hy_rb
  refine zN (zK (zR (za (vW O O fun t14 h14=>zt O (zN ?_)))))
  rcases t14 with _|_
  ·replace h14:=bF h14
   refine zr O (zR (za (vW O O fun t19 h19=>zt O (zN ?_))))
   rcases t19 with _|_
   ·replace h19:=bF h19
    refine zr O (zv (z_ (ze (zK ?_))))
    refine vA (fun E S m_=>∃ (tx:Bs) (q:Int),E=Env.lst [(0,vN rb 0),(5,str tx)]∧Loc [rb] S0 S [(rb,Cs [.slice a n cap,int q] 142)]∧(tx.length≤125)∧(p≤q)∧(q≤p+44)∧(By S a n)∧(OffY a n rb)∧m_=126-tx.length) ?_ ?_
    ·skip
     refine ⟨_,_,?le,s7,_,O,H,(by omega),(by omega),(by omega),hy,hy_rb,O⟩
     case le=>exact Env.qle ⟨O,O,⟨⟩⟩
    ·skip
     rintro _ S _ ⟨tx,q,rfl,H,htl,hq0,hq1,hy,hy_rb,rfl⟩
     refine zSS (zt O (za (vI O (za (W_leq O O fun t24 h24=>zN ?_)))))
     rcases t24 with _|_
     ·replace h24:=bF h24
      refine zr O (vz (zZ (zZ (vH (ze (zR (zt O (zt O (zN (zi (z9 O ?_)))))))))))
      exact k _ _ _ H.qx (H.get .h) (by omega) (by omega) (by first | omega | (simp only [List.length_append,List.length_cons,List.length_nil];omega))
     ·replace h24:=bT h24
      refine zj O (zv (ze (zK (zU (zt O (za (W_catS O O (by simp only [List.length_append,List.length_take,List.length_drop,List.length_cons,List.length_nil];omega) (zt O (vl (z_ (ze ?_)))))))))))
      refine ⟨_,_,?lt,?le,(tx++[108,105,115,116,59]),_,O,H,(by simp only [List.length_append,List.length_cons,List.length_nil];omega),(by omega),(by omega),hy,hy_rb,O⟩
      case lt=>(simp only [List.length_append,List.length_cons,List.length_nil];omega)
      case le=>exact Env.qle ⟨O,O,⟨⟩⟩
   ·replace h19:=bT h19
    refine zj O (zR (zt O (za (W_catS O O (by simp only [List.length_append,List.length_take,List.length_drop,List.length_cons,List.length_nil];omega) (zt O (zN (zi (vg (zw (zw (z9 O ?_)))))))))))
    exact k _ _ _ H.qx (H.get .h) (by omega) (by omega) (by first | omega | (simp only [List.length_append,List.length_cons,List.length_nil];omega))
  ·replace h14:=bT h14
   refine zj O (zR (zt O (zt O (vK O (ct201 (H.get .h) hy hy_rb hn (by omega) (by omega) (by omega) fun s17 p17 S hE ho17 hp17 hq17 hl17=>?_)))))
   replace H:=H.callX hE .h ho17
   refine zt O (zN (zi (vg (zw (zw (z9 O ?_))))))
   exact k _ _ _ H.qx (H.get .h) (by omega) (by omega) (by first | omega | (simp only [List.length_append,List.length_cons,List.length_nil];omega))
theorem ct50 {n0:Nat} (hy0:By S0 a n0) (hc:n0≤cap) (k:∀ (rb n:Nat) S',Ext [] S0 S'→(S0 rb=none)→(S' rb=some ⟨Cs [.slice a n cap,int 0] 142,true⟩)→(n≤2000)→(n≤n0)→(By S' a n)→K (vN rb 0) S') :
  zC 50 #[.slice a n0 cap] S0 K:=by
 refine zGh (sf:=s50) Tryz.func50 fun H=>zR (zt O (zN (zSS (zt O (zLl O (za (W_gtr O O fun t5 h5=>zN ?_)))))))
 rcases t5 with _|_
 ·replace h5:=bF h5
  refine zr O (zv (ze (zR (zt O (za (vv (cs:=[_,_]) O O (zBx H O O fun b10 S hb10 hE H=>zt O (zN (zi (z9 O (k _ _ _ H.qx (H.new1 .h) (H.get .h) (by omega) (by omega) (hy0.mono H.qx))))))))))))
 ·replace h5:=bT h5
  refine zj O (zU (zt O (za (W_slTake (l:=List.replicate n0 ()) (cap:=cap) (a:=a) (by rw [List.length_replicate];rfl) O (by decide) (by simp;omega) (by simpa using hc) (zt O (v4 (zt O (za (vv (cs:=[_,_]) O O (zBx H O O fun b10 S hb10 hE H=>zt O (zN (zi (z9 O (k _ _ _ H.qx (H.new1 .h) (H.get .h) (by simp;omega) (by simp;omega) ((hy0.mono H.qx).le (by simp;omega))))))))))))))))
theorem ct53 (ho:S0 rb=some ⟨Cs [.slice a n cap,int p] 142,true⟩) (hy:By S0 a n) (hy_rb:OffY a n rb) (hn:n≤2000) (p0:0≤p) (p1:p+67≤1000000) (m0:1≤m) (m1:m≤1000000) (k:∀ (s:Seg) (p':Int) S',Ext [rb] S0 S'→S' rb=some ⟨Cs [.slice a n cap,int p'] 142,true⟩→p≤p'→p'≤p+67→(s.dt.length≤20)→K (s.v) S') :
  zC 53 #[vN rb 0,int m] S0 K:=by
 refine zGo (sf:=s53) Tryz.func53 ?_
 have H:=Loc.start1 ho
 refine zR (zAl H O fun b4 S hb4 hE H=>?_)
 replace hy:=hy.mono hE
 refine v4 (zt O (vK O (ct124 (H.get .h1) hy hy_rb hn (by omega) (by omega) (by omega) (by omega) fun e7 p7 S hE ho7 hp7 hq7=>?_)))
 replace H:=H.callX hE .h1 ho7
 replace hy:=hy.qy hE hy_rb
 refine zt O (vK O (ct124 (H.get .h1) hy hy_rb hn (by omega) (by omega) (by omega) (by omega) fun e9 p9 S hE ho9 hp9 hq9=>?_))
 replace H:=H.callX hE .h1 ho9
 replace hy:=hy.qy hE hy_rb
 refine zt O (vK O (ct121 (H.get .h1) hy hy_rb hn (by omega) (by omega) (by omega) (by omega) fun r11 p11 S hE ho11 hp11 hq11 hr11 hs11=>?_))
 replace H:=H.callX hE .h1 ho11
 replace hy:=hy.qy hE hy_rb
 refine zt O (vK O (ct121 (H.get .h1) hy hy_rb hn (by omega) (by omega) (by omega) (by omega) fun r13 p13 S hE ho13 hp13 hq13 hr13 hs13=>?_))
 replace H:=H.callX hE .h1 ho13
 replace hy:=hy.qy hE hy_rb
 refine zt O (vK O (ct126 (H.get .h1) hy hy_rb hn (by omega) (by omega)  fun s15 p15 S hE ho15 hp15 hq15 hl15=>?_))
 replace H:=H.callX hE .h1 ho15
 replace hy:=hy.qy hE hy_rb
 refine za (vv (cs:=[_,_,_,_,_,_,_]) O O (zAl H O fun b5 S hb5 hE H=>?_))
 have hy_b5:=hy.ne hb5
 replace hy:=hy.mono hE
 refine zSs H O O O .h O fun S hE H=>?_
 replace hy:=hy.qy hE hy_b5
 refine zN (zSS (zt O (zt O (vK O (ct52 (H.get .h2) hy hy_rb hn (by omega) (by omega) (by omega) (by omega) fun t19 p19 S hE ho19 hp19 hq19 h19=>?_)))))
 replace H:=H.callX hE .h2 ho19
 replace hy:=hy.qy hE hy_rb
 refine zN ?_
 rcases t19 with _|_
 ·replace h19:=bF h19
  refine zr O (zv (ze (zR (zLn (vs:=[_,_,_,_,_,_,_]) H O .h O (zSs H O O O .h1 O fun S hE H=>zN (zi (⟨trivial,_,(zW (ws:=[_,_,_,_,_,_,_]) H O .h1 O zM),?_⟩)))))))
  exact k ⟨⟨_,_⟩,⟨_,_⟩,_,_,_⟩ _ _ H.qx (H.get .h2) (by omega) (by omega) (by first | omega | (simp only [List.length_append,List.length_cons,List.length_nil];omega) | decide)
 ·replace h19:=bT h19
  refine zj O (zR (zt O (vK O (ct121 (H.get .h2) hy hy_rb hn (by omega) (by omega) (by omega) (by omega) fun r21 p21 S hE ho21 hp21 hq21 hr21 hs21=>?_))))
  replace H:=H.callX hE .h2 ho21
  replace hy:=hy.qy hE hy_rb
  refine zN (zK (zR (za (vW O O fun t29 h29=>zt O (zN ?_)))))
  rcases t29 with _|_
  ·replace h29:=bF h29
   refine zr O (zR (za (vW O O fun t34 h34=>zt O (zN ?_))))
   rcases t34 with _|_
   ·replace h34:=bF h34
    refine zr O (zR (za (vW O O fun t42 h42=>zt O (zN ?_))))
    rcases t42 with _|_
    ·replace h42:=bF h42
     refine zr O (zU (za (zS (cs:=[_,_,_]) H O O fun b22 S hb22 hE H=>?_)))
     replace hy:=hy.mono hE
     refine zt O (vK O (ct121 (H.get .h3) hy hy_rb hn (by omega) (by omega) (by omega) (by omega) fun r24 p24 S hE ho24 hp24 hq24 hr24 hs24=>?_))
     replace H:=H.callX hE .h3 ho24
     obtain ⟨v26,hv26,hm26⟩:=at_strs [[116,104,105,114,116,101,101,110,32,98,121,116,101],[65],[10]] (m:=3) rfl hr24 hs24
     have hml26:v26.length≤20:=by simp only [List.mem_cons,List.mem_nil_iff,or_false] at hm26;rcases hm26 with rfl | rfl | rfl<;>decide
     refine zIa O O (zL1 H O .h hv26 (vZ O (zSs H O O O .h1 O fun S hE H=>vl (z_ (ze (zR (zLn (vs:=[_,_,_,_,_,_,_]) H O .h1 O (zSs H O O O .h2 O fun S hE H=>zN (zi (⟨trivial,_,(zW (ws:=[_,_,_,_,_,_,_]) H O .h2 O zM),?_⟩))))))))))
     exact k ⟨⟨_,_⟩,⟨_,_⟩,_,_,_⟩ _ _ H.qx (H.get .h3) (by omega) (by omega) (by first | omega | (simp only [List.length_append,List.length_cons,List.length_nil];omega) | decide)
    ·replace h42:=bT h42
     refine zj O (zU (za (zS (cs:=[_,_]) H O O fun b43 S hb43 hE H=>?_)))
     replace hy:=hy.mono hE
     refine zt O (vK O (ct121 (H.get .h3) hy hy_rb hn (by omega) (by omega) (by omega) (by omega) fun r45 p45 S hE ho45 hp45 hq45 hr45 hs45=>?_))
     replace H:=H.callX hE .h3 ho45
     obtain ⟨v47,hv47,hm47⟩:=at_ints [-1,241] (m:=2) rfl hr45 hs45
     refine zIa O O (zL1 H O .h hv47 (vZ O (zSs H O O O .h1 O fun S hE H=>vl (z_ (ze (zR (zLn (vs:=[_,_,_,_,_,_,_]) H O .h1 O (zSs H O O O .h2 O fun S hE H=>zN (zi (⟨trivial,_,(zW (ws:=[_,_,_,_,_,_,_]) H O .h2 O zM),?_⟩))))))))))
     exact k ⟨⟨_,_⟩,⟨_,_⟩,_,_,_⟩ _ _ H.qx (H.get .h3) (by omega) (by omega) (by first | omega | (simp only [List.length_append,List.length_cons,List.length_nil];omega) | decide)
   ·replace h34:=bT h34
    refine zj O (zU (za (zS (cs:=[_,_,_]) H O O fun b35 S hb35 hE H=>?_)))
    replace hy:=hy.mono hE
    refine zt O (vK O (ct121 (H.get .h3) hy hy_rb hn (by omega) (by omega) (by omega) (by omega) fun r37 p37 S hE ho37 hp37 hq37 hr37 hs37=>?_))
    replace H:=H.callX hE .h3 ho37
    obtain ⟨v39,hv39,hm39⟩:=at_ints [-1,241,240] (m:=3) rfl hr37 hs37
    refine zIa O O (zL1 H O .h hv39 (vZ O (zSs H O O O .h1 O fun S hE H=>vl (z_ (ze (zR (zLn (vs:=[_,_,_,_,_,_,_]) H O .h1 O (zSs H O O O .h2 O fun S hE H=>zN (zi (⟨trivial,_,(zW (ws:=[_,_,_,_,_,_,_]) H O .h2 O zM),?_⟩))))))))))
    exact k ⟨⟨_,_⟩,⟨_,_⟩,_,_,_⟩ _ _ H.qx (H.get .h3) (by omega) (by omega) (by first | omega | (simp only [List.length_append,List.length_cons,List.length_nil];omega) | decide)
  ·replace h29:=bT h29
   refine zj O (zU (zt O (vK O (ct124 (H.get .h2) hy hy_rb hn (by omega) (by omega) (by omega) (by omega) fun e31 p31 S hE ho31 hp31 hq31=>?_))))
   replace H:=H.callX hE .h2 ho31
   refine vZ O (zSs H O O O .h O fun S hE H=>vl (z_ (ze (zR (zLn (vs:=[_,_,_,_,_,_,_]) H O .h O (zSs H O O O .h1 O fun S hE H=>zN (zi (⟨trivial,_,(zW (ws:=[_,_,_,_,_,_,_]) H O .h1 O zM),?_⟩))))))))
   exact k ⟨⟨_,_⟩,⟨_,_⟩,_,_,_⟩ _ _ H.qx (H.get .h2) (by omega) (by omega) (by first | omega | (simp only [List.length_append,List.length_cons,List.length_nil];omega) | decide)
theorem ct54 (ho:S0 rb=some ⟨Cs [.slice a n cap,int p] 142,true⟩) (hy:By S0 a n) (hy_rb:OffY a n rb) (hn:n≤2000) (p0:0≤p) (p1:p+60≤1000000) (h2:Sl S0 2 a2 (zV b.es)) (h3:Sl S0 7 a3 (z5 b.cs)) (h2_rb:∀ b off,a2=some ⟨b,off,none⟩→b≠rb) (h3_rb:∀ b off,a3=some ⟨b,off,none⟩→b≠rb) (hc2:b.es.length≤c2) (hz:BoxZ b) (k:∀ (s:Seg) (p':Int) S',Ext [rb] S0 S'→S' rb=some ⟨Cs [.slice a n cap,int p'] 142,true⟩→p≤p'→p'≤p+60→(s.dt.length≤20)→K (s.v) S') :
  zC 54 #[vN rb 0,.agg #[.slice a1 b.rs.length c1,.slice a2 b.es.length c2,.slice a3 b.cs.length c3]] S0 K:=by
 refine zGo (sf:=s54) Tryz.func54 ?_
 have H:=Loc.start1 ho
 have q2:=h2
 have q2_rb:=h2_rb
 have q3:=h3
 have q3_rb:=h3_rb
 obtain ⟨z1,z2,z3,z4⟩:=id hz
 refine zR (zBx H O O fun b3 S hb3 hE H=>?_)
 have hy_b3:=hy.ne hb3
 replace hy:=hy.mono hE
 replace q3:=q3.mono hE
 refine zAl H O fun b4 S hb4 hE H=>?_
 have hy_b4:=hy.ne hb4
 replace hy:=hy.mono hE
 replace q3:=q3.mono hE
 refine v4 (zt O (vK O (ct127 (H.get .h2) hy hy_rb hn (by omega) (by omega)  fun e8 p8 S hE ho8 hp8 hq8=>?_)))
 replace H:=H.callX hE .h2 ho8
 replace hy:=hy.qy hE hy_rb
 replace q3:=q3.qy hE q3_rb
 refine zt O (vK O (ct128 (H.get .h2) hy hy_rb hn (by omega) (by omega)  fun e10 p10 S hE ho10 hp10 hq10=>?_))
 replace H:=H.callX hE .h2 ho10
 replace hy:=hy.qy hE hy_rb
 replace q3:=q3.qy hE q3_rb
 refine zt O (vK O (ct121 (H.get .h2) hy hy_rb hn (by omega) (by omega) (by omega) (by omega) fun r12 p12 S hE ho12 hp12 hq12 hr12 hs12=>?_))
 replace H:=H.callX hE .h2 ho12
 replace hy:=hy.qy hE hy_rb
 replace q3:=q3.qy hE q3_rb
 refine zt O (vK O (ct126 (H.get .h2) hy hy_rb hn (by omega) (by omega)  fun s14 p14 S hE ho14 hp14 hq14 hl14=>?_))
 replace H:=H.callX hE .h2 ho14
 replace hy:=hy.qy hE hy_rb
 replace q3:=q3.qy hE q3_rb
 refine za (vv (cs:=[_,_,_,_,_,_,_]) O O (zAl H O fun b5 S hb5 hE H=>?_))
 have hy_b5:=hy.ne hb5
 replace hy:=hy.mono hE
 have q3_b5:=q3.ne hb5
 replace q3:=q3.mono hE
 refine zSs H O O O .h O fun S hE H=>?_
 replace hy:=hy.qy hE hy_b5
 replace q3:=q3.qy hE q3_b5
 refine zN ?_
 refine wpS_cut (fun E S=>∃ (u0:Int) (u1:Int) (u2:Int) (u3:Int) (u4:Int) (u5:Int) (ud:Bs) (q:Int),E=Env.lst [(0,vN rb 0),(4,vN b4 0),(5,vN b5 0)]∧Loc [rb] S0 S [(b5,Cs [int u0,int u1,int u2,int u3,int u4,int u5,str ud] 33),(b4,Cs [int 0,int 0,int 0,int 0,int 0,int 0,str []] 33),(rb,Cs [.slice a n cap,int q] 142)]∧(ud.length≤20)∧(p≤q)∧(q≤p+60)∧(By S a n)∧(OffY a n b5)∧(OffY a n b4)∧(OffY a n rb)) ?_ ?_
 ·skip
  refine zR (vZ O (zL1 H O .h2 O (zLl O (za (W_gtr O O fun t19 h19=>zt O ?_)))))
  rcases t19 with _|_
  ·replace h19:=bF h19
   refine zL O (zL O (zL O (vw O O O O (zN (zr O (zv (ze ?_)))))))
   refine ⟨_,?le,_,_,_,_,_,_,_,_,O,(H.sub (.cons_cons _ (.cons_cons _ (.cons _ (.cons_cons _ .slnil))))),(by first | omega | assumption),(by omega),(by omega),hy,hy_b5,hy_b4,hy_rb⟩
   case le=>exact Env.qle ⟨O,O,O,⟨⟩⟩
  ·replace h19:=bT h19
   obtain ⟨x0,hx0⟩:∃ x,b.cs[0]? = some x:=⟨b.cs[0]'(by omega),by simp⟩
   obtain ⟨p3,f3,rfl,_⟩:=q3.row 0 _ (vp hx0)
   refine zh O (vP O (zh O (zP O (ct121 (H.get .h3) hy hy_rb hn (by omega) (by omega) (by omega) (by omega) fun r22 p22 S hE ho22 hp22 hq22 hr22 hs22=>?_))))
   replace H:=H.callX hE .h3 ho22
   replace hy:=hy.qy hE hy_rb
   replace q3:=q3.qy hE q3_rb
   refine zh O (W_gtr O O fun t23 h23=>vw O O O O (zN ?_))
   rcases t23 with _|_
   ·replace h23:=bF h23
    refine zr O (zv (ze ?_))
    refine ⟨_,?le,_,_,_,_,_,_,_,_,O,(H.sub (.cons_cons _ (.cons_cons _ (.cons _ (.cons_cons _ .slnil))))),(by first | omega | assumption),(by omega),(by omega),hy,hy_b5,hy_b4,hy_rb⟩
    case le=>exact Env.qle ⟨O,O,O,⟨⟩⟩
   ·replace h23:=bT h23
    refine zj O ?_
    refine wpS_cut (fun E S=>∃ (b6:Nat) (w3:Option Addr) (u0:Int) (u1:Int) (u2:Int) (u3:Int) (u4:Int) (u5:Int) (ud:Bs) (v0:Int) (v1:Int) (v2:Int) (v3:Int) (vk:Bs) (vh:Bs) (vn:Bs) (q:Int),E=Env.lst [(0,vN rb 0),(3,vN b3 0),(4,vN b4 0),(5,vN b5 0),(6,vN b6 0)]∧Loc [rb] S0 S [(b6,Cs [int v0,int v1,int v2,int v3,str vk,str vh,str vn] 49),(b5,Cs [int u0,int u1,int u2,int u3,int u4,int u5,str ud] 33),(b4,Cs [int 0,int 0,int 0,int 0,int 0,int 0,str []] 33),(b3,Cs [.slice a1 b.rs.length c1,.slice a2 b.es.length c2,.slice w3 b.cs.length c3] 29),(rb,Cs [.slice a n cap,int q] 142)]∧(vk.length≤1048576)∧(vh.length≤1048576)∧(vn.length≤1048576)∧(ud.length≤20)∧(p≤q)∧(q≤p+47)∧(By S a n)∧(OffY a n b6)∧(OffY a n b5)∧(OffY a n b4)∧(OffY a n b3)∧(OffY a n rb)) ?_ ?_
    ·skip
     refine zY [rb] (zLf 0 O O O (ve 1 O O (fun S' hS'=>zA fun K hK=>zE O (zB (hS' O) (nin1 (by rintro rfl;exact absurd H.nodup (by simp))) (H.cell .h2 O)) hK) (vC 2 O O O (zLf 3 O O O (ve 4 O O (fun S' hS'=>zA fun K hK=>zE O (zB (hS' O) (nin1 (by rintro rfl;exact absurd H.nodup (by simp))) (H.cell .h2 O)) hK) (vF 5 O O (fun _ _ hK=>W_lenL O hK) (wpD_two 6 9 (by kernel_rfl) O O O O ?_ ?_)))))))
     ·skip
      refine zn (zP O (ct121 (H.get .h3) hy hy_rb hn (by omega) (by omega) (by omega) (by omega) fun r31 p31 S hE ho31 hp31 hq31 hr31 hs31=>?_))
      replace H:=H.callX hE .h3 ho31
      replace hy:=hy.qy hE hy_rb
      replace q3:=q3.qy hE q3_rb
      obtain ⟨x,hx⟩:∃ x,b.cs[r31.toNat]? = some x:=⟨b.cs[r31.toNat]'(by omega),by simp⟩
      have hzx:=z4 x (List.mem_of_getElem? hx)
      refine ⟨fun _=>hE.ext,vF 7 O O (fun _ _ hK=>vq O O (by omega) (by omega) hK) (ve 8 O O (fun S' hS'=>zA fun K hK=>zO (vs:=[_,_,_,_,_,_,_]) O (zF (hS' O) (nin1 (q3_rb _ _ O)) (q3.at (vp hx))) hK) (zy 9 (by kernel_rfl) O O (zn (W_alloc H O fun b6 S hb6 hE H=>?_))))⟩
      have hy_b6:=hy.ne hb6
      replace hy:=hy.mono hE
      refine ⟨fun _=>hE.up.ext,zy 10 (by kernel_rfl) O O (zn (zSt H O O O .h O fun S hE H=>?_))⟩
      replace hy:=hy.qy hE hy_b6
      refine zLd (zT (ze ?_))
      refine ⟨_,?le,b6,_,_,_,_,_,_,_,_,_,_,_,_,_,_,_,_,O,H,(by first | omega | assumption),(by first | omega | assumption),(by first | omega | assumption),(by first | omega | assumption),(by omega),(by omega),hy,hy_b6,hy_b5,hy_b4,hy_b3,hy_rb⟩
      case le=>exact Env.qle ⟨O,O,O,O,O,⟨⟩⟩
     ·skip
      refine zn (W_alloc H O fun b6 S hb6 hE H=>?_)
      have hy_b6:=hy.ne hb6
      replace hy:=hy.mono hE
      replace q3:=q3.mono hE
      refine ⟨fun _=>hE.up.ext,zy 6 (by kernel_rfl) O O (zn (zP O (ct121 (H.get .h4) hy hy_rb hn (by omega) (by omega) (by omega) (by omega) fun r31 p31 S hE ho31 hp31 hq31 hr31 hs31=>?_)))⟩
      replace H:=H.callX hE .h4 ho31
      replace hy:=hy.qy hE hy_rb
      replace q3:=q3.qy hE q3_rb
      obtain ⟨x,hx⟩:∃ x,b.cs[r31.toNat]? = some x:=⟨b.cs[r31.toNat]'(by omega),by simp⟩
      have hzx:=z4 x (List.mem_of_getElem? hx)
      refine ⟨fun _=>hE.ext,vF 7 O O (fun _ _ hK=>vq O O (by omega) (by omega) hK) (ve 8 O O (fun S' hS'=>zA fun K hK=>zO (vs:=[_,_,_,_,_,_,_]) O (zF (hS' O) (nin1 (q3_rb _ _ O)) (q3.at (vp hx))) hK) (zy 10 (by kernel_rfl) O O (zn (zSt H O O O .h O fun S hE H=>?_))))⟩
      replace hy:=hy.qy hE hy_b6
      refine zLd (zT (ze ?_))
      refine ⟨_,?le,b6,_,_,_,_,_,_,_,_,_,_,_,_,_,_,_,_,O,H,(by first | omega | assumption),(by first | omega | assumption),(by first | omega | assumption),(by first | omega | assumption),(by omega),(by omega),hy,hy_b6,hy_b5,hy_b4,hy_b3,hy_rb⟩
      case le=>exact Env.qle ⟨O,O,O,O,O,⟨⟩⟩
    ·skip
     rintro _ S ⟨b6,w3,u0,u1,u2,u3,u4,u5,ud,v0,v1,v2,v3,vk,vh,vn,q,rfl,H,lk,lh,ln,ld,hq0,hq1,hy,hy_b6,hy_b5,hy_b4,hy_b3,hy_rb⟩
     refine zR (vZ O (zLn (vs:=[_,_]) H O .h O (vZ O (zSs H O O O .h1 O fun S hE H=>?_))))
     replace hy:=hy.qy hE hy_b5
     refine v4 (vZ O (zLn (vs:=[_,_]) H O .h O (vZ O (zSs H O O O .h1 O fun S hE H=>?_))))
     replace hy:=hy.qy hE hy_b5
     refine zN ?_
     refine wpS_cut (fun E S=>∃ (b6:Nat) (w3:Option Addr) (u0:Int) (u1:Int) (u2:Int) (u3:Int) (u4:Int) (u5:Int) (ud:Bs) (v0:Int) (v1:Int) (v2:Int) (v3:Int) (vk:Bs) (vh:Bs) (vn:Bs) (q:Int),E=Env.lst [(0,vN rb 0),(3,vN b3 0),(4,vN b4 0),(5,vN b5 0),(6,vN b6 0)]∧Loc [rb] S0 S [(b6,Cs [int v0,int v1,int v2,int v3,str vk,str vh,str vn] 49),(b5,Cs [int u0,int u1,int u2,int u3,int u4,int u5,str ud] 33),(b4,Cs [int 0,int 0,int 0,int 0,int 0,int 0,str []] 33),(b3,Cs [.slice a1 b.rs.length c1,.slice a2 b.es.length c2,.slice w3 b.cs.length c3] 29),(rb,Cs [.slice a n cap,int q] 142)]∧(vk.length≤1048576)∧(vh.length≤1048576)∧(vn.length≤1048576)∧(ud.length≤20)∧(p≤q)∧(q≤p+48)∧(By S a n)∧(OffY a n b6)∧(OffY a n b5)∧(OffY a n b4)∧(OffY a n b3)∧(OffY a n rb)) ?_ ?_
     ·skip
      refine zY [rb] (zLf 0 O O O (ve 1 O O (fun S' hS'=>zA fun K hK=>zE O (zB (hS' O) (nin1 (by rintro rfl;exact absurd H.nodup (by simp))) (H.cell .h O)) hK) (vF 2 O O (fun _ _ hK=>vI O hK) (vC 3 O O O (zy 4 (by kernel_rfl) O O (zn (zP O (ct121 (H.get .h4) hy hy_rb hn (by omega) (by omega) (by omega) (by omega) fun r44 p44 S hE ho44 hp44 hq44 hr44 hs44=>?_))))))))
      replace H:=H.callX hE .h4 ho44
      replace hy:=hy.qy hE hy_rb
      refine ⟨fun _=>hE.ext,vF 5 O O (fun _ _ hK=>W_sub O O (by omega) (by omega) hK) (vF 6 O O (fun _ _ hK=>W_max2 O O hK) (zLf 7 O O O (zy 8 (by kernel_rfl) O O (zn (zSt H O O O .h1 O fun S hE H=>?_)))))⟩
      replace hy:=hy.qy hE hy_b5
      refine zLd (zT (ze ?_))
      refine ⟨_,?le,b6,_,_,_,_,_,_,_,_,_,_,_,_,_,_,_,_,O,H,(by first | omega | assumption),(by first | omega | assumption),(by first | omega | assumption),(by first | omega | assumption),(by omega),(by omega),hy,hy_b6,hy_b5,hy_b4,hy_b3,hy_rb⟩
      case le=>exact Env.qle ⟨O,O,O,O,O,⟨⟩⟩
     ·skip
      rintro _ S ⟨b6,w3,u0,u1,u2,u3,u4,u5,ud,v0,v1,v2,v3,vk,vh,vn,q,rfl,H,lk,lh,ln,ld,hq0,hq1,hy,hy_b6,hy_b5,hy_b4,hy_b3,hy_rb⟩
      refine zR (zt O (vZ O (zL1 H O .h O (za (vI O (zAd O O (vK O (ct121 (H.get .h4) hy hy_rb hn (by omega) (by omega) (by omega) (by omega) fun r53 p53 S hE ho53 hp53 hq53 hr53 hs53=>?_))))))))
      replace H:=H.callX hE .h4 ho53
      replace hy:=hy.qy hE hy_rb
      refine vZ O (zSs H O O O .h1 O fun S hE H=>?_)
      replace hy:=hy.qy hE hy_b5
      refine v4 (zt O (vK O (ct52 (H.get .h4) hy hy_rb hn (by omega) (by omega) (by omega) (by omega) fun t56 p56 S hE ho56 hp56 hq56 h56=>?_)))
      replace H:=H.callX hE .h4 ho56
      replace hy:=hy.qy hE hy_rb
      refine zN ?_
      rcases t56 with _|_
      ·replace h56:=bF h56
       refine zr O (zv (ze ?_))
       refine ⟨_,?le,_,_,_,_,_,_,_,_,O,(H.sub (.cons _ (.cons_cons _ (.cons_cons _ (.cons _ (.cons_cons _ .slnil)))))),(by first | omega | assumption),(by omega),(by omega),hy,hy_b5,hy_b4,hy_rb⟩
       case le=>exact Env.qle ⟨O,O,O,⟨⟩⟩
      ·replace h56:=bT h56
       refine zj O (zY [rb] (zLf 0 O O O (ve 1 O O (fun S' hS'=>zA fun K hK=>zE O (zB (hS' O) (nin1 (by rintro rfl;exact absurd H.nodup (by simp))) (H.cell .h O)) hK) (vF 2 O O (fun _ _ hK=>vI O hK) (vF 3 O O (fun _ _ hK=>W_add O O (by omega) (by omega) hK) (vC 4 O O O (zy 5 (by kernel_rfl) O O (zn (zP O (ct121 (H.get .h4) hy hy_rb hn (by omega) (by omega) (by omega) (by omega) fun r62 p62 S hE ho62 hp62 hq62 hr62 hs62=>?_))))))))))
       replace H:=H.callX hE .h4 ho62
       replace hy:=hy.qy hE hy_rb
       refine ⟨fun _=>hE.ext,vF 6 O O (fun _ _ hK=>W_add O O (by omega) (by omega) hK) (zLf 7 O O O (zy 8 (by kernel_rfl) O O (zn (zSt H O O O .h1 O fun S hE H=>?_))))⟩
       replace hy:=hy.qy hE hy_b5
       refine zLd (zT (ze ?_))
       refine ⟨_,?le,_,_,_,_,_,_,_,_,O,(H.sub (.cons _ (.cons_cons _ (.cons_cons _ (.cons _ (.cons_cons _ .slnil)))))),(by first | omega | assumption),(by omega),(by omega),hy,hy_b5,hy_b4,hy_rb⟩
       case le=>exact Env.qle ⟨O,O,O,⟨⟩⟩
 ·skip
  rintro _ S ⟨u0,u1,u2,u3,u4,u5,ud,q,rfl,H,ld,hq0,hq1,hy,hy_b5,hy_b4,hy_rb⟩
  refine zR (zLn (vs:=[_,_,_,_,_,_,_]) H O .h O (zSs H O O O .h1 O fun S hE H=>zN (zi (⟨trivial,_,(zW (ws:=[_,_,_,_,_,_,_]) H O .h1 O zM),?_⟩))))
  exact k ⟨⟨_,_⟩,⟨_,_⟩,_,_,_⟩ _ _ H.qx (H.get .h2) (by omega) (by omega) (by first | omega | (simp only [List.length_append,List.length_cons,List.length_nil];omega) | decide)
theorem ct74 (ho:S0 rb=some ⟨Cs [.slice a n cap,int p] 142,true⟩) (hy:By S0 a n) (hy_rb:OffY a n rb) (hn:n≤2000) (p0:0≤p) (p1:p+60≤1000000) (h2:Sl S0 2 a2 (zV b.es)) (h3:Sl S0 7 a3 (z5 b.cs)) (h2_rb:∀ b off,a2=some ⟨b,off,none⟩→b≠rb) (h3_rb:∀ b off,a3=some ⟨b,off,none⟩→b≠rb) (hc2:b.es.length≤c2) (hz:BoxZ b) (k:∀ (s:Seg) (p':Int) S',Ext [rb] S0 S'→S' rb=some ⟨Cs [.slice a n cap,int p'] 142,true⟩→p≤p'→p'≤p+60→(s.dt.length≤20)→K (s.v) S') :
  zC 74 #[vN rb 0,.agg #[.slice a1 b.rs.length c1,.slice a2 b.es.length c2,.slice a3 b.cs.length c3]] S0 K:=by
 refine zGo (sf:=s74) Tryz.func74 ?_
 have H:=Loc.start1 ho
 have q2:=h2
 have q2_rb:=h2_rb
 have q3:=h3
 have q3_rb:=h3_rb
 obtain ⟨z1,z2,z3,z4⟩:=id hz
 refine zR (zBx H O O fun b3 S hb3 hE H=>?_)
 have hy_b3:=hy.ne hb3
 replace hy:=hy.mono hE
 replace q2:=q2.mono hE
 replace q3:=q3.mono hE
 refine zAl H O fun b4 S hb4 hE H=>?_
 have hy_b4:=hy.ne hb4
 replace hy:=hy.mono hE
 replace q2:=q2.mono hE
 replace q3:=q3.mono hE
 refine v4 (zt O (vK O (ct128 (H.get .h2) hy hy_rb hn (by omega) (by omega)  fun e8 p8 S hE ho8 hp8 hq8=>?_)))
 replace H:=H.callX hE .h2 ho8
 replace hy:=hy.qy hE hy_rb
 replace q2:=q2.qy hE q2_rb
 replace q3:=q3.qy hE q3_rb
 refine zt O (vK O (ct121 (H.get .h2) hy hy_rb hn (by omega) (by omega) (by omega) (by omega) fun r10 p10 S hE ho10 hp10 hq10 hr10 hs10=>?_))
 replace H:=H.callX hE .h2 ho10
 replace hy:=hy.qy hE hy_rb
 replace q2:=q2.qy hE q2_rb
 replace q3:=q3.qy hE q3_rb
 refine zAd O O (za (vv (cs:=[_,_]) O O (zt O (vK O (ct121 (H.get .h2) hy hy_rb hn (by omega) (by omega) (by omega) (by omega) fun r14 p14 S hE ho14 hp14 hq14 hr14 hs14=>?_)))))
 replace H:=H.callX hE .h2 ho14
 replace hy:=hy.qy hE hy_rb
 replace q2:=q2.qy hE q2_rb
 replace q3:=q3.qy hE q3_rb
 refine zt O (vK O (ct126 (H.get .h2) hy hy_rb hn (by omega) (by omega)  fun s16 p16 S hE ho16 hp16 hq16 hl16=>?_))
 replace H:=H.callX hE .h2 ho16
 replace hy:=hy.qy hE hy_rb
 replace q2:=q2.qy hE q2_rb
 replace q3:=q3.qy hE q3_rb
 refine za (vv (cs:=[_,_,_,_,_,_,_]) O O (zAl H O fun b5 S hb5 hE H=>?_))
 have hy_b5:=hy.ne hb5
 replace hy:=hy.mono hE
 have q2_b5:=q2.ne hb5
 replace q2:=q2.mono hE
 have q3_b5:=q3.ne hb5
 replace q3:=q3.mono hE
 refine zSs H O O O .h O fun S hE H=>?_
 replace hy:=hy.qy hE hy_b5
 replace q2:=q2.qy hE q2_b5
 replace q3:=q3.qy hE q3_b5
 refine zN ?_
 refine wpS_cut (fun E S=>∃ (u0:Int) (u1:Int) (u2:Int) (u3:Int) (u4:Int) (u5:Int) (ud:Bs) (q:Int),E=Env.lst [(0,vN rb 0),(4,vN b4 0),(5,vN b5 0)]∧Loc [rb] S0 S [(b5,Cs [int u0,int u1,int u2,int u3,int u4,int u5,str ud] 33),(b4,Cs [int 0,int 0,int 0,int 0,int 0,int 0,str []] 33),(rb,Cs [.slice a n cap,int q] 142)]∧(ud.length≤20)∧(p≤q)∧(q≤p+60)∧(By S a n)∧(OffY a n b5)∧(OffY a n b4)∧(OffY a n rb)) ?_ ?_
 ·skip
  refine zR (vZ O (zL1 H O .h2 O (zLl O (za (W_gtr O O fun t21 h21=>zt O ?_)))))
  rcases t21 with _|_
  ·replace h21:=bF h21
   refine zL O (zL O (zL O (vw O O O O (zN (zr O (zv (ze ?_)))))))
   refine ⟨_,?le,_,_,_,_,_,_,_,_,O,(H.sub (.cons_cons _ (.cons_cons _ (.cons _ (.cons_cons _ .slnil))))),(by first | omega | assumption),(by omega),(by omega),hy,hy_b5,hy_b4,hy_rb⟩
   case le=>exact Env.qle ⟨O,O,O,⟨⟩⟩
  ·replace h21:=bT h21
   obtain ⟨x0,hx0⟩:∃ x,b.cs[0]? = some x:=⟨b.cs[0]'(by omega),by simp⟩
   obtain ⟨p3,f3,rfl,_⟩:=q3.row 0 _ (vp hx0)
   refine zh O (vP O (zh O (zP O (ct121 (H.get .h3) hy hy_rb hn (by omega) (by omega) (by omega) (by omega) fun r24 p24 S hE ho24 hp24 hq24 hr24 hs24=>?_))))
   replace H:=H.callX hE .h3 ho24
   replace hy:=hy.qy hE hy_rb
   replace q2:=q2.qy hE q2_rb
   replace q3:=q3.qy hE q3_rb
   refine zh O (W_gtr O O fun t25 h25=>vw O O O O (zN ?_))
   rcases t25 with _|_
   ·replace h25:=bF h25
    refine zr O (zv (ze ?_))
    refine ⟨_,?le,_,_,_,_,_,_,_,_,O,(H.sub (.cons_cons _ (.cons_cons _ (.cons _ (.cons_cons _ .slnil))))),(by first | omega | assumption),(by omega),(by omega),hy,hy_b5,hy_b4,hy_rb⟩
    case le=>exact Env.qle ⟨O,O,O,⟨⟩⟩
   ·replace h25:=bT h25
    refine zj O ?_
    refine wpS_cut (fun E S=>∃ (b6:Nat) (w3:Option Addr) (u0:Int) (u1:Int) (u2:Int) (u3:Int) (u4:Int) (u5:Int) (ud:Bs) (v0:Int) (v1:Int) (v2:Int) (v3:Int) (vk:Bs) (vh:Bs) (vn:Bs) (q:Int),E=Env.lst [(0,vN rb 0),(3,vN b3 0),(4,vN b4 0),(5,vN b5 0),(6,vN b6 0)]∧Loc [rb] S0 S [(b6,Cs [int v0,int v1,int v2,int v3,str vk,str vh,str vn] 49),(b5,Cs [int u0,int u1,int u2,int u3,int u4,int u5,str ud] 33),(b4,Cs [int 0,int 0,int 0,int 0,int 0,int 0,str []] 33),(b3,Cs [.slice a1 b.rs.length c1,.slice a2 b.es.length c2,.slice w3 b.cs.length c3] 29),(rb,Cs [.slice a n cap,int q] 142)]∧(vk.length≤1048576)∧(vh.length≤1048576)∧(vn.length≤1048576)∧(ud.length≤20)∧(p≤q)∧(q≤p+47)∧(By S a n)∧(OffY a n b6)∧(OffY a n b5)∧(OffY a n b4)∧(OffY a n b3)∧(OffY a n rb)∧(Sl S 2 a2 (zV b.es))) ?_ ?_
    ·skip
     refine zY [rb] (zLf 0 O O O (ve 1 O O (fun S' hS'=>zA fun K hK=>zE O (zB (hS' O) (nin1 (by rintro rfl;exact absurd H.nodup (by simp))) (H.cell .h2 O)) hK) (vC 2 O O O (zLf 3 O O O (ve 4 O O (fun S' hS'=>zA fun K hK=>zE O (zB (hS' O) (nin1 (by rintro rfl;exact absurd H.nodup (by simp))) (H.cell .h2 O)) hK) (vF 5 O O (fun _ _ hK=>W_lenL O hK) (wpD_two 6 9 (by kernel_rfl) O O O O ?_ ?_)))))))
     ·skip
      refine zn (zP O (ct121 (H.get .h3) hy hy_rb hn (by omega) (by omega) (by omega) (by omega) fun r33 p33 S hE ho33 hp33 hq33 hr33 hs33=>?_))
      replace H:=H.callX hE .h3 ho33
      replace hy:=hy.qy hE hy_rb
      replace q2:=q2.qy hE q2_rb
      replace q3:=q3.qy hE q3_rb
      obtain ⟨x,hx⟩:∃ x,b.cs[r33.toNat]? = some x:=⟨b.cs[r33.toNat]'(by omega),by simp⟩
      have hzx:=z4 x (List.mem_of_getElem? hx)
      refine ⟨fun _=>hE.ext,vF 7 O O (fun _ _ hK=>vq O O (by omega) (by omega) hK) (ve 8 O O (fun S' hS'=>zA fun K hK=>zO (vs:=[_,_,_,_,_,_,_]) O (zF (hS' O) (nin1 (q3_rb _ _ O)) (q3.at (vp hx))) hK) (zy 9 (by kernel_rfl) O O (zn (W_alloc H O fun b6 S hb6 hE H=>?_))))⟩
      have hy_b6:=hy.ne hb6
      replace hy:=hy.mono hE
      have q2_b6:=q2.ne hb6
      replace q2:=q2.mono hE
      refine ⟨fun _=>hE.up.ext,zy 10 (by kernel_rfl) O O (zn (zSt H O O O .h O fun S hE H=>?_))⟩
      replace hy:=hy.qy hE hy_b6
      replace q2:=q2.qy hE q2_b6
      refine zLd (zT (ze ?_))
      refine ⟨_,?le,b6,_,_,_,_,_,_,_,_,_,_,_,_,_,_,_,_,O,H,(by first | omega | assumption),(by first | omega | assumption),(by first | omega | assumption),(by first | omega | assumption),(by omega),(by omega),hy,hy_b6,hy_b5,hy_b4,hy_b3,hy_rb,q2⟩
      case le=>exact Env.qle ⟨O,O,O,O,O,⟨⟩⟩
     ·skip
      refine zn (W_alloc H O fun b6 S hb6 hE H=>?_)
      have hy_b6:=hy.ne hb6
      replace hy:=hy.mono hE
      have q2_b6:=q2.ne hb6
      replace q2:=q2.mono hE
      replace q3:=q3.mono hE
      refine ⟨fun _=>hE.up.ext,zy 6 (by kernel_rfl) O O (zn (zP O (ct121 (H.get .h4) hy hy_rb hn (by omega) (by omega) (by omega) (by omega) fun r33 p33 S hE ho33 hp33 hq33 hr33 hs33=>?_)))⟩
      replace H:=H.callX hE .h4 ho33
      replace hy:=hy.qy hE hy_rb
      replace q2:=q2.qy hE q2_rb
      replace q3:=q3.qy hE q3_rb
      obtain ⟨x,hx⟩:∃ x,b.cs[r33.toNat]? = some x:=⟨b.cs[r33.toNat]'(by omega),by simp⟩
      have hzx:=z4 x (List.mem_of_getElem? hx)
      refine ⟨fun _=>hE.ext,vF 7 O O (fun _ _ hK=>vq O O (by omega) (by omega) hK) (ve 8 O O (fun S' hS'=>zA fun K hK=>zO (vs:=[_,_,_,_,_,_,_]) O (zF (hS' O) (nin1 (q3_rb _ _ O)) (q3.at (vp hx))) hK) (zy 10 (by kernel_rfl) O O (zn (zSt H O O O .h O fun S hE H=>?_))))⟩
      replace hy:=hy.qy hE hy_b6
      replace q2:=q2.qy hE q2_b6
      refine zLd (zT (ze ?_))
      refine ⟨_,?le,b6,_,_,_,_,_,_,_,_,_,_,_,_,_,_,_,_,O,H,(by first | omega | assumption),(by first | omega | assumption),(by first | omega | assumption),(by first | omega | assumption),(by omega),(by omega),hy,hy_b6,hy_b5,hy_b4,hy_b3,hy_rb,q2⟩
      case le=>exact Env.qle ⟨O,O,O,O,O,⟨⟩⟩
    ·skip
     rintro _ S ⟨b6,w3,u0,u1,u2,u3,u4,u5,ud,v0,v1,v2,v3,vk,vh,vn,q,rfl,H,lk,lh,ln,ld,hq0,hq1,hy,hy_b6,hy_b5,hy_b4,hy_b3,hy_rb,q2⟩
     refine zR (vZ O (zLn (vs:=[_,_]) H O .h O (vZ O (zSs H O O O .h1 O fun S hE H=>?_))))
     replace hy:=hy.qy hE hy_b5
     replace q2:=q2.qy hE q2_b5
     refine v4 (vZ O (zLn (vs:=[_]) H O .h3 O (vZ O (zLn (vs:=[_,_]) H O .h O (vK O (ct138 (e:=⟨v0,v1⟩) q2 hc2 (by omega) fun S hE =>?_))))))
     replace H:=H.call hE
     replace hy:=hy.mono hE
     refine za (W_max2 O O (vZ O (vZ O (zSs H O O O .h1 O fun S hE H=>?_))))
     replace hy:=hy.qy hE hy_b5
     refine zN ?_
     refine wpS_cut (fun E S=>∃ (b6:Nat) (w3:Option Addr) (u0:Int) (u1:Int) (u2:Int) (u3:Int) (u4:Int) (u5:Int) (ud:Bs) (v0:Int) (v1:Int) (v2:Int) (v3:Int) (vk:Bs) (vh:Bs) (vn:Bs) (q:Int),E=Env.lst [(0,vN rb 0),(3,vN b3 0),(4,vN b4 0),(5,vN b5 0),(6,vN b6 0)]∧Loc [rb] S0 S [(b6,Cs [int v0,int v1,int v2,int v3,str vk,str vh,str vn] 49),(b5,Cs [int u0,int u1,int u2,int u3,int u4,int u5,str ud] 33),(b4,Cs [int 0,int 0,int 0,int 0,int 0,int 0,str []] 33),(b3,Cs [.slice a1 b.rs.length c1,.slice a2 b.es.length c2,.slice w3 b.cs.length c3] 29),(rb,Cs [.slice a n cap,int q] 142)]∧(vk.length≤1048576)∧(vh.length≤1048576)∧(vn.length≤1048576)∧(ud.length≤20)∧(p≤q)∧(q≤p+48)∧(By S a n)∧(OffY a n b6)∧(OffY a n b5)∧(OffY a n b4)∧(OffY a n b3)∧(OffY a n rb)) ?_ ?_
     ·skip
      refine zY [rb] (zLf 0 O O O (ve 1 O O (fun S' hS'=>zA fun K hK=>zE O (zB (hS' O) (nin1 (by rintro rfl;exact absurd H.nodup (by simp))) (H.cell .h O)) hK) (vF 2 O O (fun _ _ hK=>vI O hK) (vC 3 O O O (zy 4 (by kernel_rfl) O O (zn (zP O (ct121 (H.get .h4) hy hy_rb hn (by omega) (by omega) (by omega) (by omega) fun r51 p51 S hE ho51 hp51 hq51 hr51 hs51=>?_))))))))
      replace H:=H.callX hE .h4 ho51
      replace hy:=hy.qy hE hy_rb
      refine ⟨fun _=>hE.ext,vF 5 O O (fun _ _ hK=>W_sub O O (by omega) (by omega) hK) (vF 6 O O (fun _ _ hK=>W_max2 O O hK) (zLf 7 O O O (zy 8 (by kernel_rfl) O O (zn (zSt H O O O .h1 O fun S hE H=>?_)))))⟩
      replace hy:=hy.qy hE hy_b5
      refine zLd (zT (ze ?_))
      refine ⟨_,?le,b6,_,_,_,_,_,_,_,_,_,_,_,_,_,_,_,_,O,H,(by first | omega | assumption),(by first | omega | assumption),(by first | omega | assumption),(by first | omega | assumption),(by omega),(by omega),hy,hy_b6,hy_b5,hy_b4,hy_b3,hy_rb⟩
      case le=>exact Env.qle ⟨O,O,O,O,O,⟨⟩⟩
     ·skip
      rintro _ S ⟨b6,w3,u0,u1,u2,u3,u4,u5,ud,v0,v1,v2,v3,vk,vh,vn,q,rfl,H,lk,lh,ln,ld,hq0,hq1,hy,hy_b6,hy_b5,hy_b4,hy_b3,hy_rb⟩
      refine wpS_cut (fun E S=>∃ (b6:Nat) (w3:Option Addr) (u0:Int) (u1:Int) (u2:Int) (u3:Int) (u4:Int) (u5:Int) (ud:Bs) (v0:Int) (v1:Int) (v2:Int) (v3:Int) (vk:Bs) (vh:Bs) (vn:Bs) (q:Int),E=Env.lst [(0,vN rb 0),(3,vN b3 0),(4,vN b4 0),(5,vN b5 0),(6,vN b6 0)]∧Loc [rb] S0 S [(b6,Cs [int v0,int v1,int v2,int v3,str vk,str vh,str vn] 49),(b5,Cs [int u0,int u1,int u2,int u3,int u4,int u5,str ud] 33),(b4,Cs [int 0,int 0,int 0,int 0,int 0,int 0,str []] 33),(b3,Cs [.slice a1 b.rs.length c1,.slice a2 b.es.length c2,.slice w3 b.cs.length c3] 29),(rb,Cs [.slice a n cap,int q] 142)]∧(vk.length≤1048576)∧(vh.length≤1048576)∧(vn.length≤1048576)∧(ud.length≤20)∧(p≤q)∧(q≤p+50)∧(By S a n)∧(OffY a n b6)∧(OffY a n b5)∧(OffY a n b4)∧(OffY a n b3)∧(OffY a n rb)) ?_ ?_
      ·skip
       refine zR (zt O (vK O (ct121 (H.get .h4) hy hy_rb hn (by omega) (by omega) (by omega) (by omega) fun r56 p56 S hE ho56 hp56 hq56 hr56 hs56=>?_)))
       replace H:=H.callX hE .h4 ho56
       replace hy:=hy.qy hE hy_rb
       refine za (vW O O fun t57 h57=>zN ?_)
       rcases t57 with _|_
       ·replace h57:=bF h57
        refine zr O (zv (ze ?_))
        refine ⟨_,?le,b6,_,_,_,_,_,_,_,_,_,_,_,_,_,_,_,_,O,H,(by first | omega | assumption),(by first | omega | assumption),(by first | omega | assumption),(by first | omega | assumption),(by omega),(by omega),hy,hy_b6,hy_b5,hy_b4,hy_b3,hy_rb⟩
        case le=>exact Env.qle ⟨O,O,O,O,O,⟨⟩⟩
       ·replace h57:=bT h57
        refine zj O (zR (za (zS (cs:=[_,_,_,_,_]) H O O fun b58 S hb58 hE H=>?_)))
        replace hy:=hy.mono hE
        refine zt O (vK O (ct121 (H.get .h5) hy hy_rb hn (by omega) (by omega) (by omega) (by omega) fun r60 p60 S hE ho60 hp60 hq60 hr60 hs60=>?_))
        replace H:=H.callX hE .h5 ho60
        replace hy:=hy.qy hE hy_rb
        obtain ⟨v62,hv62,hm62⟩:=at_strs [[112,111,114,116,32,53,48,32,53,48,48,59],[112,111,114,116,32,53,48,32,53,48,49,59],[112,111,114,116,32,53,48,32,53,48,50,59],[112,111,114,116,32,53,48,32,53,48,57,59],[111,107,59]] (m:=5) rfl hr60 hs60
        have hml62:v62.length≤20:=by simp only [List.mem_cons,List.mem_nil_iff,or_false] at hm62;rcases hm62 with rfl | rfl | rfl | rfl | rfl<;>decide
        refine zIa O O (zL1 H O .h hv62 (vZ O (zSs H O O O .h2 O fun S hE H=>?_)))
        replace hy:=hy.qy hE hy_b5
        refine zN (zU (vZ O (zL1 H O .h1 O (za (vI O (vZ O (zSs H O O O .h2 O fun S hE H=>?_)))))))
        replace hy:=hy.qy hE hy_b5
        refine zN ?_
        refine ⟨_,?le,b6,_,_,_,_,_,_,_,_,_,_,_,_,_,_,_,_,O,(H.sub (.cons _ (.cons_cons _ (.cons_cons _ (.cons_cons _ (.cons_cons _ (.cons_cons _ .slnil))))))),(by first | omega | assumption),(by first | omega | assumption),(by first | omega | assumption),(by first | omega | assumption),(by omega),(by omega),hy,hy_b6,hy_b5,hy_b4,hy_b3,hy_rb⟩
        case le=>exact Env.qle ⟨O,O,O,O,O,⟨⟩⟩
      ·skip
       rintro _ S ⟨b6,w3,u0,u1,u2,u3,u4,u5,ud,v0,v1,v2,v3,vk,vh,vn,q,rfl,H,lk,lh,ln,ld,hq0,hq1,hy,hy_b6,hy_b5,hy_b4,hy_b3,hy_rb⟩
       refine zR (zt O (vK O (ct52 (H.get .h4) hy hy_rb hn (by omega) (by omega) (by omega) (by omega) fun t69 p69 S hE ho69 hp69 hq69 h69=>?_)))
       replace H:=H.callX hE .h4 ho69
       replace hy:=hy.qy hE hy_rb
       refine zN ?_
       rcases t69 with _|_
       ·replace h69:=bF h69
        refine zr O (zv (ze ?_))
        refine ⟨_,?le,_,_,_,_,_,_,_,_,O,(H.sub (.cons _ (.cons_cons _ (.cons_cons _ (.cons _ (.cons_cons _ .slnil)))))),(by first | omega | assumption),(by omega),(by omega),hy,hy_b5,hy_b4,hy_rb⟩
        case le=>exact Env.qle ⟨O,O,O,⟨⟩⟩
       ·replace h69:=bT h69
        refine zj O (zY [rb] (zLf 0 O O O (ve 1 O O (fun S' hS'=>zA fun K hK=>zE O (zB (hS' O) (nin1 (by rintro rfl;exact absurd H.nodup (by simp))) (H.cell .h O)) hK) (vF 2 O O (fun _ _ hK=>vI O hK) (vF 3 O O (fun _ _ hK=>W_add O O (by omega) (by omega) hK) (vC 4 O O O (zy 5 (by kernel_rfl) O O (zn (zP O (ct121 (H.get .h4) hy hy_rb hn (by omega) (by omega) (by omega) (by omega) fun r75 p75 S hE ho75 hp75 hq75 hr75 hs75=>?_))))))))))
        replace H:=H.callX hE .h4 ho75
        replace hy:=hy.qy hE hy_rb
        refine ⟨fun _=>hE.ext,vF 6 O O (fun _ _ hK=>W_add O O (by omega) (by omega) hK) (zLf 7 O O O (zy 8 (by kernel_rfl) O O (zn (zSt H O O O .h1 O fun S hE H=>?_))))⟩
        replace hy:=hy.qy hE hy_b5
        refine zLd (zT (ze ?_))
        refine ⟨_,?le,_,_,_,_,_,_,_,_,O,(H.sub (.cons _ (.cons_cons _ (.cons_cons _ (.cons _ (.cons_cons _ .slnil)))))),(by first | omega | assumption),(by omega),(by omega),hy,hy_b5,hy_b4,hy_rb⟩
        case le=>exact Env.qle ⟨O,O,O,⟨⟩⟩
 ·skip
  rintro _ S ⟨u0,u1,u2,u3,u4,u5,ud,q,rfl,H,ld,hq0,hq1,hy,hy_b5,hy_b4,hy_rb⟩
  refine zR (zLn (vs:=[_,_,_,_,_,_,_]) H O .h O (zSs H O O O .h1 O fun S hE H=>zN (zi (⟨trivial,_,(zW (ws:=[_,_,_,_,_,_,_]) H O .h1 O zM),?_⟩))))
  exact k ⟨⟨_,_⟩,⟨_,_⟩,_,_,_⟩ _ _ H.qx (H.get .h2) (by omega) (by omega) (by first | omega | (simp only [List.length_append,List.length_cons,List.length_nil];omega) | decide)
theorem ct202 (ho:S0 rb=some ⟨Cs [.slice a n cap,int p] 142,true⟩) (hy:By S0 a n) (hy_rb:OffY a n rb) (hn:n≤2000) (p0:0≤p) (p1:p+12≤1000000) (m0:1≤m) (m1:m≤1000000) (k:∀ (x:Rule) (p':Int) S',Ext [rb] S0 S'→S' rb=some ⟨Cs [.slice a n cap,int p'] 142,true⟩→p≤p'→p'≤p+12→K (x.v) S') :
  zC 202 #[vN rb 0,int m] S0 K:=by
 refine zGo (sf:=s202) Tryz.func202 ?_
 have H:=Loc.start1 ho
 refine zR (zAl H O fun b4 S hb4 hE H=>?_)
 have hy_b4:=hy.ne hb4
 replace hy:=hy.mono hE
 refine v4 (zt O (vK O (ct121 (H.get .h1) hy hy_rb hn (by omega) (by omega) (by omega) (by omega) fun r7 p7 S hE ho7 hp7 hq7 hr7 hs7=>?_)))
 replace H:=H.callX hE .h1 ho7
 replace hy:=hy.qy hE hy_rb
 refine za (vW O O fun t8 h8=>zt O (vK O (ct121 (H.get .h1) hy hy_rb hn (by omega) (by omega) (by omega) (by omega) fun r10 p10 S hE ho10 hp10 hq10 hr10 hs10=>?_)))
 replace H:=H.callX hE .h1 ho10
 replace hy:=hy.qy hE hy_rb
 refine zAd O O (zt O (vK O (ct121 (H.get .h1) hy hy_rb hn (by omega) (by omega) (by omega) (by omega) fun r13 p13 S hE ho13 hp13 hq13 hr13 hs13=>?_)))
 replace H:=H.callX hE .h1 ho13
 replace hy:=hy.qy hE hy_rb
 refine zAd O O (za (zS (cs:=[_,_,_]) H O O fun b15 S hb15 hE H=>?_))
 replace hy:=hy.mono hE
 refine zt O (vK O (ct121 (H.get .h2) hy hy_rb hn (by omega) (by omega) (by omega) (by omega) fun r17 p17 S hE ho17 hp17 hq17 hr17 hs17=>?_))
 replace H:=H.callX hE .h2 ho17
 replace hy:=hy.qy hE hy_rb
 obtain ⟨v19,hv19,hm19⟩:=at_ints [1,21,7] (m:=3) rfl hr17 hs17
 refine zIa O O (zL1 H O .h hv19 (za (vv (cs:=[_,_,_,_,_,_,_]) O O (zAl H O fun b5 S hb5 hE H=>?_))))
 have hy_b5:=hy.ne hb5
 replace hy:=hy.mono hE
 refine zSs H O O O .h O fun S hE H=>?_
 replace hy:=hy.qy hE hy_b5
 refine zN ?_
 refine wpS_cut (fun E S=>∃ (ub:Bool) (u1:Int) (u2:Int) (u3:Int) (u4:Int) (u5:Int) (u6:Int) (q:Int),E=Env.lst [(0,vN rb 0),(1,int m),(4,vN b4 0),(5,vN b5 0)]∧Loc [rb] S0 S [(b5,Cs [.bool ub,int u1,int u2,int u3,int u4,int u5,int u6] 162),(b4,Cs [.bool false,int 0,int 0,int 0,int 0,int 0,int 0] 162),(rb,Cs [.slice a n cap,int q] 142)]∧(0≤u1)∧(u1≤1000)∧(0≤u3)∧(u3≤1000)∧(p≤q)∧(q≤p+5)∧(By S a n)∧(OffY a n b5)∧(OffY a n b4)∧(OffY a n rb)) ?_ ?_
 ·skip
  refine zY [rb] (zLf 0 O O O (ve 1 O O (fun S' hS'=>zA fun K hK=>zE O (zB (hS' O) (nin1 (by rintro rfl;exact absurd H.nodup (by simp))) (H.cell .h O)) hK) (vC 2 O O O (zy 3 (by kernel_rfl) O O (zn (zP O (ct121 (H.get .h3) hy hy_rb hn (by omega) (by omega) (by omega) (by omega) fun r24 p24 S hE ho24 hp24 hq24 hr24 hs24=>?_)))))))
  replace H:=H.callX hE .h3 ho24
  replace hy:=hy.qy hE hy_rb
  refine ⟨fun _=>hE.ext,vF 4 O O (fun _ _ hK=>W_add O O (by omega) (by omega) hK) (zLf 5 O O O (zy 6 (by kernel_rfl) O O (zn (zSt H O O O .h O fun S hE H=>?_))))⟩
  replace hy:=hy.qy hE hy_b5
  refine zLd (zT (ze ?_))
  refine ⟨_,?le,_,_,_,_,_,_,_,_,O,(H.sub (.cons_cons _ (.cons _ (.cons_cons _ (.cons_cons _ .slnil))))),(by first | omega | assumption),(by first | omega | assumption),(by first | omega | assumption),(by first | omega | assumption),(by omega),(by omega),hy,hy_b5,hy_b4,hy_rb⟩
  case le=>exact Env.qle ⟨O,O,O,O,⟨⟩⟩
 ·skip
  rintro _ S ⟨ub,u1,u2,u3,u4,u5,u6,q,rfl,H,a1,a2,a3,a4,hq0,hq1,hy,hy_b5,hy_b4,hy_rb⟩
  refine wpS_cut (fun E S=>∃ (ub:Bool) (u1:Int) (u2:Int) (u3:Int) (u4:Int) (u5:Int) (u6:Int) (q:Int),E=Env.lst [(0,vN rb 0),(1,int m),(4,vN b4 0),(5,vN b5 0)]∧Loc [rb] S0 S [(b5,Cs [.bool ub,int u1,int u2,int u3,int u4,int u5,int u6] 162),(b4,Cs [.bool false,int 0,int 0,int 0,int 0,int 0,int 0] 162),(rb,Cs [.slice a n cap,int q] 142)]∧(0≤u1)∧(u1≤1000)∧(0≤u3)∧(u3≤1000)∧(p≤q)∧(q≤p+6)∧(By S a n)∧(OffY a n b5)∧(OffY a n b4)∧(OffY a n rb)) ?_ ?_
  ·skip
   refine zY [rb] (zLf 0 O O O (ve 1 O O (fun S' hS'=>zA fun K hK=>zE O (zB (hS' O) (nin1 (by rintro rfl;exact absurd H.nodup (by simp))) (H.cell .h O)) hK) (vC 2 O O O (zy 3 (by kernel_rfl) O O (zn (zP O (ct121 (H.get .h2) hy hy_rb hn (by omega) (by omega) (by omega) (by omega) fun r30 p30 S hE ho30 hp30 hq30 hr30 hs30=>?_)))))))
   replace H:=H.callX hE .h2 ho30
   replace hy:=hy.qy hE hy_rb
   refine ⟨fun _=>hE.ext,vF 4 O O (fun _ _ hK=>W_add O O (by omega) (by omega) hK) (zLf 5 O O O (zy 6 (by kernel_rfl) O O (zn (zSt H O O O .h O fun S hE H=>?_))))⟩
   replace hy:=hy.qy hE hy_b5
   refine zLd (zT (ze ?_))
   refine ⟨_,?le,_,_,_,_,_,_,_,_,O,H,(by first | omega | assumption),(by first | omega | assumption),(by first | omega | assumption),(by first | omega | assumption),(by omega),(by omega),hy,hy_b5,hy_b4,hy_rb⟩
   case le=>exact Env.qle ⟨O,O,O,O,⟨⟩⟩
  ·skip
   rintro _ S ⟨ub,u1,u2,u3,u4,u5,u6,q,rfl,H,a1,a2,a3,a4,hq0,hq1,hy,hy_b5,hy_b4,hy_rb⟩
   refine wpS_cut (fun E S=>∃ (ub:Bool) (u1:Int) (u2:Int) (u3:Int) (u4:Int) (u5:Int) (u6:Int) (q:Int),E=Env.lst [(0,vN rb 0),(1,int m),(4,vN b4 0),(5,vN b5 0)]∧Loc [rb] S0 S [(b5,Cs [.bool ub,int u1,int u2,int u3,int u4,int u5,int u6] 162),(b4,Cs [.bool false,int 0,int 0,int 0,int 0,int 0,int 0] 162),(rb,Cs [.slice a n cap,int q] 142)]∧(0≤u1)∧(u1≤1000)∧(0≤u3)∧(u3≤1000)∧(p≤q)∧(q≤p+7)∧(By S a n)∧(OffY a n b5)∧(OffY a n b4)∧(OffY a n rb)) ?_ ?_
   ·skip
    refine zY [rb] (zLf 0 O O O (ve 1 O O (fun S' hS'=>zA fun K hK=>zE O (zB (hS' O) (nin1 (by rintro rfl;exact absurd H.nodup (by simp))) (H.cell .h O)) hK) (vC 3 O O O (wpD_two 2 4 (by kernel_rfl) O O O O ?_ ?_))))
    ·skip
     refine zn (zS (cs:=[_,_,_]) H O O fun b35 S hb35 hE H=>?_)
     replace hy:=hy.mono hE
     refine ⟨fun _=>hE.up.ext,zy 4 (by kernel_rfl) O O (zn (zP O (ct121 (H.get .h3) hy hy_rb hn (by omega) (by omega) (by omega) (by omega) fun r37 p37 S hE ho37 hp37 hq37 hr37 hs37=>?_)))⟩
     replace H:=H.callX hE .h3 ho37
     replace hy:=hy.qy hE hy_rb
     obtain ⟨v39,hv39,hm39⟩:=at_ints [999,21,u5] (m:=3) rfl hr37 hs37
     refine ⟨fun _=>hE.ext,vF 5 O O (fun _ _ hK=>vq O O (by omega) (by omega) hK) (ve 6 O O (fun S' hS'=>zA fun K hK=>zE O (zB (hS' O) (nin1 (by rintro rfl;exact absurd H.nodup (by simp))) (H.cell .h hv39)) hK) (zLf 7 O O O (zy 8 (by kernel_rfl) O O (zn (zSt H O O O .h1 O fun S hE H=>?_)))))⟩
     replace hy:=hy.qy hE hy_b5
     refine zLd (zT (ze ?_))
     refine ⟨_,?le,_,_,_,_,_,_,_,_,O,(H.sub (.cons _ (.cons_cons _ (.cons_cons _ (.cons_cons _ .slnil))))),(by first | omega | assumption),(by first | omega | assumption),(by first | omega | assumption),(by first | omega | assumption),(by omega),(by omega),hy,hy_b5,hy_b4,hy_rb⟩
     case le=>exact Env.qle ⟨O,O,O,O,⟨⟩⟩
    ·skip
     refine zn (zP O (ct121 (H.get .h2) hy hy_rb hn (by omega) (by omega) (by omega) (by omega) fun r37 p37 S hE ho37 hp37 hq37 hr37 hs37=>?_))
     replace H:=H.callX hE .h2 ho37
     replace hy:=hy.qy hE hy_rb
     obtain ⟨v39,hv39,hm39⟩:=at_ints [999,21,u5] (m:=3) rfl hr37 hs37
     refine ⟨fun _=>hE.ext,zy 2 (by kernel_rfl) O O (zn (zS (cs:=[_,_,_]) H O O fun b35 S hb35 hE H=>?_))⟩
     replace hy:=hy.mono hE
     refine ⟨fun _=>hE.up.ext,vF 5 O O (fun _ _ hK=>vq O O (by omega) (by omega) hK) (ve 6 O O (fun S' hS'=>zA fun K hK=>zE O (zB (hS' O) (nin1 (by rintro rfl;exact absurd H.nodup (by simp))) (H.cell .h hv39)) hK) (zLf 7 O O O (zy 8 (by kernel_rfl) O O (zn (zSt H O O O .h1 O fun S hE H=>?_)))))⟩
     replace hy:=hy.qy hE hy_b5
     refine zLd (zT (ze ?_))
     refine ⟨_,?le,_,_,_,_,_,_,_,_,O,(H.sub (.cons _ (.cons_cons _ (.cons_cons _ (.cons_cons _ .slnil))))),(by first | omega | assumption),(by first | omega | assumption),(by first | omega | assumption),(by first | omega | assumption),(by omega),(by omega),hy,hy_b5,hy_b4,hy_rb⟩
     case le=>exact Env.qle ⟨O,O,O,O,⟨⟩⟩
   ·skip
    rintro _ S ⟨ub,u1,u2,u3,u4,u5,u6,q,rfl,H,a1,a2,a3,a4,hq0,hq1,hy,hy_b5,hy_b4,hy_rb⟩
    refine wpS_cut (fun E S=>∃ (ub:Bool) (u1:Int) (u2:Int) (u3:Int) (u4:Int) (u5:Int) (u6:Int) (q:Int),E=Env.lst [(0,vN rb 0),(1,int m),(4,vN b4 0),(5,vN b5 0)]∧Loc [rb] S0 S [(b5,Cs [.bool ub,int u1,int u2,int u3,int u4,int u5,int u6] 162),(b4,Cs [.bool false,int 0,int 0,int 0,int 0,int 0,int 0] 162),(rb,Cs [.slice a n cap,int q] 142)]∧(0≤u1)∧(u1≤1000)∧(0≤u3)∧(u3≤1000)∧(p≤q)∧(q≤p+7)∧(By S a n)∧(OffY a n b5)∧(OffY a n b4)∧(OffY a n rb)) ?_ ?_
    ·skip
     refine zR (vZ O (zL1 H O .h O (vZ O (zL1 H O .h O (za (vT O O fun t45 h45=>zN ?_))))))
     rcases t45 with _|_
     ·replace h45:=bF h45
      refine zr O (zv (ze ?_))
      refine ⟨_,?le,_,_,_,_,_,_,_,_,O,H,(by first | omega | assumption),(by first | omega | assumption),(by first | omega | assumption),(by first | omega | assumption),(by omega),(by omega),hy,hy_b5,hy_b4,hy_rb⟩
      case le=>exact Env.qle ⟨O,O,O,O,⟨⟩⟩
     ·replace h45:=bT h45
      refine zj O (zU (vZ O (zL1 H O .h O (vZ O (zSs H O O O .h O fun S hE H=>?_)))))
      replace hy:=hy.qy hE hy_b5
      refine zN ?_
      refine ⟨_,?le,_,_,_,_,_,_,_,_,O,H,(by first | omega | assumption),(by first | omega | assumption),(by first | omega | assumption),(by first | omega | assumption),(by omega),(by omega),hy,hy_b5,hy_b4,hy_rb⟩
      case le=>exact Env.qle ⟨O,O,O,O,⟨⟩⟩
    ·skip
     rintro _ S ⟨ub,u1,u2,u3,u4,u5,u6,q,rfl,H,a1,a2,a3,a4,hq0,hq1,hy,hy_b5,hy_b4,hy_rb⟩
     refine wpS_cut (fun E S=>∃ (ub:Bool) (u1:Int) (u2:Int) (u3:Int) (u4:Int) (u5:Int) (u6:Int) (q:Int),E=Env.lst [(0,vN rb 0),(4,vN b4 0),(5,vN b5 0)]∧Loc [rb] S0 S [(b5,Cs [.bool ub,int u1,int u2,int u3,int u4,int u5,int u6] 162),(b4,Cs [.bool false,int 0,int 0,int 0,int 0,int 0,int 0] 162),(rb,Cs [.slice a n cap,int q] 142)]∧(p≤q)∧(q≤p+12)∧(By S a n)∧(OffY a n b5)∧(OffY a n b4)∧(OffY a n rb)) ?_ ?_
     ·skip
      refine zR (zt O (zt O (vK O (ct52 (H.get .h2) hy hy_rb hn (by omega) (by omega) (by omega) (by omega) fun t51 p51 S hE ho51 hp51 hq51 h51=>?_))))
      replace H:=H.callX hE .h2 ho51
      replace hy:=hy.qy hE hy_rb
      refine zN ?_
      rcases t51 with _|_
      ·replace h51:=bF h51
       refine zr O (zv (ze ?_))
       refine ⟨_,?le,_,_,_,_,_,_,_,_,O,H,(by omega),(by omega),hy,hy_b5,hy_b4,hy_rb⟩
       case le=>exact Env.qle ⟨O,O,O,⟨⟩⟩
      ·replace h51:=bT h51
       refine zj O (zR (zt O (vK O (ct121 (H.get .h2) hy hy_rb hn (by omega) (by omega) (by omega) (by omega) fun r53 p53 S hE ho53 hp53 hq53 hr53 hs53=>?_))))
       replace H:=H.callX hE .h2 ho53
       replace hy:=hy.qy hE hy_rb
       refine zN (zK (zR (za (vW O O fun t56 h56=>zt O (zN ?_)))))
       rcases t56 with _|_
       ·replace h56:=bF h56
        refine zr O (zR (za (vW O O fun t64 h64=>zt O (zN ?_))))
        rcases t64 with _|_
        ·replace h64:=bF h64
         refine zr O (zR (za (vW O O fun t72 h72=>zt O (zN ?_))))
         rcases t72 with _|_
         ·replace h72:=bF h72
          refine zr O (zU (vZ O (zSs H O O O .h O fun S hE H=>?_)))
          replace hy:=hy.qy hE hy_b5
          refine vl (z_ (ze ?_))
          refine ⟨_,?le,_,_,_,_,_,_,_,_,O,H,(by omega),(by omega),hy,hy_b5,hy_b4,hy_rb⟩
          case le=>exact Env.qle ⟨O,O,O,⟨⟩⟩
         ·replace h72:=bT h72
          refine zj O (zU (za (zS (cs:=[_,_]) H O O fun b73 S hb73 hE H=>?_)))
          replace hy:=hy.mono hE
          refine zt O (vK O (ct121 (H.get .h3) hy hy_rb hn (by omega) (by omega) (by omega) (by omega) fun r75 p75 S hE ho75 hp75 hq75 hr75 hs75=>?_))
          replace H:=H.callX hE .h3 ho75
          replace hy:=hy.qy hE hy_rb
          obtain ⟨v77,hv77,hm77⟩:=at_ints [0,1000] (m:=2) rfl hr75 hs75
          refine zIa O O (zL1 H O .h hv77 (vZ O (zSs H O O O .h1 O fun S hE H=>?_)))
          replace hy:=hy.qy hE hy_b5
          refine vl (z_ (ze ?_))
          refine ⟨_,?le,_,_,_,_,_,_,_,_,O,(H.sub (.cons _ (.cons_cons _ (.cons_cons _ (.cons_cons _ .slnil))))),(by omega),(by omega),hy,hy_b5,hy_b4,hy_rb⟩
          case le=>exact Env.qle ⟨O,O,O,⟨⟩⟩
        ·replace h64:=bT h64
         refine zj O (zU (za (zS (cs:=[_,_]) H O O fun b65 S hb65 hE H=>?_)))
         replace hy:=hy.mono hE
         refine zt O (vK O (ct121 (H.get .h3) hy hy_rb hn (by omega) (by omega) (by omega) (by omega) fun r67 p67 S hE ho67 hp67 hq67 hr67 hs67=>?_))
         replace H:=H.callX hE .h3 ho67
         replace hy:=hy.qy hE hy_rb
         obtain ⟨v69,hv69,hm69⟩:=at_ints [110,99] (m:=2) rfl hr67 hs67
         refine zIa O O (zL1 H O .h hv69 (vZ O (zSs H O O O .h1 O fun S hE H=>?_)))
         replace hy:=hy.qy hE hy_b5
         refine vl (z_ (ze ?_))
         refine ⟨_,?le,_,_,_,_,_,_,_,_,O,(H.sub (.cons _ (.cons_cons _ (.cons_cons _ (.cons_cons _ .slnil))))),(by omega),(by omega),hy,hy_b5,hy_b4,hy_rb⟩
         case le=>exact Env.qle ⟨O,O,O,⟨⟩⟩
       ·replace h56:=bT h56
        refine zj O (zU (za (zS (cs:=[_,_,_]) H O O fun b57 S hb57 hE H=>?_)))
        replace hy:=hy.mono hE
        refine zt O (vK O (ct121 (H.get .h3) hy hy_rb hn (by omega) (by omega) (by omega) (by omega) fun r59 p59 S hE ho59 hp59 hq59 hr59 hs59=>?_))
        replace H:=H.callX hE .h3 ho59
        replace hy:=hy.qy hE hy_rb
        obtain ⟨v61,hv61,hm61⟩:=at_ints [0,9,-1] (m:=3) rfl hr59 hs59
        refine zIa O O (zL1 H O .h hv61 (vZ O (zSs H O O O .h1 O fun S hE H=>?_)))
        replace hy:=hy.qy hE hy_b5
        refine vl (z_ (ze ?_))
        refine ⟨_,?le,_,_,_,_,_,_,_,_,O,(H.sub (.cons _ (.cons_cons _ (.cons_cons _ (.cons_cons _ .slnil))))),(by omega),(by omega),hy,hy_b5,hy_b4,hy_rb⟩
        case le=>exact Env.qle ⟨O,O,O,⟨⟩⟩
     ·skip
      rintro _ S ⟨ub,u1,u2,u3,u4,u5,u6,q,rfl,H,hq0,hq1,hy,hy_b5,hy_b4,hy_rb⟩
      refine zR (zLn (vs:=[_,_,_,_,_,_,_]) H O .h O (zSs H O O O .h1 O fun S hE H=>zN (zi (⟨trivial,_,(zW (ws:=[_,_,_,_,_,_,_]) H O .h1 O zM),?_⟩))))
      exact k ⟨_,_,_,_,_,_,_⟩ _ _ H.qx (H.get .h2) (by omega) (by omega) 
end
section
open Go
section
variable {P:Program} {X:List Nat} {S0 S S':St} {L L':List (Nat × Obj)} {E:Env} {K:Value→St→Prop}
theorem OwnO.backX {S00 S0 S:St} {x:Option Addr} {e:TypeId} {k cap:Nat} {rows:List (List Value)} (h:OwnO S0 S x e k cap rows) (he:Ext X S00 S0):OwnO S00 S x e k cap rows:=
 h.imp_right fun ⟨m,h1,h2,h3⟩=>⟨m,h1,he.g.isNone h2,h3⟩
theorem OwnO.org {x:Option Addr} {e:TypeId} {k cap:Nat} {rows:List (List Value)} (h:OwnO S0 S x e k cap rows):Org S0 none x:=by
 rcases h with ⟨rfl,_⟩ | ⟨m,rfl,h2,_⟩
 ·exact .inl rfl
 ·exact .inr fun b off e=>by cases e;exact h2
theorem BoxM.backX {S00 S0 S:St} {x1 x2 x3:Option Addr} {d2 d3:Nat} {q:Box} (h:BoxM S0 S x1 x2 x3 d2 d3 q) (he:Ext X S00 S0):BoxM S00 S x1 x2 x3 d2 d3 q:=
 ⟨h.r,h.e,h.c.imp_right fun ⟨m,p1,p2,p3,p4⟩=>⟨m,p1,he.g.isNone p2,p3,p4⟩,h.l2,h.l3,h.o1.backX he,h.o2.backX he⟩
theorem BoxM.ownO {x1 x2 x3:Option Addr} {d2 d3:Nat} {q:Box} (h:BoxM S0 S x1 x2 x3 d2 d3 q):OwnO S0 S x3 49 7 d3 (z5 q.cs):=by
 rcases h.c with ⟨h1,h2,h3⟩ | ⟨m,h1,h2,h3,_⟩
 ·exact .inl ⟨h1,by rw [h2];rfl,h3⟩
 ·exact .inr ⟨m,h1,h2,h3⟩
theorem BoxM.t13 {x1 x2 x3:Option Addr} {d2 d3:Nat} {q:Box} (h:BoxM S0 S x1 x2 x3 d2 d3 q):∀ m,x3=some ⟨m,0,none⟩→∀ b off,x1=some ⟨b,off,none⟩→b≠m:=by
 intro m e
 rcases h.c with ⟨h1,_⟩ | ⟨m',h1,_,_,h4,_⟩
 ·rw [h1] at e;cases e
 ·rw [h1] at e;cases e;exact h4
theorem BoxM.t23 {x1 x2 x3:Option Addr} {d2 d3:Nat} {q:Box} (h:BoxM S0 S x1 x2 x3 d2 d3 q):∀ m,x3=some ⟨m,0,none⟩→∀ b off,x2=some ⟨b,off,none⟩→b≠m:=by
 intro m e
 rcases h.c with ⟨h1,_⟩ | ⟨m',h1,_,_,_,h4⟩
 ·rw [h1] at e;cases e
 ·rw [h1] at e;cases e;exact h4
theorem Loc.new1x {rb:Nat} (H:Loc [rb] S0 S L) {b:Nat} {o:Obj} (h:Has L b o) (hX:b≠rb):S0 b=none:=by
 rcases H.fresh b o h.mem with h | h
 ·exact h
 ·exact absurd h (by simpa using hX)
theorem Loc.drop1 {p:Nat × Obj} (H:Loc X S0 S (p::L)):Loc X S0 S L:=H.sub (List.sublist_cons_self ..)
theorem BoxP.z {b:Box} (h:BoxP b):BoxZ b:=by
 obtain ⟨h1,h2,h3,h4⟩:=h
 refine ⟨by have:=h2.1;omega,by have:=h1.1;omega,by omega,fun c hc=>?_⟩
 obtain ⟨k,hk⟩:=List.getElem?_of_mem hc
 obtain ⟨_,_,_,_,p5,p6,_,p8⟩:=(h4 k c hk).1
 have:=p5.2.2;have:=p6.2.2;have:=p8.2.2.1
 omega
def BoxY (b:Box):Prop:=b.rs.length≤20∧b.es.length≤20∧b.cs.length≤3∧∀ c∈b.cs,c.kn.length≤300∧c.he.length≤300∧c.ne.length≤300
theorem BoxY.z {b:Box} (h:BoxY b):BoxZ b:=by
 obtain ⟨h1,h2,h3,h4⟩:=h
 exact ⟨by omega,by omega,by omega,fun c hc=>by have:=h4 c hc;omega⟩
theorem BoxP.y {b:Box} (h:BoxP b):BoxY b:=by
 obtain ⟨h1,h2,h3,h4⟩:=h
 refine ⟨by have:=h2.1;omega,by have:=h1.1;omega,by omega,fun c hc=>?_⟩
 obtain ⟨k,hk⟩:=List.getElem?_of_mem hc
 obtain ⟨_,_,_,_,p5,p6,_,p8⟩:=(h4 k c hk).1
 have:=p5.2.2;have:=p6.2.2;have:=p8.2.2.1
 omega
theorem nil_y:BoxY Box.nil:=⟨by decide,by decide,by decide,by simp [Box.nil]⟩
theorem boxOutP_Y (b:Box) (s:Seg):BoxY (boxOutP b s).1:=by
 by_cases h:BoxP b
 ·exact (boxOutP_ok h).1.y
 ·rw [(boxOutP_not (fun h2=>h h2.1)).2 h];exact nil_y
theorem boxInP_Y (b:Box) (s:Seg):BoxY (vL b s).1:=by
 by_cases h:BoxP b
 ·exact (boxInP_ok h).1.y
 ·rw [(boxInP_not (fun h2=>h h2.1)).2 h];exact nil_y
theorem rules_y {rs:List Rule} (h:rs.length≤20) {q:Box} (hq:q=Box.nil∨q=⟨rs,[],[]⟩):BoxY q:=by
 rcases hq with rfl | rfl
 ·exact nil_y
 ·exact ⟨by simp only;omega,by simp,by simp,by simp⟩
theorem boxz_set {b:Box} {x:Conn} (h:BoxY b) (hx:x.kn.length≤1048576∧x.he.length≤1048576∧x.ne.length≤1048576):BoxZ {b with cs:=b.cs.set 0 x}:=by
 obtain ⟨h1,h2,h3,h4⟩:=h.z
 refine ⟨h1,h2,by simpa using h3,fun c hc=>?_⟩
 rcases List.mem_or_eq_of_mem_set hc with h | rfl
 ·exact h4 c h
 ·exact hx
theorem boxz_snoc {b:Box} {x:Conn} (h:BoxY b) (hx:x.kn.length≤1048576∧x.he.length≤1048576∧x.ne.length≤1048576) {l:List Conn} (hl:l=b.cs++[x]):BoxZ {b with cs:=l}:=by
 subst hl
 have h0:=h.2.2.1
 obtain ⟨h1,h2,h3,h4⟩:=h.z
 refine ⟨h1,h2,by simp;omega,fun c hc=>?_⟩
 rcases List.mem_append.1 hc with h | h
 ·exact h4 c h
 ·rw [List.mem_singleton.1 h];exact hx
theorem take_eq_succ {α:Type} {l m:List α} {i:Nat} {x y:α} (hx:l[i]? = some x) (hy:m[i]? = some y) (h:l.take i=m.take i) (e:x=y):l.take (i+1)=m.take (i+1):=by
 rw [vU hx,vU hy,h,e]
theorem eq_of_take {α:Type} {l m:List α} {i:Nat} (hl:l.length=m.length) (hi:l.length≤i) (h:l.take i=m.take i):l=m:=by
 rwa [List.take_of_length_le hi,List.take_of_length_le (by omega)] at h
theorem ne_at {α:Type} {l m:List α} {i:Nat} {x y:α} (hx:l[i]? = some x) (hy:m[i]? = some y) (e:x≠y):l≠m:=by
 rintro rfl;rw [hx] at hy;cases hy;exact e rfl
theorem linP_a:LinP [97]:=⟨by intro c hc;simp at hc;subst hc;exact .inl (by decide),by decide⟩
theorem box_eq {b c:Box} (h1:b.rs=c.rs) (h2:b.es=c.es) (h3:b.cs=c.cs):b=c:=by cases b;cases c;simp_all
end
end
section
variable {S0:St} {K:Value→St→Prop}
variable {m p:Int} {cap n n0 rb:Nat} {a:Option Addr}
theorem ct125 (ho:S0 rb=some ⟨Cs [.slice a n cap,int p] 142,true⟩) (hy:By S0 a n) (hy_rb:OffY a n rb) (hn:n≤2000) (p0:0≤p) (p1:p+130≤1000000) (m0:1≤m) (m1:m≤1000000) (k:∀ (x:Option Addr) (d:Nat) (rs:List Rule) (p':Int) S',Ext [rb] S0 S'→S' rb=some ⟨Cs [.slice a n cap,int p'] 142,true⟩→p≤p'→p'≤p+130→(Sl S' 7 x (vf rs))→(rs.length≤20)→(Org S0 none x)→K (.slice x rs.length d) S') :
  zC 125 #[vN rb 0,int m] S0 K:=by
 refine zGo (sf:=s125) Tryz.func125 ?_
 have H:=Loc.start1 ho
 refine zR (zt O (v4 (za (zS (cs:=[]) H O O fun b7 S hb7 hE H=>?_))))
 have hy_b7:=hy.ne hb7
 replace hy:=hy.mono hE
 refine zt O (zN ?_)
 refine wpS_cut (fun E S=>∃ (rs:List Rule) (bR:Nat) (capR:Nat) (csR:List Value) (q:Int),E=Env.lst [(0,vN rb 0),(1,int m),(5,sl bR 0 rs.length capR)]∧Loc [rb] S0 S [(bR,Cs csR 162),(rb,Cs [.slice a n cap,int q] 142)]∧(rs.length≤3)∧(rs.length≤capR)∧(csR.length=capR*7)∧(csR.take (rs.length*7)=(vf rs).flatten)∧(p≤q)∧(By S a n)∧(OffY a n rb)∧(OffY a n bR)∧(q≤p+38)) ?_ ?_
 ·skip
  refine zR (zt O (vK O (ct121 (H.get .h1) hy hy_rb hn (by omega) (by omega) (by omega) (by omega) fun r9 p9 S hE ho9 hp9 hq9 hr9 hs9=>?_)))
  replace H:=H.callX hE .h1 ho9
  replace hy:=hy.qy hE hy_rb
  refine za (W_gtr O O fun t10 h10=>zN ?_)
  rcases t10 with _|_
  ·replace h10:=bF h10
   refine zr O (zv (ze ?_))
   refine ⟨_,?le,[],b7,0,[],_,O,H,(by simp),(by simp),(by simp),(by simp),(by omega),hy,hy_rb,hy_b7,(by omega)⟩
   case le=>exact Env.qle ⟨O,O,O,⟨⟩⟩
  ·replace h10:=bT h10
   refine zj O (zR (zt O (vK O (ct121 (H.get .h1) hy hy_rb hn (by omega) (by omega) (by omega) (by omega) fun r12 p12 S hE ho12 hp12 hq12 hr12 hs12=>?_))))
   replace H:=H.callX hE .h1 ho12
   replace hy:=hy.qy hE hy_rb
   refine zt O (zN (zK ?_))
   refine vA (fun E S m_=>∃ (j:Int) (rs:List Rule) (bR:Nat) (capR:Nat) (csR:List Value) (q:Int),E=Env.lst [(0,vN rb 0),(1,int m),(5,sl bR 0 rs.length capR),(6,int j)]∧Loc [rb] S0 S [(bR,Cs csR 162),(rb,Cs [.slice a n cap,int q] 142)]∧(0≤j)∧(rs.length+j≤3)∧(rs.length≤capR)∧(csR.length=capR*7)∧(csR.take (rs.length*7)=(vf rs).flatten)∧(p≤q)∧(By S a n)∧(OffY a n rb)∧(OffY a n bR)∧(q≤p+2+(3-j)*12)∧m_=j.toNat) ?_ ?_
   ·skip
    refine ⟨_,_,?le,r12,[],b7,0,[],_,O,H,(by omega),(by simp;omega),(by simp),(by simp),(by simp),(by omega),hy,hy_rb,hy_b7,(by omega),O⟩
    case le=>exact Env.qle ⟨O,O,O,O,⟨⟩⟩
   ·skip
    rintro _ S _ ⟨j,rs,bR,capR,csR,q,rfl,H,hj0,hl3,hn7,hcl,hct,hq0,hy,hy_rb,hy_bR,hq1,rfl⟩
    refine zSS (zt O (za (W_gtr O O fun t14 h14=>zN ?_)))
    rcases t14 with _|_
    ·replace h14:=bF h14
     refine zr O (vz (zZ (zZ (vH (ze ?_)))))
     refine ⟨_,?le,rs,bR,capR,csR,_,O,H,(by omega),hn7,hcl,hct,(by omega),hy,hy_rb,hy_bR,(by omega)⟩
     case le=>exact Env.qle ⟨O,O,O,⟨⟩⟩
    ·replace h14:=bT h14
     refine zj O (zv (ze (zJ (zK (zU (zt O (zt O (vK O (ct202 (H.get .h1) hy hy_rb hn (by omega) (by omega) (by omega) (by omega) fun x19 p19 S hE ho19 hp19 hq19=>?_)))))))))
     replace H:=H.callX hE .h1 ho19
     replace hy:=hy.qy hE hy_rb
     refine za (zS (cs:=[_,_,_,_,_,_,_]) H O O fun b20 S hb20 hE H=>?_)
     replace hy:=hy.mono hE
     refine za (W_append H O O .h1 hcl hn7 (Src.own H .h O) (by simp [vY]) O (by decide) (by omega) O fun b21 cap21 cs21 S hb21 H hE hn21 hcl21 hct21=>?_)
     have hy_b21:=hy.ne2 hy_bR hb21
     replace hy:=hy.qy hE hy_bR
     refine zt O (vl (z_ (ze (zU (zt O (zSb O O (zt O (zN ?_))))))))
     refine ⟨_,_,?lt,?le,(j-1),(rs++[x19]),b21,cap21,cs21,_,O,(H.sub (.cons_cons _ (.cons _ (.cons_cons _ .slnil)))),(by omega),(by simp;omega),(by simpa using hn21),hcl21,(by rw [List.length_append,List.length_singleton,hct21,hct];simp [vf]),(by omega),hy,hy_rb,hy_b21,(by omega),O⟩
     case lt=>omega
     case le=>exact Env.qle ⟨rfl,rfl,(by rw [List.length_append];rfl),rfl,trivial⟩
 ·skip
  rintro _ S ⟨rs,bR,capR,csR,q,rfl,H,hl3,hn7,hcl,hct,hq0,hy,hy_rb,hy_bR,hq1⟩
  refine zSS (zt O (zt O (vK O (ct52 (H.get .h1) hy hy_rb hn (by omega) (by omega) (by omega) (by omega) fun t24 p24 S hE ho24 hp24 hq24 h24=>?_))))
  replace H:=H.callX hE .h1 ho24
  replace hy:=hy.qy hE hy_rb
  refine zN ?_
  rcases t24 with _|_
  ·replace h24:=bF h24
   refine zr O (zv (ze (zR (zt O (zt O (zN (zi (z9 O ?_))))))))
   exact k (some ⟨bR,0,none⟩) capR rs _ _ H.qx (H.get .h1) (by omega) (by omega) (vc (n:=rs.length*7) (H.get .h) (by simp) hct vB) (by omega) (.own (H.new1x .h (by rintro rfl;exact absurd H.nodup (by simp))))
  ·replace h24:=bT h24
   refine zj O (zSS (zt O (vK O (ct121 (H.get .h1) hy hy_rb hn (by omega) (by omega) (by omega) (by omega) fun r26 p26 S hE ho26 hp26 hq26 hr26 hs26=>?_))))
   replace H:=H.callX hE .h1 ho26
   replace hy:=hy.qy hE hy_rb
   refine za (vW O O fun t27 h27=>zN ?_)
   rcases t27 with _|_
   ·replace h27:=bF h27
    refine zr O (zv (ze (zK ?_)))
    refine vA (fun E S m_=>∃ (rs:List Rule) (bR:Nat) (capR:Nat) (csR:List Value) (q:Int),E=Env.lst [(0,vN rb 0),(1,int m),(5,sl bR 0 rs.length capR)]∧Loc [rb] S0 S [(bR,Cs csR 162),(rb,Cs [.slice a n cap,int q] 142)]∧(rs.length≤6)∧(rs.length≤capR)∧(csR.length=capR*7)∧(csR.take (rs.length*7)=(vf rs).flatten)∧(p≤q)∧(By S a n)∧(OffY a n rb)∧(OffY a n bR)∧(q≤p+55+rs.length*12)∧m_=7-rs.length) ?_ ?_
    ·skip
     refine ⟨_,_,?le,rs,bR,capR,csR,_,O,H,(by omega),hn7,hcl,hct,(by omega),hy,hy_rb,hy_bR,(by omega),O⟩
     case le=>exact Env.qle ⟨O,O,O,⟨⟩⟩
    ·skip
     rintro _ S _ ⟨rs,bR,capR,csR,q,rfl,H,hl3,hn7,hcl,hct,hq0,hy,hy_rb,hy_bR,hq1,rfl⟩
     refine zSS (zt O (zLl O (za (W_leq O O fun t35 h35=>zN ?_))))
     rcases t35 with _|_
     ·replace h35:=bF h35
      refine zr O (vz (zZ (zZ (vH (ze (zR (zt O (zt O (zN (zi (z9 O ?_)))))))))))
      exact k (some ⟨bR,0,none⟩) capR rs _ _ H.qx (H.get .h1) (by omega) (by omega) (vc (n:=rs.length*7) (H.get .h) (by simp) hct vB) (by omega) (.own (H.new1x .h (by rintro rfl;exact absurd H.nodup (by simp))))
     ·replace h35:=bT h35
      refine zj O (zv (ze (zK (zU (zt O (zt O (vK O (ct202 (H.get .h1) hy hy_rb hn (by omega) (by omega) (by omega) (by omega) fun x38 p38 S hE ho38 hp38 hq38=>?_))))))))
      replace H:=H.callX hE .h1 ho38
      replace hy:=hy.qy hE hy_rb
      refine za (zS (cs:=[_,_,_,_,_,_,_]) H O O fun b39 S hb39 hE H=>?_)
      replace hy:=hy.mono hE
      refine za (W_append H O O .h1 hcl hn7 (Src.own H .h O) (by simp [vY]) O (by decide) (by omega) O fun b40 cap40 cs40 S hb40 H hE hn40 hcl40 hct40=>?_)
      have hy_b40:=hy.ne2 hy_bR hb40
      replace hy:=hy.qy hE hy_bR
      refine zt O (vl (z_ (ze ?_)))
      refine ⟨_,_,?lt,?le,(rs++[x38]),b40,cap40,cs40,_,O,(H.sub (.cons_cons _ (.cons _ (.cons_cons _ .slnil)))),(by simp;omega),(by simpa using hn40),hcl40,(by rw [List.length_append,List.length_singleton,hct40,hct];simp [vf]),(by omega),hy,hy_rb,hy_b40,(by simp;omega),O⟩
      case lt=>(simp only [List.length_append,List.length_singleton];omega)
      case le=>exact Env.qle ⟨rfl,rfl,(by rw [List.length_append];rfl),trivial⟩
   ·replace h27:=bT h27
    refine zj O (zR (zt O (zt O (vK O (ct202 (H.get .h1) hy hy_rb hn (by omega) (by omega) (by omega) (by omega) fun x30 p30 S hE ho30 hp30 hq30=>?_)))))
    replace H:=H.callX hE .h1 ho30
    refine za (zS (cs:=[_,_,_,_,_,_,_]) H O O fun b31 S hb31 hE H=>za (W_append H O O .h1 hcl hn7 (Src.own H .h O) (by simp [vY]) O (by decide) (by omega) O fun b32 cap32 cs32 S hb32 H hE hn32 hcl32 hct32=>zt O (zN (zi (zw (zw (z9 O ?_)))))))
    have hct':cs32.take ((rs++[x30]).length*7)=(vf (rs++[x30])).flatten:=(by rw [List.length_append,List.length_singleton,hct32,hct];simp [vf])
    have k':=k (some ⟨b32,0,none⟩) cap32 (rs++[x30]) _ _ H.qx (H.get .h2) (by omega) (by omega) (vc (n:=(rs++[x30]).length*7) (H.get .h) (by simp) hct' vB) (by simp;omega) (.own (H.new1x .h (by rintro rfl;exact absurd H.nodup (by simp))))
    rw [List.length_append] at k'
    exact k'
theorem ct122 (ho:S0 rb=some ⟨Cs [.slice a n cap,int p] 142,true⟩) (hy:By S0 a n) (hy_rb:OffY a n rb) (hn:n≤2000) (p0:0≤p) (p1:p+60≤1000000) (m0:1≤m) (m1:m≤1000000) (k:∀ (x:Option Addr) (d:Nat) (es:List End) (p':Int) S',Ext [rb] S0 S'→S' rb=some ⟨Cs [.slice a n cap,int p'] 142,true⟩→p≤p'→p'≤p+60→(Sl S' 2 x (zV es))→(es.length≤d)→(es.length≤12)→(Org S0 none x)→K (.agg #[.slice x es.length d]) S') :
  zC 122 #[vN rb 0,int m] S0 K:=by
 refine zGo (sf:=s122) Tryz.func122 ?_
 have H:=Loc.start1 ho
 have hy0:=hy
 refine zR (zAl H O fun b4 S hb4 hE H=>?_)
 have hy_b4:=hy.ne hb4
 replace hy:=hy.mono hE
 refine v4 (za (vv (cs:=[_]) O O (zAl H O fun b5 S hb5 hE H=>?_)))
 have hy_b5:=hy.ne hb5
 replace hy:=hy.mono hE
 refine zSs H O O O .h O fun S hE H=>?_
 replace hy:=hy.qy hE hy_b5
 refine zN (zSS (zt O (vK O (ct121 (H.get .h2) hy hy_rb hn (by omega) (by omega) (by omega) (by omega) fun r11 p11 S hE ho11 hp11 hq11 hr11 hs11=>?_))))
 replace H:=H.callX hE .h2 ho11
 replace hy:=hy.qy hE hy_rb
 refine zt O (zN (zK ?_))
 refine vA (fun E S m_=>∃ (j:Int) (x:Option Addr) (d:Nat) (es:List End) (q:Int),E=Env.lst [(0,vN rb 0),(1,int m),(4,vN b4 0),(5,vN b5 0),(6,int j)]∧Loc [rb] S0 S [(b5,Cs [.slice x es.length d] 26),(b4,Cs [.slice none 0 0] 26),(rb,Cs [.slice a n cap,int q] 142)]∧(0≤j)∧(j≤7)∧(es.length≤6)∧(OwnO S0 S x 31 2 d (zV es))∧(es.length≤d)∧(p≤q)∧(By S a n)∧(∀ b off,x=some ⟨b,off,none⟩→b≠b5)∧(∀ b off,x=some ⟨b,off,none⟩→b≠b4)∧(∀ b off,x=some ⟨b,off,none⟩→b≠rb)∧(OffY a n b5)∧(OffY a n b4)∧(OffY a n rb)∧(q≤p+1+(7-j)*3)∧m_=j.toNat) ?_ ?_
 ·skip
  refine ⟨_,_,?le,r11,none,0,[],_,O,H,(by omega),(by omega),(by simp),.nil,(Nat.le_refl _),(by omega),hy,nofun,nofun,nofun,hy_b5,hy_b4,hy_rb,(by omega),O⟩
  case le=>exact Env.qle ⟨O,O,O,O,O,⟨⟩⟩
 ·skip
  rintro _ S _ ⟨j,x,d,es,q,rfl,H,hj0,hj1,hes,hO,hcp,hq0,hy,hO_b5,hO_b4,hO_rb,hy_b5,hy_b4,hy_rb,hq1,rfl⟩
  refine zSS (zt O (za (W_gtr O O fun t13 h13=>zN ?_)))
  rcases t13 with _|_
  ·replace h13:=bF h13
   refine zr O (vz (zZ (zZ (vH (ze ?_)))))
   refine wpS_cut (fun E S=>∃ (x:Option Addr) (d:Nat) (es:List End) (q:Int),E=Env.lst [(0,vN rb 0),(4,vN b4 0),(5,vN b5 0)]∧Loc [rb] S0 S [(b5,Cs [.slice x es.length d] 26),(b4,Cs [.slice none 0 0] 26),(rb,Cs [.slice a n cap,int q] 142)]∧(Sl S 2 x (zV es))∧(es.length≤d)∧(es.length≤12)∧(Org S0 none x)∧(p≤q)∧(q≤p+60)∧(∀ b off,x=some ⟨b,off,none⟩→b≠b4)) ?_ ?_
   ·skip
    refine zR (zt O (zt O (vK O (ct52 (H.get .h2) hy hy_rb hn (by omega) (by omega) (by omega) (by omega) fun t26 p26 S hE ho26 hp26 hq26 h26=>?_))))
    replace H:=H.callX hE .h2 ho26
    replace hO:=hO.qy hE hO_rb
    replace hy:=hy.qy hE hy_rb
    refine zN ?_
    rcases t26 with _|_
    ·replace h26:=bF h26
     refine zr O (zv (ze ?_))
     refine ⟨_,?le,_,d,es,_,O,H,hO.sl,hcp,(by omega),hO.org,(by omega),(by omega),hO_b4⟩
     case le=>exact Env.qle ⟨O,O,O,⟨⟩⟩
    ·replace h26:=bT h26
     refine zj O (zR (zt O (vK O (ct121 (H.get .h2) hy hy_rb hn (by omega) (by omega) (by omega) (by omega) fun r28 p28 S hE ho28 hp28 hq28 hr28 hs28=>?_))))
     replace H:=H.callX hE .h2 ho28
     replace hO:=hO.qy hE hO_rb
     replace hy:=hy.qy hE hy_rb
     refine zN (zK (zR (za (vW O O fun t44 h44=>zt O (zN ?_)))))
     rcases t44 with _|_
     ·replace h44:=bF h44
      refine zr O (zR (za (vW O O fun t53 h53=>zt O (zN ?_))))
      rcases t53 with _|_
      ·replace h53:=bF h53
       refine zr O (zK ?_)
       refine vA (fun E S m_=>∃ (x:Option Addr) (d:Nat) (es:List End) (q:Int),E=Env.lst [(0,vN rb 0),(4,vN b4 0),(5,vN b5 0)]∧Loc [rb] S0 S [(b5,Cs [.slice x es.length d] 26),(b4,Cs [.slice none 0 0] 26),(rb,Cs [.slice a n cap,int q] 142)]∧(es.length≤7)∧(OwnO S0 S x 31 2 d (zV es))∧(es.length≤d)∧(p≤q)∧(By S a n)∧(∀ b off,x=some ⟨b,off,none⟩→b≠b5)∧(∀ b off,x=some ⟨b,off,none⟩→b≠b4)∧(∀ b off,x=some ⟨b,off,none⟩→b≠rb)∧(OffY a n b5)∧(OffY a n b4)∧(OffY a n rb)∧(q≤p+40)∧m_=8-es.length) ?_ ?_
       ·skip
        refine ⟨_,_,?le,x,d,es,_,O,H,(by omega),hO,hcp,(by omega),hy,hO_b5,hO_b4,hO_rb,hy_b5,hy_b4,hy_rb,(by omega),O⟩
        case le=>exact Env.qle ⟨O,O,O,⟨⟩⟩
       ·skip
        rintro _ S _ ⟨x,d,es,q,rfl,H,hes,hO,hcp,hq0,hy,hO_b5,hO_b4,hO_rb,hy_b5,hy_b4,hy_rb,hq1,rfl⟩
        refine zSS (vZ O (zL1 H O .h O (zLl O (za (W_leq O O fun t32 h32=>zN ?_)))))
        rcases t32 with _|_
        ·replace h32:=bF h32
         refine zr O (vz (zZ (zZ (vH (z_ (ze ?_))))))
         refine ⟨_,?le,_,d,es,_,O,H,hO.sl,hcp,(by omega),hO.org,(by omega),(by omega),hO_b4⟩
         case le=>exact Env.qle ⟨O,O,O,⟨⟩⟩
        ·replace h32:=bT h32
         refine zj O (zv (ze (zK (zU (vZ O (zL1 H O .h O (vZ O (zL1 H O .h O (zLl O (zAd O O (za (vv (cs:=[_,_]) O O (za (zS (cs:=[_,_]) H O O fun b40 S hb40 hE H=>?_))))))))))))))
         have hO_b40:=hO.ne hb40
         replace hO:=hO.mono hE
         replace hy:=hy.mono hE
         have Ho41:=H
         refine za (W_appendO H hO (fun q e=>by simp [hO_b40 q 0 e,hO_b5 q 0 e,hO_b4 q 0 e,hO_rb q 0 e]) (by rw [List.length_map];rfl) O (Src.own H .h O) (by simp [vY]) O (by decide) (by decide) (by simp;omega) O fun b41 m41 cap41 cs41 S hb41 hm41 hx41 H hE hn41 hcl41 hct41=>?_)
         obtain ⟨l41,hes41⟩:∃ l,l=es++[⟨8,1+es.length⟩]:=⟨_,rfl⟩
         have hl41:(zV es).length+1=l41.length:=by simp [hes41]
         have hll41:es.length+1=l41.length:=by simp [hes41]
         rw [hl41] at hn41 hct41 ⊢
         have hO41:OwnO S0 S (some ⟨b41,0,none⟩) 31 2 cap41 (zV l41):=.inr ⟨b41,rfl,(by rcases hb41 with e | e;(rw [e];exact hm41);exact Ho41.g.isNone e),_,H.get .h,by simpa using hn41,hcl41,by (rw [List.length_map,hct41,hes41];simp [zV]),vJ⟩
         have hy_m41:=hy0.off0 hm41
         replace hy:=hy.qy hE hy_m41
         have hO41_b5:=own_ne (a:=b41) (b:=b5) (by rintro rfl;exact absurd H.nodup (by simp))
         have hO41_b4:=own_ne (a:=b41) (b:=b4) (by rintro rfl;exact absurd H.nodup (by simp))
         have hO41_rb:=own_ne (a:=b41) (b:=rb) (by rintro rfl;exact absurd H.nodup (by simp))
         replace H:=H.drop1
         refine vZ O (zSs H O O O .h1 O fun S hE H=>?_)
         replace hy:=hy.qy hE hy_b5
         replace hO41:=hO41.qy hE hO41_b5
         refine vl (z_ (ze ?_))
         refine ⟨_,_,?lt,?le,_,cap41,l41,_,O,(H.sub (.cons _ (.cons_cons _ (.cons_cons _ (.cons_cons _ .slnil))))),(by omega),hO41,(by simpa using hO41.cap),(by omega),hy,hO41_b5,hO41_b4,hO41_rb,hy_b5,hy_b4,hy_rb,(by omega),O⟩
         case lt=>omega
         case le=>exact Env.qle ⟨O,O,O,⟨⟩⟩
      ·replace h53:=bT h53
       refine zj O (zU (vZ O (zL1 H O .h O (za (vv (cs:=[_,_]) O O (za (zS (cs:=[_,_]) H O O fun b57 S hb57 hE H=>?_)))))))
       have hO_b57:=hO.ne hb57
       replace hO:=hO.mono hE
       have Ho58:=H
       refine za (W_appendO H hO (fun q e=>by simp [hO_b57 q 0 e,hO_b5 q 0 e,hO_b4 q 0 e,hO_rb q 0 e]) (by rw [List.length_map];rfl) O (Src.own H .h O) (by simp [vY]) O (by decide) (by decide) (by simp;omega) O fun b58 m58 cap58 cs58 S hb58 hm58 hx58 H hE hn58 hcl58 hct58=>?_)
       obtain ⟨l58,hes58⟩:∃ l,l=es++[⟨9,9⟩]:=⟨_,rfl⟩
       have hl58:(zV es).length+1=l58.length:=by simp [hes58]
       have hll58:es.length+1=l58.length:=by simp [hes58]
       rw [hl58] at hn58 hct58 ⊢
       have hO58:OwnO S0 S (some ⟨b58,0,none⟩) 31 2 cap58 (zV l58):=.inr ⟨b58,rfl,(by rcases hb58 with e | e;(rw [e];exact hm58);exact Ho58.g.isNone e),_,H.get .h,by simpa using hn58,hcl58,by (rw [List.length_map,hct58,hes58];simp [zV]),vJ⟩
       have hO58_b57:=own_ne (a:=b58) (b:=b57) (by rintro rfl;exact absurd H.nodup (by simp))
       have hO58_b5:=own_ne (a:=b58) (b:=b5) (by rintro rfl;exact absurd H.nodup (by simp))
       have hO58_b4:=own_ne (a:=b58) (b:=b4) (by rintro rfl;exact absurd H.nodup (by simp))
       have hO58_rb:=own_ne (a:=b58) (b:=rb) (by rintro rfl;exact absurd H.nodup (by simp))
       replace H:=H.drop1
       refine za (vv (cs:=[_,_]) O O (za (zS (cs:=[_,_]) H O O fun b60 S hb60 hE H=>?_)))
       have hO58_b60:=hO58.ne hb60
       replace hO58:=hO58.mono hE
       have Ho61:=H
       refine za (W_appendO H hO58 (fun q e=>by simp [hO58_b60 q 0 e,hO58_b57 q 0 e,hO58_b5 q 0 e,hO58_b4 q 0 e,hO58_rb q 0 e]) (by rw [List.length_map];rfl) O (Src.own H .h O) (by simp [vY]) O (by decide) (by decide) (by simp;omega) O fun b61 m61 cap61 cs61 S hb61 hm61 hx61 H hE hn61 hcl61 hct61=>?_)
       obtain ⟨l61,hes61⟩:∃ l,l=l58++[⟨9,9⟩]:=⟨_,rfl⟩
       have hl61:(zV l58).length+1=l61.length:=by simp [hes61]
       have hll61:l58.length+1=l61.length:=by simp [hes61]
       rw [hl61] at hn61 hct61 ⊢
       have hO61:OwnO S0 S (some ⟨b61,0,none⟩) 31 2 cap61 (zV l61):=.inr ⟨b61,rfl,(by rcases hb61 with e | e;(rw [e];exact hm61);exact Ho61.g.isNone e),_,H.get .h,by simpa using hn61,hcl61,by (rw [List.length_map,hct61,hes61];simp [zV]),vJ⟩
       have hO61_b5:=own_ne (a:=b61) (b:=b5) (by rintro rfl;exact absurd H.nodup (by simp))
       have hO61_b4:=own_ne (a:=b61) (b:=b4) (by rintro rfl;exact absurd H.nodup (by simp))
       replace H:=H.drop1
       refine vZ O (zSs H O O O .h2 O fun S hE H=>?_)
       replace hO61:=hO61.qy hE hO61_b5
       refine vl (z_ (ze ?_))
       refine ⟨_,?le,_,cap61,l61,_,O,(H.sub (.cons _ (.cons _ (.cons_cons _ (.cons_cons _ (.cons_cons _ .slnil)))))),hO61.sl,(by simpa using hO61.cap),(by omega),hO61.org,(by omega),(by omega),hO61_b4⟩
       case le=>exact Env.qle ⟨O,O,O,⟨⟩⟩
     ·replace h44:=bT h44
      refine zj O (zY [rb] (zLf 0 O O O (ve 1 O O (fun S' hS'=>zA fun K hK=>zE O (zB (hS' O) (nin1 (by rintro rfl;exact absurd H.nodup (by simp))) (H.cell .h O)) hK) (vC 2 O O O (zy 3 (by kernel_rfl) O O (zn (zP O (ct128 (H.get .h2) hy hy_rb hn (by omega) (by omega)  fun e48 p48 S hE ho48 hp48 hq48=>?_))))))))
      replace H:=H.callX hE .h2 ho48
      replace hO:=hO.qy hE hO_rb
      refine ⟨fun _=>hE.ext,zy 4 (by kernel_rfl) O O (zn (zS (cs:=[_,_]) H O O fun b49 S hb49 hE H=>?_))⟩
      have hO_b49:=hO.ne hb49
      replace hO:=hO.mono hE
      refine ⟨fun _=>hE.up.ext,zy 5 (by kernel_rfl) O O ?_⟩
      have Ho50:=H
      refine zn (W_appendO H hO (fun q e=>by simp [hO_b49 q 0 e,hO_b5 q 0 e,hO_b4 q 0 e,hO_rb q 0 e]) (by rw [List.length_map];rfl) O (Src.own H .h O) (by simp [vY]) O (by decide) (by decide) (by simp;omega) O fun b50 m50 cap50 cs50 S hb50 hm50 hx50 H hE hn50 hcl50 hct50=>?_)
      obtain ⟨l50,hes50⟩:∃ l,l=es++[e48]:=⟨_,rfl⟩
      have hl50:(zV es).length+1=l50.length:=by simp [hes50]
      have hll50:es.length+1=l50.length:=by simp [hes50]
      rw [hl50] at hn50 hct50 ⊢
      have hO50:OwnO S0 S (some ⟨b50,0,none⟩) 31 2 cap50 (zV l50):=.inr ⟨b50,rfl,(by rcases hb50 with e | e;(rw [e];exact hm50);exact Ho50.g.isNone e),_,H.get .h,by simpa using hn50,hcl50,by (rw [List.length_map,hct50,hes50];simp [zV]),vJ⟩
      have hO50_b5:=own_ne (a:=b50) (b:=b5) (by rintro rfl;exact absurd H.nodup (by simp))
      have hO50_b4:=own_ne (a:=b50) (b:=b4) (by rintro rfl;exact absurd H.nodup (by simp))
      replace H:=H.drop1
      refine zLd (zLf 6 O O O (zy 7 (by kernel_rfl) O O (zn (zSt H O O O .h1 O fun S hE H=>?_))))
      replace hO50:=hO50.qy hE hO50_b5
      refine zLd (zT (z_ (ze ?_)))
      refine ⟨_,?le,_,cap50,l50,_,O,(H.sub (.cons _ (.cons_cons _ (.cons_cons _ (.cons_cons _ .slnil))))),hO50.sl,(by simpa using hO50.cap),(by omega),hO50.org,(by omega),(by omega),hO50_b4⟩
      case le=>exact Env.qle ⟨O,O,O,⟨⟩⟩
   ·skip
    rintro _ S ⟨x,d,es,q,rfl,H,hs,hcp,hes,hor,hq0,hq1,hs_b4⟩
    refine zR (zLn (vs:=[_]) H O .h O (zSs H O O O .h1 O fun S hE H=>?_))
    replace hs:=hs.qy hE hs_b4
    refine zN (zi (⟨trivial,_,(zW (ws:=[_]) H O .h1 O zM),?_⟩))
    exact k _ d es _ _ H.qx (H.get .h2) (by omega) (by omega) hs hcp hes hor
  ·replace h13:=bT h13
   refine zj O (zv (ze (zJ (zK ?_))))
   refine wpS_cut (fun E S=>∃ (b7:Nat) (x2:Option Addr) (d2:Nat) (es2:List End) (qq:Int),E=Env.lst [(0,vN rb 0),(1,int m),(4,vN b4 0),(5,vN b5 0),(6,int j),(7,vN b7 0)]∧Loc [rb] S0 S [(b7,Cs [.slice x2 es2.length d2] 26),(b5,Cs [.slice x es.length d] 26),(b4,Cs [.slice none 0 0] 26),(rb,Cs [.slice a n cap,int qq] 142)]∧(es2.length≤6)∧(OwnO S0 S x2 31 2 d2 (zV es2))∧(es2.length≤d2)∧(q≤qq)∧(qq≤q+3)∧(By S a n)∧(∀ b off,x2=some ⟨b,off,none⟩→b≠b7)∧(∀ b off,x2=some ⟨b,off,none⟩→b≠b5)∧(∀ b off,x2=some ⟨b,off,none⟩→b≠b4)∧(∀ b off,x2=some ⟨b,off,none⟩→b≠rb)∧(OffY a n b7)∧(OffY a n b5)∧(OffY a n b4)∧(OffY a n rb)) ?_ ?_
   ·skip
    refine zY [rb] (ve 0 O O (fun S' hS'=>zA fun K hK=>zO O (zF (hS' O) (nin1 (by rintro rfl;exact absurd H.nodup (by simp))) (H.cells (vs:=[_]) .h O)) hK) (vC 1 O O O (wpD_two 2 7 (by kernel_rfl) O O O O ?_ ?_)))
    ·skip
     refine zn (zP O (ct127 (H.get .h2) hy hy_rb hn (by omega) (by omega)  fun e19 p19 S hE ho19 hp19 hq19=>?_))
     replace H:=H.callX hE .h2 ho19
     replace hO:=hO.qy hE hO_rb
     replace hy:=hy.qy hE hy_rb
     refine ⟨fun _=>hE.ext,wpD_two 3 7 (by kernel_rfl) O O O O ?_ ?_⟩
     ·skip
      refine zn (zP O (ct199 hO.sl hcp (by omega) fun x20 d20 r20 S hE hl20 hO20=>?_))
      have hO20_b5:=hO20.off (H.get .h)
      have hO20_b4:=hO20.off (H.get .h1)
      have hO20_rb:=hO20.off (H.get .h2)
      replace hO20:=hO20.backX H.qx
      have hcp20:r20.1.length≤d20:=by simpa using hO20.cap
      replace H:=H.call hE
      replace hy:=hy.mono hE
      refine zLd (vC 4 O O O (vF 5 O O (fun _ _ hK=>vo O O hK) (vF 6 O O (fun _ _ hK=>vo O O hK) (zy 7 (by kernel_rfl) O O (zn (W_alloc H O fun b7 S hb7 hE H=>?_))))))
      have hy_b7:=hy.ne hb7
      replace hy:=hy.mono hE
      have hO20_b7:=hO20.ne hb7
      replace hO20:=hO20.mono hE
      refine ⟨fun _=>hE.up.ext,zy 8 (by kernel_rfl) O O (zn (zSt H O O O .h O fun S hE H=>?_))⟩
      replace hy:=hy.qy hE hy_b7
      replace hO20:=hO20.qy hE hO20_b7
      refine zLd (vC 9 O O O (zT (ze ?_)))
      refine ⟨_,?le,b7,x20,d20,r20.1,_,O,H,hl20,hO20,hcp20,(by omega),(by omega),hy,hO20_b7,hO20_b5,hO20_b4,hO20_rb,hy_b7,hy_b5,hy_b4,hy_rb⟩
      case le=>exact Env.qle ⟨O,O,O,O,O,O,⟨⟩⟩
     ·skip
      refine zn (W_alloc H O fun b7 S hb7 hE H=>?_)
      replace hO:=hO.mono hE
      have hy_b7:=hy.ne hb7
      replace hy:=hy.mono hE
      refine ⟨fun _=>hE.up.ext,zy 3 (by kernel_rfl) O O (zn (zP O (ct199 hO.sl hcp (by omega) fun x20 d20 r20 S hE hl20 hO20=>?_)))⟩
      have hO20_b7:=hO20.off (H.get .h)
      have hO20_b5:=hO20.off (H.get .h1)
      have hO20_b4:=hO20.off (H.get .h2)
      have hO20_rb:=hO20.off (H.get .h3)
      replace hO20:=hO20.backX H.qx
      have hcp20:r20.1.length≤d20:=by simpa using hO20.cap
      replace H:=H.call hE
      replace hy:=hy.mono hE
      refine zLd (vC 4 O O O (vF 5 O O (fun _ _ hK=>vo O O hK) (vF 6 O O (fun _ _ hK=>vo O O hK) (zy 8 (by kernel_rfl) O O (zn (zSt H O O O .h O fun S hE H=>?_))))))
      replace hy:=hy.qy hE hy_b7
      replace hO20:=hO20.qy hE hO20_b7
      refine zLd (vC 9 O O O (zT (ze ?_)))
      refine ⟨_,?le,b7,x20,d20,r20.1,_,O,H,hl20,hO20,hcp20,(by omega),(by omega),hy,hO20_b7,hO20_b5,hO20_b4,hO20_rb,hy_b7,hy_b5,hy_b4,hy_rb⟩
      case le=>exact Env.qle ⟨O,O,O,O,O,O,⟨⟩⟩
    ·skip
     refine zn (W_alloc H O fun b7 S hb7 hE H=>?_)
     replace hO:=hO.mono hE
     have hy_b7:=hy.ne hb7
     replace hy:=hy.mono hE
     refine ⟨fun _=>hE.up.ext,zy 2 (by kernel_rfl) O O (zn (zP O (ct127 (H.get .h3) hy hy_rb hn (by omega) (by omega)  fun e19 p19 S hE ho19 hp19 hq19=>?_)))⟩
     replace H:=H.callX hE .h3 ho19
     replace hO:=hO.qy hE hO_rb
     replace hy:=hy.qy hE hy_rb
     refine ⟨fun _=>hE.ext,zy 3 (by kernel_rfl) O O (zn (zP O (ct199 hO.sl hcp (by omega) fun x20 d20 r20 S hE hl20 hO20=>?_)))⟩
     have hO20_b7:=hO20.off (H.get .h)
     have hO20_b5:=hO20.off (H.get .h1)
     have hO20_b4:=hO20.off (H.get .h2)
     have hO20_rb:=hO20.off (H.get .h3)
     replace hO20:=hO20.backX H.qx
     have hcp20:r20.1.length≤d20:=by simpa using hO20.cap
     replace H:=H.call hE
     replace hy:=hy.mono hE
     refine zLd (vC 4 O O O (vF 5 O O (fun _ _ hK=>vo O O hK) (vF 6 O O (fun _ _ hK=>vo O O hK) (zy 8 (by kernel_rfl) O O (zn (zSt H O O O .h O fun S hE H=>?_))))))
     replace hy:=hy.qy hE hy_b7
     replace hO20:=hO20.qy hE hO20_b7
     refine zLd (vC 9 O O O (zT (ze ?_)))
     refine ⟨_,?le,b7,x20,d20,r20.1,_,O,H,hl20,hO20,hcp20,(by omega),(by omega),hy,hO20_b7,hO20_b5,hO20_b4,hO20_rb,hy_b7,hy_b5,hy_b4,hy_rb⟩
     case le=>exact Env.qle ⟨O,O,O,O,O,O,⟨⟩⟩
   ·skip
    rintro _ S ⟨b7,x2,d2,es2,qq,rfl,H,hes2,hO2,hcp2,hq2,hq3,hy,hO2_b7,hO2_b5,hO2_b4,hO2_rb,hy_b7,hy_b5,hy_b4,hy_rb⟩
    refine zU (zLn (vs:=[_]) H O .h O (zSs H O O O .h1 O fun S hE H=>?_))
    replace hO2:=hO2.qy hE hO2_b5
    replace hy:=hy.qy hE hy_b5
    refine vl (z_ (ze (zU (zt O (zSb O O (zt O (zN ?_)))))))
    refine ⟨_,_,?lt,?le,(j-1),x2,d2,es2,_,O,(H.sub (.cons _ (.cons_cons _ (.cons_cons _ (.cons_cons _ .slnil))))),(by omega),(by omega),hes2,hO2,hcp2,(by omega),hy,hO2_b5,hO2_b4,hO2_rb,hy_b5,hy_b4,hy_rb,(by omega),O⟩
    case lt=>omega
    case le=>exact Env.qle ⟨O,O,O,O,O,⟨⟩⟩
theorem ct120  (ho:S0 rb=some ⟨Cs [.slice a n cap,int p] 142,true⟩) (hy:By S0 a n) (hy_rb:OffY a n rb) (hn:n≤2000) (p0:0≤p) (p1:p+1200≤1000000)  (k:∀ (x1 x2 x3:Option Addr) (d1 d2 d3:Nat) (b:Box) (p':Int) S',Ext [rb] S0 S'→S' rb=some ⟨Cs [.slice a n cap,int p'] 142,true⟩→p≤p'→p'≤p+1200→(BoxM S0 S' x1 x2 x3 d2 d3 b)→(BoxY b)→K (.agg #[.slice x1 b.rs.length d1,.slice x2 b.es.length d2,.slice x3 b.cs.length d3]) S') :
  zC 120 #[vN rb 0] S0 K:=by
 refine zGo (sf:=s120) Tryz.func120 ?_
 have H:=Loc.start1 ho
 refine zR (zAl H O fun b2 S hb2 hE H=>?_)
 have hy_b2:=hy.ne hb2
 replace hy:=hy.mono hE
 refine v4 (zt O (vK O (ct125 (H.get .h1) hy hy_rb hn (by omega) (by omega) (by decide) (by decide) fun x10 d10 rs10 p10 S hE ho10 hp10 hq10 hs10 hl10 hor10=>?_)))
 replace H:=H.callX hE .h1 ho10
 replace hy:=hy.qy hE hy_rb
 refine vK O (ct198 hs10 (by omega) fun x111 d111 q11 S hE hq11 hM11=>?_)
 have hM11_b2:=hM11.old (H.get .h)
 have hM11_rb:=hM11.old (H.get .h1)
 replace hM11:=hM11.backX H.qx
 have hz11:=rules_y hl10 hq11
 replace H:=H.call hE
 replace hy:=hy.mono hE
 obtain ⟨r11,rfl⟩:∃ r:List Rule,q11=(⟨r,[],[]⟩:Box):=by rcases hq11 with rfl | rfl<;>exact ⟨_,rfl⟩
 refine zAl H O fun b3 S hb3 hE H=>?_
 have hy_b3:=hy.ne hb3
 replace hy:=hy.mono hE
 have hM11_b3:=hM11.ne hb3
 replace hM11:=hM11.mono hE
 refine zSs H O O O .h O fun S hE H=>?_
 replace hy:=hy.qy hE hy_b3
 replace hM11:=hM11.qy hE hM11_b3
 refine zN (zSS (zt O (vK O (ct121 (H.get .h2) hy hy_rb hn (by omega) (by omega) (by omega) (by omega) fun r13 p13 S hE ho13 hp13 hq13 hr13 hs13=>?_))))
 replace H:=H.callX hE .h2 ho13
 replace hy:=hy.qy hE hy_rb
 replace hM11:=hM11.qy hE hM11_rb
 refine zt O (zN (zK ?_))
 refine vA (fun E S m_=>∃ (j:Int) (x1:Option Addr) (x2:Option Addr) (x3:Option Addr) (d1:Nat) (d2:Nat) (d3:Nat) (b:Box) (q:Int),E=Env.lst [(0,vN rb 0),(2,vN b2 0),(3,vN b3 0),(4,int j)]∧Loc [rb] S0 S [(b3,Cs [.slice x1 b.rs.length d1,.slice x2 b.es.length d2,.slice x3 b.cs.length d3] 29),(b2,Cs [.slice none 0 0,.slice none 0 0,.slice none 0 0] 29),(rb,Cs [.slice a n cap,int q] 142)]∧(0≤j)∧(j≤15)∧(BoxM S0 S x1 x2 x3 d2 d3 b)∧(BoxY b)∧(p≤q)∧(By S a n)∧(NotIn x1 x2 x3 b3)∧(NotIn x1 x2 x3 b2)∧(NotIn x1 x2 x3 rb)∧(OffY a n b3)∧(OffY a n b2)∧(OffY a n rb)∧(q≤p+131+(15-j)*61)∧m_=j.toNat) ?_ ?_
 ·skip
  refine ⟨_,_,?le,r13,x111,none,none,d111,0,0,(⟨r11,[],[]⟩:Box),_,O,H,(by omega),(by omega),hM11,hz11,(by omega),hy,hM11_b3,hM11_b2,hM11_rb,hy_b3,hy_b2,hy_rb,(by omega),O⟩
  case le=>exact Env.qle ⟨O,O,O,O,⟨⟩⟩
 ·skip
  rintro _ S _ ⟨j,x1,x2,x3,d1,d2,d3,b,q,rfl,H,hj0,hj1,hM,hz,hq0,hy,hM_b3,hM_b2,hM_rb,hy_b3,hy_b2,hy_rb,hq1,rfl⟩
  refine zSS (zt O (za (W_gtr O O fun t15 h15=>zN ?_)))
  rcases t15 with _|_
  ·replace h15:=bF h15
   refine zr O (vz (zZ (zZ (vH (ze (zR (zLn (vs:=[_,_,_]) H O .h O (zSs H O O O .h1 O fun S hE H=>?_))))))))
   replace hM:=hM.qy hE hM_b2
   refine zN (zi (⟨trivial,_,(zW (ws:=[_,_,_]) H O .h1 O zM),?_⟩))
   exact k _ _ _ _ _ _ b _ _ H.qx (H.get .h2) (by omega) (by omega) hM hz
  ·replace h15:=bT h15
   refine zj O (zv (ze (zJ (zK (zR (zt O (vK O (ct121 (H.get .h2) hy hy_rb hn (by omega) (by omega) (by omega) (by omega) fun r19 p19 S hE ho19 hp19 hq19 hr19 hs19=>?_))))))))
   replace H:=H.callX hE .h2 ho19
   replace hM:=hM.qy hE hM_rb
   replace hy:=hy.qy hE hy_rb
   refine za (vW O O fun t20 h20=>zN ?_)
   rcases t20 with _|_
   ·replace h20:=bF h20
    refine zr O ?_
    refine wpS_cut (fun E S=>∃ (b7:Nat) (y1:Option Addr) (y2:Option Addr) (y3:Option Addr) (e1:Nat) (e2:Nat) (e3:Nat) (c:Box) (qq:Int),E=Env.lst [(0,vN rb 0),(2,vN b2 0),(3,vN b3 0),(4,int j),(7,vN b7 0)]∧Loc [rb] S0 S [(b7,Cs [.slice y1 c.rs.length e1,.slice y2 c.es.length e2,.slice y3 c.cs.length e3] 29),(b3,Cs [.slice x1 b.rs.length d1,.slice x2 b.es.length d2,.slice x3 b.cs.length d3] 29),(b2,Cs [.slice none 0 0,.slice none 0 0,.slice none 0 0] 29),(rb,Cs [.slice a n cap,int qq] 142)]∧(BoxM S0 S y1 y2 y3 e2 e3 c)∧(BoxY c)∧(q≤qq)∧(qq≤q+61)∧(By S a n)∧(NotIn y1 y2 y3 b7)∧(NotIn y1 y2 y3 b3)∧(NotIn y1 y2 y3 b2)∧(NotIn y1 y2 y3 rb)∧(OffY a n b7)∧(OffY a n b3)∧(OffY a n b2)∧(OffY a n rb)) ?_ ?_
    ·skip
     refine zY [rb] (ve 0 O O (fun S' hS'=>zA fun K hK=>zO O (zF (hS' O) (nin1 (by rintro rfl;exact absurd H.nodup (by simp))) (H.cells (vs:=[_,_,_]) .h O)) hK) (vC 1 O O O (ve 2 O O (fun S' hS'=>zA fun K hK=>zO O (zF (hS' O) (nin1 (by rintro rfl;exact absurd H.nodup (by simp))) (H.cells (vs:=[_,_,_]) .h O)) hK) (wpD_two 3 8 (by kernel_rfl) O O O O ?_ ?_))))
     ·skip
      refine zn (zP O (ct54 (H.get .h2) hy hy_rb hn (by omega) (by omega) hM.e hM.slc hM_rb.p2 hM_rb.p3 hM.l2 hz.z fun s34 p34 S hE ho34 hp34 hq34 hl34=>?_))
      replace H:=H.callX hE .h2 ho34
      replace hM:=hM.qy hE hM_rb
      replace hy:=hy.qy hE hy_rb
      refine ⟨fun _=>hE.ext,wpD_two 4 8 (by kernel_rfl) O O O O ?_ ?_⟩
      ·skip
       refine zn (zP O (ct32 hM.r hM.e hM.slc hM.l2 hM.l3 hz.z fun x135 x235 x335 x435 d135 d235 d335 d435 r35 S hE hr35 hM35 hD35 hl35=>?_))
       have hM35_b3:=hM35.old (H.get .h)
       have hM35_b2:=hM35.old (H.get .h1)
       have hM35_rb:=hM35.old (H.get .h2)
       replace hM35:=hM35.backX H.qx
       have hz35:BoxY r35.1:=by rw [hr35];exact boxOutP_Y _ _
       replace H:=H.call hE
       replace hy:=hy.mono hE
       refine zLd (vC 5 O O O (vF 6 O O (fun _ _ hK=>vo O O hK) (vF 7 O O (fun _ _ hK=>vo O O hK) (zy 8 (by kernel_rfl) O O (zn (W_alloc H O fun b7 S hb7 hE H=>?_))))))
       have hy_b7:=hy.ne hb7
       replace hy:=hy.mono hE
       have hM35_b7:=hM35.ne hb7
       replace hM35:=hM35.mono hE
       refine ⟨fun _=>hE.up.ext,zy 9 (by kernel_rfl) O O (zn (zSt H O O O .h O fun S hE H=>?_))⟩
       replace hy:=hy.qy hE hy_b7
       replace hM35:=hM35.qy hE hM35_b7
       refine zLd (vC 10 O O O (zT (ze ?_)))
       refine ⟨_,?le,b7,x135,x235,x335,d135,d235,d335,r35.1,_,O,H,hM35,hz35,(by omega),(by omega),hy,hM35_b7,hM35_b3,hM35_b2,hM35_rb,hy_b7,hy_b3,hy_b2,hy_rb⟩
       case le=>exact Env.qle ⟨O,O,O,O,O,⟨⟩⟩
      ·skip
       refine zn (W_alloc H O fun b7 S hb7 hE H=>?_)
       replace hM:=hM.mono hE
       have hy_b7:=hy.ne hb7
       replace hy:=hy.mono hE
       refine ⟨fun _=>hE.up.ext,zy 4 (by kernel_rfl) O O (zn (zP O (ct32 hM.r hM.e hM.slc hM.l2 hM.l3 hz.z fun x135 x235 x335 x435 d135 d235 d335 d435 r35 S hE hr35 hM35 hD35 hl35=>?_)))⟩
       have hM35_b7:=hM35.old (H.get .h)
       have hM35_b3:=hM35.old (H.get .h1)
       have hM35_b2:=hM35.old (H.get .h2)
       have hM35_rb:=hM35.old (H.get .h3)
       replace hM35:=hM35.backX H.qx
       have hz35:BoxY r35.1:=by rw [hr35];exact boxOutP_Y _ _
       replace H:=H.call hE
       replace hy:=hy.mono hE
       refine zLd (vC 5 O O O (vF 6 O O (fun _ _ hK=>vo O O hK) (vF 7 O O (fun _ _ hK=>vo O O hK) (zy 9 (by kernel_rfl) O O (zn (zSt H O O O .h O fun S hE H=>?_))))))
       replace hy:=hy.qy hE hy_b7
       replace hM35:=hM35.qy hE hM35_b7
       refine zLd (vC 10 O O O (zT (ze ?_)))
       refine ⟨_,?le,b7,x135,x235,x335,d135,d235,d335,r35.1,_,O,H,hM35,hz35,(by omega),(by omega),hy,hM35_b7,hM35_b3,hM35_b2,hM35_rb,hy_b7,hy_b3,hy_b2,hy_rb⟩
       case le=>exact Env.qle ⟨O,O,O,O,O,⟨⟩⟩
     ·skip
      refine zn (W_alloc H O fun b7 S hb7 hE H=>?_)
      replace hM:=hM.mono hE
      have hy_b7:=hy.ne hb7
      replace hy:=hy.mono hE
      refine ⟨fun _=>hE.up.ext,zy 3 (by kernel_rfl) O O (zn (zP O (ct54 (H.get .h3) hy hy_rb hn (by omega) (by omega) hM.e hM.slc hM_rb.p2 hM_rb.p3 hM.l2 hz.z fun s34 p34 S hE ho34 hp34 hq34 hl34=>?_)))⟩
      replace H:=H.callX hE .h3 ho34
      replace hM:=hM.qy hE hM_rb
      replace hy:=hy.qy hE hy_rb
      refine ⟨fun _=>hE.ext,zy 4 (by kernel_rfl) O O (zn (zP O (ct32 hM.r hM.e hM.slc hM.l2 hM.l3 hz.z fun x135 x235 x335 x435 d135 d235 d335 d435 r35 S hE hr35 hM35 hD35 hl35=>?_)))⟩
      have hM35_b7:=hM35.old (H.get .h)
      have hM35_b3:=hM35.old (H.get .h1)
      have hM35_b2:=hM35.old (H.get .h2)
      have hM35_rb:=hM35.old (H.get .h3)
      replace hM35:=hM35.backX H.qx
      have hz35:BoxY r35.1:=by rw [hr35];exact boxOutP_Y _ _
      replace H:=H.call hE
      replace hy:=hy.mono hE
      refine zLd (vC 5 O O O (vF 6 O O (fun _ _ hK=>vo O O hK) (vF 7 O O (fun _ _ hK=>vo O O hK) (zy 9 (by kernel_rfl) O O (zn (zSt H O O O .h O fun S hE H=>?_))))))
      replace hy:=hy.qy hE hy_b7
      replace hM35:=hM35.qy hE hM35_b7
      refine zLd (vC 10 O O O (zT (ze ?_)))
      refine ⟨_,?le,b7,x135,x235,x335,d135,d235,d335,r35.1,_,O,H,hM35,hz35,(by omega),(by omega),hy,hM35_b7,hM35_b3,hM35_b2,hM35_rb,hy_b7,hy_b3,hy_b2,hy_rb⟩
      case le=>exact Env.qle ⟨O,O,O,O,O,⟨⟩⟩
    ·skip
     rintro _ S ⟨b7,y1,y2,y3,e1,e2,e3,c,qq,rfl,H,hM2,hz2,hq2,hq3,hy,hM2_b7,hM2_b3,hM2_b2,hM2_rb,hy_b7,hy_b3,hy_b2,hy_rb⟩
     refine zU (zLn (vs:=[_,_,_]) H O .h O (zSs H O O O .h1 O fun S hE H=>?_))
     replace hM2:=hM2.qy hE hM2_b3
     replace hy:=hy.qy hE hy_b3
     refine vl (z_ (ze (zU (zt O (zSb O O (zt O (zN ?_)))))))
     refine ⟨_,_,?lt,?le,(j-1),y1,y2,y3,e1,e2,e3,c,_,O,(H.sub (.cons _ (.cons_cons _ (.cons_cons _ (.cons_cons _ .slnil))))),(by omega),(by omega),hM2,hz2,(by omega),hy,hM2_b3,hM2_b2,hM2_rb,hy_b3,hy_b2,hy_rb,(by omega),O⟩
     case lt=>omega
     case le=>exact Env.qle ⟨O,O,O,O,⟨⟩⟩
   ·replace h20:=bT h20
    refine zj O ?_
    refine wpS_cut (fun E S=>∃ (b5:Nat) (y1:Option Addr) (y2:Option Addr) (y3:Option Addr) (e1:Nat) (e2:Nat) (e3:Nat) (c:Box) (qq:Int),E=Env.lst [(0,vN rb 0),(2,vN b2 0),(3,vN b3 0),(4,int j),(5,vN b5 0)]∧Loc [rb] S0 S [(b5,Cs [.slice y1 c.rs.length e1,.slice y2 c.es.length e2,.slice y3 c.cs.length e3] 29),(b3,Cs [.slice x1 b.rs.length d1,.slice x2 b.es.length d2,.slice x3 b.cs.length d3] 29),(b2,Cs [.slice none 0 0,.slice none 0 0,.slice none 0 0] 29),(rb,Cs [.slice a n cap,int qq] 142)]∧(BoxM S0 S y1 y2 y3 e2 e3 c)∧(BoxY c)∧(q≤qq)∧(qq≤q+61)∧(By S a n)∧(NotIn y1 y2 y3 b5)∧(NotIn y1 y2 y3 b3)∧(NotIn y1 y2 y3 b2)∧(NotIn y1 y2 y3 rb)∧(OffY a n b5)∧(OffY a n b3)∧(OffY a n b2)∧(OffY a n rb)) ?_ ?_
    ·skip
     refine zY [rb] (ve 0 O O (fun S' hS'=>zA fun K hK=>zO O (zF (hS' O) (nin1 (by rintro rfl;exact absurd H.nodup (by simp))) (H.cells (vs:=[_,_,_]) .h O)) hK) (vC 1 O O O (ve 2 O O (fun S' hS'=>zA fun K hK=>zO O (zF (hS' O) (nin1 (by rintro rfl;exact absurd H.nodup (by simp))) (H.cells (vs:=[_,_,_]) .h O)) hK) (wpD_two 3 8 (by kernel_rfl) O O O O ?_ ?_))))
     ·skip
      refine zn (zP O (ct74 (H.get .h2) hy hy_rb hn (by omega) (by omega) hM.e hM.slc hM_rb.p2 hM_rb.p3 hM.l2 hz.z fun s25 p25 S hE ho25 hp25 hq25 hl25=>?_))
      replace H:=H.callX hE .h2 ho25
      replace hM:=hM.qy hE hM_rb
      replace hy:=hy.qy hE hy_rb
      refine ⟨fun _=>hE.ext,wpD_two 4 8 (by kernel_rfl) O O O O ?_ ?_⟩
      ·skip
       refine zn (zP O (ct26 hM.r hM.e hM.slc hM.l2 hM.l3 hz.z fun x126 x226 x326 x426 d126 d226 d326 d426 r26 S hE hr26 hM26 hD26 hl26=>?_))
       have hM26_b3:=hM26.old (H.get .h)
       have hM26_b2:=hM26.old (H.get .h1)
       have hM26_rb:=hM26.old (H.get .h2)
       replace hM26:=hM26.backX H.qx
       have hz26:BoxY r26.1:=by rw [hr26];exact boxInP_Y _ _
       replace H:=H.call hE
       replace hy:=hy.mono hE
       refine zLd (vC 5 O O O (vF 6 O O (fun _ _ hK=>vo O O hK) (vF 7 O O (fun _ _ hK=>vo O O hK) (zy 8 (by kernel_rfl) O O (zn (W_alloc H O fun b5 S hb5 hE H=>?_))))))
       have hy_b5:=hy.ne hb5
       replace hy:=hy.mono hE
       have hM26_b5:=hM26.ne hb5
       replace hM26:=hM26.mono hE
       refine ⟨fun _=>hE.up.ext,zy 9 (by kernel_rfl) O O (zn (zSt H O O O .h O fun S hE H=>?_))⟩
       replace hy:=hy.qy hE hy_b5
       replace hM26:=hM26.qy hE hM26_b5
       refine zLd (vC 10 O O O (zT (ze ?_)))
       refine ⟨_,?le,b5,x126,x226,x326,d126,d226,d326,r26.1,_,O,H,hM26,hz26,(by omega),(by omega),hy,hM26_b5,hM26_b3,hM26_b2,hM26_rb,hy_b5,hy_b3,hy_b2,hy_rb⟩
       case le=>exact Env.qle ⟨O,O,O,O,O,⟨⟩⟩
      ·skip
       refine zn (W_alloc H O fun b5 S hb5 hE H=>?_)
       replace hM:=hM.mono hE
       have hy_b5:=hy.ne hb5
       replace hy:=hy.mono hE
       refine ⟨fun _=>hE.up.ext,zy 4 (by kernel_rfl) O O (zn (zP O (ct26 hM.r hM.e hM.slc hM.l2 hM.l3 hz.z fun x126 x226 x326 x426 d126 d226 d326 d426 r26 S hE hr26 hM26 hD26 hl26=>?_)))⟩
       have hM26_b5:=hM26.old (H.get .h)
       have hM26_b3:=hM26.old (H.get .h1)
       have hM26_b2:=hM26.old (H.get .h2)
       have hM26_rb:=hM26.old (H.get .h3)
       replace hM26:=hM26.backX H.qx
       have hz26:BoxY r26.1:=by rw [hr26];exact boxInP_Y _ _
       replace H:=H.call hE
       replace hy:=hy.mono hE
       refine zLd (vC 5 O O O (vF 6 O O (fun _ _ hK=>vo O O hK) (vF 7 O O (fun _ _ hK=>vo O O hK) (zy 9 (by kernel_rfl) O O (zn (zSt H O O O .h O fun S hE H=>?_))))))
       replace hy:=hy.qy hE hy_b5
       replace hM26:=hM26.qy hE hM26_b5
       refine zLd (vC 10 O O O (zT (ze ?_)))
       refine ⟨_,?le,b5,x126,x226,x326,d126,d226,d326,r26.1,_,O,H,hM26,hz26,(by omega),(by omega),hy,hM26_b5,hM26_b3,hM26_b2,hM26_rb,hy_b5,hy_b3,hy_b2,hy_rb⟩
       case le=>exact Env.qle ⟨O,O,O,O,O,⟨⟩⟩
     ·skip
      refine zn (W_alloc H O fun b5 S hb5 hE H=>?_)
      replace hM:=hM.mono hE
      have hy_b5:=hy.ne hb5
      replace hy:=hy.mono hE
      refine ⟨fun _=>hE.up.ext,zy 3 (by kernel_rfl) O O (zn (zP O (ct74 (H.get .h3) hy hy_rb hn (by omega) (by omega) hM.e hM.slc hM_rb.p2 hM_rb.p3 hM.l2 hz.z fun s25 p25 S hE ho25 hp25 hq25 hl25=>?_)))⟩
      replace H:=H.callX hE .h3 ho25
      replace hM:=hM.qy hE hM_rb
      replace hy:=hy.qy hE hy_rb
      refine ⟨fun _=>hE.ext,zy 4 (by kernel_rfl) O O (zn (zP O (ct26 hM.r hM.e hM.slc hM.l2 hM.l3 hz.z fun x126 x226 x326 x426 d126 d226 d326 d426 r26 S hE hr26 hM26 hD26 hl26=>?_)))⟩
      have hM26_b5:=hM26.old (H.get .h)
      have hM26_b3:=hM26.old (H.get .h1)
      have hM26_b2:=hM26.old (H.get .h2)
      have hM26_rb:=hM26.old (H.get .h3)
      replace hM26:=hM26.backX H.qx
      have hz26:BoxY r26.1:=by rw [hr26];exact boxInP_Y _ _
      replace H:=H.call hE
      replace hy:=hy.mono hE
      refine zLd (vC 5 O O O (vF 6 O O (fun _ _ hK=>vo O O hK) (vF 7 O O (fun _ _ hK=>vo O O hK) (zy 9 (by kernel_rfl) O O (zn (zSt H O O O .h O fun S hE H=>?_))))))
      replace hy:=hy.qy hE hy_b5
      replace hM26:=hM26.qy hE hM26_b5
      refine zLd (vC 10 O O O (zT (ze ?_)))
      refine ⟨_,?le,b5,x126,x226,x326,d126,d226,d326,r26.1,_,O,H,hM26,hz26,(by omega),(by omega),hy,hM26_b5,hM26_b3,hM26_b2,hM26_rb,hy_b5,hy_b3,hy_b2,hy_rb⟩
      case le=>exact Env.qle ⟨O,O,O,O,O,⟨⟩⟩
    ·skip
     rintro _ S ⟨b5,y1,y2,y3,e1,e2,e3,c,qq,rfl,H,hM2,hz2,hq2,hq3,hy,hM2_b5,hM2_b3,hM2_b2,hM2_rb,hy_b5,hy_b3,hy_b2,hy_rb⟩
     refine zU (zLn (vs:=[_,_,_]) H O .h O (zSs H O O O .h1 O fun S hE H=>?_))
     replace hM2:=hM2.qy hE hM2_b3
     replace hy:=hy.qy hE hy_b3
     refine vl (z_ (ze (zU (zt O (zSb O O (zt O (zN ?_)))))))
     refine ⟨_,_,?lt,?le,(j-1),y1,y2,y3,e1,e2,e3,c,_,O,(H.sub (.cons _ (.cons_cons _ (.cons_cons _ (.cons_cons _ .slnil))))),(by omega),(by omega),hM2,hz2,(by omega),hy,hM2_b3,hM2_b2,hM2_rb,hy_b3,hy_b2,hy_rb,(by omega),O⟩
     case lt=>omega
     case le=>exact Env.qle ⟨O,O,O,O,⟨⟩⟩
theorem ct51 (ho:S0 rb=some ⟨Cs [.slice a n cap,int p] 142,true⟩) (hy:By S0 a n) (hy_rb:OffY a n rb) (hn:n≤2000) (p0:0≤p) (p1:p+1400≤1000000) (m0:1≤m) (m1:m≤1000000) (k:∀ (x1 x2 x3:Option Addr) (d1 d2 d3:Nat) (b:Box) (p':Int) S',Ext [rb] S0 S'→S' rb=some ⟨Cs [.slice a n cap,int p'] 142,true⟩→p≤p'→p'≤p+1400→(Sl S' 7 x1 (vf b.rs))→(Sl S' 2 x2 (zV b.es))→(Sl S' 7 x3 (z5 b.cs))→(b.es.length≤d2)→(b.cs.length≤d3)→(BoxZ b)→(Org S0 none x1)→(Org S0 none x2)→(Org S0 none x3)→K (.agg #[.slice x1 b.rs.length d1,.slice x2 b.es.length d2,.slice x3 b.cs.length d3]) S') :
  zC 51 #[vN rb 0,int m] S0 K:=by
 refine zGo (sf:=s51) Tryz.func51 ?_
 have H:=Loc.start1 ho
 have hy0:=hy
 refine zR (zAl H O fun b4 S hb4 hE H=>?_)
 replace hy:=hy.mono hE
 refine v4 (zt O (vK O (ct120 (H.get .h1) hy hy_rb hn (by omega) (by omega)  fun x18 x28 x38 d18 d28 d38 b8 p8 S hE ho8 hp8 hq8 hM8 hz8=>?_)))
 have hM8_b4:=hM8.old (H.get .h)
 have hM8_rb:=hM8.old (H.get .h1)
 replace hM8:=hM8.backX H.qx
 replace H:=H.callX hE .h1 ho8
 replace hy:=hy.qy hE hy_rb
 refine zAl H O fun b5 S hb5 hE H=>?_
 have hy_b5:=hy.ne hb5
 replace hy:=hy.mono hE
 have hM8_b5:=hM8.ne hb5
 replace hM8:=hM8.mono hE
 refine zSs H O O O .h O fun S hE H=>?_
 replace hy:=hy.qy hE hy_b5
 replace hM8:=hM8.qy hE hM8_b5
 refine zN ?_
 refine wpS_cut (fun E S=>∃ (x1:Option Addr) (x2:Option Addr) (x3:Option Addr) (d1:Nat) (d2:Nat) (d3:Nat) (b:Box) (q:Int),E=Env.lst [(0,vN rb 0),(4,vN b4 0),(5,vN b5 0)]∧Loc [rb] S0 S [(b5,Cs [.slice x1 b.rs.length d1,.slice x2 b.es.length d2,.slice x3 b.cs.length d3] 29),(b4,Cs [.slice none 0 0,.slice none 0 0,.slice none 0 0] 29),(rb,Cs [.slice a n cap,int q] 142)]∧(Sl S 7 x1 (vf b.rs))∧(Sl S 2 x2 (zV b.es))∧(Sl S 7 x3 (z5 b.cs))∧(∀ b off,x1=some ⟨b,off,none⟩→b≠b4)∧(∀ b off,x2=some ⟨b,off,none⟩→b≠b4)∧(∀ b off,x3=some ⟨b,off,none⟩→b≠b4)∧(b.es.length≤d2)∧(b.cs.length≤d3)∧(BoxZ b)∧(Org S0 none x1)∧(Org S0 none x2)∧(Org S0 none x3)∧(p≤q)∧(q≤p+1400)) ?_ ?_
 ·skip
  refine zJ ?_
  have q1:=hM8.r
  have q2:=hM8.e
  have hO:=hM8.ownO
  have t13:=hM8.t13
  have t23:=hM8.t23
  have hcp2:=hM8.l2
  have hcp3:=hM8.l3
  have o1:=hM8.o1
  have o2:=hM8.o2
  have hz:=hz8.z
  obtain ⟨y1,y2,y3,y4⟩:=id hz8
  have q1_b5:=hM8_b5.p1
  have q2_b5:=hM8_b5.p2
  have hO_b5:=hM8_b5.p3
  have q1_b4:=hM8_b4.p1
  have q2_b4:=hM8_b4.p2
  have hO_b4:=hM8_b4.p3
  have q1_rb:=hM8_rb.p1
  have q2_rb:=hM8_rb.p2
  have hO_rb:=hM8_rb.p3
  refine zU (zt O (zt O (vK O (ct52 (H.get .h2) hy hy_rb hn (by omega) (by omega) (by omega) (by omega) fun t11 p11 S hE ho11 hp11 hq11 h11=>?_))))
  replace H:=H.callX hE .h2 ho11
  replace hy:=hy.qy hE hy_rb
  replace q1:=q1.qy hE q1_rb
  replace q2:=q2.qy hE q2_rb
  replace hO:=hO.qy hE hO_rb
  refine zN ?_
  rcases t11 with _|_
  ·replace h11:=bF h11
   refine zr O (zv (ze ?_))
   refine ⟨_,?le,x18,x28,x38,d18,d28,d38,b8,_,O,H,q1,q2,hO.sl,q1_b4,q2_b4,hO_b4,hcp2,hcp3,hz,o1,o2,hO.org,(by omega),(by omega)⟩
   case le=>exact Env.qle ⟨O,O,O,⟨⟩⟩
  ·replace h11:=bT h11
   refine zj O (zR (vZ O (zL1 H O .h O (zLl O (zt O (v4 (zt O (vK O (ct121 (H.get .h2) hy hy_rb hn (by omega) (by omega) (by omega) (by omega) fun r16 p16 S hE ho16 hp16 hq16 hr16 hs16=>?_)))))))))
   replace H:=H.callX hE .h2 ho16
   replace hy:=hy.qy hE hy_rb
   replace q1:=q1.qy hE q1_rb
   replace q2:=q2.qy hE q2_rb
   replace hO:=hO.qy hE hO_rb
   refine zN (zK (zR (za (vW O O fun t25 h25=>zt O (zN ?_)))))
   rcases t25 with _|_
   ·replace h25:=bF h25
    refine zr O (zR (za (vW O O fun t30 h30=>zt O (zN ?_))))
    rcases t30 with _|_
    ·replace h30:=bF h30
     refine zr O (zR (za (vW O O fun t43 h43=>zt O (zN ?_))))
     rcases t43 with _|_
     ·replace h43:=bF h43
      refine zr O (zR (za (vW O O fun t53 h53=>zt O (zN ?_))))
      rcases t53 with _|_
      ·replace h53:=bF h53
       refine zr O (zR (za (vW O O fun t65 h65=>zt O (zN ?_))))
       rcases t65 with _|_
       ·replace h65:=bF h65
        refine zr O (zR (za (vW O O fun t70 h70=>zt O (zN ?_))))
        rcases t70 with _|_
        ·replace h70:=bF h70
         refine zr O (zR (za (vW O O fun t80 h80=>zt O (zN ?_))))
         rcases t80 with _|_
         ·replace h80:=bF h80
          refine zr O (zR (zt O (za (W_gtr O O fun t18 h18=>zN ?_))))
          rcases t18 with _|_
          ·replace h18:=bF h18
           refine zr O (zv (z_ (ze ?_)))
           refine ⟨_,?le,x18,x28,x38,d18,d28,d38,b8,_,O,H,q1,q2,hO.sl,q1_b4,q2_b4,hO_b4,hcp2,hcp3,hz,o1,o2,hO.org,(by omega),(by omega)⟩
           case le=>exact Env.qle ⟨O,O,O,⟨⟩⟩
          ·replace h18:=bT h18
           obtain ⟨x0,hx0⟩:∃ x,b8.cs[0]? = some x:=⟨b8.cs[0]'(by omega),by simp⟩
           have hyx:=y4 x0 (List.mem_of_getElem? hx0)
           rcases hO with ⟨_,hnil,_⟩ | ⟨m,rfl,hm0,csm,hom,hnm,hclm,hctm,_⟩
           ·exact absurd (congrArg List.length hnil) (by simp;omega)
           replace H:=H.also (.inl hm0) (by simp [hO_b5 m 0 rfl,hO_b4 m 0 rfl,hO_rb m 0 rfl]) hom
           have q1_m:=t13 m rfl
           have q2_m:=t23 m rfl
           have hlm:7≤csm.length:=by rw [List.length_map] at hnm;have h9:=h18;have:=Nat.mul_le_mul_right 7 (show 1≤d38 by omega);omega
           refine zj O (zU (vZ O (zL1 H O .h1 O (zIa O O (vZ O (vZ O (za (W_store H O O O O O (by decide) .h (by show 0+0*7+3+1≤csm.length;omega) O fun S hE H=>?_))))))))
           replace q1:=q1.qy hE q1_m
           replace q2:=q2.qy hE q2_m
           have hct9:(setl csm (0*7+3) [int 80]).take ((b8.cs.set 0 {x0 with o:=⟨x0.o.a,80⟩}).length*7)=(z5 (b8.cs.set 0 {x0 with o:=⟨x0.o.a,80⟩})).flatten:=by
            have h9:=row_cell (j:=3) (v:=int 80) (k:=7) (rows:=z5 b8.cs) (by simpa using hctm) zG (vp hx0) (by decide)
            simpa [z5,List.map_set] using h9
           have hls:(b8.cs.set 0 {x0 with o:=⟨x0.o.a,80⟩}).length=b8.cs.length:=List.length_set
           have H9:Loc [rb] S0 S [(m,_),(b5,_),(b4,_),(rb,_)]:=H
           rw [← hls] at H9
           replace H:=H9
           refine vl (z_ (ze ?_))
           refine ⟨_,?le,x18,x28,(some ⟨m,0,none⟩),d18,d28,d38,({b8 with cs:=b8.cs.set 0 {x0 with o:=⟨x0.o.a,80⟩}}:Box),_,O,(H.sub (.cons _ (.cons_cons _ (.cons_cons _ (.cons_cons _ .slnil))))),q1,q2,(vc (n:=(b8.cs.set 0 {x0 with o:=⟨x0.o.a,80⟩}).length*7) (H.get .h) (by simp) hct9 zG),q1_b4,q2_b4,(own_ne (by rintro rfl;exact absurd H.nodup (by simp))),hcp2,(by simpa using hcp3),(boxz_set hz8 (by simp;omega)),o1,o2,(.own hm0),(by omega),(by omega)⟩
           case le=>exact Env.qle ⟨O,O,O,⟨⟩⟩
         ·replace h80:=bT h80
          refine zj O (zR (zt O (za (W_gtr O O fun t82 h82=>zN ?_))))
          rcases t82 with _|_
          ·replace h82:=bF h82
           refine zr O (zv (z_ (ze ?_)))
           refine ⟨_,?le,x18,x28,x38,d18,d28,d38,b8,_,O,H,q1,q2,hO.sl,q1_b4,q2_b4,hO_b4,hcp2,hcp3,hz,o1,o2,hO.org,(by omega),(by omega)⟩
           case le=>exact Env.qle ⟨O,O,O,⟨⟩⟩
          ·replace h82:=bT h82
           obtain ⟨x0,hx0⟩:∃ x,b8.cs[0]? = some x:=⟨b8.cs[0]'(by omega),by simp⟩
           have hyx:=y4 x0 (List.mem_of_getElem? hx0)
           rcases hO with ⟨_,hnil,_⟩ | ⟨m,rfl,hm0,csm,hom,hnm,hclm,hctm,_⟩
           ·exact absurd (congrArg List.length hnil) (by simp;omega)
           replace H:=H.also (.inl hm0) (by simp [hO_b5 m 0 rfl,hO_b4 m 0 rfl,hO_rb m 0 rfl]) hom
           have q1_m:=t13 m rfl
           have q2_m:=t23 m rfl
           have hlm:7≤csm.length:=by rw [List.length_map] at hnm;have h9:=h82;have:=Nat.mul_le_mul_right 7 (show 1≤d38 by omega);omega
           refine zj O (zY [] (zLf 0 O O O (ve 1 O O (fun S' hS'=>zA fun K hK=>zE O (zB (hS' O) (by simp) (H.cell .h1 O)) hK) (zLf 2 O O O (ve 3 O O (fun S' hS'=>zA fun K hK=>zE O (zB (hS' O) (by simp) (H.cell .h1 O)) hK) (vF 4 O O (fun _ _ hK=>vq O O (by omega) (by omega) hK) (zLf 5 O O O (ve 6 O O (fun S' hS'=>zA fun K hK=>zE O (zB (hS' O) (by simp) (vS (i:=6) ((vc (H.get .h) O hctm zG).at (vp hx0)) O)) hK) (vF 7 O O (fun _ _ hK=>W_catS O O (by simp only [List.length_cons,List.length_nil];omega) hK) (vF 8 O O (fun _ _ hK=>vq O O (by omega) (by omega) hK) (zLf 9 O O O (zy 10 (by kernel_rfl) O O (zn (W_store H O O O O O (by decide) .h (by show 0+0*7+6+1≤csm.length;omega) O fun S hE H=>?_))))))))))))))
           replace q1:=q1.qy hE q1_m
           replace q2:=q2.qy hE q2_m
           have hct9:(setl csm (0*7+6) [str (x0.ne++[97,59])]).take ((b8.cs.set 0 {x0 with ne:=x0.ne++[97,59]}).length*7)=(z5 (b8.cs.set 0 {x0 with ne:=x0.ne++[97,59]})).flatten:=by
            have h9:=row_cell (j:=6) (v:=str (x0.ne++[97,59])) (k:=7) (rows:=z5 b8.cs) (by simpa using hctm) zG (vp hx0) (by decide)
            simpa [z5,List.map_set] using h9
           have hls:(b8.cs.set 0 {x0 with ne:=x0.ne++[97,59]}).length=b8.cs.length:=List.length_set
           have H9:Loc [rb] S0 S [(m,_),(b5,_),(b4,_),(rb,_)]:=H
           rw [← hls] at H9
           replace H:=H9
           refine zLd (zT (z_ (ze ?_)))
           refine ⟨_,?le,x18,x28,(some ⟨m,0,none⟩),d18,d28,d38,({b8 with cs:=b8.cs.set 0 {x0 with ne:=x0.ne++[97,59]}}:Box),_,O,(H.sub (.cons _ (.cons_cons _ (.cons_cons _ (.cons_cons _ .slnil))))),q1,q2,(vc (n:=(b8.cs.set 0 {x0 with ne:=x0.ne++[97,59]}).length*7) (H.get .h) (by simp) hct9 zG),q1_b4,q2_b4,(own_ne (by rintro rfl;exact absurd H.nodup (by simp))),hcp2,(by simpa using hcp3),(boxz_set hz8 (by simp;omega)),o1,o2,(.own hm0),(by omega),(by omega)⟩
           case le=>exact Env.qle ⟨O,O,O,⟨⟩⟩
        ·replace h70:=bT h70
         refine zj O (zR (zt O (za (W_gtr O O fun t72 h72=>zN ?_))))
         rcases t72 with _|_
         ·replace h72:=bF h72
          refine zr O (zv (z_ (ze ?_)))
          refine ⟨_,?le,x18,x28,x38,d18,d28,d38,b8,_,O,H,q1,q2,hO.sl,q1_b4,q2_b4,hO_b4,hcp2,hcp3,hz,o1,o2,hO.org,(by omega),(by omega)⟩
          case le=>exact Env.qle ⟨O,O,O,⟨⟩⟩
         ·replace h72:=bT h72
          obtain ⟨x0,hx0⟩:∃ x,b8.cs[0]? = some x:=⟨b8.cs[0]'(by omega),by simp⟩
          have hyx:=y4 x0 (List.mem_of_getElem? hx0)
          rcases hO with ⟨_,hnil,_⟩ | ⟨m,rfl,hm0,csm,hom,hnm,hclm,hctm,_⟩
          ·exact absurd (congrArg List.length hnil) (by simp;omega)
          replace H:=H.also (.inl hm0) (by simp [hO_b5 m 0 rfl,hO_b4 m 0 rfl,hO_rb m 0 rfl]) hom
          have q1_m:=t13 m rfl
          have q2_m:=t23 m rfl
          have hlm:7≤csm.length:=by rw [List.length_map] at hnm;have h9:=h72;have:=Nat.mul_le_mul_right 7 (show 1≤d38 by omega);omega
          refine zj O (zY [rb] (zLf 0 O O O (ve 1 O O (fun S' hS'=>zA fun K hK=>zE O (zB (hS' O) (nin1 (by rintro rfl;exact absurd H.nodup (by simp))) (H.cell .h1 O)) hK) (vC 2 O O O (zy 3 (by kernel_rfl) O O (zn (zP O (ct123 (H.get .h3) hy hy_rb hn (by omega) (by omega) (by omega) (by omega) fun s76 p76 S hE ho76 hp76 hq76 hl76=>?_))))))))
          replace H:=H.callX hE .h3 ho76
          replace q1:=q1.qy hE q1_rb
          replace q2:=q2.qy hE q2_rb
          refine ⟨fun _=>hE.ext,vF 4 O O (fun _ _ hK=>vq O O (by omega) (by omega) hK) (zLf 5 O O O (zy 6 (by kernel_rfl) O O (zn (W_store H O O O O O (by decide) .h (by show 0+0*7+5+1≤csm.length;omega) O fun S hE H=>?_))))⟩
          replace q1:=q1.qy hE q1_m
          replace q2:=q2.qy hE q2_m
          have hct9:(setl csm (0*7+5) [str s76]).take ((b8.cs.set 0 {x0 with he:=s76}).length*7)=(z5 (b8.cs.set 0 {x0 with he:=s76})).flatten:=by
           have h9:=row_cell (j:=5) (v:=str s76) (k:=7) (rows:=z5 b8.cs) (by simpa using hctm) zG (vp hx0) (by decide)
           simpa [z5,List.map_set] using h9
          have hls:(b8.cs.set 0 {x0 with he:=s76}).length=b8.cs.length:=List.length_set
          have H9:Loc [rb] S0 S [(m,_),(b5,_),(b4,_),(rb,_)]:=H
          rw [← hls] at H9
          replace H:=H9
          refine zLd (zT (z_ (ze ?_)))
          refine ⟨_,?le,x18,x28,(some ⟨m,0,none⟩),d18,d28,d38,({b8 with cs:=b8.cs.set 0 {x0 with he:=s76}}:Box),_,O,(H.sub (.cons _ (.cons_cons _ (.cons_cons _ (.cons_cons _ .slnil))))),q1,q2,(vc (n:=(b8.cs.set 0 {x0 with he:=s76}).length*7) (H.get .h) (by simp) hct9 zG),q1_b4,q2_b4,(own_ne (by rintro rfl;exact absurd H.nodup (by simp))),hcp2,(by simpa using hcp3),(boxz_set hz8 (by simp;omega)),o1,o2,(.own hm0),(by omega),(by omega)⟩
          case le=>exact Env.qle ⟨O,O,O,⟨⟩⟩
       ·replace h65:=bT h65
        refine zj O (zU (zt O (vK O (ct125 (H.get .h2) hy hy_rb hn (by omega) (by omega) (by omega) (by omega) fun x67 d67 rs67 p67 S hE ho67 hp67 hq67 hs67 hl67 hor67=>?_))))
        have hs67_b5:=hor67.ne nofun (H.get .h)
        have hs67_b4:=hor67.ne nofun (H.get .h1)
        replace hor67:=hor67.backX H.qx
        replace H:=H.callX hE .h2 ho67
        replace q2:=q2.qy hE q2_rb
        replace hO:=hO.qy hE hO_rb
        refine vZ O (zSs H O O O .h O fun S hE H=>?_)
        replace q2:=q2.qy hE q2_b5
        replace hO:=hO.qy hE hO_b5
        replace hs67:=hs67.qy hE hs67_b5
        refine vl (z_ (ze ?_))
        refine ⟨_,?le,x67,x28,x38,d67,d28,d38,({b8 with rs:=rs67}:Box),_,O,H,hs67,q2,hO.sl,hs67_b4,q2_b4,hO_b4,hcp2,hcp3,⟨(by show rs67.length≤_;omega),hz.2.1,hz.2.2.1,hz.2.2.2⟩,hor67,o2,hO.org,(by omega),(by omega)⟩
        case le=>exact Env.qle ⟨O,O,O,⟨⟩⟩
      ·replace h53:=bT h53
       refine zj O (zY [rb] (zLf 0 O O O (ve 1 O O (fun S' hS'=>zA fun K hK=>zE O (zB (hS' O) (nin1 (by rintro rfl;exact absurd H.nodup (by simp))) (H.cell .h O)) hK) (vC 2 O O O (vC 4 O O O (zy 3 (by kernel_rfl) O O (zn (zP O (ct124 (H.get .h2) hy hy_rb hn (by omega) (by omega) (by omega) (by omega) fun e57 p57 S hE ho57 hp57 hq57=>?_)))))))))
       replace H:=H.callX hE .h2 ho57
       replace hy:=hy.qy hE hy_rb
       replace q1:=q1.qy hE q1_rb
       replace q2:=q2.qy hE q2_rb
       replace hO:=hO.qy hE hO_rb
       refine ⟨fun _=>hE.ext,zy 5 (by kernel_rfl) O O (zn (zP O (ct124 (H.get .h2) hy hy_rb hn (by omega) (by omega) (by omega) (by omega) fun e59 p59 S hE ho59 hp59 hq59=>?_)))⟩
       replace H:=H.callX hE .h2 ho59
       replace q1:=q1.qy hE q1_rb
       replace q2:=q2.qy hE q2_rb
       replace hO:=hO.qy hE hO_rb
       refine ⟨fun _=>hE.ext,vF 6 O O (fun _ _ hK=>vv (cs:=[_,_,_,_,_,_,_]) O O hK) (zy 7 (by kernel_rfl) O O (zn (zS (cs:=[_,_,_,_,_,_,_]) H O O fun b61 S hb61 hE H=>?_)))⟩
       replace q1:=q1.mono hE
       replace q2:=q2.mono hE
       have hO_b61:=hO.ne hb61
       replace hO:=hO.mono hE
       refine ⟨fun _=>hE.up.ext,zy 8 (by kernel_rfl) O O ?_⟩
       have Ho62:=H
       refine zn (W_appendO H hO (fun q e=>by simp [hO_b61 q 0 e,hO_b5 q 0 e,hO_b4 q 0 e,hO_rb q 0 e]) (by rw [List.length_map];rfl) O (Src.own H .h O) (by simp [vY]) O (by decide) (by decide) (by simp;omega) O fun b62 m62 cap62 cs62 S hb62 hm62 hx62 H hE hn62 hcl62 hct62=>?_)
       obtain ⟨l62,hes62⟩:∃ l,l=b8.cs++[⟨e57,e59,[],[],[]⟩]:=⟨_,rfl⟩
       have hl62:(z5 b8.cs).length+1=l62.length:=by simp [hes62]
       have hll62:b8.cs.length+1=l62.length:=by simp [hes62]
       rw [hl62] at hn62 hct62 ⊢
       have hO62:OwnO S0 S (some ⟨b62,0,none⟩) 49 7 cap62 (z5 l62):=.inr ⟨b62,rfl,(by rcases hb62 with e | e;(rw [e];exact hm62);exact Ho62.g.isNone e),_,H.get .h,by simpa using hn62,hcl62,by (rw [List.length_map,hct62,hes62];simp [z5]),zG⟩
       have q1_m62:=q1.offO t13 hx62
       replace q1:=q1.qy hE q1_m62
       have q2_m62:=q2.offO t23 hx62
       replace q2:=q2.qy hE q2_m62
       have hO62_b5:=own_ne (a:=b62) (b:=b5) (by rintro rfl;exact absurd H.nodup (by simp))
       have hO62_b4:=own_ne (a:=b62) (b:=b4) (by rintro rfl;exact absurd H.nodup (by simp))
       replace H:=H.drop1
       refine zLd (zLf 9 O O O (zy 10 (by kernel_rfl) O O (zn (zSt H O O O .h1 O fun S hE H=>?_))))
       replace q1:=q1.qy hE q1_b5
       replace q2:=q2.qy hE q2_b5
       replace hO62:=hO62.qy hE hO62_b5
       refine zLd (zT (z_ (ze ?_)))
       refine ⟨_,?le,x18,x28,_,d18,d28,cap62,({b8 with cs:=l62}:Box),_,O,(H.sub (.cons _ (.cons_cons _ (.cons_cons _ (.cons_cons _ .slnil))))),q1,q2,hO62.sl,q1_b4,q2_b4,hO62_b4,hcp2,(by simpa using hO62.cap),(boxz_snoc hz8 (by simp) hes62),o1,o2,hO62.org,(by omega),(by omega)⟩
       case le=>exact Env.qle ⟨O,O,O,⟨⟩⟩
     ·replace h43:=bT h43
      refine zj O (zR (zt O (za (W_gtr O O fun t45 h45=>zN ?_))))
      rcases t45 with _|_
      ·replace h45:=bF h45
       refine zr O (zv (z_ (ze ?_)))
       refine ⟨_,?le,x18,x28,x38,d18,d28,d38,b8,_,O,H,q1,q2,hO.sl,q1_b4,q2_b4,hO_b4,hcp2,hcp3,hz,o1,o2,hO.org,(by omega),(by omega)⟩
       case le=>exact Env.qle ⟨O,O,O,⟨⟩⟩
      ·replace h45:=bT h45
       obtain ⟨x0,hx0⟩:∃ x,b8.cs[0]? = some x:=⟨b8.cs[0]'(by omega),by simp⟩
       have hyx:=y4 x0 (List.mem_of_getElem? hx0)
       rcases hO with ⟨_,hnil,_⟩ | ⟨m,rfl,hm0,csm,hom,hnm,hclm,hctm,_⟩
       ·exact absurd (congrArg List.length hnil) (by simp;omega)
       replace H:=H.also (.inl hm0) (by simp [hO_b5 m 0 rfl,hO_b4 m 0 rfl,hO_rb m 0 rfl]) hom
       have q1_m:=t13 m rfl
       have q2_m:=t23 m rfl
       have hlm:7≤csm.length:=by rw [List.length_map] at hnm;have h9:=h45;have:=Nat.mul_le_mul_right 7 (show 1≤d38 by omega);omega
       refine zj O (zY [rb] (zLf 0 O O O (ve 1 O O (fun S' hS'=>zA fun K hK=>zE O (zB (hS' O) (nin1 (by rintro rfl;exact absurd H.nodup (by simp))) (H.cell .h1 O)) hK) (vC 2 O O O (zy 3 (by kernel_rfl) O O (zn (zP O (ct123 (H.get .h3) hy hy_rb hn (by omega) (by omega) (by omega) (by omega) fun s49 p49 S hE ho49 hp49 hq49 hl49=>?_))))))))
       replace H:=H.callX hE .h3 ho49
       replace q1:=q1.qy hE q1_rb
       replace q2:=q2.qy hE q2_rb
       refine ⟨fun _=>hE.ext,vF 4 O O (fun _ _ hK=>vq O O (by omega) (by omega) hK) (zLf 5 O O O (zy 6 (by kernel_rfl) O O (zn (W_store H O O O O O (by decide) .h (by show 0+0*7+4+1≤csm.length;omega) O fun S hE H=>?_))))⟩
       replace q1:=q1.qy hE q1_m
       replace q2:=q2.qy hE q2_m
       have hct9:(setl csm (0*7+4) [str s49]).take ((b8.cs.set 0 {x0 with kn:=s49}).length*7)=(z5 (b8.cs.set 0 {x0 with kn:=s49})).flatten:=by
        have h9:=row_cell (j:=4) (v:=str s49) (k:=7) (rows:=z5 b8.cs) (by simpa using hctm) zG (vp hx0) (by decide)
        simpa [z5,List.map_set] using h9
       have hls:(b8.cs.set 0 {x0 with kn:=s49}).length=b8.cs.length:=List.length_set
       have H9:Loc [rb] S0 S [(m,_),(b5,_),(b4,_),(rb,_)]:=H
       rw [← hls] at H9
       replace H:=H9
       refine zLd (zT (z_ (ze ?_)))
       refine ⟨_,?le,x18,x28,(some ⟨m,0,none⟩),d18,d28,d38,({b8 with cs:=b8.cs.set 0 {x0 with kn:=s49}}:Box),_,O,(H.sub (.cons _ (.cons_cons _ (.cons_cons _ (.cons_cons _ .slnil))))),q1,q2,(vc (n:=(b8.cs.set 0 {x0 with kn:=s49}).length*7) (H.get .h) (by simp) hct9 zG),q1_b4,q2_b4,(own_ne (by rintro rfl;exact absurd H.nodup (by simp))),hcp2,(by simpa using hcp3),(boxz_set hz8 (by simp;omega)),o1,o2,(.own hm0),(by omega),(by omega)⟩
       case le=>exact Env.qle ⟨O,O,O,⟨⟩⟩
    ·replace h30:=bT h30
     refine zj O (zR (zt O (za (W_gtr O O fun t32 h32=>zN ?_))))
     rcases t32 with _|_
     ·replace h32:=bF h32
      refine zr O (zv (z_ (ze ?_)))
      refine ⟨_,?le,x18,x28,x38,d18,d28,d38,b8,_,O,H,q1,q2,hO.sl,q1_b4,q2_b4,hO_b4,hcp2,hcp3,hz,o1,o2,hO.org,(by omega),(by omega)⟩
      case le=>exact Env.qle ⟨O,O,O,⟨⟩⟩
     ·replace h32:=bT h32
      obtain ⟨x0,hx0⟩:∃ x,b8.cs[0]? = some x:=⟨b8.cs[0]'(by omega),by simp⟩
      have hyx:=y4 x0 (List.mem_of_getElem? hx0)
      obtain ⟨p3,f3,rfl,_⟩:=hO.sl.row 0 _ (vp hx0)
      refine zj O (zY [] (zLf 0 O O O (ve 1 O O (fun S' hS'=>zA fun K hK=>zE O (zB (hS' O) (by simp) (H.cell .h O)) hK) (zLf 2 O O O (ve 3 O O (fun S' hS'=>zA fun K hK=>zE O (zB (hS' O) (by simp) (H.cell .h O)) hK) (vF 4 O O (fun _ _ hK=>vq O O (by omega) (by omega) hK) (ve 5 O O (fun S' hS'=>zA fun K hK=>zO (vs:=[_,_,_,_,_,_,_]) O (zF (hS' O) (by simp) (hO.sl.at (vp hx0))) hK) (zy 6 (by kernel_rfl) O O (zn (zS (cs:=[_,_,_,_,_,_,_]) H O O fun b39 S hb39 hE H=>?_))))))))))
      replace q1:=q1.mono hE
      replace q2:=q2.mono hE
      have hO_b39:=hO.ne hb39
      replace hO:=hO.mono hE
      refine ⟨fun _=>hE.up.ext,zy 7 (by kernel_rfl) O O ?_⟩
      have Ho40:=H
      refine zn (W_appendO H hO (fun q e=>by simp [hO_b39 q 0 e,hO_b5 q 0 e,hO_b4 q 0 e,hO_rb q 0 e]) (by rw [List.length_map];rfl) O (Src.own H .h O) (by simp [vY]) O (by decide) (by decide) (by simp;omega) O fun b40 m40 cap40 cs40 S hb40 hm40 hx40 H hE hn40 hcl40 hct40=>?_)
      obtain ⟨l40,hes40⟩:∃ l,l=b8.cs++[x0]:=⟨_,rfl⟩
      have hl40:(z5 b8.cs).length+1=l40.length:=by simp [hes40]
      have hll40:b8.cs.length+1=l40.length:=by simp [hes40]
      rw [hl40] at hn40 hct40 ⊢
      have hO40:OwnO S0 S (some ⟨b40,0,none⟩) 49 7 cap40 (z5 l40):=.inr ⟨b40,rfl,(by rcases hb40 with e | e;(rw [e];exact hm40);exact Ho40.g.isNone e),_,H.get .h,by simpa using hn40,hcl40,by (rw [List.length_map,hct40,hes40];simp [z5]),zG⟩
      have q1_m40:=q1.offO t13 hx40
      replace q1:=q1.qy hE q1_m40
      have q2_m40:=q2.offO t23 hx40
      replace q2:=q2.qy hE q2_m40
      have hO40_b5:=own_ne (a:=b40) (b:=b5) (by rintro rfl;exact absurd H.nodup (by simp))
      have hO40_b4:=own_ne (a:=b40) (b:=b4) (by rintro rfl;exact absurd H.nodup (by simp))
      replace H:=H.drop1
      refine zLd (zLf 8 O O O (zy 9 (by kernel_rfl) O O (zn (zSt H O O O .h1 O fun S hE H=>?_))))
      replace q1:=q1.qy hE q1_b5
      replace q2:=q2.qy hE q2_b5
      replace hO40:=hO40.qy hE hO40_b5
      refine zLd (zT (z_ (ze ?_)))
      refine ⟨_,?le,x18,x28,_,d18,d28,cap40,({b8 with cs:=l40}:Box),_,O,(H.sub (.cons _ (.cons_cons _ (.cons_cons _ (.cons_cons _ .slnil))))),q1,q2,hO40.sl,q1_b4,q2_b4,hO40_b4,hcp2,(by simpa using hO40.cap),(boxz_snoc hz8 (by omega) hes40),o1,o2,hO40.org,(by omega),(by omega)⟩
      case le=>exact Env.qle ⟨O,O,O,⟨⟩⟩
   ·replace h25:=bT h25
    refine zj O (zU (zt O (vK O (ct122 (H.get .h2) hy hy_rb hn (by omega) (by omega) (by omega) (by omega) fun x27 d27 es27 p27 S hE ho27 hp27 hq27 hs27 hc27 hl27 hor27=>?_))))
    have hs27_b5:=hor27.ne nofun (H.get .h)
    have hs27_b4:=hor27.ne nofun (H.get .h1)
    replace hor27:=hor27.backX H.qx
    replace H:=H.callX hE .h2 ho27
    replace q1:=q1.qy hE q1_rb
    replace hO:=hO.qy hE hO_rb
    refine vZ O (zSs H O O O .h O fun S hE H=>?_)
    replace q1:=q1.qy hE q1_b5
    replace hO:=hO.qy hE hO_b5
    replace hs27:=hs27.qy hE hs27_b5
    refine vl (z_ (ze ?_))
    refine ⟨_,?le,x18,x27,x38,d18,d27,d38,({b8 with es:=es27}:Box),_,O,H,q1,hs27,hO.sl,q1_b4,hs27_b4,hO_b4,hc27,hcp3,⟨hz.1,(by show es27.length≤_;omega),hz.2.2.1,hz.2.2.2⟩,o1,hor27,hO.org,(by omega),(by omega)⟩
    case le=>exact Env.qle ⟨O,O,O,⟨⟩⟩
 ·skip
  rintro _ S ⟨x1,x2,x3,d1,d2,d3,b,q,rfl,H,q1,q2,q3,q1_b4,q2_b4,q3_b4,hc2,hc3,hz,o1,o2,o3,hq0,hq1⟩
  refine zR (zLn (vs:=[_,_,_]) H O .h O (zSs H O O O .h1 O fun S hE H=>?_))
  replace q1:=q1.qy hE q1_b4
  replace q2:=q2.qy hE q2_b4
  replace q3:=q3.qy hE q3_b4
  refine zN (zi (⟨trivial,_,(zW (ws:=[_,_,_]) H O .h1 O zM),?_⟩))
  exact k _ _ _ _ _ _ b _ _ H.qx (H.get .h2) (by omega) (by omega) q1 q2 q3 hc2 hc3 hz o1 o2 o3
theorem ct12 (hy0:By S0 a n0) (hc:n0≤cap) (k:∀ (x1 x2 x3:Option Addr) (d1 d2 d3:Nat) (b:Box) (s:Seg) S',Ext [] S0 S'→(Sl S' 7 x1 (vf b.rs))→(Sl S' 2 x2 (zV b.es))→(Sl S' 7 x3 (z5 b.cs))→(b.es.length≤d2)→(b.cs.length≤d3)→(BoxZ b)→(s.dt.length≤20)→(Org S0 none x1)→(Org S0 none x2)→(Org S0 none x3)→K (.tuple #[.agg #[.slice x1 b.rs.length d1,.slice x2 b.es.length d2,.slice x3 b.cs.length d3],s.v]) S') :
  zC 12 #[.slice a n0 cap] S0 K:=by
 refine zGh (sf:=s12) Tryz.func12 fun H=>zR (zAl H O fun b2 S hb2 hE H=>zAl H O fun b3 S hb3 hE H=>v4 (zt O (vK O (ct50 (hy0.mono H.qx) hc fun rb n S hE hrb ho hn hle hy=>?_))))
 have hy_rb:=((hy0.mono H.qx).ne hrb).le hle
 have hy_b3:=(hy0.off0 (H.new1 .h)).le hle
 have hy_b2:=(hy0.off0 (H.new1 .h1)).le hle
 replace H:=H.adopt hE hrb ho
 replace hy:=hy
 refine zt O (v4 (zt O (vK O (ct51 (H.get .h) hy hy_rb hn (by omega) (by omega) (by decide) (by decide) fun x19 x29 x39 d19 d29 d39 b9 p9 S hE ho9 hp9 hq9 k19 k29 k39 lc29 lc39 hz9 o19 o29 o39=>?_))))
 have k19_rb:=o19.ne nofun (H.get .h)
 have k19_b3:=o19.ne nofun (H.get .h1)
 have k19_b2:=o19.ne nofun (H.get .h2)
 have k29_rb:=o29.ne nofun (H.get .h)
 have k29_b3:=o29.ne nofun (H.get .h1)
 have k29_b2:=o29.ne nofun (H.get .h2)
 have k39_rb:=o39.ne nofun (H.get .h)
 have k39_b3:=o39.ne nofun (H.get .h1)
 have k39_b2:=o39.ne nofun (H.get .h2)
 replace o19:=o19.back H.qx
 replace o29:=o29.back H.qx
 replace o39:=o39.back H.qx
 replace H:=H.callX hE .h ho9
 replace hy:=hy.qy hE hy_rb
 refine zAl H O fun b5 S hb5 hE H=>?_
 have hy_b5:=hy.ne hb5
 replace hy:=hy.mono hE
 have k19_b5:=k19.ne hb5
 replace k19:=k19.mono hE
 have k29_b5:=k29.ne hb5
 replace k29:=k29.mono hE
 have k39_b5:=k39.ne hb5
 replace k39:=k39.mono hE
 refine zSs H O O O .h O fun S hE H=>?_
 replace hy:=hy.qy hE hy_b5
 replace k19:=k19.qy hE k19_b5
 replace k29:=k29.qy hE k29_b5
 replace k39:=k39.qy hE k39_b5
 refine zN (zSS (zt O (vK O (ct52 (H.get .h1) hy hy_rb hn (by omega) (by omega) (by decide) (by decide) fun t11 p11 S hE ho11 hp11 hq11 h11=>?_))))
 replace H:=H.callX hE .h1 ho11
 replace hy:=hy.qy hE hy_rb
 replace k19:=k19.qy hE k19_rb
 replace k29:=k29.qy hE k29_rb
 replace k39:=k39.qy hE k39_rb
 refine zN ?_
 rcases t11 with _|_
 ·replace h11:=bF h11
  refine zr O (zv (ze (zJ (zY [rb] (ve 0 O O (fun S' hS'=>zA fun K hK=>zO O (zF (hS' O) (nin1 (by rintro rfl;exact absurd H.nodup (by simp))) (H.cells (vs:=[_,_,_]) .h O)) hK) (vC 1 O O O (ve 2 O O (fun S' hS'=>zA fun K hK=>zO O (zF (hS' O) (nin1 (by rintro rfl;exact absurd H.nodup (by simp))) (H.cells (vs:=[_,_,_]) .h O)) hK) (zy 3 (by kernel_rfl) O O (zn (zP O (ct54 (H.get .h1) hy hy_rb hn (by omega) (by omega) k29 k39 k29_rb k39_rb lc29 hz9 fun s18 p18 S hE ho18 hp18 hq18 hl18=>?_)))))))))))
  replace H:=H.callX hE .h1 ho18
  replace k19:=k19.qy hE k19_rb
  replace k29:=k29.qy hE k29_rb
  replace k39:=k39.qy hE k39_rb
  refine ⟨fun _=>hE.ext,zy 4 (by kernel_rfl) O O (zn (zSt H O O O .h3 O fun S hE H=>?_))⟩
  replace k19:=k19.qy hE k19_b2
  replace k29:=k29.qy hE k29_b2
  replace k39:=k39.qy hE k39_b2
  refine zLd (zy 5 (by kernel_rfl) O O (zn (zSt H O O O .h2 O fun S hE H=>?_)))
  replace k19:=k19.qy hE k19_b3
  replace k29:=k29.qy hE k29_b3
  replace k39:=k39.qy hE k39_b3
  refine zLd (zT (ze (zi (⟨trivial,_,(zW (ws:=[_,_,_]) H O .h3 O (zW (ws:=[_,_,_,_,_,_,_]) H O .h2 O zM)),?_⟩))))
  exact k _ _ _ _ _ _ b9 s18 _ H.qx k19 k29 k39 lc29 lc39 hz9 hl18 o19 o29 o39
 ·replace h11:=bT h11
  refine zj O (zJ (zY [rb] (ve 0 O O (fun S' hS'=>zA fun K hK=>zO O (zF (hS' O) (nin1 (by rintro rfl;exact absurd H.nodup (by simp))) (H.cells (vs:=[_,_,_]) .h O)) hK) (vC 1 O O O (zy 2 (by kernel_rfl) O O (zn (zP O (ct53 (H.get .h1) hy hy_rb hn (by omega) (by omega) (by decide) (by decide) fun s14 p14 S hE ho14 hp14 hq14 hl14=>?_))))))))
  replace H:=H.callX hE .h1 ho14
  replace k19:=k19.qy hE k19_rb
  replace k29:=k29.qy hE k29_rb
  replace k39:=k39.qy hE k39_rb
  refine ⟨fun _=>hE.ext,zy 3 (by kernel_rfl) O O (zn (zSt H O O O .h3 O fun S hE H=>?_))⟩
  replace k19:=k19.qy hE k19_b2
  replace k29:=k29.qy hE k29_b2
  replace k39:=k39.qy hE k39_b2
  refine zLd (zy 4 (by kernel_rfl) O O (zn (zSt H O O O .h2 O fun S hE H=>?_)))
  replace k19:=k19.qy hE k19_b3
  replace k29:=k29.qy hE k29_b3
  replace k39:=k39.qy hE k39_b3
  refine zLd (zT (ze (zi (zw (⟨trivial,_,(zW (ws:=[_,_,_]) H O .h3 O (zW (ws:=[_,_,_,_,_,_,_]) H O .h2 O zM)),?_⟩)))))
  exact k _ _ _ _ _ _ b9 s14 _ H.qx k19 k29 k39 lc29 lc39 hz9 hl14 o19 o29 o39
theorem ct23 (hy0:By S0 a n0) (hc:n0≤cap) (k:∀ (x1 x2 x3:Option Addr) (d1 d2 d3:Nat) (b:Box) (s:Seg) S',Ext [] S0 S'→(Sl S' 7 x1 (vf b.rs))→(Sl S' 2 x2 (zV b.es))→(Sl S' 7 x3 (z5 b.cs))→(b.es.length≤d2)→(b.cs.length≤d3)→(BoxZ b)→(s.dt.length≤20)→(Org S0 none x1)→(Org S0 none x2)→(Org S0 none x3)→K (.tuple #[.agg #[.slice x1 b.rs.length d1,.slice x2 b.es.length d2,.slice x3 b.cs.length d3],s.v]) S') :
  zC 23 #[.slice a n0 cap] S0 K:=by
 refine zGh (sf:=s23) Tryz.func23 fun H=>zR (zAl H O fun b2 S hb2 hE H=>zAl H O fun b3 S hb3 hE H=>v4 (zt O (vK O (ct50 (hy0.mono H.qx) hc fun rb n S hE hrb ho hn hle hy=>?_))))
 have hy_rb:=((hy0.mono H.qx).ne hrb).le hle
 have hy_b3:=(hy0.off0 (H.new1 .h)).le hle
 have hy_b2:=(hy0.off0 (H.new1 .h1)).le hle
 replace H:=H.adopt hE hrb ho
 replace hy:=hy
 refine zt O (v4 (zt O (vK O (ct51 (H.get .h) hy hy_rb hn (by omega) (by omega) (by decide) (by decide) fun x19 x29 x39 d19 d29 d39 b9 p9 S hE ho9 hp9 hq9 k19 k29 k39 lc29 lc39 hz9 o19 o29 o39=>?_))))
 have k19_rb:=o19.ne nofun (H.get .h)
 have k19_b3:=o19.ne nofun (H.get .h1)
 have k19_b2:=o19.ne nofun (H.get .h2)
 have k29_rb:=o29.ne nofun (H.get .h)
 have k29_b3:=o29.ne nofun (H.get .h1)
 have k29_b2:=o29.ne nofun (H.get .h2)
 have k39_rb:=o39.ne nofun (H.get .h)
 have k39_b3:=o39.ne nofun (H.get .h1)
 have k39_b2:=o39.ne nofun (H.get .h2)
 replace o19:=o19.back H.qx
 replace o29:=o29.back H.qx
 replace o39:=o39.back H.qx
 replace H:=H.callX hE .h ho9
 replace hy:=hy.qy hE hy_rb
 refine zAl H O fun b5 S hb5 hE H=>?_
 have hy_b5:=hy.ne hb5
 replace hy:=hy.mono hE
 have k19_b5:=k19.ne hb5
 replace k19:=k19.mono hE
 have k29_b5:=k29.ne hb5
 replace k29:=k29.mono hE
 have k39_b5:=k39.ne hb5
 replace k39:=k39.mono hE
 refine zSs H O O O .h O fun S hE H=>?_
 replace hy:=hy.qy hE hy_b5
 replace k19:=k19.qy hE k19_b5
 replace k29:=k29.qy hE k29_b5
 replace k39:=k39.qy hE k39_b5
 refine zN (zSS (zt O (vK O (ct52 (H.get .h1) hy hy_rb hn (by omega) (by omega) (by decide) (by decide) fun t11 p11 S hE ho11 hp11 hq11 h11=>?_))))
 replace H:=H.callX hE .h1 ho11
 replace hy:=hy.qy hE hy_rb
 replace k19:=k19.qy hE k19_rb
 replace k29:=k29.qy hE k29_rb
 replace k39:=k39.qy hE k39_rb
 refine zN ?_
 rcases t11 with _|_
 ·replace h11:=bF h11
  refine zr O (zv (ze (zJ (zY [rb] (ve 0 O O (fun S' hS'=>zA fun K hK=>zO O (zF (hS' O) (nin1 (by rintro rfl;exact absurd H.nodup (by simp))) (H.cells (vs:=[_,_,_]) .h O)) hK) (vC 1 O O O (ve 2 O O (fun S' hS'=>zA fun K hK=>zO O (zF (hS' O) (nin1 (by rintro rfl;exact absurd H.nodup (by simp))) (H.cells (vs:=[_,_,_]) .h O)) hK) (zy 3 (by kernel_rfl) O O (zn (zP O (ct74 (H.get .h1) hy hy_rb hn (by omega) (by omega) k29 k39 k29_rb k39_rb lc29 hz9 fun s18 p18 S hE ho18 hp18 hq18 hl18=>?_)))))))))))
  replace H:=H.callX hE .h1 ho18
  replace k19:=k19.qy hE k19_rb
  replace k29:=k29.qy hE k29_rb
  replace k39:=k39.qy hE k39_rb
  refine ⟨fun _=>hE.ext,zy 4 (by kernel_rfl) O O (zn (zSt H O O O .h3 O fun S hE H=>?_))⟩
  replace k19:=k19.qy hE k19_b2
  replace k29:=k29.qy hE k29_b2
  replace k39:=k39.qy hE k39_b2
  refine zLd (zy 5 (by kernel_rfl) O O (zn (zSt H O O O .h2 O fun S hE H=>?_)))
  replace k19:=k19.qy hE k19_b3
  replace k29:=k29.qy hE k29_b3
  replace k39:=k39.qy hE k39_b3
  refine zLd (zT (ze (zi (⟨trivial,_,(zW (ws:=[_,_,_]) H O .h3 O (zW (ws:=[_,_,_,_,_,_,_]) H O .h2 O zM)),?_⟩))))
  exact k _ _ _ _ _ _ b9 s18 _ H.qx k19 k29 k39 lc29 lc39 hz9 hl18 o19 o29 o39
 ·replace h11:=bT h11
  refine zj O (zJ (zY [rb] (ve 0 O O (fun S' hS'=>zA fun K hK=>zO O (zF (hS' O) (nin1 (by rintro rfl;exact absurd H.nodup (by simp))) (H.cells (vs:=[_,_,_]) .h O)) hK) (vC 1 O O O (zy 2 (by kernel_rfl) O O (zn (zP O (ct53 (H.get .h1) hy hy_rb hn (by omega) (by omega) (by decide) (by decide) fun s14 p14 S hE ho14 hp14 hq14 hl14=>?_))))))))
  replace H:=H.callX hE .h1 ho14
  replace k19:=k19.qy hE k19_rb
  replace k29:=k29.qy hE k29_rb
  replace k39:=k39.qy hE k39_rb
  refine ⟨fun _=>hE.ext,zy 3 (by kernel_rfl) O O (zn (zSt H O O O .h3 O fun S hE H=>?_))⟩
  replace k19:=k19.qy hE k19_b2
  replace k29:=k29.qy hE k29_b2
  replace k39:=k39.qy hE k39_b2
  refine zLd (zy 4 (by kernel_rfl) O O (zn (zSt H O O O .h2 O fun S hE H=>?_)))
  replace k19:=k19.qy hE k19_b3
  replace k29:=k29.qy hE k29_b3
  replace k39:=k39.qy hE k39_b3
  refine zLd (zT (ze (zi (zw (⟨trivial,_,(zW (ws:=[_,_,_]) H O .h3 O (zW (ws:=[_,_,_,_,_,_,_]) H O .h2 O zM)),?_⟩)))))
  exact k _ _ _ _ _ _ b9 s14 _ H.qx k19 k29 k39 lc29 lc39 hz9 hl14 o19 o29 o39
end
end Go.Proofs.YtnccejlibbgpkaaGreatDoor
