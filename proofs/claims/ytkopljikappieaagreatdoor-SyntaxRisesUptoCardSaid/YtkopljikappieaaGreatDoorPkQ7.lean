/-
  Texts of this claim, packed (what nothing names is left out): Z3, SynR1, SynR2, SynR3, ReadH, Z5. Own work, partly printed by own programs. No condition.
-/
import Derived.Test.YtkopljikappieaaGreatDoorPkQ6
import Derived.Test.YtkopljikappieaaGreatDoorPkQ4
import Derived.Test.YtkopljikappieaaGreatDoorPkQ3
import Derived.Test.YtkopljikappieaaGreatDoorRows
set_option linter.unusedVariables false
set_option linter.unusedSimpArgs false
set_option maxHeartbeats 2000000
namespace Go.Proofs.YtkopljikappieaaGreatDoor
open Go Go.Vc Go.RowKit
set_option maxRecDepth 20000 in
theorem ib (n:Nat) (rec_syntax_template:TD0→Bs→Int→Option (Sum (Int×Bs) TA0)) (hrec_syntax_template: ∀ (M:Mem) (hG:GL M) (c0:Lv) (d0:TD0) (h0:Rep M (ap d0) c0) (d1:Bs) (d2:Int) (r:Sum (Int×Bs) TA0) (hF:rec_syntax_template d0 d1 d2=some r),OkX Tryz.prog M 23 [.agg c0.toArray,S d1,iL d2] 78 r (λr=>λM' v=>∃ (c0:Lv),v=.agg c0.toArray∧Rep M' (bY r) c0)) (M:Mem) (hG:GL M) (d0:Bs) (c1:Lv) (d1:TD0) (h1:Rep M (ap d1) c1) (d2:Bs) (d3:Int) (r:Sum (Int×Bs) TB0) (hF:dG n rec_syntax_template d0 d1 d2 d3=some r):OkX Tryz.prog M 54 [S d0,.agg c1.toArray,S d2,iL d3] 78 r (λr=>λM' v=>∃ (c0:Lv),v=.agg c0.toArray∧Rep M' (bu r) c0):=by
 unfold dG at hF
 intro M1 hM0 w0 H w p0
 replace hG:=GL.mono hM0 hG
 replace h1:=Rep.mono hM0 _ _ h1
 obtain⟨Z1,P1,Z2,P2,rfl,B1,B2⟩:=TD0.opn h1
 refine Re 138 Tryz.func54 rfl λa0 f0=>RR (Y13 (cs:=(aTD0 d1 Z1 P1 Z2 P2)) (T:=26) f0 p0 λQ1 V1 W1 J1 R1 N1 _ f=>?_)
 have R2:=bR R1
 refine Y12 f N1 (.cells #[S [],S [],S [],Sn,Sn,bO false,Sn] 66 (0,0)) λQ2 W2 N2 _ f=>eT (RR (Y f 2 λ_ f=>Y12 f N2 (.cells #[S [],S [],S [],Sn,Sn,bO false,Sn] 66 (0,0)) λQ3 W3 N3 _ f=>Ys [S d0,S [],S [],Sn,Sn,bO false,Sn] #[S d0,S [],S [],Sn,Sn,bO false,Sn] f N3 rfl rfl λW4 N4 _ f=>eT (RR (Z f (Y31 (cs:=(lTD0 d1 Z1 P1 Z2 P2)) rfl (ad:=⟨Q1,0,none⟩) (λj v h=>N4.cell (R2 j v h))) λ_ f=>Y f 1 λ_ f=>aQ (k:=5) (c:=5) f N4 (.cells #[S [84,121,112,101],S [67,111,110,100,105,116,105,111,110],S [68,101,112,101,110,100,115,79,110],S [68,101,108,101,116,105,111,110,80,111,108,105,99,121],S [80,114,111,112,101,114,116,105,101,115]] 9 (0,0)) kr (λ_=>by kernel_rfl) λQ4 W5 N5 _ f=>?_))))
 have D1:ag V1 (([[84,121,112,101],[67,111,110,100,105,116,105,111,110],[68,101,112,101,110,100,115,79,110],[68,101,108,101,116,105,111,110,80,111,108,105,99,121],[80,114,111,112,101,114,116,105,101,115]]:List Bs).map Dat.str) [S [84,121,112,101],S [67,111,110,100,105,116,105,111,110],S [68,101,112,101,110,100,115,79,110],S [68,101,108,101,116,105,111,110,80,111,108,105,99,121],S [80,114,111,112,101,114,116,105,101,115]]:=⟨_,_,rfl,rfl,⟨_,_,rfl,rfl,⟨_,_,rfl,rfl,⟨_,_,rfl,rfl,⟨_,_,rfl,rfl,rfl⟩⟩⟩⟩⟩
 have N6:Hp w0 V1 ((Ent.row 9 1 (.slice (some ⟨Q4,0,none⟩) 5 5) ([[84,121,112,101],[67,111,110,100,105,116,105,111,110],[68,101,112,101,110,100,115,79,110],[68,101,108,101,116,105,111,110,80,111,108,105,99,121],[80,114,111,112,101,114,116,105,101,115]]:List Bs).length [S [84,121,112,101],S [67,111,110,100,105,116,105,111,110],S [68,101,112,101,110,100,115,79,110],S [68,101,108,101,116,105,111,110,80,111,108,105,99,121],S [80,114,111,112,101,114,116,105,101,115]])::(oC Q3 #[S d0,S [],S [],Sn,Sn,bO false,Sn] 66)::(oC Q2 #[S [],S [],S [],Sn,Sn,bO false,Sn] 66)::H) W5:=N5.objRow (n:=5) (cap:=5) (size:=1) (by decide) (by decide) (dS (by decide) rfl) rfl rfl
 obtain⟨Z3,P3,V2,H1,J2,N7,B3⟩:=N6.rowSli (f:=Dat.str) (xs:=([[84,121,112,101],[67,111,110,100,105,116,105,111,110],[68,101,112,101,110,100,115,79,110],[68,101,108,101,116,105,111,110,80,111,108,105,99,121],[80,114,111,112,101,114,116,105,101,115]]:List Bs)) bZ D1
 have f:=f.st 26 (H1)
 obtain⟨X1,l1,F1⟩:=bS hF
 rcases X1 with X2|X3
 ·refine aH f N7 (bH n _ (GL.mono (J1.trans J2) hG) _ d1 (TD0.shutx (x:=d1) (B1.mono (J1.trans J2)) (B2.mono (J1.trans J2))) d2 Z3 P3 ([[84,121,112,101],[67,111,110,100,105,116,105,111,110],[68,101,112,101,110,100,115,79,110],[68,101,108,101,116,105,111,110,80,111,108,105,99,121],[80,114,111,112,101,114,116,105,101,115]]:List Bs) B3 (.inl X2) l1) kr (λ_=>by kernel_rfl) λV3 W6 J3 N8=>bM (aP f ?_)
  cases sI F1
  exact⟨V3,((J1.trans J2).trans J3),(N8.dropN 2),rfl⟩
 ·refine Y16 f N7 (OkX.ok (bH n _ (GL.mono (J1.trans J2) hG) _ d1 (TD0.shutx (x:=d1) (B1.mono (J1.trans J2)) (B2.mono (J1.trans J2))) d2 Z3 P3 ([[84,121,112,101],[67,111,110,100,105,116,105,111,110],[68,101,112,101,110,100,115,79,110],[68,101,108,101,116,105,111,110,80,111,108,105,99,121],[80,114,111,112,101,114,116,105,101,115]]:List Bs) B3 (.inr X3) l1)) λ_ V4 W7 J4 N9 eM _ f=>?_
  obtain⟨C1,eF,C2,iA,rfl,D2,dg,D3,dD⟩:=eM
  obtain⟨Z4,P4,Z5,P5,rfl,B4,B5⟩:=TD0.opn D2
  obtain rfl:iA=[S X3.2]:=D3
  refine Ye f 1 λ_ f=>RR (Y f 1 λ_ f=>?_)
  obtain⟨X4,l2,F2⟩:=bS F1
  refine Y16 f N9 (aV n _ (GL.mono ((J1.trans J2).trans J4) hG) [84,121,112,101] C1 (lTD0 X3.1 Z4 P4 Z5 P5) X3.1 (TD0.shutx (x:=X3.1) B4 B5) (bL (dg) 0 rfl) C2 [S X3.2] X3.2 (rfl) (bL (dD) 0 rfl) X4 l2) λ_ V5 W8 J5 N10 iQ _ f=>?_
  obtain⟨c_3,rfl,D4⟩:=iQ
  obtain⟨Z6,P6,Z7,P7,rfl,B6,B7⟩:=TD0.opn D4
  refine Y f 4 λ_ f=>Y12 f N10 (.cells #[iB 0,bO false,iL 0,S [],Sn,Sn] 26 (0,0)) λQ5 W9 N11 _ f=>Ys (lTD0 X4.1 Z6 P6 Z7 P7) (aTD0 X4.1 Z6 P6 Z7 P7) f N11 rfl rfl λW10 N12 _ f=>Ye f 2 λ_ f=>RR (Y f 2 λ_ f=>?_)
  rcases cE F2 with⟨B8,F3⟩|⟨B8,F43⟩
  ·have f:=f.st 34 (cB B8)
   refine Y18 f N12 (be _ (120:Int) d2) λW11 N13 _ f=>eT (RR (Z f (Y31 (cs:=(lTD0 X4.1 Z6 P6 Z7 P7)) rfl (ad:=⟨Q5,0,none⟩) (an (N13.ownCell 0 rfl) 0 rfl)) λ_ f=>Y f 1 λ_ f=>?_))
   obtain⟨X5,l3,F4⟩:=bS F3
   rcases X5 with X6|X7
   ·refine aH f N13 (dz n _ (GL.mono (((J1.trans J2).trans J4).trans J5) hG) _ X4.1 (TD0.shutx (x:=X4.1) B6 B7) X4.2.1 (true) (.inl X6) l3) kr (λ_=>by kernel_rfl) λV6 W12 J6 N14=>bM (aP f ?_)
    cases sI F4
    exact⟨V6,((((J1.trans J2).trans J4).trans J5).trans J6),(N14.dropN 3),rfl⟩
   ·refine Y16 f N13 (OkX.ok (dz n _ (GL.mono (((J1.trans J2).trans J4).trans J5) hG) _ X4.1 (TD0.shutx (x:=X4.1) B6 B7) X4.2.1 (true) (.inr X7) l3)) λ_ V7 W13 J7 N15 mg _ f=>?_
    obtain⟨rfl⟩:=mg
    refine Y f 1 λ_ f=>Y25 f N15 1 rfl rfl (b:=Q3) (j:=1) (v:=S X7) rfl (by exact rfl) (by simp) (by simp) ((Ent.obj Q5 (.cells (aTD0 X4.1 Z6 P6 Z7 P7) 26 (0,0)))::(oC Q3 #[S d0,S X7,S [],Sn,Sn,bO false,Sn] 66)::(oC Q2 #[S [],S [],S [],Sn,Sn,bO false,Sn] 66)::H) rfl λW14 N16 _ f=>eT (RR (Y f 1 λ_ f=>?_))
    obtain⟨X8,l4,F5⟩:=bS F4
    refine Y16 f N16 (aV n _ (GL.mono ((((J1.trans J2).trans J4).trans J5).trans J7) hG) [67,111,110,100,105,116,105,111,110] C1 (lTD0 X3.1 Z4 P4 Z5 P5) X3.1 (TD0.shutx (x:=X3.1) (B4.mono (J5.trans J7)) (B5.mono (J5.trans J7))) (bL ((fzu (J5.trans J7) dg)) 0 rfl) C2 [S X3.2] X3.2 (rfl) (bL ((fzu (J5.trans J7) dD)) 0 rfl) X8 l4) λ_ V8 W15 J8 N17 q_4 _ f=>?_
    obtain⟨c_4,rfl,D5⟩:=q_4
    obtain⟨Z8,P8,Z9,P9,rfl,B9,B10⟩:=TD0.opn D5
    refine Y f 3 λ_ f=>?_
    obtain⟨X9,l5,F6⟩:=bS F5
    rcases X9 with X10|X11
    ·refine aH f N17 (dz n _ (GL.mono (((((J1.trans J2).trans J4).trans J5).trans J7).trans J8) hG) _ X8.1 (TD0.shutx (x:=X8.1) B9 B10) X8.2.1 (X8.2.2) (.inl X10) l5) kr (λ_=>by kernel_rfl) λV9 W16 J9 N18=>bM (aP f ?_)
     cases sI F6
     exact⟨V9,((((((J1.trans J2).trans J4).trans J5).trans J7).trans J8).trans J9),(N18.dropN 3),rfl⟩
    ·refine Y16 f N17 (OkX.ok (dz n _ (GL.mono (((((J1.trans J2).trans J4).trans J5).trans J7).trans J8) hG) _ X8.1 (TD0.shutx (x:=X8.1) B9 B10) X8.2.1 (X8.2.2) (.inr X11) l5)) λ_ V10 W17 J10 N19 q_5 _ f=>?_
     obtain⟨rfl⟩:=q_5
     refine Y f 1 λ_ f=>Y25 f N19 1 rfl rfl (b:=Q3) (j:=2) (v:=S X11) rfl (by exact rfl) (by simp) (by simp) ((Ent.obj Q5 (.cells (aTD0 X4.1 Z6 P6 Z7 P7) 26 (0,0)))::(oC Q3 #[S d0,S X7,S X11,Sn,Sn,bO false,Sn] 66)::(oC Q2 #[S [],S [],S [],Sn,Sn,bO false,Sn] 66)::H) rfl λW18 N20 _ f=>eT (RR (Y f 1 λ_ f=>?_))
     obtain⟨X12,l6,F7⟩:=bS F6
     refine Y16 f N20 (aV n _ (GL.mono ((((((J1.trans J2).trans J4).trans J5).trans J7).trans J8).trans J10) hG) [68,101,112,101,110,100,115,79,110] C1 (lTD0 X3.1 Z4 P4 Z5 P5) X3.1 (TD0.shutx (x:=X3.1) (B4.mono (((J5.trans J7).trans J8).trans J10)) (B5.mono (((J5.trans J7).trans J8).trans J10))) (bL ((fzu (((J5.trans J7).trans J8).trans J10) dg)) 0 rfl) C2 [S X3.2] X3.2 (rfl) (bL ((fzu (((J5.trans J7).trans J8).trans J10) dD)) 0 rfl) X12 l6) λ_ V11 W19 J11 N21 q_6 _ f=>?_
     obtain⟨c_5,rfl,D6⟩:=q_6
     obtain⟨Z10,P10,Z11,P11,rfl,B11,B12⟩:=TD0.opn D6
     refine Y f 3 λ_ f=>?_
     obtain⟨X13,l7,F8⟩:=bS F7
     rcases X13 with X14|X15
     ·refine aH f N21 (jc n _ (GL.mono (((((((J1.trans J2).trans J4).trans J5).trans J7).trans J8).trans J10).trans J11) hG) _ X12.1 (TD0.shutx (x:=X12.1) B11 B12) X12.2.1 (X12.2.2) (.inl X14) l7) kr (λ_=>by kernel_rfl) λV12 W20 J12 N22=>bM (aP f ?_)
      cases sI F8
      exact⟨V12,((((((((J1.trans J2).trans J4).trans J5).trans J7).trans J8).trans J10).trans J11).trans J12),(N22.dropN 3),rfl⟩
     ·refine Y16 f N21 (OkX.ok (jc n _ (GL.mono (((((((J1.trans J2).trans J4).trans J5).trans J7).trans J8).trans J10).trans J11) hG) _ X12.1 (TD0.shutx (x:=X12.1) B11 B12) X12.2.1 (X12.2.2) (.inr X15) l7)) λ_ V13 W21 J13 N23 q_7 _ f=>?_
      obtain⟨Z12,P12,rfl,B13⟩:=q_7
      refine Y f 1 λ_ f=>Y25 f N23 1 rfl rfl (b:=Q3) (j:=4) (v:=sL Z12 X15 P12) rfl (by exact rfl) (by simp) (by simp) ((Ent.obj Q5 (.cells (aTD0 X4.1 Z6 P6 Z7 P7) 26 (0,0)))::(oC Q3 #[S d0,S X7,S X11,Sn,sL Z12 X15 P12,bO false,Sn] 66)::(oC Q2 #[S [],S [],S [],Sn,Sn,bO false,Sn] 66)::H) rfl λW22 N24 _ f=>eT (RR (Y f 1 λ_ f=>?_))
      obtain⟨X16,l8,F9⟩:=bS F8
      refine Y16 f N24 (aV n _ (GL.mono ((((((((J1.trans J2).trans J4).trans J5).trans J7).trans J8).trans J10).trans J11).trans J13) hG) [68,101,108,101,116,105,111,110,80,111,108,105,99,121] C1 (lTD0 X3.1 Z4 P4 Z5 P5) X3.1 (TD0.shutx (x:=X3.1) (B4.mono (((((J5.trans J7).trans J8).trans J10).trans J11).trans J13)) (B5.mono (((((J5.trans J7).trans J8).trans J10).trans J11).trans J13))) (bL ((fzu (((((J5.trans J7).trans J8).trans J10).trans J11).trans J13) dg)) 0 rfl) C2 [S X3.2] X3.2 (rfl) (bL ((fzu (((((J5.trans J7).trans J8).trans J10).trans J11).trans J13) dD)) 0 rfl) X16 l8) λ_ V14 W23 J14 N25 q_8 _ f=>?_
      obtain⟨c_6,rfl,D7⟩:=q_8
      obtain⟨Z13,P13,Z14,P14,rfl,B14,B15⟩:=TD0.opn D7
      refine Y f 4 λ_ f=>Y12 f N25 (.cells #[iB 0,bO false,iL 0,S [],Sn,Sn] 26 (0,0)) λQ6 W24 N26 _ f=>Ys (lTD0 X16.1 Z13 P13 Z14 P14) (aTD0 X16.1 Z13 P13 Z14 P14) f N26 rfl rfl λW25 N27 _ f=>Ye f 2 λ_ f=>aq ?_
      obtain⟨ip,eD,F10⟩:=bS F9
      refine ct (λa_60 W31=>∃G1:Unit,ip=.nx G1∧∃V17:Mem,V14.le V17∧Frm 138 [(2,S d2),(3,iL d3),(8,pP Q2),(9,pP Q3),(10,.func (.func 93) #[] #[Pa C1,Pa C2]),(14,pP Q6)] a_60∧Hp w0 V17 ((Ent.obj Q6 (.cells (aTD0 X16.1 Z13 P13 Z14 P14) 26 (0,0)))::(Ent.obj Q5 (.cells (aTD0 X4.1 Z6 P6 Z7 P7) 26 (0,0)))::(oC Q3 #[S d0,S X7,S X11,Sn,sL Z12 X15 P12,bO false,Sn] 66)::(oC Q2 #[S [],S [],S [],Sn,Sn,bO false,Sn] 66)::H) W31) ?_ ?_
      ·refine aN (Y f 3 λ_ f=>?_)
       rcases cE eD with⟨B16,F11⟩|⟨B16,F12⟩
       ·have U2: (X16.2.2)=false:=by simpa using B16
        have f:=f.st 63 (cB B16)
        refine Y f 15 λ_ f=>Y18 f N27 (be _ (120:Int) X16.2.1) λW26 N28 _ f=>eT ?_
        exact⟨(),(sI F11).symm,V14,(mR _),f.kp,N28⟩
       ·have U3: (X16.2.2)=true:=by simpa using B16
        have f:=f.st 63 (cB B16)
        refine Y f 1 λ_ f=>Z f (Y30 (v:=iB X16.1.ab) rfl (ad:=⟨Q6,0,none⟩) (N27.ownCell 0 rfl 0)) λ_ f=>Y f 2 λ_ f=>?_
        rcases cE F12 with⟨B17,F13⟩|⟨B17,F19⟩
        ·have U4:=dI.1 B17
         have f:=f.st 67 (cB B17)
         refine Y f 1 λ_ f=>Z f (Y30 (v:=S X16.1.aa) rfl (ad:=⟨Q6,3,none⟩) (N27.ownCell 0 rfl 3)) λ_ f=>Z f (Y35 rfl (l:=X16.1.aa) (m:=[68,101,108,101,116,101])) λ_ f=>Y f 1 λ_ f=>?_
         rcases cE F13 with⟨B18,F14⟩|⟨B18,F15⟩
         ·have U5:=dI.1 B18
          have f:=f.st 71 (cB B18)
          refine Y f 7 λ_ f=>Y18 f N27 (be _ (120:Int) X16.2.1) λW27 N29 _ f=>eT ?_
          exact⟨(),(sI F14).symm,V14,(mR _),f.kp,N29⟩
         ·have U6:=aA dI B18
          have f:=f.st 71 (cB B18)
          refine Y f 1 λ_ f=>Z f (Y30 (v:=S X16.1.aa) rfl (ad:=⟨Q6,3,none⟩) (N27.ownCell 0 rfl 3)) λ_ f=>Z f (Y35 rfl (l:=X16.1.aa) (m:=[82,101,116,97,105,110])) λ_ f=>Y f 4 λ_ f=>?_
          rcases cE F15 with⟨B19,F16⟩|⟨B19,F17⟩
          ·have U7:=dI.1 B19
           have f:=f.st 77 (cB B19)
           refine Y18 f N27 (be _ (120:Int) X16.2.1) λW28 N30 _ f=>eT ?_
           exact⟨(),(sI F16).symm,V14,(mR _),f.kp,N30⟩
          ·have U8:=aA dI B19
           have f:=f.st 77 (cB B19)
           refine aH f N27 (bc _ (120:Int) X16.2.1) kr (λ_=>by kernel_rfl) λV15 W29 J15 N31=>?_
           have F18:=bK F17 F10
           refine bM (bM (aP f ?_))
           cases sI F18
           exact⟨V15,((((((((((J1.trans J2).trans J4).trans J5).trans J7).trans J8).trans J10).trans J11).trans J13).trans J14).trans J15),(N31.dropN 4),rfl⟩
        ·have U9:=aA dI B17
         have f:=f.st 67 (cB B17)
         refine Y f 11 λ_ f=>aH f N27 (bc _ (120:Int) X16.2.1) kr (λ_=>by kernel_rfl) λV16 W30 J16 N32=>?_
         have F20:=bK F19 F10
         refine bM (bM (aP f ?_))
         cases sI F20
         exact⟨V16,((((((((((J1.trans J2).trans J4).trans J5).trans J7).trans J8).trans J10).trans J11).trans J13).trans J14).trans J16),(N32.dropN 4),rfl⟩
      ·rintro a_60 W31 ⟨G1,rfl,V17,J17,f,N33⟩
       refine aS (RR (Y f 1 λ_ f=>Z f (Y30 (v:=S X16.1.aa) rfl (ad:=⟨Q6,3,none⟩) (N33.ownCell 0 rfl 3)) λ_ f=>Z f (Y35 rfl (l:=X16.1.aa) (m:=[82,101,116,97,105,110])) λ_ f=>Y f 1 λ_ f=>Y25 f N33 2 rfl rfl (b:=Q3) (j:=5) (v:=bO (decide (X16.1.aa=[82,101,116,97,105,110]))) rfl (by exact rfl) (by simp) (by simp) ((Ent.obj Q6 (.cells (aTD0 X16.1 Z13 P13 Z14 P14) 26 (0,0)))::(Ent.obj Q5 (.cells (aTD0 X4.1 Z6 P6 Z7 P7) 26 (0,0)))::(oC Q3 #[S d0,S X7,S X11,Sn,sL Z12 X15 P12,bO (decide (X16.1.aa=[82,101,116,97,105,110])),Sn] 66)::(oC Q2 #[S [],S [],S [],Sn,Sn,bO false,Sn] 66)::H) rfl λW32 N34 _ f=>eT (RR (Y f 1 λ_ f=>?_))))
       obtain⟨X17,l9,F21⟩:=bS F10
       refine Y16 f N34 (aV n _ (GL.mono ((((((((((J1.trans J2).trans J4).trans J5).trans J7).trans J8).trans J10).trans J11).trans J13).trans J14).trans J17) hG) [80,114,111,112,101,114,116,105,101,115] C1 (lTD0 X3.1 Z4 P4 Z5 P5) X3.1 (TD0.shutx (x:=X3.1) (B4.mono (((((((J5.trans J7).trans J8).trans J10).trans J11).trans J13).trans J14).trans J17)) (B5.mono (((((((J5.trans J7).trans J8).trans J10).trans J11).trans J13).trans J14).trans J17))) (bL ((fzu (((((((J5.trans J7).trans J8).trans J10).trans J11).trans J13).trans J14).trans J17) dg)) 0 rfl) C2 [S X3.2] X3.2 (rfl) (bL ((fzu (((((((J5.trans J7).trans J8).trans J10).trans J11).trans J13).trans J14).trans J17) dD)) 0 rfl) X17 l9) λ_ V18 W33 J18 N35 q_9 _ f=>?_
       obtain⟨c_7,rfl,D8⟩:=q_9
       obtain⟨Z15,P15,Z16,P16,rfl,B20,B21⟩:=TD0.opn D8
       refine Y f 4 λ_ f=>Y12 f N35 (.cells #[iB 0,bO false,iL 0,S [],Sn,Sn] 26 (0,0)) λQ7 W34 N36 _ f=>Ys (lTD0 X17.1 Z15 P15 Z16 P16) (aTD0 X17.1 Z15 P15 Z16 P16) f N36 rfl rfl λW35 N37 _ f=>Ye f 2 λ_ f=>aq (RR (Y f 1 λ_ f=>Z f (Y30 (v:=S X7) rfl (ad:=⟨Q3,1,none⟩) (N37.ownCell 3 rfl 1)) λ_ f=>Z f (Y36 rfl (l:=X7) (m:=[83,116,97,99,107])) λ_ f=>eT (RcF f F21 (λB22 F22=>?_) λB22 F28=>?_)))
       ·have U10: ¬ (X7=[83,116,97,99,107]):=(cn dI).1 B22
        refine aq (RR (Ye f 1 λ_ f=>?_))
        obtain⟨nR,kl,F23⟩:=bS F22
        refine ct (λa_81 W39=>∃G2:List TG0,nR=.nx G2∧∃V21:Mem,V18.le V21∧∃ (Z18:Oa),∃ (P18:Nat),∃ (L2:Lv),ag V21 (G2.map dx) L2∧Frm 138 [(8,pP Q2),(9,pP Q3)] a_81∧Hp w0 V21 ((rO 70 7 Z18 G2 P18 L2)::(Ent.obj Q7 (.cells (aTD0 X17.1 Z15 P15 Z16 P16) 26 (0,0)))::(Ent.obj Q6 (.cells (aTD0 X16.1 Z13 P13 Z14 P14) 26 (0,0)))::(Ent.obj Q5 (.cells (aTD0 X4.1 Z6 P6 Z7 P7) 26 (0,0)))::(oC Q3 #[S d0,S X7,S X11,sL Z18 G2 P18,sL Z12 X15 P12,bO (decide (X16.1.aa=[82,101,116,97,105,110])),Sn] 66)::(oC Q2 #[S [],S [],S [],Sn,Sn,bO false,Sn] 66)::H) W39) ?_ ?_
        ·refine RcF f kl (λB23 F24=>?_) λB23 F27=>?_
         ·refine aN (Z f (Y31 (cs:=(lTD0 X17.1 Z15 P15 Z16 P16)) rfl (ad:=⟨Q7,0,none⟩) (an (N37.ownCell 0 rfl) 0 rfl)) λ_ f=>Y f 1 λ_ f=>?_)
          obtain⟨X18,l10,F25⟩:=bS F24
          rcases X18 with X19|X20
          ·refine ej (E:=[]) (H:=((Ent.obj Q7 (.cells (aTD0 X17.1 Z15 P15 Z16 P16) 26 (0,0)))::(Ent.obj Q6 (.cells (aTD0 X16.1 Z13 P13 Z14 P14) 26 (0,0)))::(Ent.obj Q5 (.cells (aTD0 X4.1 Z6 P6 Z7 P7) 26 (0,0)))::(oC Q3 #[S d0,S X7,S X11,Sn,sL Z12 X15 P12,bO (decide (X16.1.aa=[82,101,116,97,105,110])),Sn] 66)::(oC Q2 #[S [],S [],S [],Sn,Sn,bO false,Sn] 66)::H)) f N37 (gx n _ (GL.mono (((((((((((J1.trans J2).trans J4).trans J5).trans J7).trans J8).trans J10).trans J11).trans J13).trans J14).trans J17).trans J18) hG) _ X17.1 (TD0.shutx (x:=X17.1) B20 B21) X17.2.1 (.inl X19) l10) kr (λ_=>by kernel_rfl) λV19 W36 J19 N38=>?_
           have F26:=bK F25 F23
           refine bM (bM (bM (aP f ?_)))
           cases sI F26
           exact⟨V19,((((((((((((J1.trans J2).trans J4).trans J5).trans J7).trans J8).trans J10).trans J11).trans J13).trans J14).trans J17).trans J18).trans J19),(N38.dropN 5),rfl⟩
          ·refine Y17 (E:=[]) (H:=((Ent.obj Q7 (.cells (aTD0 X17.1 Z15 P15 Z16 P16) 26 (0,0)))::(Ent.obj Q6 (.cells (aTD0 X16.1 Z13 P13 Z14 P14) 26 (0,0)))::(Ent.obj Q5 (.cells (aTD0 X4.1 Z6 P6 Z7 P7) 26 (0,0)))::(oC Q3 #[S d0,S X7,S X11,Sn,sL Z12 X15 P12,bO (decide (X16.1.aa=[82,101,116,97,105,110])),Sn] 66)::(oC Q2 #[S [],S [],S [],Sn,Sn,bO false,Sn] 66)::H)) f N37 (OkXH.ok (gx n _ (GL.mono (((((((((((J1.trans J2).trans J4).trans J5).trans J7).trans J8).trans J10).trans J11).trans J13).trans J14).trans J17).trans J18) hG) _ X17.1 (TD0.shutx (x:=X17.1) B20 B21) X17.2.1 (.inr X20) l10)) λ_ V20 mN W37 J20 N39 q_10 _ f=>?_
           obtain⟨Z17,P17,L1,rfl,rfl,D9⟩:=q_10
           refine Y f 1 λ_ f=>Y25 f N39 4 rfl rfl (b:=Q3) (j:=3) (v:=sL Z17 X20 P17) rfl (by exact rfl) (by simp) (by simp) ((rO 70 7 Z17 X20 P17 L1)::(Ent.obj Q7 (.cells (aTD0 X17.1 Z15 P15 Z16 P16) 26 (0,0)))::(Ent.obj Q6 (.cells (aTD0 X16.1 Z13 P13 Z14 P14) 26 (0,0)))::(Ent.obj Q5 (.cells (aTD0 X4.1 Z6 P6 Z7 P7) 26 (0,0)))::(oC Q3 #[S d0,S X7,S X11,sL Z17 X20 P17,sL Z12 X15 P12,bO (decide (X16.1.aa=[82,101,116,97,105,110])),Sn] 66)::(oC Q2 #[S [],S [],S [],Sn,Sn,bO false,Sn] 66)::H) rfl λW38 N40 _ f=>eT ?_
           exact⟨X20,(sI F25).symm,V20,J20,Z17,P17,L1,D9,f.kp,N40⟩
         ·refine wp_skip ?_
          obtain⟨Z19,P19,H2⟩: ∃A cap,Value.slice none 0 0=.slice A ([]:List TG0).length cap:=⟨none,0,rfl⟩
          have N42:Hp w0 V18 ((Ent.row 70 7 (.slice Z19 ([]:List TG0).length P19) ([]:List TG0).length [])::(Ent.obj Q7 (.cells #[.int .i8 X17.1.ab,.bool X17.1.ah,.int .i64 X17.1.ai,S X17.1.aa,.slice Z15 X17.1.ac.length P15,.slice Z16 X17.1.af.length P16] 26 (0,0)))::(Ent.obj Q6 (.cells #[.int .i8 X16.1.ab,.bool X16.1.ah,.int .i64 X16.1.ai,S X16.1.aa,.slice Z13 X16.1.ac.length P13,.slice Z14 X16.1.af.length P14] 26 (0,0)))::(Ent.obj Q5 (.cells #[.int .i8 X4.1.ab,.bool X4.1.ah,.int .i64 X4.1.ai,S X4.1.aa,.slice Z6 X4.1.ac.length P6,.slice Z7 X4.1.af.length P7] 26 (0,0)))::(Ent.obj Q3 (.cells #[S d0,S X7,S X11,.slice Z19 ([]:List TG0).length P19,.slice Z12 X15.length P12,.bool (decide (X16.1.aa=[82,101,116,97,105,110])),.slice none 0 0] 66 (0,0)))::(Ent.obj Q2 (.cells #[S [],S [],S [],.slice none 0 0,.slice none 0 0,.bool false,.slice none 0 0] 66 (0,0)))::H) W35:=by rw[←H2];exact N37.nilRow 70 7
          have D11:ag V18 (([]:List TG0).map dx) []:=rfl
          refine aS ?_
          exact⟨([]:List TG0),(sI F27).symm,V18,(mR _),Z19,P19,[],D11,f.kp,N42⟩
        ·rintro a_81 W39 ⟨G2,rfl,V21,J21,Z18,P18,L2,D10,f,N41⟩
         refine aS (RR (Z f (Y31 (cs:=[S d0,S X7,S X11,sL Z18 G2 P18,sL Z12 X15 P12,bO (decide (X16.1.aa=[82,101,116,97,105,110])),Sn]) rfl (ad:=⟨Q3,0,none⟩) (an (N41.ownCell 4 rfl) 0 rfl)) λ_ f=>?_))
         obtain⟨Z20,P20,V22,H3,J22,N43,B24⟩:=N41.rowSli (f:=dx) (xs:=G2) szd_TG0 D10
         have f:=Frm.set f 98 (v:=.agg #[S d0,S X7,S X11,.slice Z18 G2.length P18,.slice Z12 X15.length P12,.bool (decide (X16.1.aa=[82,101,116,97,105,110])),.slice none 0 0]) (v':=.agg #[S d0,S X7,S X11,.slice Z20 G2.length P20,.slice Z12 X15.length P12,.bool (decide (X16.1.aa=[82,101,116,97,105,110])),.slice none 0 0]) (by kernel_rfl) (by rw[H3])
         have N44:Hp w0 V22 ((Ent.obj Q7 (.cells (aTD0 X17.1 Z15 P15 Z16 P16) 26 (0,0)))::(Ent.obj Q6 (.cells (aTD0 X16.1 Z13 P13 Z14 P14) 26 (0,0)))::(Ent.obj Q5 (.cells (aTD0 X4.1 Z6 P6 Z7 P7) 26 (0,0)))::(oC Q3 #[S d0,S X7,S X11,sL Z20 G2 P20,sL Z12 X15 P12,bO (decide (X16.1.aa=[82,101,116,97,105,110])),Sn] 66)::(oC Q2 #[S [],S [],S [],Sn,Sn,bO false,Sn] 66)::H) W39:=by unfold sL at N43;rw[H3] at N43;exact N43
         have N45:=N44.pl [4]
         refine Ys [S d0,S X7,S X11,sL Z20 G2 P20,sL Z12 X15 P12,bO (decide (X16.1.aa=[82,101,116,97,105,110])),Sn] #[S d0,S X7,S X11,sL Z20 G2 P20,sL Z12 X15 P12,bO (decide (X16.1.aa=[82,101,116,97,105,110])),Sn] f N45 rfl rfl λW40 N46 _ f=>Er (dj (ef f rfl (Y10 (cs:=[S d0,S X7,S X11,sL Z20 G2 P20,sL Z12 X15 P12,bO (decide (X16.1.aa=[82,101,116,97,105,110])),Sn]) (ad:=⟨Q2,0,none⟩) f (an (N46.ownCell 0 rfl) 0 rfl)) ?_))
         cases sI F23
         exact⟨_,rfl,V22,(((((((((((((J1.trans J2).trans J4).trans J5).trans J7).trans J8).trans J10).trans J11).trans J13).trans J14).trans J17).trans J18).trans J21).trans J22),(N46.dropN 5),⟨[S d0,S X7,S X11,sL Z20 G2 P20,sL Z12 X15 P12,bO (decide (X16.1.aa=[82,101,116,97,105,110])),Sn],rfl,(TB0.shut B24 (B13.mono ((((J14.trans J17).trans J18).trans J21).trans J22)) Sli.nil)⟩⟩
       ·have U13: ¬ (¬ (X7=[83,116,97,99,107])):=aA (cn dI) B22
        refine St (RR (Y f 2 λ_ f=>?_))
        rcases cE F28 with⟨B25,F29⟩|⟨B25,F42⟩
        ·have f:=f.st 99 (cB B25)
         refine Y18 f N37 (be _ (120:Int) d2) λW41 N47 _ f=>eT (RR (Z f (Y31 (cs:=(lTD0 X17.1 Z15 P15 Z16 P16)) rfl (ad:=⟨Q7,0,none⟩) (an (N47.ownCell 0 rfl) 0 rfl)) λ_ f=>Y f 1 λ_ f=>aQ (k:=2) (c:=2) f N47 (.cells #[S [84,101,109,112,108,97,116,101],S [80,97,114,97,109,101,116,101,114,115]] 9 (0,0)) kr (λ_=>by kernel_rfl) λQ8 W42 N48 _ f=>?_))
         have D12:ag V18 (([[84,101,109,112,108,97,116,101],[80,97,114,97,109,101,116,101,114,115]]:List Bs).map Dat.str) [S [84,101,109,112,108,97,116,101],S [80,97,114,97,109,101,116,101,114,115]]:=⟨_,_,rfl,rfl,⟨_,_,rfl,rfl,rfl⟩⟩
         have N49:Hp w0 V18 ((Ent.row 9 1 (.slice (some ⟨Q8,0,none⟩) 2 2) ([[84,101,109,112,108,97,116,101],[80,97,114,97,109,101,116,101,114,115]]:List Bs).length [S [84,101,109,112,108,97,116,101],S [80,97,114,97,109,101,116,101,114,115]])::(Ent.obj Q7 (.cells (aTD0 X17.1 Z15 P15 Z16 P16) 26 (0,0)))::(Ent.obj Q6 (.cells (aTD0 X16.1 Z13 P13 Z14 P14) 26 (0,0)))::(Ent.obj Q5 (.cells (aTD0 X4.1 Z6 P6 Z7 P7) 26 (0,0)))::(oC Q3 #[S d0,S X7,S X11,Sn,sL Z12 X15 P12,bO (decide (X16.1.aa=[82,101,116,97,105,110])),Sn] 66)::(oC Q2 #[S [],S [],S [],Sn,Sn,bO false,Sn] 66)::H) W42:=N48.objRow (n:=2) (cap:=2) (size:=1) (by decide) (by decide) (dS (by decide) rfl) rfl rfl
         obtain⟨Z21,P21,V23,H4,J23,N50,B26⟩:=N49.rowSli (f:=Dat.str) (xs:=([[84,101,109,112,108,97,116,101],[80,97,114,97,109,101,116,101,114,115]]:List Bs)) bZ D12
         have f:=f.st 104 (H4)
         obtain⟨X21,l11,F30⟩:=bS F29
         rcases X21 with X22|X23
         ·refine aH f N50 (bH n _ (GL.mono ((((((((((((J1.trans J2).trans J4).trans J5).trans J7).trans J8).trans J10).trans J11).trans J13).trans J14).trans J17).trans J18).trans J23) hG) _ X17.1 (TD0.shutx (x:=X17.1) (B20.mono J23) (B21.mono J23)) X17.2.1 Z21 P21 ([[84,101,109,112,108,97,116,101],[80,97,114,97,109,101,116,101,114,115]]:List Bs) B26 (.inl X22) l11) kr (λ_=>by kernel_rfl) λV24 W43 J24 N51=>bM (aP f ?_)
          cases sI F30
          exact⟨V24,(((((((((((((J1.trans J2).trans J4).trans J5).trans J7).trans J8).trans J10).trans J11).trans J13).trans J14).trans J17).trans J18).trans J23).trans J24),(N51.dropN 5),rfl⟩
         ·refine Y16 f N50 (OkX.ok (bH n _ (GL.mono ((((((((((((J1.trans J2).trans J4).trans J5).trans J7).trans J8).trans J10).trans J11).trans J13).trans J14).trans J17).trans J18).trans J23) hG) _ X17.1 (TD0.shutx (x:=X17.1) (B20.mono J23) (B21.mono J23)) X17.2.1 Z21 P21 ([[84,101,109,112,108,97,116,101],[80,97,114,97,109,101,116,101,114,115]]:List Bs) B26 (.inr X23) l11)) λ_ V25 W44 J25 N52 q_11 _ f=>?_
          obtain⟨C3,c_8,C4,c_9,rfl,D13,hq_5,D14,hq_6⟩:=q_11
          obtain⟨Z22,P22,Z23,P23,rfl,B27,B28⟩:=TD0.opn D13
          obtain rfl:c_9=[S X23.2]:=D14
          refine Ye f 1 λ_ f=>RR (Y f 1 λ_ f=>?_)
          obtain⟨X24,l12,F31⟩:=bS F30
          refine Y16 f N52 (aV n _ (GL.mono (((((((((((((J1.trans J2).trans J4).trans J5).trans J7).trans J8).trans J10).trans J11).trans J13).trans J14).trans J17).trans J18).trans J23).trans J25) hG) [84,101,109,112,108,97,116,101] C3 (lTD0 X23.1 Z22 P22 Z23 P23) X23.1 (TD0.shutx (x:=X23.1) B27 B28) (bL (hq_5) 0 rfl) C4 [S X23.2] X23.2 (rfl) (bL (hq_6) 0 rfl) X24 l12) λ_ V26 W45 J26 N53 q_12 _ f=>?_
          obtain⟨c_10,rfl,D15⟩:=q_12
          obtain⟨Z24,P24,Z25,P25,rfl,B29,B30⟩:=TD0.opn D15
          refine Y f 4 λ_ f=>Y12 f N53 (.cells #[iB 0,bO false,iL 0,S [],Sn,Sn] 26 (0,0)) λQ9 W46 N54 _ f=>Ys (lTD0 X24.1 Z24 P24 Z25 P25) (aTD0 X24.1 Z24 P24 Z25 P25) f N54 rfl rfl λW47 N55 _ f=>Ye f 2 λ_ f=>RR (Y f 2 λ_ f=>?_)
          rcases cE F31 with⟨B31,F32⟩|⟨B31,F41⟩
          ·have f:=f.st 112 (cB B31)
           refine Y18 f N55 (be _ (120:Int) X17.2.1) λW48 N56 _ f=>eT (RR (Y f 3 λ_ f=>?_))
           rcases cE F32 with⟨B32,F33⟩|⟨B32,F40⟩
           ·have U16:=dI.1 B32
            have f:=f.st 116 (cB B32)
            refine Y18 f N56 (be _ (170:Int) X24.2.1) λW49 N57 _ f=>eT (RR (Z f (Y31 (cs:=(lTD0 X24.1 Z24 P24 Z25 P25)) rfl (ad:=⟨Q9,0,none⟩) (an (N57.ownCell 0 rfl) 0 rfl)) λ_ f=>Y f 2 λ_ f=>?_))
            obtain⟨O1,F34⟩:=nS F33
            refine Y f 1 λ_ f=>?_
            have f:=f.st 122 (iW O1)
            obtain⟨X25,l13,F35⟩:=bS F34
            rcases X25 with X26|X27
            ·refine aH f N57 (hrec_syntax_template _ (GL.mono ((((((((((((((J1.trans J2).trans J4).trans J5).trans J7).trans J8).trans J10).trans J11).trans J13).trans J14).trans J17).trans J18).trans J23).trans J25).trans J26) hG) _ X24.1 (TD0.shutx (x:=X24.1) B29 B30) X24.2.1 (d3+1) (.inl X26) l13) kr (λ_=>by kernel_rfl) λV27 W50 J27 N58=>bM (aP f ?_)
             cases sI F35
             exact⟨V27,(((((((((((((((J1.trans J2).trans J4).trans J5).trans J7).trans J8).trans J10).trans J11).trans J13).trans J14).trans J17).trans J18).trans J23).trans J25).trans J26).trans J27),(N58.dropN 6),rfl⟩
            ·refine Y16 f N57 (OkX.ok (hrec_syntax_template _ (GL.mono ((((((((((((((J1.trans J2).trans J4).trans J5).trans J7).trans J8).trans J10).trans J11).trans J13).trans J14).trans J17).trans J18).trans J23).trans J25).trans J26) hG) _ X24.1 (TD0.shutx (x:=X24.1) B29 B30) X24.2.1 (d3+1) (.inr X27) l13)) λ_ V28 W51 J28 N59 q_13 _ f=>?_
             obtain⟨c_11,rfl,D16⟩:=q_13
             obtain⟨Z26,P26,Z27,P27,Z28,P28,Z29,P29,rfl,B33,B34,B35,B36⟩:=TA0.opn D16
             refine aQ (k:=1) (c:=1) f N59 (.cells (aTA0 X27 Z26 P26 Z27 P27 Z28 P28 Z29 P29) 41 (0,0)) kr (λ_=>by kernel_rfl) λQ10 W52 N60 _ f=>Y f 1 λ_ f=>Y25 f N60 5 rfl rfl (b:=Q3) (j:=6) (v:=.slice (some ⟨Q10,0,none⟩) 1 1) rfl (by exact rfl) (by simp) (by simp) ((Ent.obj Q10 (.cells (aTA0 X27 Z26 P26 Z27 P27 Z28 P28 Z29 P29) 41 (0,0)))::(Ent.obj Q9 (.cells (aTD0 X24.1 Z24 P24 Z25 P25) 26 (0,0)))::(Ent.obj Q7 (.cells (aTD0 X17.1 Z15 P15 Z16 P16) 26 (0,0)))::(Ent.obj Q6 (.cells (aTD0 X16.1 Z13 P13 Z14 P14) 26 (0,0)))::(Ent.obj Q5 (.cells (aTD0 X4.1 Z6 P6 Z7 P7) 26 (0,0)))::(oC Q3 #[S d0,S X7,S X11,Sn,sL Z12 X15 P12,bO (decide (X16.1.aa=[82,101,116,97,105,110])),.slice (some ⟨Q10,0,none⟩) 1 1] 66)::(oC Q2 #[S [],S [],S [],Sn,Sn,bO false,Sn] 66)::H) rfl λW53 N61 _ f=>eT (aq (RR (Y f 1 λ_ f=>?_)))
             obtain⟨X28,l14,F36⟩:=bS F35
             refine Y16 f N61 (aV n _ (GL.mono (((((((((((((((J1.trans J2).trans J4).trans J5).trans J7).trans J8).trans J10).trans J11).trans J13).trans J14).trans J17).trans J18).trans J23).trans J25).trans J26).trans J28) hG) [80,97,114,97,109,101,116,101,114,115] C3 (lTD0 X23.1 Z22 P22 Z23 P23) X23.1 (TD0.shutx (x:=X23.1) (B27.mono (J26.trans J28)) (B28.mono (J26.trans J28))) (bL ((fzu (J26.trans J28) hq_5)) 0 rfl) C4 [S X23.2] X23.2 (rfl) (bL ((fzu (J26.trans J28) hq_6)) 0 rfl) X28 l14) λ_ V29 W54 J29 N62 q_14 _ f=>?_
             obtain⟨c_12,rfl,D17⟩:=q_14
             obtain⟨Z30,P30,Z31,P31,rfl,B37,B38⟩:=TD0.opn D17
             refine Y f 4 λ_ f=>Y12 f N62 (.cells #[iB 0,bO false,iL 0,S [],Sn,Sn] 26 (0,0)) λQ11 W55 N63 _ f=>Ys (lTD0 X28.1 Z30 P30 Z31 P31) (aTD0 X28.1 Z30 P30 Z31 P31) f N63 rfl rfl λW56 N64 _ f=>Ye f 2 λ_ f=>RR (Ye f 1 λ_ f=>RcF f F36 (λB39 F37=>?_) λB39 F39=>?_)
             ·refine aN (Z f (Y31 (cs:=(lTD0 X28.1 Z30 P30 Z31 P31)) rfl (ad:=⟨Q11,0,none⟩) (an (N64.ownCell 0 rfl) 0 rfl)) λ_ f=>Y f 1 λ_ f=>?_)
              obtain⟨X29,l15,F38⟩:=bS F37
              rcases X29 with X30|X31
              ·refine ej (E:=[]) (H:=((Ent.obj Q11 (.cells (aTD0 X28.1 Z30 P30 Z31 P31) 26 (0,0)))::(Ent.obj Q10 (.cells (aTA0 X27 Z26 P26 Z27 P27 Z28 P28 Z29 P29) 41 (0,0)))::(Ent.obj Q9 (.cells (aTD0 X24.1 Z24 P24 Z25 P25) 26 (0,0)))::(Ent.obj Q7 (.cells (aTD0 X17.1 Z15 P15 Z16 P16) 26 (0,0)))::(Ent.obj Q6 (.cells (aTD0 X16.1 Z13 P13 Z14 P14) 26 (0,0)))::(Ent.obj Q5 (.cells (aTD0 X4.1 Z6 P6 Z7 P7) 26 (0,0)))::(oC Q3 #[S d0,S X7,S X11,Sn,sL Z12 X15 P12,bO (decide (X16.1.aa=[82,101,116,97,105,110])),.slice (some ⟨Q10,0,none⟩) 1 1] 66)::(oC Q2 #[S [],S [],S [],Sn,Sn,bO false,Sn] 66)::H)) f N64 (gx n _ (GL.mono ((((((((((((((((J1.trans J2).trans J4).trans J5).trans J7).trans J8).trans J10).trans J11).trans J13).trans J14).trans J17).trans J18).trans J23).trans J25).trans J26).trans J28).trans J29) hG) _ X28.1 (TD0.shutx (x:=X28.1) B37 B38) X28.2.1 (.inl X30) l15) kr (λ_=>by kernel_rfl) λV30 W57 J30 N65=>bM (aP f ?_)
               cases sI F38
               exact⟨V30,(((((((((((((((((J1.trans J2).trans J4).trans J5).trans J7).trans J8).trans J10).trans J11).trans J13).trans J14).trans J17).trans J18).trans J23).trans J25).trans J26).trans J28).trans J29).trans J30),(N65.dropN 8),rfl⟩
              ·refine Y17 (E:=[]) (H:=((Ent.obj Q11 (.cells (aTD0 X28.1 Z30 P30 Z31 P31) 26 (0,0)))::(Ent.obj Q10 (.cells (aTA0 X27 Z26 P26 Z27 P27 Z28 P28 Z29 P29) 41 (0,0)))::(Ent.obj Q9 (.cells (aTD0 X24.1 Z24 P24 Z25 P25) 26 (0,0)))::(Ent.obj Q7 (.cells (aTD0 X17.1 Z15 P15 Z16 P16) 26 (0,0)))::(Ent.obj Q6 (.cells (aTD0 X16.1 Z13 P13 Z14 P14) 26 (0,0)))::(Ent.obj Q5 (.cells (aTD0 X4.1 Z6 P6 Z7 P7) 26 (0,0)))::(oC Q3 #[S d0,S X7,S X11,Sn,sL Z12 X15 P12,bO (decide (X16.1.aa=[82,101,116,97,105,110])),.slice (some ⟨Q10,0,none⟩) 1 1] 66)::(oC Q2 #[S [],S [],S [],Sn,Sn,bO false,Sn] 66)::H)) f N64 (OkXH.ok (gx n _ (GL.mono ((((((((((((((((J1.trans J2).trans J4).trans J5).trans J7).trans J8).trans J10).trans J11).trans J13).trans J14).trans J17).trans J18).trans J23).trans J25).trans J26).trans J28).trans J29) hG) _ X28.1 (TD0.shutx (x:=X28.1) B37 B38) X28.2.1 (.inr X31) l15)) λ_ V31 E_2 W58 J31 N66 q_15 _ f=>?_
               obtain⟨Z32,P32,L3,rfl,rfl,D18⟩:=q_15
               refine Y f 1 λ_ f=>Y25 f N66 7 rfl rfl (b:=Q3) (j:=3) (v:=sL Z32 X31 P32) rfl (by exact rfl) (by simp) (by simp) ((rO 70 7 Z32 X31 P32 L3)::(Ent.obj Q11 (.cells (aTD0 X28.1 Z30 P30 Z31 P31) 26 (0,0)))::(Ent.obj Q10 (.cells (aTA0 X27 Z26 P26 Z27 P27 Z28 P28 Z29 P29) 41 (0,0)))::(Ent.obj Q9 (.cells (aTD0 X24.1 Z24 P24 Z25 P25) 26 (0,0)))::(Ent.obj Q7 (.cells (aTD0 X17.1 Z15 P15 Z16 P16) 26 (0,0)))::(Ent.obj Q6 (.cells (aTD0 X16.1 Z13 P13 Z14 P14) 26 (0,0)))::(Ent.obj Q5 (.cells (aTD0 X4.1 Z6 P6 Z7 P7) 26 (0,0)))::(oC Q3 #[S d0,S X7,S X11,sL Z32 X31 P32,sL Z12 X15 P12,bO (decide (X16.1.aa=[82,101,116,97,105,110])),.slice (some ⟨Q10,0,none⟩) 1 1] 66)::(oC Q2 #[S [],S [],S [],Sn,Sn,bO false,Sn] 66)::H) rfl λW59 N67 _ f=>eT (RR (Z f (Y31 (cs:=[S d0,S X7,S X11,sL Z32 X31 P32,sL Z12 X15 P12,bO (decide (X16.1.aa=[82,101,116,97,105,110])),.slice (some ⟨Q10,0,none⟩) 1 1]) rfl (ad:=⟨Q3,0,none⟩) (an (N67.ownCell 7 rfl) 0 rfl)) λ_ f=>?_))
               obtain⟨Z33,P33,V32,H5,J32,N68,B40⟩:=N67.rowSli (f:=dx) (xs:=X31) szd_TG0 D18
               have f:=Frm.set f 137 (v:=.agg #[S d0,S X7,S X11,.slice Z32 X31.length P32,.slice Z12 X15.length P12,.bool (decide (X16.1.aa=[82,101,116,97,105,110])),.slice (some ⟨Q10,0,none⟩) 1 1]) (v':=.agg #[S d0,S X7,S X11,.slice Z33 X31.length P33,.slice Z12 X15.length P12,.bool (decide (X16.1.aa=[82,101,116,97,105,110])),.slice (some ⟨Q10,0,none⟩) 1 1]) (by kernel_rfl) (by rw[H5])
               have f:=f.st 135 (H5)
               have N69:Hp w0 V32 ((Ent.obj Q11 (.cells (aTD0 X28.1 Z30 P30 Z31 P31) 26 (0,0)))::(Ent.obj Q10 (.cells (aTA0 X27 Z26 P26 Z27 P27 Z28 P28 Z29 P29) 41 (0,0)))::(Ent.obj Q9 (.cells (aTD0 X24.1 Z24 P24 Z25 P25) 26 (0,0)))::(Ent.obj Q7 (.cells (aTD0 X17.1 Z15 P15 Z16 P16) 26 (0,0)))::(Ent.obj Q6 (.cells (aTD0 X16.1 Z13 P13 Z14 P14) 26 (0,0)))::(Ent.obj Q5 (.cells (aTD0 X4.1 Z6 P6 Z7 P7) 26 (0,0)))::(oC Q3 #[S d0,S X7,S X11,sL Z33 X31 P33,sL Z12 X15 P12,bO (decide (X16.1.aa=[82,101,116,97,105,110])),.slice (some ⟨Q10,0,none⟩) 1 1] 66)::(oC Q2 #[S [],S [],S [],Sn,Sn,bO false,Sn] 66)::H) W59:=by unfold sL at N68;rw[H5] at N68;exact N68
               have N70:=N69.pl [1]
               have D19:ag V32 ([(⟨X27.aO,X27.aW,X27.bU,X27.bC⟩:TA0)].map bY) (lTA0 X27 Z26 P26 Z27 P27 Z28 P28 Z29 P29):=⟨_,_,rfl,TA0.shut (B33.mono ((J29.trans J31).trans J32)) (B34.mono ((J29.trans J31).trans J32)) (B35.mono ((J29.trans J31).trans J32)) (B36.mono ((J29.trans J31).trans J32)),rfl⟩
               have N71:Hp w0 V32 ((Ent.row 41 4 (.slice (some ⟨Q10,0,none⟩) 1 1) [(⟨X27.aO,X27.aW,X27.bU,X27.bC⟩:TA0)].length (lTA0 X27 Z26 P26 Z27 P27 Z28 P28 Z29 P29))::(Ent.obj Q11 (.cells (aTD0 X28.1 Z30 P30 Z31 P31) 26 (0,0)))::(Ent.obj Q9 (.cells (aTD0 X24.1 Z24 P24 Z25 P25) 26 (0,0)))::(Ent.obj Q7 (.cells (aTD0 X17.1 Z15 P15 Z16 P16) 26 (0,0)))::(Ent.obj Q6 (.cells (aTD0 X16.1 Z13 P13 Z14 P14) 26 (0,0)))::(Ent.obj Q5 (.cells (aTD0 X4.1 Z6 P6 Z7 P7) 26 (0,0)))::(oC Q3 #[S d0,S X7,S X11,sL Z33 X31 P33,sL Z12 X15 P12,bO (decide (X16.1.aa=[82,101,116,97,105,110])),.slice (some ⟨Q10,0,none⟩) 1 1] 66)::(oC Q2 #[S [],S [],S [],Sn,Sn,bO false,Sn] 66)::H) W59:=N70.objRow (n:=1) (cap:=1) (size:=4) (by decide) (by decide) (dS (by decide) rfl) rfl rfl
               obtain⟨Z34,P34,V33,H6,J33,N72,B41⟩:=N71.rowSli (f:=bY) (xs:=[(⟨X27.aO,X27.aW,X27.bU,X27.bC⟩:TA0)]) szd_TA0 D19
               have f:=Frm.set f 137 (v:=.agg #[S d0,S X7,S X11,.slice Z33 X31.length P33,.slice Z12 X15.length P12,.bool (decide (X16.1.aa=[82,101,116,97,105,110])),.slice (some ⟨Q10,0,none⟩) 1 1]) (v':=.agg #[S d0,S X7,S X11,.slice Z33 X31.length P33,.slice Z12 X15.length P12,.bool (decide (X16.1.aa=[82,101,116,97,105,110])),.slice Z34 [(⟨X27.aO,X27.aW,X27.bU,X27.bC⟩:TA0)].length P34]) (by kernel_rfl) (by rw[H6])
               have N73:Hp w0 V33 ((Ent.obj Q11 (.cells (aTD0 X28.1 Z30 P30 Z31 P31) 26 (0,0)))::(Ent.obj Q9 (.cells (aTD0 X24.1 Z24 P24 Z25 P25) 26 (0,0)))::(Ent.obj Q7 (.cells (aTD0 X17.1 Z15 P15 Z16 P16) 26 (0,0)))::(Ent.obj Q6 (.cells (aTD0 X16.1 Z13 P13 Z14 P14) 26 (0,0)))::(Ent.obj Q5 (.cells (aTD0 X4.1 Z6 P6 Z7 P7) 26 (0,0)))::(oC Q3 #[S d0,S X7,S X11,sL Z33 X31 P33,sL Z12 X15 P12,bO (decide (X16.1.aa=[82,101,116,97,105,110])),sL Z34 [(⟨X27.aO,X27.aW,X27.bU,X27.bC⟩:TA0)] P34] 66)::(oC Q2 #[S [],S [],S [],Sn,Sn,bO false,Sn] 66)::H) W59:=by unfold sL at N72;rw[H6] at N72;exact N72
               have N74:=N73.pl [6]
               refine Ys [S d0,S X7,S X11,sL Z33 X31 P33,sL Z12 X15 P12,bO (decide (X16.1.aa=[82,101,116,97,105,110])),sL Z34 [(⟨X27.aO,X27.aW,X27.bU,X27.bC⟩:TA0)] P34] #[S d0,S X7,S X11,sL Z33 X31 P33,sL Z12 X15 P12,bO (decide (X16.1.aa=[82,101,116,97,105,110])),sL Z34 [(⟨X27.aO,X27.aW,X27.bU,X27.bC⟩:TA0)] P34] f N74 rfl rfl λW60 N75 _ f=>Er (ef f rfl (Y10 (cs:=[S d0,S X7,S X11,sL Z33 X31 P33,sL Z12 X15 P12,bO (decide (X16.1.aa=[82,101,116,97,105,110])),sL Z34 [(⟨X27.aO,X27.aW,X27.bU,X27.bC⟩:TA0)] P34]) (ad:=⟨Q2,0,none⟩) f (an (N75.ownCell 0 rfl) 0 rfl)) ?_)
               cases sI F38
               exact⟨_,rfl,V33,(((((((((((((((((((J1.trans J2).trans J4).trans J5).trans J7).trans J8).trans J10).trans J11).trans J13).trans J14).trans J17).trans J18).trans J23).trans J25).trans J26).trans J28).trans J29).trans J31).trans J32).trans J33),(N75.dropN 7),⟨[S d0,S X7,S X11,sL Z33 X31 P33,sL Z12 X15 P12,bO (decide (X16.1.aa=[82,101,116,97,105,110])),sL Z34 [(⟨X27.aO,X27.aW,X27.bU,X27.bC⟩:TA0)] P34],rfl,(TB0.shut (B40.mono J33) (B13.mono ((((((((((J14.trans J17).trans J18).trans J23).trans J25).trans J26).trans J28).trans J29).trans J31).trans J32).trans J33)) B41)⟩⟩
             ·refine St (RR (Z f (Y31 (cs:=[S d0,S X7,S X11,Sn,sL Z12 X15 P12,bO (decide (X16.1.aa=[82,101,116,97,105,110])),.slice (some ⟨Q10,0,none⟩) 1 1]) rfl (ad:=⟨Q3,0,none⟩) (an (N64.ownCell 6 rfl) 0 rfl)) λ_ f=>?_))
              have N76:=N64.pl [1]
              have D20:ag V29 ([(⟨X27.aO,X27.aW,X27.bU,X27.bC⟩:TA0)].map bY) (lTA0 X27 Z26 P26 Z27 P27 Z28 P28 Z29 P29):=⟨_,_,rfl,TA0.shut (B33.mono J29) (B34.mono J29) (B35.mono J29) (B36.mono J29),rfl⟩
              have N77:Hp w0 V29 ((Ent.row 41 4 (.slice (some ⟨Q10,0,none⟩) 1 1) [(⟨X27.aO,X27.aW,X27.bU,X27.bC⟩:TA0)].length (lTA0 X27 Z26 P26 Z27 P27 Z28 P28 Z29 P29))::(Ent.obj Q11 (.cells (aTD0 X28.1 Z30 P30 Z31 P31) 26 (0,0)))::(Ent.obj Q9 (.cells (aTD0 X24.1 Z24 P24 Z25 P25) 26 (0,0)))::(Ent.obj Q7 (.cells (aTD0 X17.1 Z15 P15 Z16 P16) 26 (0,0)))::(Ent.obj Q6 (.cells (aTD0 X16.1 Z13 P13 Z14 P14) 26 (0,0)))::(Ent.obj Q5 (.cells (aTD0 X4.1 Z6 P6 Z7 P7) 26 (0,0)))::(oC Q3 #[S d0,S X7,S X11,Sn,sL Z12 X15 P12,bO (decide (X16.1.aa=[82,101,116,97,105,110])),.slice (some ⟨Q10,0,none⟩) 1 1] 66)::(oC Q2 #[S [],S [],S [],Sn,Sn,bO false,Sn] 66)::H) W56:=N76.objRow (n:=1) (cap:=1) (size:=4) (by decide) (by decide) (dS (by decide) rfl) rfl rfl
              obtain⟨Z35,P35,V34,H7,J34,N78,B42⟩:=N77.rowSli (f:=bY) (xs:=[(⟨X27.aO,X27.aW,X27.bU,X27.bC⟩:TA0)]) szd_TA0 D20
              have f:=Frm.set f 137 (v:=.agg #[S d0,S X7,S X11,.slice none 0 0,.slice Z12 X15.length P12,.bool (decide (X16.1.aa=[82,101,116,97,105,110])),.slice (some ⟨Q10,0,none⟩) 1 1]) (v':=.agg #[S d0,S X7,S X11,.slice none 0 0,.slice Z12 X15.length P12,.bool (decide (X16.1.aa=[82,101,116,97,105,110])),.slice Z35 [(⟨X27.aO,X27.aW,X27.bU,X27.bC⟩:TA0)].length P35]) (by kernel_rfl) (by rw[H7])
              have N79:Hp w0 V34 ((Ent.obj Q11 (.cells (aTD0 X28.1 Z30 P30 Z31 P31) 26 (0,0)))::(Ent.obj Q9 (.cells (aTD0 X24.1 Z24 P24 Z25 P25) 26 (0,0)))::(Ent.obj Q7 (.cells (aTD0 X17.1 Z15 P15 Z16 P16) 26 (0,0)))::(Ent.obj Q6 (.cells (aTD0 X16.1 Z13 P13 Z14 P14) 26 (0,0)))::(Ent.obj Q5 (.cells (aTD0 X4.1 Z6 P6 Z7 P7) 26 (0,0)))::(oC Q3 #[S d0,S X7,S X11,Sn,sL Z12 X15 P12,bO (decide (X16.1.aa=[82,101,116,97,105,110])),sL Z35 [(⟨X27.aO,X27.aW,X27.bU,X27.bC⟩:TA0)] P35] 66)::(oC Q2 #[S [],S [],S [],Sn,Sn,bO false,Sn] 66)::H) W56:=by unfold sL at N78;rw[H7] at N78;exact N78
              have N80:=N79.pl [6]
              refine Ys [S d0,S X7,S X11,Sn,sL Z12 X15 P12,bO (decide (X16.1.aa=[82,101,116,97,105,110])),sL Z35 [(⟨X27.aO,X27.aW,X27.bU,X27.bC⟩:TA0)] P35] #[S d0,S X7,S X11,Sn,sL Z12 X15 P12,bO (decide (X16.1.aa=[82,101,116,97,105,110])),sL Z35 [(⟨X27.aO,X27.aW,X27.bU,X27.bC⟩:TA0)] P35] f N80 rfl rfl λW61 N81 _ f=>Er (ef f rfl (Y10 (cs:=[S d0,S X7,S X11,Sn,sL Z12 X15 P12,bO (decide (X16.1.aa=[82,101,116,97,105,110])),sL Z35 [(⟨X27.aO,X27.aW,X27.bU,X27.bC⟩:TA0)] P35]) (ad:=⟨Q2,0,none⟩) f (an (N81.ownCell 0 rfl) 0 rfl)) ?_)
              cases sI F39
              exact⟨_,rfl,V34,(((((((((((((((((J1.trans J2).trans J4).trans J5).trans J7).trans J8).trans J10).trans J11).trans J13).trans J14).trans J17).trans J18).trans J23).trans J25).trans J26).trans J28).trans J29).trans J34),(N81.dropN 7),⟨[S d0,S X7,S X11,Sn,sL Z12 X15 P12,bO (decide (X16.1.aa=[82,101,116,97,105,110])),sL Z35 [(⟨X27.aO,X27.aW,X27.bU,X27.bC⟩:TA0)] P35],rfl,(TB0.shut Sli.nil (B13.mono ((((((((J14.trans J17).trans J18).trans J23).trans J25).trans J26).trans J28).trans J29).trans J34)) B42)⟩⟩
           ·have U19:=aA dI B32
            have f:=f.st 116 (cB B32)
            refine aH f N56 (bc _ (170:Int) X24.2.1) kr (λ_=>by kernel_rfl) λV35 W62 J35 N82=>bM (aP f ?_)
            cases sI F40
            exact⟨V35,(((((((((((((((J1.trans J2).trans J4).trans J5).trans J7).trans J8).trans J10).trans J11).trans J13).trans J14).trans J17).trans J18).trans J23).trans J25).trans J26).trans J35),(N82.dropN 6),rfl⟩
          ·have f:=f.st 112 (cB B31)
           refine aH f N55 (bc _ (120:Int) X17.2.1) kr (λ_=>by kernel_rfl) λV36 W63 J36 N83=>bM (aP f ?_)
           cases sI F41
           exact⟨V36,(((((((((((((((J1.trans J2).trans J4).trans J5).trans J7).trans J8).trans J10).trans J11).trans J13).trans J14).trans J17).trans J18).trans J23).trans J25).trans J26).trans J36),(N83.dropN 6),rfl⟩
        ·have f:=f.st 99 (cB B25)
         refine aH f N37 (bc _ (120:Int) d2) kr (λ_=>by kernel_rfl) λV37 W64 J37 N84=>bM (aP f ?_)
         cases sI F42
         exact⟨V37,((((((((((((J1.trans J2).trans J4).trans J5).trans J7).trans J8).trans J10).trans J11).trans J13).trans J14).trans J17).trans J18).trans J37),(N84.dropN 5),rfl⟩
  ·have f:=f.st 34 (cB B8)
   refine aH f N12 (bc _ (120:Int) d2) kr (λ_=>by kernel_rfl) λV38 W65 J38 N85=>bM (aP f ?_)
   cases sI F43
   exact⟨V38,((((J1.trans J2).trans J4).trans J5).trans J38),(N85.dropN 3),rfl⟩
def cz (n:Nat) (rec_syntax_template:TD0→Bs→Int→Option (Sum (Int×Bs) TA0)) (d0:Bs) (d1:TD0) (d2:Bs) (aB:List TE0) (ak:List TH0) (aC:List TB0) (aD:List TC0) (d4:Int):Option (Sum (Int×Bs) (List TE0×List TH0×List TB0×List TC0)):=
 (((dG n rec_syntax_template d0 d1 d2 d4).bind λX1=>
   bb ((aC.length+1)*128≤140737488355328)<|
   (match X1 with
   |.inl X5=>((some (.inl X5):Option (Sum (Int×Bs) (List TE0×List TH0×List TB0×List TC0)))).map Lp.br
   |.inr X6=>some (.nx (aC++[(⟨X6.jn,X6.cA,X6.dm,X6.bT,X6.bA,(X6.cU),X6.bg⟩:TB0)]))):Option (Lp (List TB0) (Sum (Int×Bs) (List TE0×List TH0×List TB0×List TC0))))).bind λj=>joinF j λG1=>
 some (.inr (aB,ak,G1,aD))
theorem gR (n:Nat) (rec_syntax_template:TD0→Bs→Int→Option (Sum (Int×Bs) TA0)) (hrec_syntax_template: ∀ (M:Mem) (hG:GL M) (c0:Lv) (d0:TD0) (h0:Rep M (ap d0) c0) (d1:Bs) (d2:Int) (r:Sum (Int×Bs) TA0) (hF:rec_syntax_template d0 d1 d2=some r),OkX Tryz.prog M 23 [.agg c0.toArray,S d1,iL d2] 78 r (λr=>λM' v=>∃ (c0:Lv),v=.agg c0.toArray∧Rep M' (bY r) c0)) (M:Mem) (hG:GL M) (d0:Bs) (c1:Lv) (d1:TD0) (h1:Rep M (ap d1) c1) (d2:Bs) (b3:Nat) (aB:List TE0) (Z1:Oa) (P1:Nat) (L1:Lv) (D1:ag M (aB.map bx) L1) (ak:List TH0) (Z2:Oa) (P2:Nat) (L2:Lv) (D2:ag M (ak.map aF) L2) (aC:List TB0) (Z3:Oa) (P3:Nat) (L3:Lv) (D3:ag M (aC.map bu) L3) (aD:List TC0) (Z4:Oa) (P4:Nat) (L4:Lv) (D4:ag M (aD.map bw) L4) (ad4:Addr) (c4:Lv) (d4:Int) (h4:Rep M ((Dat.int .i64) d4) c4) (q4: ∀j v,c4[j]? =some v→M.cell? (ad4.add j)=some v) (r:Sum (Int×Bs) (List TE0×List TH0×List TB0×List TC0)) (hF:cz n rec_syntax_template d0 d1 d2 aB ak aC aD d4=some r):OkXH Tryz.prog M [oC b3 #[sL Z1 aB P1,sL Z2 ak P2,sL Z3 aC P3,sL Z4 aD P4] 41,rO 58 10 Z1 aB P1 L1,rO 61 15 Z2 ak P2 L2,rO 66 7 Z3 aC P3 L3,rO 68 8 Z4 aD P4 L4] 53 [S d0,.agg c1.toArray,S d2,pP b3,Pa ad4] 78 r (λr=>λM' E' v=>∃ (Z16:Oa) (P16:Nat) (L8:Lv) (Z17:Oa) (P17:Nat) (L9:Lv) (Z18:Oa) (P18:Nat) (L10:Lv) (Z19:Oa) (P19:Nat) (L11:Lv),v=.tuple #[]∧E'=[oC b3 #[sL Z16 r.1 P16,sL Z17 r.2.1 P17,sL Z18 r.2.2.1 P18,sL Z19 r.t3 P19] 41,rO 58 10 Z16 r.1 P16 L8,rO 61 15 Z17 r.2.1 P17 L9,rO 66 7 Z18 r.2.2.1 P18 L10,rO 68 8 Z19 r.t3 P19 L11]∧ag M' (r.1.map bx) L8∧ag M' (r.2.1.map aF) L9∧ag M' (r.2.2.1.map bu) L10∧ag M' (r.t3.map bw) L11):=by
 unfold cz at hF
 intro M1 hM0 w0 H w p0
 replace hG:=GL.mono hM0 hG
 replace h1:=Rep.mono hM0 _ _ h1
 replace D1:=ag.mono hM0 _ _ D1
 replace D2:=ag.mono hM0 _ _ D2
 replace D3:=ag.mono hM0 _ _ D3
 replace D4:=ag.mono hM0 _ _ D4
 replace h4:=Rep.mono hM0 _ _ h4
 replace q4:=λj v h=>hM0.cell (q4 j v h)
 obtain⟨Z5,P5,Z6,P6,rfl,B1,B2⟩:=TD0.opn h1
 obtain rfl:c4=[iL d4]:=h4
 refine Re 18 Tryz.func53 rfl λa0 f0=>RR (Y13 (cs:=(aTD0 d1 Z5 P5 Z6 P6)) (T:=26) f0 p0 λQ1 V1 W1 J1 R1 N1 _ f=>?_)
 have R2:=bR R1
 refine eT ?_
 obtain⟨ip,eD,F1⟩:=bS hF
 refine ct (λa_24 W15=>∃G1:List TB0,ip=.nx G1∧∃V6:Mem,V1.le V6∧∃ (Z15:Oa),∃ (P15:Nat),∃ (L7:Lv),ag V6 (G1.map bu) L7∧Frm 18 [] a_24∧Hp w0 V6 ((rO 66 7 Z15 G1 P15 L7)::(oC b3 #[sL Z1 aB P1,sL Z2 ak P2,sL Z15 G1 P15,sL Z4 aD P4] 41)::(rO 58 10 Z1 aB P1 L1)::(rO 61 15 Z2 ak P2 L2)::(rO 68 8 Z4 aD P4 L4)::H) W15) ?_ ?_
 ·have N13:=N1.pl [4,3,3,3,4]
  obtain⟨X1,l1,F2⟩:=bS eD
  obtain⟨O1,F3⟩:=nS F2
  refine kV (ks:=[9,10]) (E:=[rO 66 7 Z3 aC P3 L3]) (Hr:=((oC b3 #[sL Z1 aB P1,sL Z2 ak P2,sL Z3 aC P3,sL Z4 aD P4] 41)::(rO 58 10 Z1 aB P1 L1)::(rO 61 15 Z2 ak P2 L2)::(rO 68 8 Z4 aD P4 L4)::H)) (.quiet 0 (.quiet 1 (.quiet 2 (.quiet 3 (.quiet 4 (.quiet 5 (.alt 6 (.alt 7 (.alt 8 .done .none) .none) .none))))))) N13 kr kr kr (Y1 (v:=Pa (⟨b3,2,none⟩)) rfl f rfl rfl (λ_ _=>by kernel_rfl) λ_ f=>Y1 (v:=sL Z3 aC P3) rfl f rfl rfl (λ_ pq=>Y30 (v:=sL Z3 aC P3) rfl (ad:=⟨b3,2,none⟩) (pq.ownCell 0 rfl 2)) λ_ f=>Y1 (v:=S d0) rfl f rfl rfl (λ_ _=>by kernel_rfl) λ_ f=>Y1 (v:=.agg (aTD0 d1 Z5 P5 Z6 P6)) rfl f rfl rfl (λ_ pq=>Y31 (cs:=(lTD0 d1 Z5 P5 Z6 P6)) rfl (ad:=⟨Q1,0,none⟩) (λj v h=>pq.cell (R2 j v h))) λ_ f=>Y1 (v:=S d2) rfl f rfl rfl (λ_ _=>by kernel_rfl) λ_ f=>Y1 (v:=iL d4) rfl f rfl rfl (λ_ pq=>Y30 (v:=iL d4) rfl (ad:=ad4) (pq.cell ((fzu J1 q4) 0 _ rfl))) λ_ f=>av rfl (λW6 N14=>?_) ?_)
  ·rcases X1 with X5|X6
   ·refine aH f N14 (ib n rec_syntax_template hrec_syntax_template _ (GL.mono J1 hG) d0 _ d1 (TD0.shutx (x:=d1) (B1.mono J1) (B2.mono J1)) d2 d4 (.inl X5) l1) kr (λ_=>by kernel_rfl) λV4 W7 J4 N15=>lj f λ_ f=>?_
    have F4:=bK F3 F1
    refine bM (aP f ?_)
    cases sI F4
    exact⟨V4,(J1.trans J4),(N15.dropN 5),rfl⟩
   ·refine Y16 f N14 (OkX.ok (ib n rec_syntax_template hrec_syntax_template _ (GL.mono J1 hG) d0 _ d1 (TD0.shutx (x:=d1) (B1.mono J1) (B2.mono J1)) d2 d4 (.inr X6) l1)) λ_ V5 W8 J5 N16 iQ _ f=>?_
    obtain⟨iA,rfl,D7⟩:=iQ
    obtain⟨Z11,P11,Z12,P12,Z13,P13,rfl,B6,B7,B8⟩:=TB0.opn D7
    refine am rfl (aw 1 J5 N16 rfl (av rfl (λW9 N17=>?_) ?_))
    ·refine aQ (k:=1) (c:=1) f N17 (.cells (aTB0 X6 Z11 P11 Z12 P12 Z13 P13) 66 (0,0)) kr (λ_=>by kernel_rfl) λQ3 W10 N18 _ f=>am rfl (aw 2 J5 N18 rfl (av rfl (λW11 N19=>?_) ?_))
     ·have N20:=N19.pl [1]
      refine Y20 (z:=.agg #[S [],S [],S [],Sn,Sn,bO false,Sn]) (f:=bu) (xs:=aC) (ys:=[(⟨X6.jn,X6.cA,X6.dm,X6.bT,X6.bA,(X6.cU),X6.bg⟩:TB0)]) (news:=(lTB0 X6 Z11 P11 Z12 P12 Z13 P13)) (ad:=⟨Q3,0,none⟩) (m:=1) (c:=1) f N20 (ag.mono (J1.trans J5) _ _ D3) (by exact⟨_,_,rfl,TB0.shut B6 B7 B8,rfl⟩) rfl rfl rfl rfl (an (N20.ownCell 1 rfl) 0 rfl) (by exact O1) (by have hg_:=O1;first|omega|(simp only[List.length_cons,List.length_nil] at*;omega)) λZ14 P14 L6 W12 N21 D8 _ f=>?_
      have N22:=N21.pl [1]
      have N23:=N22.drop
      refine am rfl (aw 1 J5 N23 rfl (N_tail λW13 N24=>Y f 1 λ_ f=>Y25 f N24 1 rfl rfl (b:=b3) (j:=2) (v:=sL Z14 (aC++[(⟨X6.jn,X6.cA,X6.dm,X6.bT,X6.bA,(X6.cU),X6.bg⟩:TB0)]) P14) rfl (by exact rfl) (by simp) (by simp) _ rfl λW14 N25 _ f=>am rfl (N_te (aS ?_))))
      exact⟨aC++[(⟨X6.jn,X6.cA,X6.dm,X6.bT,X6.bA,(X6.cU),X6.bg⟩:TB0)],(sI F3).symm,V5,J5,Z14,P14,L6,D8,f.kp,N25⟩
     exact ar
    exact ar
  exact ar
 ·rintro a_24 W15 ⟨G1,rfl,V6,J6,Z15,P15,L7,D9,f,N26⟩
  refine dK f rfl ?_
  cases sI F1
  have N31:=N26.pl [4,1,4,4,4]
  exact⟨_,rfl,V6,_,(J1.trans J6),N31,⟨Z1,P1,L1,Z2,P2,L2,Z15,P15,L7,Z4,P4,L4,rfl,rfl,(ag.mono (J1.trans J6) _ _ D1),(ag.mono (J1.trans J6) _ _ D2),D9,(ag.mono (J1.trans J6) _ _ D4)⟩⟩
def eo (n:Nat) (rec_syntax_template:TD0→Bs→Int→Option (Sum (Int×Bs) TA0)) (mI:Int) (X1:TD0×Bs×Bool) (X2:List ax) (K1:Int×List TE0×List TH0×List TB0×List TC0):Option (Lp (Int×List TE0×List TH0×List TB0×List TC0) (Sum (Int×Bs) (List TE0×List TH0×List TB0×List TC0))):=
    bif(decide (K1.1<((X2.length:Nat):Int))) then
     ((aU X2 K1.1).bind λX3=>
     (ck n X3.key).bind λX4=>
     (aM n X1.2.1 X3.key).bind λX5=>
     bif X4 then
      ((aM n X1.2.1 X3.key).bind λX6=>
      (cz n rec_syntax_template X3.key (⟨X3.v.ab,(X3.v.ah),X3.v.ai,X3.v.aa,X3.v.ac,X3.v.af⟩:TD0) X6 K1.2.1 K1.2.2.1 K1.2.2.2.1 K1.2.2.2.2 mI).bind λX7=>
      (match X7 with
      |.inl X8=>some (.br (.inl X8))
      |.inr X9=>bb (inR .i64 (K1.1+1))<|
       some (.nx (K1.1+1,X9.1,X9.2.1,X9.2.2.1,X9.2.2.2))))
     else
      some (.br (.inl ((120:Int),X5))))
    else
     some (.br (.inr (K1.2.1,K1.2.2.1,K1.2.2.2.1,K1.2.2.2.2)))
def dR (n:Nat) (rec_syntax_template:TD0→Bs→Int→Option (Sum (Int×Bs) TA0)) (d0:Bs) (d1:Int) (bl:List TE0) (bm:List TH0) (bn:List TB0) (bq:List TC0) (mI:Int) (d3_f_0:TD0) (d3_f_1:Bs):Option (Sum (Int×Bs) (List TE0×List TH0×List TB0×List TC0)):=
 (aR n d0 d3_f_0 d3_f_1).bind λX1=>
 bif !X1.2.2 then
  (some (.inr (bl,bm,bn,bq)))
 else
  bif(decide (X1.1.ab=5)) then
   (bif(decide (((X1.1.af.length:Nat):Int)≤d1)) then
    ((bX n X1.1).bind λX2=>
    (aL (eo n rec_syntax_template mI X1 X2) n ((0:Int),bl,bm,bn,bq)).bind λQ2=>
    (match Q2 with
    |.inl G1=>some (.inl G1)
    |.inr G2=>some (.inr (G2.1,G2.2.1,G2.2.2.1,G2.2.2.2))))
   else
    some (.inl ((3:Int),X1.2.1)))
  else
   some (.inl ((120:Int),X1.2.1))
set_option maxRecDepth 20000 in
theorem gQ (n:Nat) (rec_syntax_template:TD0→Bs→Int→Option (Sum (Int×Bs) TA0)) (hrec_syntax_template: ∀ (M:Mem) (hG:GL M) (c0:Lv) (d0:TD0) (h0:Rep M (ap d0) c0) (d1:Bs) (d2:Int) (r:Sum (Int×Bs) TA0) (hF:rec_syntax_template d0 d1 d2=some r),OkX Tryz.prog M 23 [.agg c0.toArray,S d1,iL d2] 78 r (λr=>λM' v=>∃ (c0:Lv),v=.agg c0.toArray∧Rep M' (bY r) c0)) (M:Mem) (hG:GL M) (d0:Bs) (d1:Int) (cj:Nat) (bl:List TE0) (Z1:Oa) (P1:Nat) (L1:Lv) (D1:ag M (bl.map bx) L1) (bm:List TH0) (Z2:Oa) (P2:Nat) (L2:Lv) (D2:ag M (bm.map aF) L2) (bn:List TB0) (Z3:Oa) (P3:Nat) (L3:Lv) (D3:ag M (bn.map bu) L3) (bq:List TC0) (Z4:Oa) (P4:Nat) (L4:Lv) (D4:ag M (bq.map bw) L4) (ad2_1:Addr) (c2_1:Lv) (mI:Int) (h2_1:Rep M ((Dat.int .i64) mI) c2_1) (q2_1: ∀j v,c2_1[j]? =some v→M.cell? (ad2_1.add j)=some v) (ad3_f_0:Addr) (c3_f_0:Lv) (d3_f_0:TD0) (h3_f_0:Rep M (ap d3_f_0) c3_f_0) (q3_f_0: ∀j v,c3_f_0[j]? =some v→M.cell? (ad3_f_0.add j)=some v) (ad3_f_1:Addr) (c3_f_1:Lv) (d3_f_1:Bs) (h3_f_1:Rep M (Dat.str d3_f_1) c3_f_1) (q3_f_1: ∀j v,c3_f_1[j]? =some v→M.cell? (ad3_f_1.add j)=some v) (ad3:Addr) (q3: ∀j v,[(.func (.func 93) #[] #[Pa ad3_f_0,Pa ad3_f_1]:Value)][j]? =some v→M.cell? (ad3.add j)=some v) (r:Sum (Int×Bs) (List TE0×List TH0×List TB0×List TC0)) (hF:dR n rec_syntax_template d0 d1 bl bm bn bq mI d3_f_0 d3_f_1=some r):OkXH Tryz.prog M [oC cj #[sL Z1 bl P1,sL Z2 bm P2,sL Z3 bn P3,sL Z4 bq P4] 41,rO 58 10 Z1 bl P1 L1,rO 61 15 Z2 bm P2 L2,rO 66 7 Z3 bn P3 L3,rO 68 8 Z4 bq P4 L4] 46 [S d0,iL d1,.func (.func 53) #[] #[pP cj,Pa ad2_1],Pa ad3] 78 r (λr=>λM' E' v=>∃ (Z24:Oa) (P25:Nat) (L18:Lv) (Z25:Oa) (P26:Nat) (L19:Lv) (Z26:Oa) (P27:Nat) (L20:Lv) (Z27:Oa) (P28:Nat) (L21:Lv),v=.tuple #[]∧E'=[oC cj #[sL Z24 r.1 P25,sL Z25 r.2.1 P26,sL Z26 r.2.2.1 P27,sL Z27 r.t3 P28] 41,rO 58 10 Z24 r.1 P25 L18,rO 61 15 Z25 r.2.1 P26 L19,rO 66 7 Z26 r.2.2.1 P27 L20,rO 68 8 Z27 r.t3 P28 L21]∧ag M' (r.1.map bx) L18∧ag M' (r.2.1.map aF) L19∧ag M' (r.2.2.1.map bu) L20∧ag M' (r.t3.map bw) L21):=by
 unfold dR at hF
 intro M1 hM0 w0 H w p0
 replace hG:=GL.mono hM0 hG
 replace D1:=ag.mono hM0 _ _ D1
 replace D2:=ag.mono hM0 _ _ D2
 replace D3:=ag.mono hM0 _ _ D3
 replace D4:=ag.mono hM0 _ _ D4
 replace h2_1:=Rep.mono hM0 _ _ h2_1
 replace q2_1:=λj v h=>hM0.cell (q2_1 j v h)
 replace h3_f_0:=Rep.mono hM0 _ _ h3_f_0
 replace q3_f_0:=λj v h=>hM0.cell (q3_f_0 j v h)
 replace h3_f_1:=Rep.mono hM0 _ _ h3_f_1
 replace q3_f_1:=λj v h=>hM0.cell (q3_f_1 j v h)
 replace q3:=λj v h=>hM0.cell (q3 j v h)
 obtain rfl:c2_1=[iL mI]:=h2_1
 obtain⟨Z5,P5,Z6,P6,rfl,B1,B2⟩:=TD0.opn h3_f_0
 obtain rfl:c3_f_1=[S d3_f_1]:=h3_f_1
 refine Re 59 Tryz.func46 rfl λa0 f0=>RR (Y15 f0 p0 q3 0 rfl λ_ f=>Y f 1 λ_ f=>?_)
 obtain⟨X1,l1,F1⟩:=bS hF
 refine Y16 f p0 (aV n _ hG d0 ad3_f_0 (lTD0 d3_f_0 Z5 P5 Z6 P6) d3_f_0 (TD0.shutx (x:=d3_f_0) B1 B2) (bL (q3_f_0) 0 rfl) ad3_f_1 [S d3_f_1] d3_f_1 (rfl) (bL (q3_f_1) 0 rfl) X1 l1) λ_ V1 W1 J1 N1 eM _ f=>?_
 obtain⟨eF,rfl,D5⟩:=eM
 obtain⟨Z7,P7,Z8,P8,rfl,B3,B4⟩:=TD0.opn D5
 refine Y f 4 λ_ f=>Y12 f N1 (.cells #[iB 0,bO false,iL 0,S [],Sn,Sn] 26 (0,0)) λQ1 W2 N2 _ f=>Ys (lTD0 X1.1 Z7 P7 Z8 P8) (aTD0 X1.1 Z7 P7 Z8 P8) f N2 rfl rfl λW3 N3 _ f=>Ye f 2 λ_ f=>aq (RR (Ye f 2 λ_ f=>RcF f F1 (λB5 F2=>?_) λB5 F3=>?_))
 ·have U1: (X1.2.2)=false:=by simpa using B5
  refine wp_ret (dj (E_ret0 f rfl ?_))
  cases sI F2
  exact⟨_,rfl,V1,_,J1,(N3.dropN 1),⟨Z1,P1,L1,Z2,P2,L2,Z3,P3,L3,Z4,P4,L4,rfl,rfl,(ag.mono J1 _ _ D1),(ag.mono J1 _ _ D2),(ag.mono J1 _ _ D3),(ag.mono J1 _ _ D4)⟩⟩
 ·have U2: (X1.2.2)=true:=by simpa using B5
  refine St (RR (Y f 1 λ_ f=>Z f (Y30 (v:=iB X1.1.ab) rfl (ad:=⟨Q1,0,none⟩) (N3.ownCell 0 rfl 0)) λ_ f=>Y f 2 λ_ f=>?_))
  rcases cE F3 with⟨B6,F4⟩|⟨B6,F19⟩
  ·have U3:=dI.1 B6
   have f:=f.st 23 (cB B6)
   refine Y18 f N3 (be _ (120:Int) X1.2.1) λW4 N4 _ f=>eT (RR (Y f 1 λ_ f=>Z f (Y30 (v:=sL Z8 X1.1.af P8) rfl (ad:=⟨Q1,5,none⟩) (N4.ownCell 0 rfl 5)) λ_ f=>Y f 4 λ_ f=>?_))
   rcases cE F4 with⟨B7,F5⟩|⟨B7,F18⟩
   ·have U4:=dI.1 B7
    have f:=f.st 30 (cB B7)
    refine Y18 f N4 (be _ (3:Int) X1.2.1) λW5 N5 _ f=>eT (RR (Z f (Y31 (cs:=(lTD0 X1.1 Z7 P7 Z8 P8)) rfl (ad:=⟨Q1,0,none⟩) (an (N5.ownCell 0 rfl) 0 rfl)) λ_ f=>?_))
    obtain⟨X2,l2,F6⟩:=bS F5
    refine Y17 (E:=[]) (H:=((Ent.obj Q1 (.cells (aTD0 X1.1 Z7 P7 Z8 P8) 26 (0,0)))::(oC cj #[sL Z1 bl P1,sL Z2 bm P2,sL Z3 bn P3,sL Z4 bq P4] 41)::(rO 58 10 Z1 bl P1 L1)::(rO 61 15 Z2 bm P2 L2)::(rO 66 7 Z3 bn P3 L3)::(rO 68 8 Z4 bq P4 L4)::H)) f N5 (cX n _ (GL.mono J1 hG) _ X1.1 (TD0.shutx (x:=X1.1) B3 B4) X2 l2) λ_ V2 mN W6 J2 N6 iQ _ f=>?_
    obtain⟨Z9,P9,L5,rfl,rfl,D6⟩:=iQ
    refine Ye f 2 λ_ f=>wp_block ?_
    have N13:=N6.pl [2,2,2,6,6,6,6]
    obtain⟨Q2,dy,F7⟩:=bS F6
    refine wp_mono (Q:=λe a w=>(∃G1:Int×Bs,e=.panic (flawE 78 G1)∧Q2=.inl G1∧∃V7:Mem,V2.le V7∧Frm 59 [] a∧Hp w0 V7 (H) w)∨(e=.exit 0∧(∃G2:List TE0×List TH0×List TB0×List TC0,Q2=.inr G2∧∃V8:Mem,V2.le V8∧∃ (Z20:Oa),∃ (P21:Nat),∃ (L14:Lv),∃ (Z21:Oa),∃ (P22:Nat),∃ (L15:Lv),∃ (Z22:Oa),∃ (P23:Nat),∃ (L16:Lv),∃ (Z23:Oa),∃ (P24:Nat),∃ (L17:Lv),ag V8 (G2.1.map bx) L14∧ag V8 (G2.2.1.map aF) L15∧ag V8 (G2.2.2.1.map bu) L16∧ag V8 (G2.t3.map bw) L17∧Frm 59 [] a∧Hp w0 V8 ((rO 58 10 Z20 G2.1 P21 L14)::(rO 61 15 Z21 G2.2.1 P22 L15)::(rO 66 7 Z22 G2.2.2.1 P23 L16)::(rO 68 8 Z23 G2.t3 P24 L17)::(rO 99 7 Z9 X2 P9 L5)::(Ent.obj Q1 (.cells (aTD0 X1.1 Z7 P7 Z8 P8) 26 (0,0)))::(oC cj #[sL Z20 G2.1 P21,sL Z21 G2.2.1 P22,sL Z22 G2.2.2.1 P23,sL Z23 G2.t3 P24] 41)::H) w))) (cD (n:=59) (w0:=w0) (M:=V2) (λ (I1,K1,Z10,P10,L6,Z11,P11,L7,Z12,P12,L8,Z13,P13,L9)=>[(2,.func (.func 53) #[] #[pP cj,Pa ad2_1]),(8,S X1.2.1),(34,sL Z9 X2 P9),(35,iL ((X2.length:Nat):Int)),(36,iL K1.1)]) (λ (I1,K1,Z10,P10,L6,Z11,P11,L7,Z12,P12,L8,Z13,P13,L9)=>((rO 58 10 Z10 K1.2.1 P10 L6)::(rO 61 15 Z11 K1.2.2.1 P11 L7)::(rO 66 7 Z12 K1.t3.1 P12 L8)::(rO 68 8 Z13 K1.t4 P13 L9)::(rO 99 7 Z9 X2 P9 L5)::(Ent.obj Q1 (.cells (aTD0 X1.1 Z7 P7 Z8 P8) 26 (0,0)))::(oC cj #[sL Z10 K1.2.1 P10,sL Z11 K1.2.2.1 P11,sL Z12 K1.t3.1 P12,sL Z13 K1.t4 P13] 41)::H)) (λ (I1,K1,Z10,P10,L6,Z11,P11,L7,Z12,P12,L8,Z13,P13,L9) MM=>aL (eo n rec_syntax_template mI X1 X2) I1 K1=some Q2∧ag MM (K1.2.1.map bx) L6∧ag MM (K1.2.2.1.map aF) L7∧ag MM (K1.t3.1.map bu) L8∧ag MM (K1.t4.map bw) L9) (λ (I1,K1,Z10,P10,L6,Z11,P11,L7,Z12,P12,L8,Z13,P13,L9)=>I1) (n,((0:Int),bl,bm,bn,bq),Z1,P1,L1,Z2,P2,L2,Z3,P3,L3,Z4,P4,L4) (f.kp) N13 ⟨dy,(ag.mono (J1.trans J2) _ _ D1),(ag.mono (J1.trans J2) _ _ D2),(ag.mono (J1.trans J2) _ _ D3),(ag.mono (J1.trans J2) _ _ D4)⟩ ?_) ?_
    ·rintro⟨I1,K1,Z10,P10,L6,Z11,P11,L7,Z12,P12,L8,Z13,P13,L9⟩ V3 _ W7 J3 je f N14
     obtain⟨dL,D7,D8,D9,D10⟩:=je
     obtain⟨I2,nL,rfl,ca,T1⟩:=bB dL
     unfold eo at ca
     refine RR (Ye f 1 λ_ f=>aq (RcF f ca (λB8 F8=>?_) λB8 F17=>?_))
     ·have U5:=dI.1 B8
      refine St (aq (wp_block (RR ?_)))
      obtain⟨X3,l3,F9⟩:=bS F8
      obtain⟨Q3,P14,H1,ld⟩:=N14.rowAddr 4 rfl (bh l3)
      have f:=f.st 34 (H1)
      refine Z f (Y28 rfl (ad:=⟨Q3,0,none⟩) (len:=X2.length) (cap:=P14) (k:=.i64) (i:=K1.1) (e:=99) (sz:=7) (az l3) (ay l3)) λ_ f=>?_
      have f:=f.st 34 (H1.symm)
      obtain⟨iA,-,D11,R1⟩:=ag.get K1.1.toNat (eJ cK) (ag.mono J3 _ _ D6) (gE l3)
      obtain⟨Z14,P15,Z15,P16,rfl,B9,B10⟩:=ax.opn D11
      refine Z f (Y31 (cs:=[S X3.key,iB X3.v.ab,bO X3.v.ah,iL X3.v.ai,S X3.v.aa,sL Z14 X3.v.ac P15,sL Z15 X3.v.af P16]) rfl (ad:=(⟨Q3,0,none⟩:Addr).add (K1.1.toNat*7)) (λj v h=>jD (N14.rowCell 4 rfl H1) R1 j v h)) λ_ f=>Y12 f N14 (.cells #[S [],iB 0,bO false,iL 0,S [],Sn,Sn] 99 (0,0)) λQ4 W8 N15 _ f=>Ys [S X3.key,iB X3.v.ab,bO X3.v.ah,iL X3.v.ai,S X3.v.aa,sL Z14 X3.v.ac P15,sL Z15 X3.v.af P16] #[S X3.key,iB X3.v.ab,bO X3.v.ah,iL X3.v.ai,S X3.v.aa,sL Z14 X3.v.ac P15,sL Z15 X3.v.af P16] f N15 rfl rfl λW9 N16 _ f=>eT (aq (ei (E:=[]) (Hr:=((oC Q4 #[S X3.key,iB X3.v.ab,bO X3.v.ah,iL X3.v.ai,S X3.v.aa,sL Z14 X3.v.ac P15,sL Z15 X3.v.af P16] 99)::(rO 58 10 Z10 K1.2.1 P10 L6)::(rO 61 15 Z11 K1.2.2.1 P11 L7)::(rO 66 7 Z12 K1.t3.1 P12 L8)::(rO 68 8 Z13 K1.t4 P13 L9)::(rO 99 7 Z9 X2 P9 L5)::(Ent.obj Q1 (.cells (aTD0 X1.1 Z7 P7 Z8 P8) 26 (0,0)))::(oC cj #[sL Z10 K1.2.1 P10,sL Z11 K1.2.2.1 P11,sL Z12 K1.t3.1 P12,sL Z13 K1.t4 P13] 41)::H)) [(0,true),(1,true),(2,true),(3,true),(4,true),(5,true),(6,true),(7,false)] N16 kr kr rfl kr (Y0 default f 1 λ_ f=>cg (v:=S X3.key) f kr kr rfl rfl (λ_ pq=>Y30 (v:=S X3.key) rfl (ad:=⟨Q4,0,none⟩) (pq.ownCell 0 rfl 0)) λ_ f=>?_)))
      obtain⟨X4,l4,F10⟩:=bS F9
      refine eE (v:=bO X4) f kr kr rfl rfl (λ_=>by kernel_rfl) (cp n _ X3.key X4 l4) λ_ f=>Y0 default f 2 λ_ f=>cg (v:=S X3.key) f kr kr rfl rfl (λ_ pq=>Y30 (v:=S X3.key) rfl (ad:=⟨Q4,0,none⟩) (pq.ownCell 0 rfl 0)) λ_ f=>?_
      obtain⟨X5,l5,F11⟩:=bS F10
      refine eE (v:=S X5) f kr kr rfl rfl (λ_=>by kernel_rfl) (aK n _ (GL.mono ((J1.trans J2).trans J3) hG) X1.2.1 X3.key X5 l5) λ_ f=>cd (E:=[]) λW12 N19=>?_
      rcases cE F11 with⟨B11,F12⟩|⟨B11,F16⟩
      ·have f:=f.st 42 (cB B11)
       refine Y18 f N19 (be _ (120:Int) X5) λW13 N20 _ f=>am rfl (dC (M1:=V3) (E:=[]) (mR _) N20 (eh rfl λW14 N21=>aS ?_))
       have N29:=N21.pl [6,6,2,7,7,7,7,7]
       refine ei (E:=[rO 58 10 Z10 K1.2.1 P10 L6,rO 61 15 Z11 K1.2.2.1 P11 L7,rO 66 7 Z12 K1.t3.1 P12 L8,rO 68 8 Z13 K1.t4 P13 L9,oC cj #[sL Z10 K1.2.1 P10,sL Z11 K1.2.2.1 P11,sL Z12 K1.t3.1 P12,sL Z13 K1.t4 P13] 41]) (Hr:=((oC Q4 #[S X3.key,iB X3.v.ab,bO X3.v.ah,iL X3.v.ai,S X3.v.aa,sL Z14 X3.v.ac P15,sL Z15 X3.v.af P16] 99)::(rO 99 7 Z9 X2 P9 L5)::(Ent.obj Q1 (.cells (aTD0 X1.1 Z7 P7 Z8 P8) 26 (0,0)))::H)) [(0,true),(1,true),(2,true),(3,true),(4,true),(5,true),(6,true),(7,true),(8,true),(9,false)] N29 kr kr rfl kr (Y0 default f 2 λ_ f=>cg (v:=S X3.key) f kr kr rfl rfl (λ_ pq=>Y30 (v:=S X3.key) rfl (ad:=⟨Q4,0,none⟩) (pq.ownCell 0 rfl 0)) λ_ f=>Y0 default f 1 λ_ f=>cg (v:=.agg (aTD0 X3.v Z14 P15 Z15 P16)) f kr kr rfl rfl (λ_ pq=>Y31 (cs:=(lTD0 X3.v Z14 P15 Z15 P16)) rfl (ad:=⟨Q4,1,none⟩) (an (pq.ownCell 0 rfl) 1 rfl)) λ_ f=>Y0 default f 2 λ_ f=>cg (v:=S X3.key) f kr kr rfl rfl (λ_ pq=>Y30 (v:=S X3.key) rfl (ad:=⟨Q4,0,none⟩) (pq.ownCell 0 rfl 0)) λ_ f=>?_)
       obtain⟨X6,l6,F13⟩:=bS F12
       refine eE (v:=S X6) f kr kr rfl rfl (λ_=>by kernel_rfl) (aK n _ (GL.mono ((J1.trans J2).trans J3) hG) X1.2.1 X3.key X6 l6) λ_ f=>cd (E:=[rO 58 10 Z10 K1.2.1 P10 L6,rO 61 15 Z11 K1.2.2.1 P11 L7,rO 66 7 Z12 K1.t3.1 P12 L8,rO 68 8 Z13 K1.t4 P13 L9,oC cj #[sL Z10 K1.2.1 P10,sL Z11 K1.2.2.1 P11,sL Z12 K1.t3.1 P12,sL Z13 K1.t4 P13] 41]) λW16 N31=>?_
       obtain⟨X7,l7,F14⟩:=bS F13
       rcases X7 with X8|X9
       ·have N37:=N31.pl [3,3,3,3,4]
        refine ej (E:=[oC cj #[sL Z10 K1.2.1 P10,sL Z11 K1.2.2.1 P11,sL Z12 K1.t3.1 P12,sL Z13 K1.t4 P13] 41,rO 58 10 Z10 K1.2.1 P10 L6,rO 61 15 Z11 K1.2.2.1 P11 L7,rO 66 7 Z12 K1.t3.1 P12 L8,rO 68 8 Z13 K1.t4 P13 L9]) (H:=((oC Q4 #[S X3.key,iB X3.v.ab,bO X3.v.ah,iL X3.v.ai,S X3.v.aa,sL Z14 X3.v.ac P15,sL Z15 X3.v.af P16] 99)::(rO 99 7 Z9 X2 P9 L5)::(Ent.obj Q1 (.cells (aTD0 X1.1 Z7 P7 Z8 P8) 26 (0,0)))::H)) f N37 (gR n rec_syntax_template hrec_syntax_template _ (GL.mono ((J1.trans J2).trans J3) hG) X3.key _ (⟨X3.v.ab,(X3.v.ah),X3.v.ai,X3.v.aa,X3.v.ac,X3.v.af⟩:TD0) (TD0.shut B9 B10) X6 cj K1.2.1 Z10 P10 L6 D7 K1.2.2.1 Z11 P11 L7 D8 K1.t3.1 Z12 P12 L8 D9 K1.t4 Z13 P13 L9 D10 ad2_1 [iL mI] mI (rfl) (bL ((fzu ((J1.trans J2).trans J3) q2_1)) 0 rfl) (.inl X8) l7) kr (λ_=>by kernel_rfl) λV4 W17 J4 N32=>lj f λ_ f=>kU (bM (bM ?_))
        cases sI F14
        exact .inl ⟨X8,rfl,(sI T1).symm,V4,(J3.trans J4),f.kp,(N32.dropN 3)⟩
       ·have N43:=N31.pl [3,3,3,3,4]
        refine Y17 (E:=[oC cj #[sL Z10 K1.2.1 P10,sL Z11 K1.2.2.1 P11,sL Z12 K1.t3.1 P12,sL Z13 K1.t4 P13] 41,rO 58 10 Z10 K1.2.1 P10 L6,rO 61 15 Z11 K1.2.2.1 P11 L7,rO 66 7 Z12 K1.t3.1 P12 L8,rO 68 8 Z13 K1.t4 P13 L9]) (H:=((oC Q4 #[S X3.key,iB X3.v.ab,bO X3.v.ah,iL X3.v.ai,S X3.v.aa,sL Z14 X3.v.ac P15,sL Z15 X3.v.af P16] 99)::(rO 99 7 Z9 X2 P9 L5)::(Ent.obj Q1 (.cells (aTD0 X1.1 Z7 P7 Z8 P8) 26 (0,0)))::H)) f N43 (OkXH.ok (gR n rec_syntax_template hrec_syntax_template _ (GL.mono ((J1.trans J2).trans J3) hG) X3.key _ (⟨X3.v.ab,(X3.v.ah),X3.v.ai,X3.v.aa,X3.v.ac,X3.v.af⟩:TD0) (TD0.shut B9 B10) X6 cj K1.2.1 Z10 P10 L6 D7 K1.2.2.1 Z11 P11 L7 D8 K1.t3.1 Z12 P12 L8 D9 K1.t4 Z13 P13 L9 D10 ad2_1 [iL mI] mI (rfl) (bL ((fzu ((J1.trans J2).trans J3) q2_1)) 0 rfl) (.inr X9) l7)) λ_ V5 E_2 W18 J5 N38 mg _ f=>?_
        obtain⟨Z16,P17,L10,Z17,P18,L11,Z18,P19,L12,Z19,P20,L13,rfl,rfl,D12,D13,D14,D15⟩:=mg
        refine am rfl (dC (M1:=V5) (E:=[oC cj #[sL Z16 X9.1 P17,sL Z17 X9.2.1 P18,sL Z18 X9.2.2.1 P19,sL Z19 X9.t3 P20] 41,rO 58 10 Z16 X9.1 P17 L10,rO 61 15 Z17 X9.2.1 P18 L11,rO 66 7 Z18 X9.2.2.1 P19 L12,rO 68 8 Z19 X9.t3 P20 L13]) J5 N38 (eh rfl λW19 N44=>gh (aS (aN ?_))))
        obtain⟨O1,F15⟩:=nS F14
        refine Y f 1 λ_ f=>?_
        have f:=f.st 58 (iW O1)
        refine Y f 1 λ_ f=>am rfl ?_
        have N54:=N44.pl [7,7,6,6,6,6,7]
        refine aS ?_
        cases sI F15
        exact⟨⟨I2,(K1.1+1,X9.1,X9.2.1,X9.2.2.1,X9.t3),Z16,P17,L10,Z17,P18,L11,Z18,P19,L12,Z19,P20,L13⟩,Nat.lt_succ_self _,V5,(J3.trans J5),⟨T1,D12,D13,D14,D15⟩,f.kp,(N54.dropN 1)⟩
      ·have f:=f.st 42 (cB B11)
       refine aH f N19 (bc _ (120:Int) X5) kr (λ_=>by kernel_rfl) λV6 W20 J6 N45=>lj f λ_ f=>bM (kU (bM (bM ?_)))
       cases sI F16
       exact .inl ⟨((120:Int),X5),rfl,(sI T1).symm,V6,(J3.trans J6),f.kp,(N45.dropN 8)⟩
     ·have U8:=aA dI B8
      refine wp_exit (gT (gT ?_))
      cases sI F17
      exact .inr ⟨rfl,(K1.2.1,K1.2.2.1,K1.t3.1,K1.t4),(sI T1).symm,V3,J3,Z10,P10,L6,Z11,P11,L7,Z12,P12,L8,Z13,P13,L9,D7,D8,D9,D10,f.kp,N14⟩
    ·rintro _ _ W23 (⟨G1,rfl,rfl,V7,J7,f,N46⟩|⟨rfl,G2,rfl,V8,J8,Z20,P21,L14,Z21,P22,L15,Z22,P23,L16,Z23,P24,L17,D16,D17,D18,D19,f,N47⟩)
     ·refine kU (aP f ?_)
      cases sI F7
      exact⟨V7,((J1.trans J2).trans J7),N46,rfl⟩
     ·refine lO (dK f rfl ?_)
      cases sI F7
      have N61:=N47.pl [3,3,3,3,6,6,6]
      exact⟨_,rfl,V8,_,((J1.trans J2).trans J8),(N61.dropN 2),⟨Z20,P21,L14,Z21,P22,L15,Z22,P23,L16,Z23,P24,L17,rfl,rfl,D16,D17,D18,D19⟩⟩
   ·have U9:=aA dI B7
    have f:=f.st 30 (cB B7)
    refine aH f N4 (bc _ (3:Int) X1.2.1) kr (λ_=>by kernel_rfl) λV9 W24 J9 N62=>bM (aP f ?_)
    cases sI F18
    exact⟨V9,(J1.trans J9),(N62.dropN 6),rfl⟩
  ·have U10:=aA dI B6
   have f:=f.st 23 (cB B6)
   refine aH f N3 (bc _ (120:Int) X1.2.1) kr (λ_=>by kernel_rfl) λV10 W25 J10 N63=>bM (aP f ?_)
   cases sI F19
   exact⟨V10,(J1.trans J10),(N63.dropN 6),rfl⟩
def gq (n:Nat) (d0:Bs) (d1:TD0) (d2:Bs):Option (Sum (Int×Bs) TC0):=
 (cr n d1 d2 ([[86,97,108,117,101],[67,111,110,100,105,116,105,111,110]]:List Bs)).bind λX1=>
 (match X1 with
 |.inl X2=>some (.inl X2)
 |.inr X3=>(aR n [86,97,108,117,101] X3.1 X3.2).bind λX4=>
  bif X4.2.2 then
   ((gc n X4.1 X4.2.1).bind λX5=>
   (match X5 with
   |.inl X6=>some (.inl X6)
   |.inr X7=>(aR n [67,111,110,100,105,116,105,111,110] X3.1 X3.2).bind λX8=>
    (el n X8.1 X8.2.1 (X8.2.2)).bind λX9=>
    (match X9 with
    |.inl X10=>some (.inl X10)
    |.inr X11=>some (.inr (⟨d0,X11,(⟨X7.ab,X7.aa,X7.ai,X7.aj,X7.ao,X7.fL⟩:TF0)⟩:TC0)))))
  else
   some (.inl ((120:Int),d2)))
theorem jv (n:Nat) (M:Mem) (hG:GL M) (d0:Bs) (c1:Lv) (d1:TD0) (h1:Rep M (ap d1) c1) (d2:Bs) (r:Sum (Int×Bs) TC0) (hF:gq n d0 d1 d2=some r):OkX Tryz.prog M 56 [S d0,.agg c1.toArray,S d2] 78 r (λr=>λM' v=>∃ (c0:Lv),v=.agg c0.toArray∧Rep M' (bw r) c0):=by
 unfold gq at hF
 intro M1 hM0 w0 H w p0
 replace hG:=GL.mono hM0 hG
 replace h1:=Rep.mono hM0 _ _ h1
 obtain⟨Z1,P1,Z2,P2,rfl,B1,B2⟩:=TD0.opn h1
 refine Re 38 Tryz.func56 rfl λa0 f0=>RR (Y13 (cs:=(aTD0 d1 Z1 P1 Z2 P2)) (T:=26) f0 p0 λQ1 V1 W1 J1 R1 N1 _ f=>?_)
 have R2:=bR R1
 refine Y12 f N1 (.cells #[S [],S [],iB 0,S [],iL 0,S [],S [],Sn] 68 (0,0)) λQ2 W2 N2 _ f=>eT (RR (Z f (Y31 (cs:=(lTD0 d1 Z1 P1 Z2 P2)) rfl (ad:=⟨Q1,0,none⟩) (λj v h=>N2.cell (R2 j v h))) λ_ f=>Y f 1 λ_ f=>aQ (k:=2) (c:=2) f N2 (.cells #[S [86,97,108,117,101],S [67,111,110,100,105,116,105,111,110]] 9 (0,0)) kr (λ_=>by kernel_rfl) λQ3 W3 N3 _ f=>?_))
 have D1:ag V1 (([[86,97,108,117,101],[67,111,110,100,105,116,105,111,110]]:List Bs).map Dat.str) [S [86,97,108,117,101],S [67,111,110,100,105,116,105,111,110]]:=⟨_,_,rfl,rfl,⟨_,_,rfl,rfl,rfl⟩⟩
 have N4:Hp w0 V1 ((Ent.row 9 1 (.slice (some ⟨Q3,0,none⟩) 2 2) ([[86,97,108,117,101],[67,111,110,100,105,116,105,111,110]]:List Bs).length [S [86,97,108,117,101],S [67,111,110,100,105,116,105,111,110]])::(oC Q2 #[S [],S [],iB 0,S [],iL 0,S [],S [],Sn] 68)::H) W3:=N3.objRow (n:=2) (cap:=2) (size:=1) (by decide) (by decide) (dS (by decide) rfl) rfl rfl
 obtain⟨Z3,P3,V2,H1,J2,N5,B3⟩:=N4.rowSli (f:=Dat.str) (xs:=([[86,97,108,117,101],[67,111,110,100,105,116,105,111,110]]:List Bs)) bZ D1
 have f:=f.st 14 (H1)
 obtain⟨X1,l1,F1⟩:=bS hF
 rcases X1 with X2|X3
 ·refine aH f N5 (bH n _ (GL.mono (J1.trans J2) hG) _ d1 (TD0.shutx (x:=d1) (B1.mono (J1.trans J2)) (B2.mono (J1.trans J2))) d2 Z3 P3 ([[86,97,108,117,101],[67,111,110,100,105,116,105,111,110]]:List Bs) B3 (.inl X2) l1) kr (λ_=>by kernel_rfl) λV3 W4 J3 N6=>bM (aP f ?_)
  cases sI F1
  exact⟨V3,((J1.trans J2).trans J3),(N6.dropN 1),rfl⟩
 ·refine Y16 f N5 (OkX.ok (bH n _ (GL.mono (J1.trans J2) hG) _ d1 (TD0.shutx (x:=d1) (B1.mono (J1.trans J2)) (B2.mono (J1.trans J2))) d2 Z3 P3 ([[86,97,108,117,101],[67,111,110,100,105,116,105,111,110]]:List Bs) B3 (.inr X3) l1)) λ_ V4 W5 J4 N7 eM _ f=>?_
  obtain⟨C1,eF,C2,iA,rfl,D2,dg,D3,dD⟩:=eM
  obtain⟨Z4,P4,Z5,P5,rfl,B4,B5⟩:=TD0.opn D2
  obtain rfl:iA=[S X3.2]:=D3
  refine Ye f 1 λ_ f=>RR (Y f 1 λ_ f=>?_)
  obtain⟨X4,l2,F2⟩:=bS F1
  refine Y16 f N7 (aV n _ (GL.mono ((J1.trans J2).trans J4) hG) [86,97,108,117,101] C1 (lTD0 X3.1 Z4 P4 Z5 P5) X3.1 (TD0.shutx (x:=X3.1) B4 B5) (bL (dg) 0 rfl) C2 [S X3.2] X3.2 (rfl) (bL (dD) 0 rfl) X4 l2) λ_ V5 W6 J5 N8 iQ _ f=>?_
  obtain⟨c_3,rfl,D4⟩:=iQ
  obtain⟨Z6,P6,Z7,P7,rfl,B6,B7⟩:=TD0.opn D4
  refine Y f 4 λ_ f=>Y12 f N8 (.cells #[iB 0,bO false,iL 0,S [],Sn,Sn] 26 (0,0)) λQ4 W7 N9 _ f=>Ys (lTD0 X4.1 Z6 P6 Z7 P7) (aTD0 X4.1 Z6 P6 Z7 P7) f N9 rfl rfl λW8 N10 _ f=>Ye f 2 λ_ f=>RR (Y f 2 λ_ f=>?_)
  rcases cE F2 with⟨B8,F3⟩|⟨B8,F7⟩
  ·have f:=f.st 22 (cB B8)
   refine Y18 f N10 (be _ (120:Int) d2) λW9 N11 _ f=>eT (RR (Y f 1 λ_ f=>Z f (Y31 (cs:=(lTD0 X4.1 Z6 P6 Z7 P7)) rfl (ad:=⟨Q4,0,none⟩) (an (N11.ownCell 0 rfl) 0 rfl)) λ_ f=>Y f 1 λ_ f=>?_))
   obtain⟨X5,l3,F4⟩:=bS F3
   rcases X5 with X6|X7
   ·refine aH f N11 (cP n _ (GL.mono (((J1.trans J2).trans J4).trans J5) hG) _ X4.1 (TD0.shutx (x:=X4.1) B6 B7) X4.2.1 (.inl X6) l3) kr (λ_=>by kernel_rfl) λV6 W10 J6 N12=>bM (aP f ?_)
    cases sI F4
    exact⟨V6,((((J1.trans J2).trans J4).trans J5).trans J6),(N12.dropN 2),rfl⟩
   ·refine Y16 f N11 (OkX.ok (cP n _ (GL.mono (((J1.trans J2).trans J4).trans J5) hG) _ X4.1 (TD0.shutx (x:=X4.1) B6 B7) X4.2.1 (.inr X7) l3)) λ_ V7 W11 J7 N13 mg _ f=>?_
    obtain⟨c_4,rfl,D5⟩:=mg
    obtain⟨Z8,P8,rfl,B9⟩:=TF0.opn D5
    refine Y f 1 λ_ f=>Y12 f N13 (.cells #[S [],S [],iB 0,S [],iL 0,S [],S [],Sn] 68 (0,0)) λQ5 W12 N14 _ f=>Ys [S d0,S [],iB X7.ab,S X7.aa,iL X7.ai,S X7.aj,S X7.ao,sL Z8 X7.fL P8] #[S d0,S [],iB X7.ab,S X7.aa,iL X7.ai,S X7.aj,S X7.ao,sL Z8 X7.fL P8] f N14 rfl rfl λW13 N15 _ f=>eT (RR (Y f 1 λ_ f=>?_))
    obtain⟨X8,l4,F5⟩:=bS F4
    refine Y16 f N15 (aV n _ (GL.mono ((((J1.trans J2).trans J4).trans J5).trans J7) hG) [67,111,110,100,105,116,105,111,110] C1 (lTD0 X3.1 Z4 P4 Z5 P5) X3.1 (TD0.shutx (x:=X3.1) (B4.mono (J5.trans J7)) (B5.mono (J5.trans J7))) (bL ((fzu (J5.trans J7) dg)) 0 rfl) C2 [S X3.2] X3.2 (rfl) (bL ((fzu (J5.trans J7) dD)) 0 rfl) X8 l4) λ_ V8 W14 J8 N16 q_4 _ f=>?_
    obtain⟨c_5,rfl,D6⟩:=q_4
    obtain⟨Z9,P9,Z10,P10,rfl,B10,B11⟩:=TD0.opn D6
    refine Y f 3 λ_ f=>?_
    obtain⟨X9,l5,F6⟩:=bS F5
    rcases X9 with X10|X11
    ·refine aH f N16 (dz n _ (GL.mono (((((J1.trans J2).trans J4).trans J5).trans J7).trans J8) hG) _ X8.1 (TD0.shutx (x:=X8.1) B10 B11) X8.2.1 (X8.2.2) (.inl X10) l5) kr (λ_=>by kernel_rfl) λV9 W15 J9 N17=>bM (aP f ?_)
     cases sI F6
     exact⟨V9,((((((J1.trans J2).trans J4).trans J5).trans J7).trans J8).trans J9),(N17.dropN 3),rfl⟩
    ·refine Y16 f N16 (OkX.ok (dz n _ (GL.mono (((((J1.trans J2).trans J4).trans J5).trans J7).trans J8) hG) _ X8.1 (TD0.shutx (x:=X8.1) B10 B11) X8.2.1 (X8.2.2) (.inr X11) l5)) λ_ V10 W16 J10 N18 q_5 _ f=>?_
     obtain⟨rfl⟩:=q_5
     refine Y f 1 λ_ f=>Y25 f N18 0 rfl rfl (b:=Q5) (j:=1) (v:=S X11) rfl (by exact rfl) (by simp) (by simp) _ rfl λW17 N19 _ f=>eT (RR (Z f (Y31 (cs:=[S d0,S X11,iB X7.ab,S X7.aa,iL X7.ai,S X7.aj,S X7.ao,sL Z8 X7.fL P8]) rfl (ad:=⟨Q5,0,none⟩) (an (N19.ownCell 0 rfl) 0 rfl)) λ_ f=>?_))
     have N20:=N19.pl [2]
     refine Ys [S d0,S X11,iB X7.ab,S X7.aa,iL X7.ai,S X7.aj,S X7.ao,sL Z8 X7.fL P8] #[S d0,S X11,iB X7.ab,S X7.aa,iL X7.ai,S X7.aj,S X7.ao,sL Z8 X7.fL P8] f N20 rfl rfl λW18 N21 _ f=>Er (ef f rfl (Y10 (cs:=[S d0,S X11,iB X7.ab,S X7.aa,iL X7.ai,S X7.aj,S X7.ao,sL Z8 X7.fL P8]) (ad:=⟨Q2,0,none⟩) f (an (N21.ownCell 0 rfl) 0 rfl)) ?_)
     cases sI F6
     exact⟨_,rfl,V10,((((((J1.trans J2).trans J4).trans J5).trans J7).trans J8).trans J10),(N21.dropN 3),⟨[S d0,S X11,iB X7.ab,S X7.aa,iL X7.ai,S X7.aj,S X7.ao,sL Z8 X7.fL P8],rfl,(TC0.shut (B9.mono (J8.trans J10)))⟩⟩
  ·have f:=f.st 22 (cB B8)
   refine aH f N10 (bc _ (120:Int) d2) kr (λ_=>by kernel_rfl) λV11 W19 J11 N22=>bM (aP f ?_)
   cases sI F7
   exact⟨V11,((((J1.trans J2).trans J4).trans J5).trans J11),(N22.dropN 2),rfl⟩
def db (n:Nat) (d0:Bs) (d1:TD0) (d2:Bs) (aB:List TE0) (ak:List TH0) (aC:List TB0) (aD:List TC0):Option (Sum (Int×Bs) (List TE0×List TH0×List TB0×List TC0)):=
 (((gq n d0 d1 d2).bind λX1=>
   bb ((aD.length+1)*120≤140737488355328)<|
   (match X1 with
   |.inl X5=>((some (.inl X5):Option (Sum (Int×Bs) (List TE0×List TH0×List TB0×List TC0)))).map Lp.br
   |.inr X6=>some (.nx (aD++[(⟨X6.aj,X6.dm,(⟨X6.fE.ab,X6.fE.aa,X6.fE.ai,X6.fE.aj,X6.fE.ao,X6.fE.fL⟩:TF0)⟩:TC0)]))):Option (Lp (List TC0) (Sum (Int×Bs) (List TE0×List TH0×List TB0×List TC0))))).bind λj=>joinF j λG1=>
 some (.inr (aB,ak,aC,G1))
theorem ii (n:Nat) (M:Mem) (hG:GL M) (d0:Bs) (c1:Lv) (d1:TD0) (h1:Rep M (ap d1) c1) (d2:Bs) (b3:Nat) (aB:List TE0) (Z1:Oa) (P1:Nat) (L1:Lv) (D1:ag M (aB.map bx) L1) (ak:List TH0) (Z2:Oa) (P2:Nat) (L2:Lv) (D2:ag M (ak.map aF) L2) (aC:List TB0) (Z3:Oa) (P3:Nat) (L3:Lv) (D3:ag M (aC.map bu) L3) (aD:List TC0) (Z4:Oa) (P4:Nat) (L4:Lv) (D4:ag M (aD.map bw) L4) (r:Sum (Int×Bs) (List TE0×List TH0×List TB0×List TC0)) (hF:db n d0 d1 d2 aB ak aC aD=some r):OkXH Tryz.prog M [oC b3 #[sL Z1 aB P1,sL Z2 ak P2,sL Z3 aC P3,sL Z4 aD P4] 41,rO 58 10 Z1 aB P1 L1,rO 61 15 Z2 ak P2 L2,rO 66 7 Z3 aC P3 L3,rO 68 8 Z4 aD P4 L4] 55 [S d0,.agg c1.toArray,S d2,pP b3] 78 r (λr=>λM' E' v=>∃ (Z12:Oa) (P12:Nat) (L8:Lv) (Z13:Oa) (P13:Nat) (L9:Lv) (Z14:Oa) (P14:Nat) (L10:Lv) (Z15:Oa) (P15:Nat) (L11:Lv),v=.tuple #[]∧E'=[oC b3 #[sL Z12 r.1 P12,sL Z13 r.2.1 P13,sL Z14 r.2.2.1 P14,sL Z15 r.t3 P15] 41,rO 58 10 Z12 r.1 P12 L8,rO 61 15 Z13 r.2.1 P13 L9,rO 66 7 Z14 r.2.2.1 P14 L10,rO 68 8 Z15 r.t3 P15 L11]∧ag M' (r.1.map bx) L8∧ag M' (r.2.1.map aF) L9∧ag M' (r.2.2.1.map bu) L10∧ag M' (r.t3.map bw) L11):=by
 unfold db at hF
 intro M1 hM0 w0 H w p0
 replace hG:=GL.mono hM0 hG
 replace h1:=Rep.mono hM0 _ _ h1
 replace D1:=ag.mono hM0 _ _ D1
 replace D2:=ag.mono hM0 _ _ D2
 replace D3:=ag.mono hM0 _ _ D3
 replace D4:=ag.mono hM0 _ _ D4
 obtain⟨Z5,P5,Z6,P6,rfl,B1,B2⟩:=TD0.opn h1
 refine Re 16 Tryz.func55 rfl λa0 f0=>RR (Y13 (cs:=(aTD0 d1 Z5 P5 Z6 P6)) (T:=26) f0 p0 λQ1 V1 W1 J1 R1 N1 _ f=>?_)
 have R2:=bR R1
 refine eT ?_
 obtain⟨ip,eD,F1⟩:=bS hF
 refine ct (λa_22 W15=>∃G1:List TC0,ip=.nx G1∧∃V6:Mem,V1.le V6∧∃ (Z11:Oa),∃ (P11:Nat),∃ (L7:Lv),ag V6 (G1.map bw) L7∧Frm 16 [] a_22∧Hp w0 V6 ((rO 68 8 Z11 G1 P11 L7)::(oC b3 #[sL Z1 aB P1,sL Z2 ak P2,sL Z3 aC P3,sL Z11 G1 P11] 41)::(rO 58 10 Z1 aB P1 L1)::(rO 61 15 Z2 ak P2 L2)::(rO 66 7 Z3 aC P3 L3)::H) W15) ?_ ?_
 ·have N13:=N1.pl [3,3,3,3,4]
  obtain⟨X1,l1,F2⟩:=bS eD
  obtain⟨O1,F3⟩:=nS F2
  refine kV (ks:=[8,9]) (E:=[rO 68 8 Z4 aD P4 L4]) (Hr:=((oC b3 #[sL Z1 aB P1,sL Z2 ak P2,sL Z3 aC P3,sL Z4 aD P4] 41)::(rO 58 10 Z1 aB P1 L1)::(rO 61 15 Z2 ak P2 L2)::(rO 66 7 Z3 aC P3 L3)::H)) (.quiet 0 (.quiet 1 (.quiet 2 (.quiet 3 (.quiet 4 (.alt 5 (.alt 6 (.alt 7 .done .none) .none) .none)))))) N13 kr kr kr (Y1 (v:=Pa (⟨b3,3,none⟩)) rfl f rfl rfl (λ_ _=>by kernel_rfl) λ_ f=>Y1 (v:=sL Z4 aD P4) rfl f rfl rfl (λ_ pq=>Y30 (v:=sL Z4 aD P4) rfl (ad:=⟨b3,3,none⟩) (pq.ownCell 0 rfl 3)) λ_ f=>Y1 (v:=S d0) rfl f rfl rfl (λ_ _=>by kernel_rfl) λ_ f=>Y1 (v:=.agg (aTD0 d1 Z5 P5 Z6 P6)) rfl f rfl rfl (λ_ pq=>Y31 (cs:=(lTD0 d1 Z5 P5 Z6 P6)) rfl (ad:=⟨Q1,0,none⟩) (λj v h=>pq.cell (R2 j v h))) λ_ f=>Y1 (v:=S d2) rfl f rfl rfl (λ_ _=>by kernel_rfl) λ_ f=>av rfl (λW6 N14=>?_) ?_)
  ·rcases X1 with X5|X6
   ·refine aH f N14 (jv n _ (GL.mono J1 hG) d0 _ d1 (TD0.shutx (x:=d1) (B1.mono J1) (B2.mono J1)) d2 (.inl X5) l1) kr (λ_=>by kernel_rfl) λV4 W7 J4 N15=>lj f λ_ f=>?_
    have F4:=bK F3 F1
    refine bM (aP f ?_)
    cases sI F4
    exact⟨V4,(J1.trans J4),(N15.dropN 5),rfl⟩
   ·refine Y16 f N14 (OkX.ok (jv n _ (GL.mono J1 hG) d0 _ d1 (TD0.shutx (x:=d1) (B1.mono J1) (B2.mono J1)) d2 (.inr X6) l1)) λ_ V5 W8 J5 N16 iQ _ f=>?_
    obtain⟨iA,rfl,D7⟩:=iQ
    obtain⟨Z9,P9,rfl,B4⟩:=TC0.opn D7
    refine am rfl (aw 1 J5 N16 rfl (av rfl (λW9 N17=>?_) ?_))
    ·refine aQ (k:=1) (c:=1) f N17 (.cells (aTC0 X6 Z9 P9) 68 (0,0)) kr (λ_=>by kernel_rfl) λQ3 W10 N18 _ f=>am rfl (aw 2 J5 N18 rfl (av rfl (λW11 N19=>?_) ?_))
     ·have N20:=N19.pl [1]
      refine Y20 (z:=.agg #[S [],S [],iB 0,S [],iL 0,S [],S [],Sn]) (f:=bw) (xs:=aD) (ys:=[(⟨X6.aj,X6.dm,(⟨X6.fE.ab,X6.fE.aa,X6.fE.ai,X6.fE.aj,X6.fE.ao,X6.fE.fL⟩:TF0)⟩:TC0)]) (news:=(lTC0 X6 Z9 P9)) (ad:=⟨Q3,0,none⟩) (m:=1) (c:=1) f N20 (ag.mono (J1.trans J5) _ _ D4) (by exact⟨_,_,rfl,TC0.shut B4,rfl⟩) rfl rfl rfl rfl (an (N20.ownCell 1 rfl) 0 rfl) (by exact O1) (by have hg_:=O1;first|omega|(simp only[List.length_cons,List.length_nil] at*;omega)) λZ10 P10 L6 W12 N21 D8 _ f=>?_
      have N22:=N21.pl [1]
      have N23:=N22.drop
      refine am rfl (aw 1 J5 N23 rfl (N_tail λW13 N24=>Y f 1 λ_ f=>Y25 f N24 1 rfl rfl (b:=b3) (j:=3) (v:=sL Z10 (aD++[(⟨X6.aj,X6.dm,(⟨X6.fE.ab,X6.fE.aa,X6.fE.ai,X6.fE.aj,X6.fE.ao,X6.fE.fL⟩:TF0)⟩:TC0)]) P10) rfl (by exact rfl) (by simp) (by simp) _ rfl λW14 N25 _ f=>am rfl (N_te (aS ?_))))
      exact⟨aD++[(⟨X6.aj,X6.dm,(⟨X6.fE.ab,X6.fE.aa,X6.fE.ai,X6.fE.aj,X6.fE.ao,X6.fE.fL⟩:TF0)⟩:TC0)],(sI F3).symm,V5,J5,Z10,P10,L6,D8,f.kp,N25⟩
     exact ar
    exact ar
  exact ar
 ·rintro a_22 W15 ⟨G1,rfl,V6,J6,Z11,P11,L7,D9,f,N26⟩
  refine dK f rfl ?_
  cases sI F1
  have N30:=N26.pl [4,4,4,4]
  exact⟨_,rfl,V6,_,(J1.trans J6),N30,⟨Z1,P1,L1,Z2,P2,L2,Z3,P3,L3,Z11,P11,L7,rfl,rfl,(ag.mono (J1.trans J6) _ _ D1),(ag.mono (J1.trans J6) _ _ D2),(ag.mono (J1.trans J6) _ _ D3),D9⟩⟩
def en (n:Nat) (X1:TD0×Bs×Bool) (X2:List ax) (K1:Int×List TE0×List TH0×List TB0×List TC0):Option (Lp (Int×List TE0×List TH0×List TB0×List TC0) (Sum (Int×Bs) (List TE0×List TH0×List TB0×List TC0))):=
    bif(decide (K1.1<((X2.length:Nat):Int))) then
     ((aU X2 K1.1).bind λX3=>
     (ck n X3.key).bind λX4=>
     (aM n X1.2.1 X3.key).bind λX5=>
     bif X4 then
      ((aM n X1.2.1 X3.key).bind λX6=>
      (db n X3.key (⟨X3.v.ab,(X3.v.ah),X3.v.ai,X3.v.aa,X3.v.ac,X3.v.af⟩:TD0) X6 K1.2.1 K1.2.2.1 K1.2.2.2.1 K1.2.2.2.2).bind λX7=>
      (match X7 with
      |.inl X8=>some (.br (.inl X8))
      |.inr X9=>bb (inR .i64 (K1.1+1))<|
       some (.nx (K1.1+1,X9.1,X9.2.1,X9.2.2.1,X9.2.2.2))))
     else
      some (.br (.inl ((120:Int),X5))))
    else
     some (.br (.inr (K1.2.1,K1.2.2.1,K1.2.2.2.1,K1.2.2.2.2)))
def dQ (n:Nat) (d0:Bs) (d1:Int) (bl:List TE0) (bm:List TH0) (bn:List TB0) (bq:List TC0) (d3_f_0:TD0) (d3_f_1:Bs):Option (Sum (Int×Bs) (List TE0×List TH0×List TB0×List TC0)):=
 (aR n d0 d3_f_0 d3_f_1).bind λX1=>
 bif !X1.2.2 then
  (some (.inr (bl,bm,bn,bq)))
 else
  bif(decide (X1.1.ab=5)) then
   (bif(decide (((X1.1.af.length:Nat):Int)≤d1)) then
    ((bX n X1.1).bind λX2=>
    (aL (en n X1 X2) n ((0:Int),bl,bm,bn,bq)).bind λQ2=>
    (match Q2 with
    |.inl G1=>some (.inl G1)
    |.inr G2=>some (.inr (G2.1,G2.2.1,G2.2.2.1,G2.2.2.2))))
   else
    some (.inl ((3:Int),X1.2.1)))
  else
   some (.inl ((120:Int),X1.2.1))
set_option maxRecDepth 20000 in
theorem gP (n:Nat) (M:Mem) (hG:GL M) (d0:Bs) (d1:Int) (cj:Nat) (bl:List TE0) (Z1:Oa) (P1:Nat) (L1:Lv) (D1:ag M (bl.map bx) L1) (bm:List TH0) (Z2:Oa) (P2:Nat) (L2:Lv) (D2:ag M (bm.map aF) L2) (bn:List TB0) (Z3:Oa) (P3:Nat) (L3:Lv) (D3:ag M (bn.map bu) L3) (bq:List TC0) (Z4:Oa) (P4:Nat) (L4:Lv) (D4:ag M (bq.map bw) L4) (ad3_f_0:Addr) (c3_f_0:Lv) (d3_f_0:TD0) (h3_f_0:Rep M (ap d3_f_0) c3_f_0) (q3_f_0: ∀j v,c3_f_0[j]? =some v→M.cell? (ad3_f_0.add j)=some v) (ad3_f_1:Addr) (c3_f_1:Lv) (d3_f_1:Bs) (h3_f_1:Rep M (Dat.str d3_f_1) c3_f_1) (q3_f_1: ∀j v,c3_f_1[j]? =some v→M.cell? (ad3_f_1.add j)=some v) (ad3:Addr) (q3: ∀j v,[(.func (.func 93) #[] #[Pa ad3_f_0,Pa ad3_f_1]:Value)][j]? =some v→M.cell? (ad3.add j)=some v) (r:Sum (Int×Bs) (List TE0×List TH0×List TB0×List TC0)) (hF:dQ n d0 d1 bl bm bn bq d3_f_0 d3_f_1=some r):OkXH Tryz.prog M [oC cj #[sL Z1 bl P1,sL Z2 bm P2,sL Z3 bn P3,sL Z4 bq P4] 41,rO 58 10 Z1 bl P1 L1,rO 61 15 Z2 bm P2 L2,rO 66 7 Z3 bn P3 L3,rO 68 8 Z4 bq P4 L4] 46 [S d0,iL d1,.func (.func 55) #[] #[pP cj],Pa ad3] 78 r (λr=>λM' E' v=>∃ (Z24:Oa) (P25:Nat) (L18:Lv) (Z25:Oa) (P26:Nat) (L19:Lv) (Z26:Oa) (P27:Nat) (L20:Lv) (Z27:Oa) (P28:Nat) (L21:Lv),v=.tuple #[]∧E'=[oC cj #[sL Z24 r.1 P25,sL Z25 r.2.1 P26,sL Z26 r.2.2.1 P27,sL Z27 r.t3 P28] 41,rO 58 10 Z24 r.1 P25 L18,rO 61 15 Z25 r.2.1 P26 L19,rO 66 7 Z26 r.2.2.1 P27 L20,rO 68 8 Z27 r.t3 P28 L21]∧ag M' (r.1.map bx) L18∧ag M' (r.2.1.map aF) L19∧ag M' (r.2.2.1.map bu) L20∧ag M' (r.t3.map bw) L21):=by
 unfold dQ at hF
 intro M1 hM0 w0 H w p0
 replace hG:=GL.mono hM0 hG
 replace D1:=ag.mono hM0 _ _ D1
 replace D2:=ag.mono hM0 _ _ D2
 replace D3:=ag.mono hM0 _ _ D3
 replace D4:=ag.mono hM0 _ _ D4
 replace h3_f_0:=Rep.mono hM0 _ _ h3_f_0
 replace q3_f_0:=λj v h=>hM0.cell (q3_f_0 j v h)
 replace h3_f_1:=Rep.mono hM0 _ _ h3_f_1
 replace q3_f_1:=λj v h=>hM0.cell (q3_f_1 j v h)
 replace q3:=λj v h=>hM0.cell (q3 j v h)
 obtain⟨Z5,P5,Z6,P6,rfl,B1,B2⟩:=TD0.opn h3_f_0
 obtain rfl:c3_f_1=[S d3_f_1]:=h3_f_1
 refine Re 59 Tryz.func46 rfl λa0 f0=>RR (Y15 f0 p0 q3 0 rfl λ_ f=>Y f 1 λ_ f=>?_)
 obtain⟨X1,l1,F1⟩:=bS hF
 refine Y16 f p0 (aV n _ hG d0 ad3_f_0 (lTD0 d3_f_0 Z5 P5 Z6 P6) d3_f_0 (TD0.shutx (x:=d3_f_0) B1 B2) (bL (q3_f_0) 0 rfl) ad3_f_1 [S d3_f_1] d3_f_1 (rfl) (bL (q3_f_1) 0 rfl) X1 l1) λ_ V1 W1 J1 N1 eM _ f=>?_
 obtain⟨eF,rfl,D5⟩:=eM
 obtain⟨Z7,P7,Z8,P8,rfl,B3,B4⟩:=TD0.opn D5
 refine Y f 4 λ_ f=>Y12 f N1 (.cells #[iB 0,bO false,iL 0,S [],Sn,Sn] 26 (0,0)) λQ1 W2 N2 _ f=>Ys (lTD0 X1.1 Z7 P7 Z8 P8) (aTD0 X1.1 Z7 P7 Z8 P8) f N2 rfl rfl λW3 N3 _ f=>Ye f 2 λ_ f=>aq (RR (Ye f 2 λ_ f=>RcF f F1 (λB5 F2=>?_) λB5 F3=>?_))
 ·have U1: (X1.2.2)=false:=by simpa using B5
  refine wp_ret (dj (E_ret0 f rfl ?_))
  cases sI F2
  exact⟨_,rfl,V1,_,J1,(N3.dropN 1),⟨Z1,P1,L1,Z2,P2,L2,Z3,P3,L3,Z4,P4,L4,rfl,rfl,(ag.mono J1 _ _ D1),(ag.mono J1 _ _ D2),(ag.mono J1 _ _ D3),(ag.mono J1 _ _ D4)⟩⟩
 ·have U2: (X1.2.2)=true:=by simpa using B5
  refine St (RR (Y f 1 λ_ f=>Z f (Y30 (v:=iB X1.1.ab) rfl (ad:=⟨Q1,0,none⟩) (N3.ownCell 0 rfl 0)) λ_ f=>Y f 2 λ_ f=>?_))
  rcases cE F3 with⟨B6,F4⟩|⟨B6,F19⟩
  ·have U3:=dI.1 B6
   have f:=f.st 23 (cB B6)
   refine Y18 f N3 (be _ (120:Int) X1.2.1) λW4 N4 _ f=>eT (RR (Y f 1 λ_ f=>Z f (Y30 (v:=sL Z8 X1.1.af P8) rfl (ad:=⟨Q1,5,none⟩) (N4.ownCell 0 rfl 5)) λ_ f=>Y f 4 λ_ f=>?_))
   rcases cE F4 with⟨B7,F5⟩|⟨B7,F18⟩
   ·have U4:=dI.1 B7
    have f:=f.st 30 (cB B7)
    refine Y18 f N4 (be _ (3:Int) X1.2.1) λW5 N5 _ f=>eT (RR (Z f (Y31 (cs:=(lTD0 X1.1 Z7 P7 Z8 P8)) rfl (ad:=⟨Q1,0,none⟩) (an (N5.ownCell 0 rfl) 0 rfl)) λ_ f=>?_))
    obtain⟨X2,l2,F6⟩:=bS F5
    refine Y17 (E:=[]) (H:=((Ent.obj Q1 (.cells (aTD0 X1.1 Z7 P7 Z8 P8) 26 (0,0)))::(oC cj #[sL Z1 bl P1,sL Z2 bm P2,sL Z3 bn P3,sL Z4 bq P4] 41)::(rO 58 10 Z1 bl P1 L1)::(rO 61 15 Z2 bm P2 L2)::(rO 66 7 Z3 bn P3 L3)::(rO 68 8 Z4 bq P4 L4)::H)) f N5 (cX n _ (GL.mono J1 hG) _ X1.1 (TD0.shutx (x:=X1.1) B3 B4) X2 l2) λ_ V2 mN W6 J2 N6 iQ _ f=>?_
    obtain⟨Z9,P9,L5,rfl,rfl,D6⟩:=iQ
    refine Ye f 2 λ_ f=>wp_block ?_
    have N13:=N6.pl [2,2,2,6,6,6,6]
    obtain⟨Q2,dy,F7⟩:=bS F6
    refine wp_mono (Q:=λe a w=>(∃G1:Int×Bs,e=.panic (flawE 78 G1)∧Q2=.inl G1∧∃V7:Mem,V2.le V7∧Frm 59 [] a∧Hp w0 V7 (H) w)∨(e=.exit 0∧(∃G2:List TE0×List TH0×List TB0×List TC0,Q2=.inr G2∧∃V8:Mem,V2.le V8∧∃ (Z20:Oa),∃ (P21:Nat),∃ (L14:Lv),∃ (Z21:Oa),∃ (P22:Nat),∃ (L15:Lv),∃ (Z22:Oa),∃ (P23:Nat),∃ (L16:Lv),∃ (Z23:Oa),∃ (P24:Nat),∃ (L17:Lv),ag V8 (G2.1.map bx) L14∧ag V8 (G2.2.1.map aF) L15∧ag V8 (G2.2.2.1.map bu) L16∧ag V8 (G2.t3.map bw) L17∧Frm 59 [] a∧Hp w0 V8 ((rO 58 10 Z20 G2.1 P21 L14)::(rO 61 15 Z21 G2.2.1 P22 L15)::(rO 66 7 Z22 G2.2.2.1 P23 L16)::(rO 68 8 Z23 G2.t3 P24 L17)::(rO 99 7 Z9 X2 P9 L5)::(Ent.obj Q1 (.cells (aTD0 X1.1 Z7 P7 Z8 P8) 26 (0,0)))::(oC cj #[sL Z20 G2.1 P21,sL Z21 G2.2.1 P22,sL Z22 G2.2.2.1 P23,sL Z23 G2.t3 P24] 41)::H) w))) (cD (n:=59) (w0:=w0) (M:=V2) (λ (I1,K1,Z10,P10,L6,Z11,P11,L7,Z12,P12,L8,Z13,P13,L9)=>[(2,.func (.func 55) #[] #[pP cj]),(8,S X1.2.1),(34,sL Z9 X2 P9),(35,iL ((X2.length:Nat):Int)),(36,iL K1.1)]) (λ (I1,K1,Z10,P10,L6,Z11,P11,L7,Z12,P12,L8,Z13,P13,L9)=>((rO 58 10 Z10 K1.2.1 P10 L6)::(rO 61 15 Z11 K1.2.2.1 P11 L7)::(rO 66 7 Z12 K1.t3.1 P12 L8)::(rO 68 8 Z13 K1.t4 P13 L9)::(rO 99 7 Z9 X2 P9 L5)::(Ent.obj Q1 (.cells (aTD0 X1.1 Z7 P7 Z8 P8) 26 (0,0)))::(oC cj #[sL Z10 K1.2.1 P10,sL Z11 K1.2.2.1 P11,sL Z12 K1.t3.1 P12,sL Z13 K1.t4 P13] 41)::H)) (λ (I1,K1,Z10,P10,L6,Z11,P11,L7,Z12,P12,L8,Z13,P13,L9) MM=>aL (en n X1 X2) I1 K1=some Q2∧ag MM (K1.2.1.map bx) L6∧ag MM (K1.2.2.1.map aF) L7∧ag MM (K1.t3.1.map bu) L8∧ag MM (K1.t4.map bw) L9) (λ (I1,K1,Z10,P10,L6,Z11,P11,L7,Z12,P12,L8,Z13,P13,L9)=>I1) (n,((0:Int),bl,bm,bn,bq),Z1,P1,L1,Z2,P2,L2,Z3,P3,L3,Z4,P4,L4) (f.kp) N13 ⟨dy,(ag.mono (J1.trans J2) _ _ D1),(ag.mono (J1.trans J2) _ _ D2),(ag.mono (J1.trans J2) _ _ D3),(ag.mono (J1.trans J2) _ _ D4)⟩ ?_) ?_
    ·rintro⟨I1,K1,Z10,P10,L6,Z11,P11,L7,Z12,P12,L8,Z13,P13,L9⟩ V3 _ W7 J3 je f N14
     obtain⟨dL,D7,D8,D9,D10⟩:=je
     obtain⟨I2,nL,rfl,ca,T1⟩:=bB dL
     unfold en at ca
     refine RR (Ye f 1 λ_ f=>aq (RcF f ca (λB8 F8=>?_) λB8 F17=>?_))
     ·have U5:=dI.1 B8
      refine St (aq (wp_block (RR ?_)))
      obtain⟨X3,l3,F9⟩:=bS F8
      obtain⟨Q3,P14,H1,ld⟩:=N14.rowAddr 4 rfl (bh l3)
      have f:=f.st 34 (H1)
      refine Z f (Y28 rfl (ad:=⟨Q3,0,none⟩) (len:=X2.length) (cap:=P14) (k:=.i64) (i:=K1.1) (e:=99) (sz:=7) (az l3) (ay l3)) λ_ f=>?_
      have f:=f.st 34 (H1.symm)
      obtain⟨iA,-,D11,R1⟩:=ag.get K1.1.toNat (eJ cK) (ag.mono J3 _ _ D6) (gE l3)
      obtain⟨Z14,P15,Z15,P16,rfl,B9,B10⟩:=ax.opn D11
      refine Z f (Y31 (cs:=[S X3.key,iB X3.v.ab,bO X3.v.ah,iL X3.v.ai,S X3.v.aa,sL Z14 X3.v.ac P15,sL Z15 X3.v.af P16]) rfl (ad:=(⟨Q3,0,none⟩:Addr).add (K1.1.toNat*7)) (λj v h=>jD (N14.rowCell 4 rfl H1) R1 j v h)) λ_ f=>Y12 f N14 (.cells #[S [],iB 0,bO false,iL 0,S [],Sn,Sn] 99 (0,0)) λQ4 W8 N15 _ f=>Ys [S X3.key,iB X3.v.ab,bO X3.v.ah,iL X3.v.ai,S X3.v.aa,sL Z14 X3.v.ac P15,sL Z15 X3.v.af P16] #[S X3.key,iB X3.v.ab,bO X3.v.ah,iL X3.v.ai,S X3.v.aa,sL Z14 X3.v.ac P15,sL Z15 X3.v.af P16] f N15 rfl rfl λW9 N16 _ f=>eT (aq (ei (E:=[]) (Hr:=((oC Q4 #[S X3.key,iB X3.v.ab,bO X3.v.ah,iL X3.v.ai,S X3.v.aa,sL Z14 X3.v.ac P15,sL Z15 X3.v.af P16] 99)::(rO 58 10 Z10 K1.2.1 P10 L6)::(rO 61 15 Z11 K1.2.2.1 P11 L7)::(rO 66 7 Z12 K1.t3.1 P12 L8)::(rO 68 8 Z13 K1.t4 P13 L9)::(rO 99 7 Z9 X2 P9 L5)::(Ent.obj Q1 (.cells (aTD0 X1.1 Z7 P7 Z8 P8) 26 (0,0)))::(oC cj #[sL Z10 K1.2.1 P10,sL Z11 K1.2.2.1 P11,sL Z12 K1.t3.1 P12,sL Z13 K1.t4 P13] 41)::H)) [(0,true),(1,true),(2,true),(3,true),(4,true),(5,true),(6,true),(7,false)] N16 kr kr rfl kr (Y0 default f 1 λ_ f=>cg (v:=S X3.key) f kr kr rfl rfl (λ_ pq=>Y30 (v:=S X3.key) rfl (ad:=⟨Q4,0,none⟩) (pq.ownCell 0 rfl 0)) λ_ f=>?_)))
      obtain⟨X4,l4,F10⟩:=bS F9
      refine eE (v:=bO X4) f kr kr rfl rfl (λ_=>by kernel_rfl) (cp n _ X3.key X4 l4) λ_ f=>Y0 default f 2 λ_ f=>cg (v:=S X3.key) f kr kr rfl rfl (λ_ pq=>Y30 (v:=S X3.key) rfl (ad:=⟨Q4,0,none⟩) (pq.ownCell 0 rfl 0)) λ_ f=>?_
      obtain⟨X5,l5,F11⟩:=bS F10
      refine eE (v:=S X5) f kr kr rfl rfl (λ_=>by kernel_rfl) (aK n _ (GL.mono ((J1.trans J2).trans J3) hG) X1.2.1 X3.key X5 l5) λ_ f=>cd (E:=[]) λW12 N19=>?_
      rcases cE F11 with⟨B11,F12⟩|⟨B11,F16⟩
      ·have f:=f.st 42 (cB B11)
       refine Y18 f N19 (be _ (120:Int) X5) λW13 N20 _ f=>am rfl (dC (M1:=V3) (E:=[]) (mR _) N20 (eh rfl λW14 N21=>aS ?_))
       have N29:=N21.pl [6,6,2,7,7,7,7,7]
       refine ei (E:=[rO 58 10 Z10 K1.2.1 P10 L6,rO 61 15 Z11 K1.2.2.1 P11 L7,rO 66 7 Z12 K1.t3.1 P12 L8,rO 68 8 Z13 K1.t4 P13 L9,oC cj #[sL Z10 K1.2.1 P10,sL Z11 K1.2.2.1 P11,sL Z12 K1.t3.1 P12,sL Z13 K1.t4 P13] 41]) (Hr:=((oC Q4 #[S X3.key,iB X3.v.ab,bO X3.v.ah,iL X3.v.ai,S X3.v.aa,sL Z14 X3.v.ac P15,sL Z15 X3.v.af P16] 99)::(rO 99 7 Z9 X2 P9 L5)::(Ent.obj Q1 (.cells (aTD0 X1.1 Z7 P7 Z8 P8) 26 (0,0)))::H)) [(0,true),(1,true),(2,true),(3,true),(4,true),(5,true),(6,true),(7,true),(8,true),(9,false)] N29 kr kr rfl kr (Y0 default f 2 λ_ f=>cg (v:=S X3.key) f kr kr rfl rfl (λ_ pq=>Y30 (v:=S X3.key) rfl (ad:=⟨Q4,0,none⟩) (pq.ownCell 0 rfl 0)) λ_ f=>Y0 default f 1 λ_ f=>cg (v:=.agg (aTD0 X3.v Z14 P15 Z15 P16)) f kr kr rfl rfl (λ_ pq=>Y31 (cs:=(lTD0 X3.v Z14 P15 Z15 P16)) rfl (ad:=⟨Q4,1,none⟩) (an (pq.ownCell 0 rfl) 1 rfl)) λ_ f=>Y0 default f 2 λ_ f=>cg (v:=S X3.key) f kr kr rfl rfl (λ_ pq=>Y30 (v:=S X3.key) rfl (ad:=⟨Q4,0,none⟩) (pq.ownCell 0 rfl 0)) λ_ f=>?_)
       obtain⟨X6,l6,F13⟩:=bS F12
       refine eE (v:=S X6) f kr kr rfl rfl (λ_=>by kernel_rfl) (aK n _ (GL.mono ((J1.trans J2).trans J3) hG) X1.2.1 X3.key X6 l6) λ_ f=>cd (E:=[rO 58 10 Z10 K1.2.1 P10 L6,rO 61 15 Z11 K1.2.2.1 P11 L7,rO 66 7 Z12 K1.t3.1 P12 L8,rO 68 8 Z13 K1.t4 P13 L9,oC cj #[sL Z10 K1.2.1 P10,sL Z11 K1.2.2.1 P11,sL Z12 K1.t3.1 P12,sL Z13 K1.t4 P13] 41]) λW16 N31=>?_
       obtain⟨X7,l7,F14⟩:=bS F13
       rcases X7 with X8|X9
       ·have N37:=N31.pl [3,3,3,3,4]
        refine ej (E:=[oC cj #[sL Z10 K1.2.1 P10,sL Z11 K1.2.2.1 P11,sL Z12 K1.t3.1 P12,sL Z13 K1.t4 P13] 41,rO 58 10 Z10 K1.2.1 P10 L6,rO 61 15 Z11 K1.2.2.1 P11 L7,rO 66 7 Z12 K1.t3.1 P12 L8,rO 68 8 Z13 K1.t4 P13 L9]) (H:=((oC Q4 #[S X3.key,iB X3.v.ab,bO X3.v.ah,iL X3.v.ai,S X3.v.aa,sL Z14 X3.v.ac P15,sL Z15 X3.v.af P16] 99)::(rO 99 7 Z9 X2 P9 L5)::(Ent.obj Q1 (.cells (aTD0 X1.1 Z7 P7 Z8 P8) 26 (0,0)))::H)) f N37 (ii n _ (GL.mono ((J1.trans J2).trans J3) hG) X3.key _ (⟨X3.v.ab,(X3.v.ah),X3.v.ai,X3.v.aa,X3.v.ac,X3.v.af⟩:TD0) (TD0.shut B9 B10) X6 cj K1.2.1 Z10 P10 L6 D7 K1.2.2.1 Z11 P11 L7 D8 K1.t3.1 Z12 P12 L8 D9 K1.t4 Z13 P13 L9 D10 (.inl X8) l7) kr (λ_=>by kernel_rfl) λV4 W17 J4 N32=>lj f λ_ f=>kU (bM (bM ?_))
        cases sI F14
        exact .inl ⟨X8,rfl,(sI T1).symm,V4,(J3.trans J4),f.kp,(N32.dropN 3)⟩
       ·have N43:=N31.pl [3,3,3,3,4]
        refine Y17 (E:=[oC cj #[sL Z10 K1.2.1 P10,sL Z11 K1.2.2.1 P11,sL Z12 K1.t3.1 P12,sL Z13 K1.t4 P13] 41,rO 58 10 Z10 K1.2.1 P10 L6,rO 61 15 Z11 K1.2.2.1 P11 L7,rO 66 7 Z12 K1.t3.1 P12 L8,rO 68 8 Z13 K1.t4 P13 L9]) (H:=((oC Q4 #[S X3.key,iB X3.v.ab,bO X3.v.ah,iL X3.v.ai,S X3.v.aa,sL Z14 X3.v.ac P15,sL Z15 X3.v.af P16] 99)::(rO 99 7 Z9 X2 P9 L5)::(Ent.obj Q1 (.cells (aTD0 X1.1 Z7 P7 Z8 P8) 26 (0,0)))::H)) f N43 (OkXH.ok (ii n _ (GL.mono ((J1.trans J2).trans J3) hG) X3.key _ (⟨X3.v.ab,(X3.v.ah),X3.v.ai,X3.v.aa,X3.v.ac,X3.v.af⟩:TD0) (TD0.shut B9 B10) X6 cj K1.2.1 Z10 P10 L6 D7 K1.2.2.1 Z11 P11 L7 D8 K1.t3.1 Z12 P12 L8 D9 K1.t4 Z13 P13 L9 D10 (.inr X9) l7)) λ_ V5 E_2 W18 J5 N38 mg _ f=>?_
        obtain⟨Z16,P17,L10,Z17,P18,L11,Z18,P19,L12,Z19,P20,L13,rfl,rfl,D12,D13,D14,D15⟩:=mg
        refine am rfl (dC (M1:=V5) (E:=[oC cj #[sL Z16 X9.1 P17,sL Z17 X9.2.1 P18,sL Z18 X9.2.2.1 P19,sL Z19 X9.t3 P20] 41,rO 58 10 Z16 X9.1 P17 L10,rO 61 15 Z17 X9.2.1 P18 L11,rO 66 7 Z18 X9.2.2.1 P19 L12,rO 68 8 Z19 X9.t3 P20 L13]) J5 N38 (eh rfl λW19 N44=>gh (aS (aN ?_))))
        obtain⟨O1,F15⟩:=nS F14
        refine Y f 1 λ_ f=>?_
        have f:=f.st 58 (iW O1)
        refine Y f 1 λ_ f=>am rfl ?_
        have N54:=N44.pl [7,7,6,6,6,6,7]
        refine aS ?_
        cases sI F15
        exact⟨⟨I2,(K1.1+1,X9.1,X9.2.1,X9.2.2.1,X9.t3),Z16,P17,L10,Z17,P18,L11,Z18,P19,L12,Z19,P20,L13⟩,Nat.lt_succ_self _,V5,(J3.trans J5),⟨T1,D12,D13,D14,D15⟩,f.kp,(N54.dropN 1)⟩
      ·have f:=f.st 42 (cB B11)
       refine aH f N19 (bc _ (120:Int) X5) kr (λ_=>by kernel_rfl) λV6 W20 J6 N45=>lj f λ_ f=>bM (kU (bM (bM ?_)))
       cases sI F16
       exact .inl ⟨((120:Int),X5),rfl,(sI T1).symm,V6,(J3.trans J6),f.kp,(N45.dropN 8)⟩
     ·have U8:=aA dI B8
      refine wp_exit (gT (gT ?_))
      cases sI F17
      exact .inr ⟨rfl,(K1.2.1,K1.2.2.1,K1.t3.1,K1.t4),(sI T1).symm,V3,J3,Z10,P10,L6,Z11,P11,L7,Z12,P12,L8,Z13,P13,L9,D7,D8,D9,D10,f.kp,N14⟩
    ·rintro _ _ W23 (⟨G1,rfl,rfl,V7,J7,f,N46⟩|⟨rfl,G2,rfl,V8,J8,Z20,P21,L14,Z21,P22,L15,Z22,P23,L16,Z23,P24,L17,D16,D17,D18,D19,f,N47⟩)
     ·refine kU (aP f ?_)
      cases sI F7
      exact⟨V7,((J1.trans J2).trans J7),N46,rfl⟩
     ·refine lO (dK f rfl ?_)
      cases sI F7
      have N61:=N47.pl [3,3,3,3,6,6,6]
      exact⟨_,rfl,V8,_,((J1.trans J2).trans J8),(N61.dropN 2),⟨Z20,P21,L14,Z21,P22,L15,Z22,P23,L16,Z23,P24,L17,rfl,rfl,D16,D17,D18,D19⟩⟩
   ·have U9:=aA dI B7
    have f:=f.st 30 (cB B7)
    refine aH f N4 (bc _ (3:Int) X1.2.1) kr (λ_=>by kernel_rfl) λV9 W24 J9 N62=>bM (aP f ?_)
    cases sI F18
    exact⟨V9,(J1.trans J9),(N62.dropN 6),rfl⟩
  ·have U10:=aA dI B6
   have f:=f.st 23 (cB B6)
   refine aH f N3 (bc _ (120:Int) X1.2.1) kr (λ_=>by kernel_rfl) λV10 W25 J10 N63=>bM (aP f ?_)
   cases sI F19
   exact⟨V10,(J1.trans J10),(N63.dropN 6),rfl⟩
def dH (n:Nat) (rec_syntax_template:TD0→Bs→Int→Option (Sum (Int×Bs) TA0)) (d0:TD0) (d1:Bs) (d2:Int):Option (Sum (Int×Bs) TA0):=
 (cr n d0 d1 ([[80,97,114,97,109,101,116,101,114,115],[67,111,110,100,105,116,105,111,110,115],[82,101,115,111,117,114,99,101,115],[79,117,116,112,117,116,115]]:List Bs)).bind λX1=>
 (match X1 with
 |.inl X2=>some (.inl X2)
 |.inr X3=>(eI n [80,97,114,97,109,101,116,101,114,115] (6:Int) ([]:List TE0) ([]:List TH0) ([]:List TB0) ([]:List TC0) X3.1 X3.2).bind λX4=>
  (match X4 with
  |.inl X5=>some (.inl X5)
  |.inr X6=>(dP n [67,111,110,100,105,116,105,111,110,115] (6:Int) X6.1 X6.2.1 X6.2.2.1 X6.2.2.2 X3.1 X3.2).bind λX7=>
   (match X7 with
   |.inl X8=>some (.inl X8)
   |.inr X9=>(dR n rec_syntax_template [82,101,115,111,117,114,99,101,115] (8:Int) X9.1 X9.2.1 X9.2.2.1 X9.2.2.2 d2 X3.1 X3.2).bind λX10=>
    (match X10 with
    |.inl X11=>some (.inl X11)
    |.inr X12=>(dQ n [79,117,116,112,117,116,115] (6:Int) X12.1 X12.2.1 X12.2.2.1 X12.2.2.2 X3.1 X3.2).bind λX13=>
     (match X13 with
     |.inl X14=>some (.inl X14)
     |.inr X15=>some (.inr (⟨X15.1,X15.2.1,X15.2.2.1,X15.2.2.2⟩:TA0)))))))
set_option maxRecDepth 20000 in
theorem ky (n:Nat) (rec_syntax_template:TD0→Bs→Int→Option (Sum (Int×Bs) TA0)) (hrec_syntax_template: ∀ (M:Mem) (hG:GL M) (c0:Lv) (d0:TD0) (h0:Rep M (ap d0) c0) (d1:Bs) (d2:Int) (r:Sum (Int×Bs) TA0) (hF:rec_syntax_template d0 d1 d2=some r),OkX Tryz.prog M 23 [.agg c0.toArray,S d1,iL d2] 78 r (λr=>λM' v=>∃ (c0:Lv),v=.agg c0.toArray∧Rep M' (bY r) c0)) (M:Mem) (hG:GL M) (c0:Lv) (d0:TD0) (h0:Rep M (ap d0) c0) (d1:Bs) (d2:Int) (r:Sum (Int×Bs) TA0) (hF:dH n rec_syntax_template d0 d1 d2=some r):OkX Tryz.prog M 23 [.agg c0.toArray,S d1,iL d2] 78 r (λr=>λM' v=>∃ (c0:Lv),v=.agg c0.toArray∧Rep M' (bY r) c0):=by
 unfold dH at hF
 intro M1 hM0 w0 H w p0
 replace hG:=GL.mono hM0 hG
 replace h0:=Rep.mono hM0 _ _ h0
 obtain⟨Z1,P1,Z2,P2,rfl,B1,B2⟩:=TD0.opn h0
 refine Re 27 Tryz.func23 rfl λa0 f0=>RR (Y13 (cs:=(aTD0 d0 Z1 P1 Z2 P2)) (T:=26) f0 p0 λQ1 V1 W1 J1 R1 N1 _ f=>?_)
 have R2:=bR R1
 refine Y13 (cs:=#[iL d2]) (T:=3) f N1 λQ2 V2 W2 J2 R3 N2 _ f=>?_
 have R4:=bR R3
 refine Y12 f N2 (.cells #[Sn,Sn,Sn,Sn] 41 (0,0)) λQ3 W3 N3 _ f=>eT (RR (Z f (Y31 (cs:=(lTD0 d0 Z1 P1 Z2 P2)) rfl (ad:=⟨Q1,0,none⟩) (λj v h=>N3.cell ((fzu J2 R2) j v h))) λ_ f=>Y f 1 λ_ f=>aQ (k:=4) (c:=4) f N3 (.cells #[S [80,97,114,97,109,101,116,101,114,115],S [67,111,110,100,105,116,105,111,110,115],S [82,101,115,111,117,114,99,101,115],S [79,117,116,112,117,116,115]] 9 (0,0)) kr (λ_=>by kernel_rfl) λQ4 W4 N4 _ f=>?_))
 have D1:ag V2 (([[80,97,114,97,109,101,116,101,114,115],[67,111,110,100,105,116,105,111,110,115],[82,101,115,111,117,114,99,101,115],[79,117,116,112,117,116,115]]:List Bs).map Dat.str) [S [80,97,114,97,109,101,116,101,114,115],S [67,111,110,100,105,116,105,111,110,115],S [82,101,115,111,117,114,99,101,115],S [79,117,116,112,117,116,115]]:=⟨_,_,rfl,rfl,⟨_,_,rfl,rfl,⟨_,_,rfl,rfl,⟨_,_,rfl,rfl,rfl⟩⟩⟩⟩
 have N5:Hp w0 V2 ((Ent.row 9 1 (.slice (some ⟨Q4,0,none⟩) 4 4) ([[80,97,114,97,109,101,116,101,114,115],[67,111,110,100,105,116,105,111,110,115],[82,101,115,111,117,114,99,101,115],[79,117,116,112,117,116,115]]:List Bs).length [S [80,97,114,97,109,101,116,101,114,115],S [67,111,110,100,105,116,105,111,110,115],S [82,101,115,111,117,114,99,101,115],S [79,117,116,112,117,116,115]])::(oC Q3 #[Sn,Sn,Sn,Sn] 41)::H) W4:=N4.objRow (n:=4) (cap:=4) (size:=1) (by decide) (by decide) (dS (by decide) rfl) rfl rfl
 obtain⟨Z3,P3,V3,H1,J3,N6,B3⟩:=N5.rowSli (f:=Dat.str) (xs:=([[80,97,114,97,109,101,116,101,114,115],[67,111,110,100,105,116,105,111,110,115],[82,101,115,111,117,114,99,101,115],[79,117,116,112,117,116,115]]:List Bs)) bZ D1
 have f:=f.st 11 (H1)
 obtain⟨X1,l1,F1⟩:=bS hF
 rcases X1 with X2|X3
 ·refine aH f N6 (bH n _ (GL.mono ((J1.trans J2).trans J3) hG) _ d0 (TD0.shutx (x:=d0) (B1.mono ((J1.trans J2).trans J3)) (B2.mono ((J1.trans J2).trans J3))) d1 Z3 P3 ([[80,97,114,97,109,101,116,101,114,115],[67,111,110,100,105,116,105,111,110,115],[82,101,115,111,117,114,99,101,115],[79,117,116,112,117,116,115]]:List Bs) B3 (.inl X2) l1) kr (λ_=>by kernel_rfl) λV4 W5 J4 N7=>bM (aP f ?_)
  cases sI F1
  exact⟨V4,(((J1.trans J2).trans J3).trans J4),(N7.dropN 1),rfl⟩
 ·refine Y16 f N6 (OkX.ok (bH n _ (GL.mono ((J1.trans J2).trans J3) hG) _ d0 (TD0.shutx (x:=d0) (B1.mono ((J1.trans J2).trans J3)) (B2.mono ((J1.trans J2).trans J3))) d1 Z3 P3 ([[80,97,114,97,109,101,116,101,114,115],[67,111,110,100,105,116,105,111,110,115],[82,101,115,111,117,114,99,101,115],[79,117,116,112,117,116,115]]:List Bs) B3 (.inr X3) l1)) λ_ V5 W6 J5 N8 eM _ f=>?_
  obtain⟨C1,eF,C2,iA,rfl,D2,dg,D3,dD⟩:=eM
  obtain⟨Z4,P4,Z5,P5,rfl,B4,B5⟩:=TD0.opn D2
  obtain rfl:iA=[S X3.2]:=D3
  refine Y12 f N8 (.cells #[.nilFunc] 92 (0,0)) λQ5 W7 N9 _ f=>Y25 f N9 0 rfl rfl (b:=Q5) (j:=0) (v:=.func (.func 93) #[] #[Pa C1,Pa C2]) rfl (by exact rfl) (by simp) (by simp) _ rfl λW8 N10 _ f=>?_
  obtain⟨V6,J6,N11,R5⟩:=N10.fzOwn
  refine eT (RR (Ye f 2 λ_ f=>RR (Y f 2 λ_ f=>?_)))
  obtain⟨Z6,P6,H2⟩: ∃A cap,Value.slice none 0 0=.slice A ([]:List TE0).length cap:=⟨none,0,rfl⟩
  have N12:Hp w0 V6 ((Ent.row 58 10 (.slice Z6 ([]:List TE0).length P6) ([]:List TE0).length [])::(Ent.obj Q3 (.cells #[.slice Z6 ([]:List TE0).length P6,.slice none 0 0,.slice none 0 0,.slice none 0 0] 41 (0,0)))::H) W8:=by rw[←H2];exact N11.nilRow 58 10
  have D4:ag V6 (([]:List TE0).map bx) []:=rfl
  obtain⟨Z7,P7,H3⟩: ∃A cap,Value.slice none 0 0=.slice A ([]:List TH0).length cap:=⟨none,0,rfl⟩
  have N13:Hp w0 V6 ((Ent.row 61 15 (.slice Z7 ([]:List TH0).length P7) ([]:List TH0).length [])::(Ent.row 58 10 (.slice Z6 ([]:List TE0).length P6) ([]:List TE0).length [])::(Ent.obj Q3 (.cells #[.slice Z6 ([]:List TE0).length P6,.slice Z7 ([]:List TH0).length P7,.slice none 0 0,.slice none 0 0] 41 (0,0)))::H) W8:=by rw[←H3];exact N12.nilRow 61 15
  have D5:ag V6 (([]:List TH0).map aF) []:=rfl
  obtain⟨Z8,P8,H4⟩: ∃A cap,Value.slice none 0 0=.slice A ([]:List TB0).length cap:=⟨none,0,rfl⟩
  have N14:Hp w0 V6 ((Ent.row 66 7 (.slice Z8 ([]:List TB0).length P8) ([]:List TB0).length [])::(Ent.row 61 15 (.slice Z7 ([]:List TH0).length P7) ([]:List TH0).length [])::(Ent.row 58 10 (.slice Z6 ([]:List TE0).length P6) ([]:List TE0).length [])::(Ent.obj Q3 (.cells #[.slice Z6 ([]:List TE0).length P6,.slice Z7 ([]:List TH0).length P7,.slice Z8 ([]:List TB0).length P8,.slice none 0 0] 41 (0,0)))::H) W8:=by rw[←H4];exact N13.nilRow 66 7
  have D6:ag V6 (([]:List TB0).map bu) []:=rfl
  obtain⟨Z9,P9,H5⟩: ∃A cap,Value.slice none 0 0=.slice A ([]:List TC0).length cap:=⟨none,0,rfl⟩
  have N15:Hp w0 V6 ((Ent.row 68 8 (.slice Z9 ([]:List TC0).length P9) ([]:List TC0).length [])::(Ent.row 66 7 (.slice Z8 ([]:List TB0).length P8) ([]:List TB0).length [])::(Ent.row 61 15 (.slice Z7 ([]:List TH0).length P7) ([]:List TH0).length [])::(Ent.row 58 10 (.slice Z6 ([]:List TE0).length P6) ([]:List TE0).length [])::(Ent.obj Q3 (.cells #[.slice Z6 ([]:List TE0).length P6,.slice Z7 ([]:List TH0).length P7,.slice Z8 ([]:List TB0).length P8,.slice Z9 ([]:List TC0).length P9] 41 (0,0)))::H) W8:=by rw[←H5];exact N14.nilRow 68 8
  have D7:ag V6 (([]:List TC0).map bw) []:=rfl
  obtain⟨X4,l2,F2⟩:=bS F1
  rcases X4 with X5|X6
  ·have N20:=N15.pl [1,2,3,4]
   refine ej (E:=[oC Q3 #[sL Z6 ([]:List TE0) P6,sL Z7 ([]:List TH0) P7,sL Z8 ([]:List TB0) P8,sL Z9 ([]:List TC0) P9] 41,rO 58 10 Z6 ([]:List TE0) P6 [],rO 61 15 Z7 ([]:List TH0) P7 [],rO 66 7 Z8 ([]:List TB0) P8 [],rO 68 8 Z9 ([]:List TC0) P9 []]) (H:=(H)) f N20 (ic n _ (GL.mono ((((J1.trans J2).trans J3).trans J5).trans J6) hG) [80,97,114,97,109,101,116,101,114,115] (6:Int) Q3 ([]:List TE0) Z6 P6 [] D4 ([]:List TH0) Z7 P7 [] D5 ([]:List TB0) Z8 P8 [] D6 ([]:List TC0) Z9 P9 [] D7 C1 (lTD0 X3.1 Z4 P4 Z5 P5) X3.1 (TD0.shutx (x:=X3.1) (B4.mono J6) (B5.mono J6)) (bL (fzu J6 dg) 0 rfl) C2 [S X3.2] X3.2 (rfl) (bL (fzu J6 dD) 0 rfl) (⟨Q5,0,none⟩) (R5) (.inl X5) l2) kr (λ_=>by kernel_rfl) λV7 W9 J7 N16=>bM (aP f ?_)
   cases sI F2
   exact⟨V7,(((((J1.trans J2).trans J3).trans J5).trans J6).trans J7),N16,rfl⟩
  ·have N25:=N15.pl [1,2,3,4]
   refine Y17 (E:=[oC Q3 #[sL Z6 ([]:List TE0) P6,sL Z7 ([]:List TH0) P7,sL Z8 ([]:List TB0) P8,sL Z9 ([]:List TC0) P9] 41,rO 58 10 Z6 ([]:List TE0) P6 [],rO 61 15 Z7 ([]:List TH0) P7 [],rO 66 7 Z8 ([]:List TB0) P8 [],rO 68 8 Z9 ([]:List TC0) P9 []]) (H:=(H)) f N25 (OkXH.ok (ic n _ (GL.mono ((((J1.trans J2).trans J3).trans J5).trans J6) hG) [80,97,114,97,109,101,116,101,114,115] (6:Int) Q3 ([]:List TE0) Z6 P6 [] D4 ([]:List TH0) Z7 P7 [] D5 ([]:List TB0) Z8 P8 [] D6 ([]:List TC0) Z9 P9 [] D7 C1 (lTD0 X3.1 Z4 P4 Z5 P5) X3.1 (TD0.shutx (x:=X3.1) (B4.mono J6) (B5.mono J6)) (bL (fzu J6 dg) 0 rfl) C2 [S X3.2] X3.2 (rfl) (bL (fzu J6 dD) 0 rfl) (⟨Q5,0,none⟩) (R5) (.inr X6) l2)) λ_ V8 mN W10 J8 N21 iQ _ f=>?_
   obtain⟨Z10,P10,L1,Z11,P11,L2,Z12,P12,L3,Z13,P13,L4,rfl,rfl,D8,D9,D10,D11⟩:=iQ
   refine eT (RR (Y f 2 λ_ f=>?_))
   obtain⟨X7,l3,F3⟩:=bS F2
   rcases X7 with X8|X9
   ·refine ej (E:=[oC Q3 #[sL Z10 X6.1 P10,sL Z11 X6.2.1 P11,sL Z12 X6.2.2.1 P12,sL Z13 X6.t3 P13] 41,rO 58 10 Z10 X6.1 P10 L1,rO 61 15 Z11 X6.2.1 P11 L2,rO 66 7 Z12 X6.2.2.1 P12 L3,rO 68 8 Z13 X6.t3 P13 L4]) (H:=(H)) f N21 (gO n _ (GL.mono (((((J1.trans J2).trans J3).trans J5).trans J6).trans J8) hG) [67,111,110,100,105,116,105,111,110,115] (6:Int) Q3 X6.1 Z10 P10 L1 D8 X6.2.1 Z11 P11 L2 D9 X6.2.2.1 Z12 P12 L3 D10 X6.t3 Z13 P13 L4 D11 C1 (lTD0 X3.1 Z4 P4 Z5 P5) X3.1 (TD0.shutx (x:=X3.1) (B4.mono (J6.trans J8)) (B5.mono (J6.trans J8))) (bL ((fzu (J6.trans J8) dg)) 0 rfl) C2 [S X3.2] X3.2 (rfl) (bL ((fzu (J6.trans J8) dD)) 0 rfl) (⟨Q5,0,none⟩) (fzu J8 R5) (.inl X8) l3) kr (λ_=>by kernel_rfl) λV9 W11 J9 N26=>bM (aP f ?_)
    cases sI F3
    exact⟨V9,((((((J1.trans J2).trans J3).trans J5).trans J6).trans J8).trans J9),N26,rfl⟩
   ·refine Y17 (E:=[oC Q3 #[sL Z10 X6.1 P10,sL Z11 X6.2.1 P11,sL Z12 X6.2.2.1 P12,sL Z13 X6.t3 P13] 41,rO 58 10 Z10 X6.1 P10 L1,rO 61 15 Z11 X6.2.1 P11 L2,rO 66 7 Z12 X6.2.2.1 P12 L3,rO 68 8 Z13 X6.t3 P13 L4]) (H:=(H)) f N21 (OkXH.ok (gO n _ (GL.mono (((((J1.trans J2).trans J3).trans J5).trans J6).trans J8) hG) [67,111,110,100,105,116,105,111,110,115] (6:Int) Q3 X6.1 Z10 P10 L1 D8 X6.2.1 Z11 P11 L2 D9 X6.2.2.1 Z12 P12 L3 D10 X6.t3 Z13 P13 L4 D11 C1 (lTD0 X3.1 Z4 P4 Z5 P5) X3.1 (TD0.shutx (x:=X3.1) (B4.mono (J6.trans J8)) (B5.mono (J6.trans J8))) (bL ((fzu (J6.trans J8) dg)) 0 rfl) C2 [S X3.2] X3.2 (rfl) (bL ((fzu (J6.trans J8) dD)) 0 rfl) (⟨Q5,0,none⟩) (fzu J8 R5) (.inr X9) l3)) λ_ V10 E_2 W12 J10 N27 mg _ f=>?_
    obtain⟨Z14,P14,L5,Z15,P15,L6,Z16,P16,L7,Z17,P17,L8,rfl,rfl,D12,D13,D14,D15⟩:=mg
    refine eT (RR (Y f 2 λ_ f=>?_))
    obtain⟨X10,l4,F4⟩:=bS F3
    rcases X10 with X11|X12
    ·refine ej (E:=[oC Q3 #[sL Z14 X9.1 P14,sL Z15 X9.2.1 P15,sL Z16 X9.2.2.1 P16,sL Z17 X9.t3 P17] 41,rO 58 10 Z14 X9.1 P14 L5,rO 61 15 Z15 X9.2.1 P15 L6,rO 66 7 Z16 X9.2.2.1 P16 L7,rO 68 8 Z17 X9.t3 P17 L8]) (H:=(H)) f N27 (gQ n rec_syntax_template hrec_syntax_template _ (GL.mono ((((((J1.trans J2).trans J3).trans J5).trans J6).trans J8).trans J10) hG) [82,101,115,111,117,114,99,101,115] (8:Int) Q3 X9.1 Z14 P14 L5 D12 X9.2.1 Z15 P15 L6 D13 X9.2.2.1 Z16 P16 L7 D14 X9.t3 Z17 P17 L8 D15 (⟨Q2,0,none⟩) [iL d2] d2 (rfl) (bL ((fzu ((((J3.trans J5).trans J6).trans J8).trans J10) R4)) 0 rfl) C1 (lTD0 X3.1 Z4 P4 Z5 P5) X3.1 (TD0.shutx (x:=X3.1) (B4.mono ((J6.trans J8).trans J10)) (B5.mono ((J6.trans J8).trans J10))) (bL ((fzu ((J6.trans J8).trans J10) dg)) 0 rfl) C2 [S X3.2] X3.2 (rfl) (bL ((fzu ((J6.trans J8).trans J10) dD)) 0 rfl) (⟨Q5,0,none⟩) ((fzu (J8.trans J10) R5)) (.inl X11) l4) kr (λ_=>by kernel_rfl) λV11 W13 J11 N28=>bM (aP f ?_)
     cases sI F4
     exact⟨V11,(((((((J1.trans J2).trans J3).trans J5).trans J6).trans J8).trans J10).trans J11),N28,rfl⟩
    ·refine Y17 (E:=[oC Q3 #[sL Z14 X9.1 P14,sL Z15 X9.2.1 P15,sL Z16 X9.2.2.1 P16,sL Z17 X9.t3 P17] 41,rO 58 10 Z14 X9.1 P14 L5,rO 61 15 Z15 X9.2.1 P15 L6,rO 66 7 Z16 X9.2.2.1 P16 L7,rO 68 8 Z17 X9.t3 P17 L8]) (H:=(H)) f N27 (OkXH.ok (gQ n rec_syntax_template hrec_syntax_template _ (GL.mono ((((((J1.trans J2).trans J3).trans J5).trans J6).trans J8).trans J10) hG) [82,101,115,111,117,114,99,101,115] (8:Int) Q3 X9.1 Z14 P14 L5 D12 X9.2.1 Z15 P15 L6 D13 X9.2.2.1 Z16 P16 L7 D14 X9.t3 Z17 P17 L8 D15 (⟨Q2,0,none⟩) [iL d2] d2 (rfl) (bL ((fzu ((((J3.trans J5).trans J6).trans J8).trans J10) R4)) 0 rfl) C1 (lTD0 X3.1 Z4 P4 Z5 P5) X3.1 (TD0.shutx (x:=X3.1) (B4.mono ((J6.trans J8).trans J10)) (B5.mono ((J6.trans J8).trans J10))) (bL ((fzu ((J6.trans J8).trans J10) dg)) 0 rfl) C2 [S X3.2] X3.2 (rfl) (bL ((fzu ((J6.trans J8).trans J10) dD)) 0 rfl) (⟨Q5,0,none⟩) ((fzu (J8.trans J10) R5)) (.inr X12) l4)) λ_ V12 E_3 W14 J12 N29 q_4 _ f=>?_
     obtain⟨Z18,P18,L9,Z19,P19,L10,Z20,P20,L11,Z21,P21,L12,rfl,rfl,D16,D17,D18,D19⟩:=q_4
     refine eT (RR (Y f 2 λ_ f=>?_))
     obtain⟨X13,l5,F5⟩:=bS F4
     rcases X13 with X14|X15
     ·refine ej (E:=[oC Q3 #[sL Z18 X12.1 P18,sL Z19 X12.2.1 P19,sL Z20 X12.2.2.1 P20,sL Z21 X12.t3 P21] 41,rO 58 10 Z18 X12.1 P18 L9,rO 61 15 Z19 X12.2.1 P19 L10,rO 66 7 Z20 X12.2.2.1 P20 L11,rO 68 8 Z21 X12.t3 P21 L12]) (H:=(H)) f N29 (gP n _ (GL.mono (((((((J1.trans J2).trans J3).trans J5).trans J6).trans J8).trans J10).trans J12) hG) [79,117,116,112,117,116,115] (6:Int) Q3 X12.1 Z18 P18 L9 D16 X12.2.1 Z19 P19 L10 D17 X12.2.2.1 Z20 P20 L11 D18 X12.t3 Z21 P21 L12 D19 C1 (lTD0 X3.1 Z4 P4 Z5 P5) X3.1 (TD0.shutx (x:=X3.1) (B4.mono (((J6.trans J8).trans J10).trans J12)) (B5.mono (((J6.trans J8).trans J10).trans J12))) (bL ((fzu (((J6.trans J8).trans J10).trans J12) dg)) 0 rfl) C2 [S X3.2] X3.2 (rfl) (bL ((fzu (((J6.trans J8).trans J10).trans J12) dD)) 0 rfl) (⟨Q5,0,none⟩) ((fzu ((J8.trans J10).trans J12) R5)) (.inl X14) l5) kr (λ_=>by kernel_rfl) λV13 W15 J13 N30=>bM (aP f ?_)
      cases sI F5
      exact⟨V13,((((((((J1.trans J2).trans J3).trans J5).trans J6).trans J8).trans J10).trans J12).trans J13),N30,rfl⟩
     ·refine Y17 (E:=[oC Q3 #[sL Z18 X12.1 P18,sL Z19 X12.2.1 P19,sL Z20 X12.2.2.1 P20,sL Z21 X12.t3 P21] 41,rO 58 10 Z18 X12.1 P18 L9,rO 61 15 Z19 X12.2.1 P19 L10,rO 66 7 Z20 X12.2.2.1 P20 L11,rO 68 8 Z21 X12.t3 P21 L12]) (H:=(H)) f N29 (OkXH.ok (gP n _ (GL.mono (((((((J1.trans J2).trans J3).trans J5).trans J6).trans J8).trans J10).trans J12) hG) [79,117,116,112,117,116,115] (6:Int) Q3 X12.1 Z18 P18 L9 D16 X12.2.1 Z19 P19 L10 D17 X12.2.2.1 Z20 P20 L11 D18 X12.t3 Z21 P21 L12 D19 C1 (lTD0 X3.1 Z4 P4 Z5 P5) X3.1 (TD0.shutx (x:=X3.1) (B4.mono (((J6.trans J8).trans J10).trans J12)) (B5.mono (((J6.trans J8).trans J10).trans J12))) (bL ((fzu (((J6.trans J8).trans J10).trans J12) dg)) 0 rfl) C2 [S X3.2] X3.2 (rfl) (bL ((fzu (((J6.trans J8).trans J10).trans J12) dD)) 0 rfl) (⟨Q5,0,none⟩) ((fzu ((J8.trans J10).trans J12) R5)) (.inr X15) l5)) λ_ V14 E_4 W16 J14 N31 q_5 _ f=>?_
      obtain⟨Z22,P22,L13,Z23,P23,L14,Z24,P24,L15,Z25,P25,L16,rfl,rfl,D20,D21,D22,D23⟩:=q_5
      refine eT (RR (Z f (Y31 (cs:=[sL Z22 X15.1 P22,sL Z23 X15.2.1 P23,sL Z24 X15.2.2.1 P24,sL Z25 X15.t3 P25]) rfl (ad:=⟨Q3,0,none⟩) (an (N31.ownCell 0 rfl) 0 rfl)) λ_ f=>?_))
      have N32:=N31.pl [1]
      obtain⟨Z26,P26,V15,H6,J15,N33,B6⟩:=N32.rowSli (f:=bx) (xs:=X15.1) szd_TE0 D20
      have f:=Frm.set f 26 (v:=.agg #[.slice Z22 X15.1.length P22,.slice Z23 X15.2.1.length P23,.slice Z24 X15.2.2.1.length P24,.slice Z25 X15.2.2.2.length P25]) (v':=.agg #[.slice Z26 X15.1.length P26,.slice Z23 X15.2.1.length P23,.slice Z24 X15.2.2.1.length P24,.slice Z25 X15.2.2.2.length P25]) (by kernel_rfl) (by rw[H6])
      have N34:Hp w0 V15 ((oC Q3 #[sL Z26 X15.1 P26,sL Z23 X15.2.1 P23,sL Z24 X15.2.2.1 P24,sL Z25 X15.t3 P25] 41)::(rO 61 15 Z23 X15.2.1 P23 L14)::(rO 66 7 Z24 X15.2.2.1 P24 L15)::(rO 68 8 Z25 X15.t3 P25 L16)::H) W16:=by unfold sL at N33;rw[H6] at N33;exact N33
      have N35:=N34.pl [1]
      obtain⟨Z27,P27,V16,H7,J16,N36,B7⟩:=N35.rowSli (f:=aF) (xs:=X15.2.1) dc (ag.mono J15 _ _ D21)
      have f:=Frm.set f 26 (v:=.agg #[.slice Z26 X15.1.length P26,.slice Z23 X15.2.1.length P23,.slice Z24 X15.2.2.1.length P24,.slice Z25 X15.2.2.2.length P25]) (v':=.agg #[.slice Z26 X15.1.length P26,.slice Z27 X15.2.1.length P27,.slice Z24 X15.2.2.1.length P24,.slice Z25 X15.2.2.2.length P25]) (by kernel_rfl) (by rw[H7])
      have N37:Hp w0 V16 ((oC Q3 #[sL Z26 X15.1 P26,sL Z27 X15.2.1 P27,sL Z24 X15.2.2.1 P24,sL Z25 X15.t3 P25] 41)::(rO 66 7 Z24 X15.2.2.1 P24 L15)::(rO 68 8 Z25 X15.t3 P25 L16)::H) W16:=by unfold sL at N36;rw[H7] at N36;exact N36
      have N38:=N37.pl [1]
      obtain⟨Z28,P28,V17,H8,J17,N39,B8⟩:=N38.rowSli (f:=bu) (xs:=X15.2.2.1) szd_TB0 (ag.mono (J15.trans J16) _ _ D22)
      have f:=Frm.set f 26 (v:=.agg #[.slice Z26 X15.1.length P26,.slice Z27 X15.2.1.length P27,.slice Z24 X15.2.2.1.length P24,.slice Z25 X15.2.2.2.length P25]) (v':=.agg #[.slice Z26 X15.1.length P26,.slice Z27 X15.2.1.length P27,.slice Z28 X15.2.2.1.length P28,.slice Z25 X15.2.2.2.length P25]) (by kernel_rfl) (by rw[H8])
      have N40:Hp w0 V17 ((oC Q3 #[sL Z26 X15.1 P26,sL Z27 X15.2.1 P27,sL Z28 X15.2.2.1 P28,sL Z25 X15.t3 P25] 41)::(rO 68 8 Z25 X15.t3 P25 L16)::H) W16:=by unfold sL at N39;rw[H8] at N39;exact N39
      have N41:=N40.pl [1]
      obtain⟨Z29,P29,V18,H9,J18,N42,B9⟩:=N41.rowSli (f:=bw) (xs:=X15.t3) szd_TC0 (ag.mono ((J15.trans J16).trans J17) _ _ D23)
      have f:=Frm.set f 26 (v:=.agg #[.slice Z26 X15.1.length P26,.slice Z27 X15.2.1.length P27,.slice Z28 X15.2.2.1.length P28,.slice Z25 X15.2.2.2.length P25]) (v':=.agg #[.slice Z26 X15.1.length P26,.slice Z27 X15.2.1.length P27,.slice Z28 X15.2.2.1.length P28,.slice Z29 X15.2.2.2.length P29]) (by kernel_rfl) (by rw[H9])
      have N43:Hp w0 V18 ((oC Q3 #[sL Z26 X15.1 P26,sL Z27 X15.2.1 P27,sL Z28 X15.2.2.1 P28,sL Z29 X15.t3 P29] 41)::H) W16:=by unfold sL at N42;rw[H9] at N42;exact N42
      refine Ys [sL Z26 X15.1 P26,sL Z27 X15.2.1 P27,sL Z28 X15.2.2.1 P28,sL Z29 X15.t3 P29] #[sL Z26 X15.1 P26,sL Z27 X15.2.1 P27,sL Z28 X15.2.2.1 P28,sL Z29 X15.t3 P29] f N43 rfl rfl λW17 N44 _ f=>Er (ef f rfl (Y10 (cs:=[sL Z26 X15.1 P26,sL Z27 X15.2.1 P27,sL Z28 X15.2.2.1 P28,sL Z29 X15.t3 P29]) (ad:=⟨Q3,0,none⟩) f (an (N44.ownCell 0 rfl) 0 rfl)) ?_)
      cases sI F5
      exact⟨_,rfl,V18,((((((((((((J1.trans J2).trans J3).trans J5).trans J6).trans J8).trans J10).trans J12).trans J14).trans J15).trans J16).trans J17).trans J18),(N44.dropN 1),⟨[sL Z26 X15.1 P26,sL Z27 X15.2.1 P27,sL Z28 X15.2.2.1 P28,sL Z29 X15.t3 P29],rfl,(TA0.shut (B6.mono ((J16.trans J17).trans J18)) (B7.mono (J17.trans J18)) (B8.mono J18) B9)⟩⟩
def cx (n:Nat):Nat→TD0→Bs→Int→Option (Sum (Int×Bs) TA0)
 |0=>λ_ _ _=>none
 |k+1=>dH n (cx n k)
def io (n:Nat) (d0:TD0) (d1:Bs) (d2:Int):Option (Sum (Int×Bs) TA0):=cx n n d0 d1 d2
theorem iM (n:Nat) (M:Mem) (hG:GL M) (c0:Lv) (d0:TD0) (h0:Rep M (ap d0) c0) (d1:Bs) (d2:Int) (r:Sum (Int×Bs) TA0) (hF:io n d0 d1 d2=some r):OkX Tryz.prog M 23 [.agg c0.toArray,S d1,iL d2] 78 r (λr=>λM' v=>∃ (c0:Lv),v=.agg c0.toArray∧Rep M' (bY r) c0):=by
 have key: ∀ (k:Nat) (M:Mem) (hG:GL M) (c0:Lv) (d0:TD0) (h0:Rep M (ap d0) c0) (d1:Bs) (d2:Int) (r:Sum (Int×Bs) TA0) (hF:cx n k d0 d1 d2=some r),OkX Tryz.prog M 23 [.agg c0.toArray,S d1,iL d2] 78 r (λr=>λM' v=>∃ (c0:Lv),v=.agg c0.toArray∧Rep M' (bY r) c0):=by
  intro k
  induction k with
  |zero=>intro M hG c0 d0 h0 d1 d2 r hF;simp[cx] at hF
  |succ k ih=>intro M hG c0 d0 h0 d1 d2 r hF;exact ky n (cx n k) ih M hG c0 d0 h0 d1 d2 r hF
 exact key n M hG c0 d0 h0 d1 d2 r hF
def VPd (d:Nat) (v:TD0) (p:Bs):Prop:=Small d v∧OkV v∧d≤30∧p.length+6000*d≤500000
def VP (v:TD0) (p:Bs):Prop:=∃d,VPd d v p
theorem VPd.part {d:Nat} {v x:TD0} {p q:Bs} (h:VPd d v p) (hx:x∈v.ac) (hq:q.length≤p.length+5500): ∃e,e<d∧VPd e x q:=by
 cases d with
 |zero=>exact h.1.elim
 |succ e=>exact⟨e,Nat.lt_succ_self _,h.1.2.2.2.2 x hx,h.2.1.part hx,by have:=h.2.2.1;omega,by have:=h.2.2.2;omega⟩
theorem VPd.wide {d:Nat} {v:TD0} {p:Bs} (h:VPd d v p):Wide v:=h.1.wide
theorem VPd.len {d:Nat} {v:TD0} {p:Bs} (h:VPd d v p):p.length≤500000:=by have:=h.2.2.2;omega
theorem VPd.txt {d:Nat} {v:TD0} {p:Bs} (h:VPd d v p):v.aa.length≤5000:=h.wide.2.2.1
def Ans {α:Type} (o:Option (FX α)) (Q:α→Prop):Prop:=∃r,o=some r∧∀x,r=.inr x→Q x
section
variable {α β γ τ:Type} {Q:α→Prop} {R:β→Prop} {Q':τ→Prop}
theorem Ans.inl {p:Int×Bs}:Ans (some (.inl p):Option (FX α)) Q:=⟨_,rfl,λx hx=>by cases hx⟩
theorem Ans.inr {x:α} (h:Q x):Ans (some (.inr x):Option (FX α)) Q:=⟨_,rfl,λy hy=>by cases hy;exact h⟩
theorem Ans.bind {o:Option (FX α)} {f:FX α→Option (FX β)} (h:Ans o Q) (h1: ∀p,∃p',f (.inl p)=some (.inl p')) (h2: ∀x,Q x→Ans (f (.inr x)) R):Ans (o.bind f) R:=by
 obtain⟨r,rfl,hr⟩:=h
 rw[bnd]
 cases r with
 |inl p=>obtain⟨p',e⟩:=h1 p;exact⟨_,e,λx hx=>by cases hx⟩
 |inr x=>exact h2 x (hr x rfl)
theorem Ans.cnd {b:Bool} {x y:Option (FX α)} (ht:b=true→Ans x Q) (hf:b=false→Ans y Q):Ans (bif b then x else y) Q:=by
 cases b
 ·exact hf rfl
 ·exact ht rfl
def AnsJ (o:Option (Lp τ (FX β))) (Q:τ→Prop) (R:β→Prop):Prop:=∃r,o=some r∧(match r with|.nx x=>Q x|.br b=>∀y,b=.inr y→R y)
theorem AnsJ.nx {x:τ} (h:Q' x):AnsJ (some (.nx x)) Q' R:=⟨_,rfl,h⟩
theorem AnsJ.br {p:Int×Bs}:AnsJ ((some (.inl p):Option (FX β)).map Lp.br) Q' R:=⟨_,rfl,λy hy=>by cases hy⟩
theorem AnsJ.cnd {b:Bool} {x y:Option (Lp τ (FX β))} (ht:b=true→AnsJ x Q' R) (hf:b=false→AnsJ y Q' R):AnsJ (bif b then x else y) Q' R:=by
 cases b
 ·exact hf rfl
 ·exact ht rfl
theorem AnsJ.join {o:Option (Lp τ (FX β))} {f:τ→Option (FX β)} (h:AnsJ o Q' R) (h2: ∀x,Q' x→Ans (f x) R):Ans (o.bind λj=>joinF j f) R:=by
 obtain⟨r,rfl,hr⟩:=h
 rw[bnd]
 cases r with
 |nx x=>exact h2 x hr
 |br b=>exact⟨b,rfl,hr⟩
theorem AnsJ.bind {o:Option (FX α)} {f:FX α→Option (Lp τ (FX β))} (h:Ans o Q) (h1: ∀p,∃p',f (.inl p)=(some (.inl p'):Option (FX β)).map Lp.br) (h2: ∀x,Q x→AnsJ (f (.inr x)) Q' R):AnsJ (o.bind f) Q' R:=by
 obtain⟨r,rfl,hr⟩:=h
 rw[bnd]
 cases r with
 |inl p=>obtain⟨p',e⟩:=h1 p;rw[e];exact AnsJ.br
 |inr x=>exact h2 x (hr x rfl)
theorem Ans.imp {o:Option (FX α)} {Q2:α→Prop} (h:Ans o Q) (hq: ∀x,Q x→Q2 x):Ans o Q2:=by
 obtain⟨r,e,hr⟩:=h
 exact⟨r,e,λx hx=>hq x (hr x hx)⟩
end
theorem idx_run {n:Nat} (hn:100000≤n) {l:List Bs} (hl:l.length≤3000) (key:Bs): ∃i:Int,bP n l key=some i∧ -1≤i∧i<(l.length:Int)∧(key∈l→0≤i):=by
 unfold bP
 obtain⟨b,hb,hp⟩:=dZ (step:=bG n l key) (n:=n) (s0:=(0:Int)) (λk s=>s=(k:Int)∧key∉l.take k)
  (λb=>match b with|.inl i=>0≤i∧i<(l.length:Int)|.inr _=>key∉l) l.length ⟨rfl,by simp⟩
  (λq s hq hI=>by
   obtain⟨rfl,hI⟩:=hI
   have hg:aU l (q:Int)=some l[q]:=by simp[aU,hq]
   unfold bG
   rw[dT (by omega),cT,hg,bnd]
   by_cases he:key=l[q]
   ·right
    rw[dT he,cT]
    exact⟨_,rfl,by dsimp only;omega⟩
   ·left
    rw[dF he,cF,aZ (by omega) (by omega)]
    refine⟨_,rfl,by omega,λhm=>?_⟩
    rw[List.take_add_one,List.getElem?_eq_getElem hq] at hm
    rcases List.mem_append.1 hm with hm|hm
    ·exact hI hm
    ·exact he (by simpa using hm))
  (λs hI=>by
   obtain⟨rfl,hI⟩:=hI
   unfold bG
   rw[dF (by omega),cF]
   exact⟨_,rfl,by rwa [List.take_length] at hI⟩) (by omega)
 rw[hb,bnd]
 cases b with
 |inl i=>exact⟨i,rfl,by have:=hp.1;omega,hp.2,λ_=>hp.1⟩
 |inr u=>exact⟨-1,rfl,by omega,by omega,λh=>absurd h hp⟩
theorem lv {n:Nat} (hn:100000≤n) {l:List Bs} (hl:l.length≤3000) (key:Bs): ∃b,bF n l key=some b:=by
 unfold bF
 obtain⟨i,h,_⟩:=idx_run hn hl key
 exact⟨_,by rw[h,bnd]⟩
theorem get_run {n:Nat} (hn:100000≤n) {v:TD0} (hw:Wide v) (hp:PlainV v) (key:Bs): ∃x ok,jx n v key=some (x,ok)∧(ok=true→x∈v.ac)∧(key∈v.af→v.ab=5→ok=true):=by
 obtain⟨i,hi,h1,h2,h3⟩:=idx_run hn hw.2.1 key
 unfold jx
 rw[hi,bnd]
 by_cases h5:v.ab=5
 ·have hl:=hp.2.2.2.2.2.2.1 h5
  rw[dT h5,nT,cF,dT (by omega),nT,cF,bnd]
  by_cases hneg:i<0
  ·rw[dT hneg,cT]
   exact⟨_,_,rfl,λh=>(by cases h),λhk _=>absurd (h3 hk) (by omega)⟩
  ·rw[dF hneg,cF]
   obtain⟨j,rfl⟩: ∃j:Nat,i=(j:Int):=⟨i.toNat,by omega⟩
   have hj:j<v.ac.length:=by omega
   have hg:aU v.ac (j:Int)=some v.ac[j]:=by simp[aU,hj]
   rw[hg,bnd]
   exact⟨_,_,rfl,λ_=>List.getElem_mem hj,λ_ _=>rfl⟩
 ·rw[dF h5,nF,cT,bnd,cT]
  exact⟨_,_,rfl,λh=>(by cases h),λ_ h=>absurd h h5⟩
theorem nr: ∀ {a b:Bs},leS a b=true→a≠b→Op.bytesLess a b=true
 |[],[],_,h=>absurd rfl h
 |[],_::_,_,_=>rfl
 |a::x,[],h,_=>by simp[leS] at h
 |a::x,b::y,h,hne=>by
  have h':a::x≤b::y:=of_decide_eq_true h
  rw[List.cons_le_cons_iff] at h'
  rw[Op.bytesLess]
  rcases h' with h'|⟨rfl,h'⟩
  ·simp[h']
  ·have:Op.bytesLess x y=true:=nr (dT h') (λe=>hne (by rw[e]))
   simp[this]
def Rise (l:List Bs):Prop:=l.Pairwise (λa b=>Op.bytesLess a b=true)
theorem oz {l:List Bs} (h:l.Nodup):Rise (sortG leS l):=by
 have hs:=jE (le:=leS) (λa b c h1 h2=>by simp only[leS,decide_eq_true_eq] at*;exact List.le_trans h1 h2) (λa b=>by simp only[leS,decide_eq_true_eq];exact List.le_total a b) l
 have hn: (sortG leS l).Nodup:=(iI leS l).nodup_iff.2 h
 exact(hs.and hn).imp λ ⟨h1,h2⟩=>nr h1 h2
theorem ke {n:Nat} (hn:100000≤n) {d:Nat} {v:TD0} {p:Bs} (h:VPd d v p) (h5:v.ab=5): ∃es,bX n v=some es∧es.map (·.key)=sortG leS v.af∧∀e∈es,e.v∈v.ac∧e.key.length≤5000:=by
 have hw:=h.wide
 have hp:=OkV.plain h.2.1
 have hw1:=hw.2.1
 unfold bX cH mQ
 rw[bi (by omega),bnd,bi (by omega),bnd]
 obtain⟨ks,hks⟩: ∃ks,ks=sortG leS v.af:=⟨_,rfl⟩
 have hlen:ks.length=v.af.length:=by rw[hks,mj]
 have hmem: ∀k∈ks,k∈v.af:=λk hk=>by rw[hks] at hk;exact(iI leS v.af).mem_iff.1 hk
 rw[←hks]
 obtain⟨b,hb,hp1,hp2⟩:=dZ (step:=cY n v ks) (n:=n) (s0:=(([]:List ax),(0:Int)))
  (λk s=>s.2=(k:Int)∧s.1.map (·.key)=ks.take k∧∀e∈s.1,e.v∈v.ac∧e.key.length≤5000)
  (λb=>b.map (·.key)=ks∧∀e∈b,e.v∈v.ac∧e.key.length≤5000) ks.length ⟨rfl,rfl,by simp⟩
  (λq s hq hI=>by
   obtain⟨acc,i⟩:=s
   obtain⟨h1,h2,h3⟩:=hI
   have h1':i=(q:Int):=h1
   subst h1'
   left
   have hg:aU ks (q:Int)=some ks[q]:=by simp[aU,hq]
   have hk:=hmem ks[q] (List.getElem_mem hq)
   obtain⟨x,ok,hx1,hx2,hx3⟩:=get_run hn hw hp ks[q]
   have hal:acc.length≤q:=by have:=congrArg List.length h2;simp at this;omega
   unfold cY
   dsimp only
   rw[dT (by omega),cT,hg,bnd,hx1,bnd,bi (by omega),aZ (by omega) (by omega)]
   refine⟨_,rfl,by dsimp only;omega,?_,?_⟩
   ·dsimp only
    rw[List.map_append,h2,List.take_add_one,List.getElem?_eq_getElem hq]
    rfl
   ·intro e he
    rcases List.mem_append.1 he with he|he
    ·exact h3 e he
    ·obtain rfl:=List.mem_singleton.1 he
     exact⟨by dsimp only;rw[evV];exact hx2 (hx3 hk h5),hw.2.2.2 _ hk⟩)
  (λs hI=>by
   obtain⟨acc,i⟩:=s
   obtain⟨h1,h2,h3⟩:=hI
   have h1':i=(ks.length:Int):=h1
   subst h1'
   unfold cY
   dsimp only
   rw[dF (by omega),cF]
   exact⟨_,rfl,by rw[h2,List.take_length],h3⟩) (by omega)
 rw[hb,bnd]
 exact⟨b,rfl,by rw[hp1],hp2⟩
theorem kd {es:List ax} {v:TD0} (h:es.map (·.key)=sortG leS v.af):es.length=v.af.length:=by
 have:=congrArg List.length h
 rwa [List.length_map,mj] at this
theorem expr_run {n:Nat} (hn:100000≤n) {d:Nat} {v:TD0} {p:Bs} (h:VPd d v p): ∃r,gc n v p=some r:=
 ⟨_,ly hn n d v p (by have:=h.2.2.1;omega) h.1 h.2.1 (by have:=h.2.2.2;omega)⟩
theorem gU {n:Nat} (hn:100000≤n) {v:TD0} {p:Bs} {known:List Bs} (h:VP v p) (hk:known.length≤3000):Ans (cr n v p known) (λx=>x=(v,p)∧v.ab=5):=by
 obtain⟨d,h⟩:=h
 unfold cr
 refine Ans.cnd (λhb=>?_) (λ_=>Ans.inl)
 have h5:=of_decide_eq_true hb
 obtain⟨es,he,hks,hes⟩:=ke hn h h5
 have hel:=kd hks
 have hw1:=h.wide.2.1
 rw[he,bnd]
 obtain⟨b,hb,-⟩:=dZ (step:=du n p known es) (n:=n) (s0:=(0:Int)) (λk s=>s=(k:Int)) (λ_=>True) es.length rfl
  (λq s hq hI=>by
   subst hI
   have hg:aU es (q:Int)=some es[q]:=by simp[aU,hq]
   obtain⟨c,hc⟩:=lv hn hk es[q].key
   have hkl:=(hes es[q] (List.getElem_mem hq)).2
   unfold du
   rw[dT (by omega),cT,hg,bnd,hc,bnd,jd (by have:=h.len;omega) (by omega),bnd]
   cases c with
   |true=>left;rw[cT,aZ (by omega) (by omega)];exact⟨_,rfl,by omega⟩
   |false=>right;rw[cF];exact⟨_,rfl,trivial⟩)
  (λs hI=>by
   subst hI
   unfold du
   rw[dF (by omega),cF]
   exact⟨_,rfl,trivial⟩) (by omega)
 rw[hb,bnd]
 cases b with
 |inl y=>exact Ans.inl
 |inr y=>exact Ans.inr ⟨rfl,h5⟩
theorem cI {n:Nat} (hn:100000≤n) {d:Nat} {v:TD0} {p key:Bs} (h:VPd d v p) (hk:key.length≤30): ∃x q ok,aR n key v p=some (x,q,ok)∧(ok=true→∃e,e<d∧VPd e x q):=by
 unfold aR
 obtain⟨x,ok,h1,h2,h3⟩:=get_run hn h.wide (OkV.plain h.2.1) key
 rw[h1,bnd,jd (by have:=h.len;omega) (by omega),bnd]
 exact⟨_,_,_,rfl,λhok=>h.part (h2 hok) (by have:=jy p key;omega)⟩
theorem mc {n:Nat} (hn:100000≤n) {v:TD0} {p:Bs} {ok:Bool} (h:ok=true→v.aa.length≤5000):Ans (el n v p ok) (λ_=>True):=by
 unfold el
 cases ok with
 |false=>exact Ans.inr trivial
 |true=>
  rw[nT,cF,iE hn (h rfl),bnd]
  exact Ans.cnd (λ_=>Ans.inr trivial) (λ_=>Ans.inl)
theorem depends_run {n:Nat} (hn:100000≤n) {v:TD0} {p:Bs} {ok:Bool} (h:ok=true→VP v p):Ans (gb n v p ok) (λl=>l.length≤8):=by
 unfold gb
 cases ok with
 |false=>exact Ans.inr (by simp)
 |true=>
  obtain⟨d,h⟩:=h rfl
  rw[nT,cF,iE hn h.txt,bnd]
  refine Ans.cnd (λ_=>Ans.inr (by simp)) (λ_=>Ans.cnd (λ_=>Ans.cnd (λh8=>?_) (λ_=>Ans.inl)) (λ_=>Ans.inl))
  have h8':=of_decide_eq_true h8
  obtain⟨b,hb,hp⟩:=dZ (step:=cW n v p) (n:=n) (s0:=(([]:List Bs),(0:Int))) (λk s=>s.2=(k:Int)∧s.1.length=k) (λb=>∀y,b=.inr y→y.length≤8) v.ac.length ⟨rfl,rfl⟩
   (λq s hq hI=>by
    obtain⟨acc,i⟩:=s
    obtain⟨h1,h2⟩:=hI
    have h1':i=(q:Int):=h1
    have h2':acc.length=q:=h2
    subst h1'
    have hg:aU v.ac (q:Int)=some v.ac[q]:=by simp[aU,hq]
    obtain⟨e,_,hpt⟩:=h.part (List.getElem_mem hq) (q:=p) (by omega)
    obtain⟨c,hc⟩:=lv hn (l:=acc) (by omega) v.ac[q].aa
    have hpl:=mS (n:=n) (a:=p) (i:=q) (by have:=h.len;omega) (by omega)
    unfold cW
    dsimp only
    rw[dT (by omega),cT,hg,bnd,iE hn hpt.txt,bnd,hpl,bnd]
    cases nameV v.ac[q] with
    |false=>right;rw[cF];exact⟨_,rfl,λy hy=>by cases hy⟩
    |true=>
     rw[cT,hc,bnd,bnd]
     cases c with
     |true=>right;rw[nT,cF];exact⟨_,rfl,λy hy=>by cases hy⟩
     |false=>left;rw[nF,cT,bi (by omega),aZ (by omega) (by omega)];exact⟨_,rfl,by dsimp only;omega,by dsimp only;rw[List.length_append,h2'];rfl⟩)
   (λs hI=>by
    obtain⟨acc,i⟩:=s
    obtain⟨h1,h2⟩:=hI
    have h1':i=(v.ac.length:Int):=h1
    have h2':acc.length=v.ac.length:=h2
    subst h1'
    unfold cW
    dsimp only
    rw[dF (by omega),cF]
    exact⟨_,rfl,λy hy=>by cases hy;omega⟩) (by omega)
  rw[hb,bnd]
  cases b with
  |inl y=>exact Ans.inl
  |inr y=>exact Ans.inr (hp y rfl)
theorem nodup_ok {v:TD0} (h:OkV v):v.af.Nodup:=(alone_ok (OkV_iff.1 h).1).2.2.2
theorem ox {n:Nat} (hn:100000≤n) {v:TD0} {p:Bs} (h:VP v p):Ans (gg n v p) (λl=>Rise (l.map (·.aj))∧l.length≤3000):=by
 obtain⟨d,h⟩:=h
 unfold gg
 refine Ans.cnd (λhb=>?_) (λ_=>Ans.inl)
 have h5:=of_decide_eq_true hb
 obtain⟨es,he,hks,hes⟩:=ke hn h h5
 have hel:=kd hks
 have hw1:=h.wide.2.1
 rw[he,bnd]
 obtain⟨b,hb,hpost⟩:=dZ (step:=dB n p es) (n:=n) (s0:=(([]:List TG0),(0:Int))) (λk s=>s.2=(k:Int)∧s.1.map (·.aj)=(es.map (·.key)).take k) (λb=>∀y,b=.inr y→y.map (·.aj)=es.map (·.key)) es.length ⟨rfl,by simp⟩
  (λq s hq hI=>by
   obtain⟨acc,i⟩:=s
   obtain⟨h1,h2⟩:=hI
   have h1':i=(q:Int):=h1
   subst h1'
   have hg:aU es (q:Int)=some es[q]:=by simp[aU,hq]
   obtain⟨hev,hkl⟩:=hes es[q] (List.getElem_mem hq)
   have hal:acc.length≤q:=by have:=congrArg List.length h2;simp at this;omega
   obtain⟨e,_,hpt⟩:=h.part hev (q:=undS p es[q].key) (by have:=jy p es[q].key;omega)
   obtain⟨r,hr⟩:=expr_run hn hpt
   have ev: (⟨es[q].v.ab,(es[q].v.ah),es[q].v.ai,es[q].v.aa,es[q].v.ac,es[q].v.af⟩:TD0)=es[q].v:=evV _
   unfold dB
   dsimp only
   rw[dT (by omega),cT,hg,bnd,jd (by have:=h.len;omega) (by omega),bnd,iF (by omega) (by omega),bnd,ev]
   cases nameS es[q].key with
   |false=>right;rw[cF];exact⟨_,rfl,λy hy=>by cases hy⟩
   |true=>
    rw[cT,hr,bnd]
    cases r with
    |inl z=>right;exact⟨_,rfl,λy hy=>by cases hy⟩
    |inr z=>
     left
     dsimp only
     rw[bi (by omega),aZ (by omega) (by omega)]
     refine⟨_,rfl,by dsimp only;omega,?_⟩
     dsimp only at h2 ⊢
     rw[List.map_append,h2,List.take_add_one,List.getElem?_map,List.getElem?_eq_getElem hq]
     rfl)
  (λs hI=>by
   obtain⟨acc,i⟩:=s
   obtain⟨h1,h2⟩:=hI
   have h1':i=(es.length:Int):=h1
   subst h1'
   unfold dB
   dsimp only
   rw[dF (by omega),cF]
   refine⟨_,rfl,λy hy=>?_⟩
   cases hy
   dsimp only at h2
   rw[h2]
   exact List.take_of_length_le (by simp)) (by omega)
 rw[hb,bnd]
 cases b with
 |inl y=>exact Ans.inl
 |inr y=>
  have hyl:=congrArg List.length (hpost y rfl)
  rw[List.length_map,List.length_map] at hyl
  exact Ans.inr ⟨by rw[hpost y rfl,hks];exact oz (nodup_ok h.2.1),by omega⟩
theorem kind1_run {n:Nat} (hn:100000≤n) {x:TD0} (hx:x.aa.length≤5000) (a0:Bs) (a1 a2:Bool) (a3:Int) (a4:Bool) (a5:Int) (a6:Bs) (a7:List TD0) (a8:List Bs) (a9:List TD0): ∃r,gd n x a0 a1 a2 a3 a4 a5 a6 a7 a8 a9=some (r,a0,a1,a2,a3,a4,a5,a6,a7,a8,a9):=by
 unfold gd
 rw[lN hn hx,bnd]
 cases a1 with
 |true=>
  rw[cT,nT,cF]
  cases decide (x.ab=2) with
  |true=>exact⟨_,rfl⟩
  |false=>exact⟨_,rfl⟩
 |false=>exact⟨_,rfl⟩
theorem kind2_run {n:Nat} (hn:100000≤n) {x:TD0} (hx:x.aa.length≤5000) (a0:Bs) (a1 a2:Bool) (a3:Int) (a4:Bool) (a5:Int) (a6:Bs) (a7:List TD0) (a8:List Bs) (a9:List TD0): ∃r,eb n x a0 a1 a2 a3 a4 a5 a6 a7 a8 a9=some (r,a0,a1,a2,a3,a4,a5,a6,a7,a8,a9):=by
 unfold eb
 rw[lN hn hx,bnd]
 cases a1 with
 |true=>
  rw[cT,nT,cF]
  cases decide (x.ab=2) with
  |true=>exact⟨_,rfl⟩
  |false=>exact⟨_,rfl⟩
 |false=>exact⟨_,rfl⟩
theorem Ans.loop {σ β α:Type} {step:σ→Option (Lp σ β)} {n:Nat} {s0:σ} {f:β→Option (FX α)} {Q:α→Prop} (I:Nat→σ→Prop) (post:β→Prop) (len:Nat) (h0:I 0 s0)
 (hs: ∀k s,k<len→I k s→(∃s',step s=some (.nx s')∧I (k+1) s')∨∃b,step s=some (.br b)∧post b)
 (he: ∀s,I len s→∃b,step s=some (.br b)∧post b) (hn:len<n) (hf: ∀b,post b→Ans (f b) Q):Ans ((aL step n s0).bind f) Q:=by
 obtain⟨b,hb,hp⟩:=dZ I post len h0 hs he hn
 rw[hb,bnd]
 exact hf b hp
theorem param_run {n:Nat} (hn:100000≤n) {id:Bs} {v:TD0} {p:Bs} (h:VP v p):Ans (gN n id v p) (λx=>x.aj=id):=by
 unfold gN
 refine Ans.bind (gU hn h (by simp)) (λp'=>⟨p',rfl⟩) (λx hx=>?_)
 obtain⟨rfl,h5⟩:=hx
 obtain⟨d,h⟩:=h
 dsimp only
 obtain⟨t,tp,tok,ht,hto⟩:=cI hn h (key:=[84,121,112,101]) (by decide)
 rw[ht,bnd]
 refine Ans.cnd (λok=>?_) (λ_=>Ans.inl)
 refine AnsJ.join (Q':=λ_=>True) ?_ (λ_ _=>?_)
 ·exact AnsJ.cnd (λ_=>AnsJ.cnd (λ_=>AnsJ.nx trivial) (λ_=>AnsJ.cnd (λ_=>AnsJ.nx trivial) (λ_=>AnsJ.br))) (λ_=>AnsJ.br)
 ·obtain⟨t2,tp2,tok2,ht2,hto2⟩:=cI hn h (key:=[68,101,102,97,117,108,116]) (by decide)
  rw[ht2,bnd]
  refine AnsJ.join (Q':=λy=>y.1=id) ?_ (λy hy=>?_)
  ·refine AnsJ.cnd (λok2=>?_) (λ_=>AnsJ.nx rfl)
   obtain⟨e,_,hpt⟩:=hto2 ok2
   obtain⟨r,hr⟩:=kind1_run hn hpt.txt id (decide (t.aa=[78,117,109,98,101,114])) false 0 false 0 [] [] [] []
   dsimp only
   rw[hr,bnd]
   exact AnsJ.cnd (λ_=>AnsJ.nx rfl) (λ_=>AnsJ.br)
  ·obtain⟨t3,tp3,tok3,ht3,hto3⟩:=cI hn h (key:=[65,108,108,111,119,101,100,86,97,108,117,101,115]) (by decide)
   rw[ht3,bnd]
   refine Ans.cnd (λok3=>?_) (λ_=>Ans.inr hy)
   obtain⟨e,_,hpt⟩:=hto3 ok3
   refine AnsJ.join (Q':=λ_=>True) ?_ (λ_ _=>?_)
   ·exact AnsJ.cnd (λ_=>AnsJ.cnd (λ_=>AnsJ.nx trivial) (λ_=>AnsJ.br)) (λ_=>AnsJ.br)
   ·refine Ans.cnd (λh8=>?_) (λ_=>Ans.inl)
    have h8': ((t3.ac.length:Nat):Int)≤8:=of_decide_eq_true h8
    refine Ans.loop (λk s=>s.1=(k:Int)∧s.2.1=id) (λb=>∀y,b=.inr y→y.1=id) t3.ac.length ⟨rfl,hy⟩ ?_ ?_ (by omega) ?_
    ·intro q s hq hI
     obtain⟨i,b0,b1,b2,b3,b4,b5,b6,b7,b8,b9⟩:=s
     obtain⟨h1,h2⟩:=hI
     have h1':i=(q:Int):=h1
     subst h1'
     have hg:aU t3.ac (q:Int)=some t3.ac[q]:=by simp[aU,hq]
     obtain⟨e',_,hpx⟩:=hpt.part (List.getElem_mem hq) (q:=tp3) (by omega)
     obtain⟨r,hr⟩:=kind2_run hn hpx.txt b0 b1 b2 b3 b4 b5 b6 b7 b8 b9
     have hpl:=mS (n:=n) (a:=tp3) (i:=q) (by have:=hpt.len;omega) (by omega)
     unfold eu
     dsimp only
     rw[dT (by omega),cT,hg,bnd,hr,bnd,hpl,bnd]
     dsimp only
     cases r with
     |true=>left;rw[cT,aZ (by omega) (by omega)];exact⟨_,rfl,by dsimp only;omega,h2⟩
     |false=>right;rw[cF];exact⟨_,rfl,λy hy=>by cases hy⟩
    ·intro s hI
     obtain⟨i,b0,b1,b2,b3,b4,b5,b6,b7,b8,b9⟩:=s
     obtain⟨h1,h2⟩:=hI
     have h1':i=(t3.ac.length:Int):=h1
     subst h1'
     unfold eu
     dsimp only
     rw[dF (by omega),cF]
     exact⟨_,rfl,λy hy=>by cases hy;exact h2⟩
    ·intro b hb
     cases b with
     |inl y=>exact Ans.inl
     |inr y=>exact Ans.inr (hb y rfl)
theorem bounds_hi (key:Bs): ((cb (aE (aE (aE (aE ([]:List (Bs× (Int×Int))) [69,113,117,97,108,115] ((2:Int),(2:Int))) [65,110,100] ((1:Int),(4:Int))) [79,114] ((1:Int),(4:Int))) [78,111,116] ((1:Int),(1:Int))) key).getD ((0:Int),(0:Int))).2≤4:=by
 rw[jr,jr,jr,jr,cb]
 split
 ·simp
 ·split
  ·simp
  ·split
   ·simp
   ·split<;>simp
theorem bounds_eq: (cb (aE (aE (aE (aE ([]:List (Bs× (Int×Int))) [69,113,117,97,108,115] ((2:Int),(2:Int))) [65,110,100] ((1:Int),(4:Int))) [79,114] ((1:Int),(4:Int))) [78,111,116] ((1:Int),(1:Int))) [69,113,117,97,108,115]).getD ((0:Int),(0:Int))=(2,2):=by kernel_rfl
theorem exL_len {E : TD0 → List UInt8 → FX TF0} {at_ : List UInt8} : ∀ {i : Nat} {l : List TD0} {xs : List TF0}, exL E at_ i l = .inr xs → xs.length = l.length
 | i, [], xs, h => by
  rw [exL] at h
  obtain rfl := Sum.inr.inj h
  rfl
 | i, v :: r, xs, h => by
  rw [exL] at h
  cases hE : E v (plcS at_ i) with
  | inl p => rw [hE] at h; exact absurd h (by simp)
  | inr x =>
   rw [hE] at h
   dsimp only at h
   cases hr : exL E at_ (i + 1) r with
   | inl p => rw [hr] at h; exact absurd h (by simp)
   | inr ys =>
    rw [hr] at h
    obtain rfl := Sum.inr.inj h
    simp [exL_len hr]
theorem exprs_run {n:Nat} (hn:100000≤n) {d:Nat} {v:TD0} {p:Bs} (h:VPd d v p) (hl:v.ac.length≤8):Ans (iu n v.ac 0 p) (λl=>l.length=v.ac.length):=by
 have:=jl hn (rc:=gc n) (E:=exprV d) (l:=v.ac) (at_:=p) (by have:=h.len;omega) hl (λx hx i hi=>by
  have hpl:=lF (a:=p) hi
  have h3:=h.2.2.1
  have h4:=h.2.2.2
  exact ly hn n d x _ (by omega) (lh h.1 hx) (h.2.1.part hx) (by omega)) 0 (by omega)
 have e1: ((0:Nat):Int)=0:=rfl
 rw[e1,List.drop_zero] at this
 exact⟨_,this,λx hx=>exL_len hx⟩
theorem cond_run {n:Nat} (hn:100000≤n): ∀ (k d:Nat) (v:TD0) (p:Bs),d≤k→VPd d v p→Ans (dM n k v p) (λ_=>True)
 |0,0,v,p,_,h=>h.1.elim
 |0,d+1,v,p,hk,_=>absurd hk (by omega)
 |k+1,d,v,p,hk,h=>by
  show Ans (gn n (dM n k) v p) _
  unfold gn
  refine Ans.bind (gU hn ⟨d,h⟩ (by simp)) (λp'=>⟨p',rfl⟩) (λx hx=>?_)
  obtain⟨_,h5⟩:=hx
  dsimp only
  refine Ans.cnd (λh1=>?_) (λ_=>Ans.inl)
  obtain⟨key,x5,hks,hls⟩:=one_key (OkV.plain h.2.1) h5 (by have:=of_decide_eq_true h1;omega)
  have g0:aU v.af 0=some key:=by rw[hks];rfl
  have g1:aU v.ac 0=some x5:=by rw[hls];rfl
  have hkl:key.length≤5000:=h.wide.2.2.2 key (by rw[hks];simp)
  rw[g0,bnd,g1,bnd,jd (by have:=h.len;omega) (by omega),bnd]
  obtain⟨e,he,hpt⟩:=h.part (x:=x5) (q:=undS p key) (by rw[hls];simp) (by have:=jy p key;omega)
  refine Ans.cnd (λ_=>?_) (λhc=>?_)
  ·rw[iE hn hpt.txt,bnd]
   exact Ans.cnd (λ_=>Ans.inr trivial) (λ_=>Ans.inl)
  ·refine AnsJ.join (Q':=λ_=>x5.ac.length≤4∧(key=[69,113,117,97,108,115]→x5.ac.length=2)) ?_ (λ_ hq=>?_)
   ·refine AnsJ.cnd (λh4=>AnsJ.cnd (λhlo=>AnsJ.cnd (λhhi=>AnsJ.nx ⟨?_,?_⟩) (λ_=>AnsJ.br)) (λ_=>AnsJ.br)) (λ_=>AnsJ.br)
    ·have a:=of_decide_eq_true hhi
     have b:=bounds_hi key
     omega
    ·intro hk
     subst hk
     have a:=of_decide_eq_true hlo
     have b:=of_decide_eq_true hhi
     rw[bounds_eq] at a b
     dsimp only at a b
     omega
   ·refine Ans.cnd (λheq=>?_) (λ_=>?_)
    ·have h2:=hq.2 (of_decide_eq_true heq)
     refine Ans.bind (exprs_run hn hpt (by omega)) (λp'=>⟨p',rfl⟩) (λl hl=>?_)
     dsimp only
     have hl2:l.length=2:=by omega
     match l,hl2 with
     |[a,b],_=>
      have g2:aU [a,b] 0=some a:=rfl
      have g3:aU [a,b] 1=some b:=rfl
      rw[g2,bnd,g3,bnd]
      exact Ans.inr trivial
    ·refine Ans.loop (λk s=>s.1=(k:Int)∧s.2.length=k) (λb=>True) x5.ac.length ⟨rfl,rfl⟩ ?_ ?_ (by have:=hq.1;omega) ?_
     ·intro q s hqq hI
      obtain⟨i,acc⟩:=s
      obtain⟨i1,i2⟩:=hI
      have i1':i=(q:Int):=i1
      have i2':acc.length=q:=i2
      subst i1'
      have hq1:=hq.1
      have hg:aU x5.ac (q:Int)=some x5.ac[q]:=by simp[aU,hqq]
      obtain⟨e',he',hpx⟩:=hpt.part (List.getElem_mem hqq) (q:=plcS (undS p key) q) (by have:=lF (a:=undS p key) (i:=q) (by omega);omega)
      have hpl:=mS (n:=n) (a:=undS p key) (i:=q) (by have:=hpt.len;omega) (by omega)
      obtain⟨r,hr,-⟩:=cond_run hn k e' x5.ac[q] (plcS (undS p key) q) (by omega) hpx
      unfold eZ
      dsimp only
      rw[dT (by omega),cT,hg,bnd,hpl,bnd,hr,bnd,bi (by omega)]
      cases r with
      |inl z=>right;exact⟨_,rfl,trivial⟩
      |inr z=>
       left
       dsimp only
       rw[bnd,joinF,aZ (by omega) (by omega)]
       exact⟨_,rfl,by dsimp only;omega,by dsimp only;rw[List.length_append,i2'];rfl⟩
     ·intro s hI
      obtain⟨i,acc⟩:=s
      obtain⟨i1,i2⟩:=hI
      have i1':i=(x5.ac.length:Int):=i1
      subst i1'
      unfold eZ
      dsimp only
      rw[dF (by omega),cF]
      exact⟨_,rfl,trivial⟩
     ·intro b _
      cases b with
      |inl y=>exact Ans.inl
      |inr y=>exact Ans.inr trivial
theorem defined_run {n:Nat} (hn:100000≤n) {id:Bs} {v:TD0} {p:Bs} (h:VP v p):Ans (ga n id v p) (λx=>x.aj=id):=by
 obtain⟨d,h⟩:=h
 unfold ga
 refine Ans.bind (cond_run hn n d v p (by have:=h.2.2.1;omega) h) (λp'=>⟨p',rfl⟩) (λx _=>?_)
 dsimp only
 rw[jd (by have:=h.len;omega) (by simp),bnd]
 exact Ans.cnd (λ_=>Ans.inr rfl) (λ_=>Ans.inl)
theorem output_run {n:Nat} (hn:100000≤n) {id:Bs} {v:TD0} {p:Bs} (h:VP v p):Ans (gq n id v p) (λx=>x.aj=id):=by
 unfold gq
 refine Ans.bind (gU hn h (by simp)) (λp'=>⟨p',rfl⟩) (λx hx=>?_)
 obtain⟨rfl,h5⟩:=hx
 obtain⟨d,h⟩:=h
 dsimp only
 obtain⟨t,tp,tok,ht,hto⟩:=cI hn h (key:=[86,97,108,117,101]) (by decide)
 rw[ht,bnd]
 refine Ans.cnd (λok=>?_) (λ_=>Ans.inl)
 obtain⟨e,_,hpt⟩:=hto ok
 obtain⟨r,hr⟩:=expr_run hn hpt
 dsimp only
 rw[hr,bnd]
 cases r with
 |inl z=>exact Ans.inl
 |inr z=>
  dsimp only
  obtain⟨t2,tp2,tok2,ht2,hto2⟩:=cI hn h (key:=[67,111,110,100,105,116,105,111,110]) (by decide)
  rw[ht2,bnd]
  refine Ans.bind (mc hn (λok2=>?_)) (λp'=>⟨p',rfl⟩) (λy _=>Ans.inr rfl)
  obtain⟨e2,_,hpt2⟩:=hto2 ok2
  exact hpt2.txt
abbrev TS:=List TE0×List TH0×List TB0×List TC0
def secStep (n:Nat) (cl:Bs→TD0→Bs→TS→Option (FX TS)) (x_1:TD0×Bs×Bool) (x_2:List ax) (s_1:Int×TS):Option (Lp (Int×TS) (FX TS)):=
    bif(decide (s_1.1<((x_2.length:Nat):Int))) then
     ((aU x_2 s_1.1).bind λx_3=>
     (ck n x_3.key).bind λx_4=>
     (aM n x_1.2.1 x_3.key).bind λx_5=>
     bif x_4 then
      ((aM n x_1.2.1 x_3.key).bind λx_6=>
      (cl x_3.key (⟨x_3.v.ab,(x_3.v.ah),x_3.v.ai,x_3.v.aa,x_3.v.ac,x_3.v.af⟩:TD0) x_6 (s_1.2.1,s_1.2.2.1,s_1.2.2.2.1,s_1.2.2.2.2)).bind λx_7=>
      (match x_7 with
      |.inl x_8=>some (.br (.inl x_8))
      |.inr x_9=>bb (inR .i64 (s_1.1+1))<|
       some (.nx (s_1.1+1,x_9.1,x_9.2.1,x_9.2.2.1,x_9.2.2.2))))
     else
      some (.br (.inl ((120:Int),x_5))))
    else
     some (.br (.inr (s_1.2.1,s_1.2.2.1,s_1.2.2.2.1,s_1.2.2.2.2)))
def secS (n:Nat) (cl:Bs→TD0→Bs→TS→Option (FX TS)) (key:Bs) (most:Int) (ts:TS) (v:TD0) (p:Bs):Option (FX TS):=
 (aR n key v p).bind λx_1=>
 bif !x_1.2.2 then
  (some (.inr (ts.1,ts.2.1,ts.2.2.1,ts.2.2.2)))
 else
  bif(decide (x_1.1.ab=5)) then
   (bif(decide (((x_1.1.af.length:Nat):Int)≤most)) then
    ((bX n x_1.1).bind λx_2=>
    (aL (secStep n cl x_1 x_2) n ((0:Int),ts.1,ts.2.1,ts.2.2.1,ts.2.2.2)).bind λb_2=>
    (match b_2 with
    |.inl y_1=>some (.inl y_1)
    |.inr y_2=>some (.inr (y_2.1,y_2.2.1,y_2.2.2.1,y_2.2.2.2))))
   else
    some (.inl ((3:Int),x_1.2.1)))
  else
   some (.inl ((120:Int),x_1.2.1))
theorem sec1_eq (n:Nat) (key:Bs) (most:Int) (a:List TE0) (b:List TH0) (c:List TB0) (d:List TC0) (v:TD0) (p:Bs):
 eI n key most a b c d v p=secS n (λk y q ts=>cZ n k y q ts.1 ts.2.1 ts.2.2.1 ts.2.2.2) key most (a,b,c,d) v p:=rfl
theorem sec2_eq (n:Nat) (key:Bs) (most:Int) (a:List TE0) (b:List TH0) (c:List TB0) (d:List TC0) (v:TD0) (p:Bs):
 dP n key most a b c d v p=secS n (λk y q ts=>da n k y q ts.1 ts.2.1 ts.2.2.1 ts.2.2.2) key most (a,b,c,d) v p:=rfl
theorem sec3_eq (n:Nat) (rc:TD0→Bs→Int→Option (FX TA0)) (key:Bs) (most:Int) (a:List TE0) (b:List TH0) (c:List TB0) (d:List TC0) (deep:Int) (v:TD0) (p:Bs):
 dR n rc key most a b c d deep v p=secS n (λk y q ts=>cz n rc k y q ts.1 ts.2.1 ts.2.2.1 ts.2.2.2 deep) key most (a,b,c,d) v p:=rfl
theorem sec4_eq (n:Nat) (key:Bs) (most:Int) (a:List TE0) (b:List TH0) (c:List TB0) (d:List TC0) (v:TD0) (p:Bs):
 dQ n key most a b c d v p=secS n (λk y q ts=>db n k y q ts.1 ts.2.1 ts.2.2.1 ts.2.2.2) key most (a,b,c,d) v p:=rfl
theorem mT {n:Nat} (hn:100000≤n) {cl:Bs→TD0→Bs→TS→Option (FX TS)} {key:Bs} {most:Int} {ts0:TS} {d:Nat} {v:TD0} {p:Bs} (h:VPd d v p) (hk:key.length≤30) (hm:0≤most∧most≤10) (I:List Bs→TS→Prop) (h0:I [] ts0)
 (hcl: ∀names k y q ts,names.length≤10→I names ts→VP y q→Ans (cl k y q ts) (I (names++[k]))):Ans (secS n cl key most ts0 v p) (λts=>∃names,I names ts∧Rise names∧(names.length:Int)≤most):=by
 unfold secS
 obtain⟨t,tp,tok,ht,hto⟩:=cI hn h hk
 rw[ht,bnd]
 refine Ans.cnd (λ_=>Ans.inr ⟨[],h0,List.Pairwise.nil,by simpa using hm.1⟩) (λok=>?_)
 have ok':tok=true:=by
  have: (!tok)=false:=ok
  cases tok with
  |true=>rfl
  |false=>cases this
 obtain⟨e,_,hpt⟩:=hto ok'
 refine Ans.cnd (λh5=>Ans.cnd (λhle=>?_) (λ_=>Ans.inl)) (λ_=>Ans.inl)
 have h5':t.ab=5:=of_decide_eq_true h5
 have hle': ((t.af.length:Nat):Int)≤most:=of_decide_eq_true hle
 obtain⟨es,he,hks,hes⟩:=ke hn hpt h5'
 have hel:=kd hks
 dsimp only
 rw[he,bnd]
 have ee: ∀ts:TS,(ts.1,ts.2.1,ts.2.2.1,ts.2.2.2)=ts:=λts=>rfl
 refine Ans.loop (λk s=>s.1=(k:Int)∧I ((es.map (·.key)).take k) s.2) (λb=>∀y,b=.inr y→I (es.map (·.key)) y) es.length ⟨rfl,by simpa using h0⟩ ?_ ?_ (by omega) ?_
 ·intro q s hq hI
  obtain⟨i,ts⟩:=s
  obtain⟨i1,i2⟩:=hI
  have i1':i=(q:Int):=i1
  have i2':I ((es.map (·.key)).take q) ts:=i2
  subst i1'
  have hg:aU es (q:Int)=some es[q]:=by simp[aU,hq]
  obtain⟨hev,hkl⟩:=hes es[q] (List.getElem_mem hq)
  obtain⟨e',_,hpx⟩:=hpt.part hev (q:=undS tp es[q].key) (by have:=jy tp es[q].key;omega)
  have ev: (⟨es[q].v.ab,(es[q].v.ah),es[q].v.ai,es[q].v.aa,es[q].v.ac,es[q].v.af⟩:TD0)=es[q].v:=evV _
  obtain⟨r,hr,hrp⟩:=hcl _ es[q].key es[q].v (undS tp es[q].key) ts (by rw[List.length_take];omega) i2' ⟨e',hpx⟩
  unfold secStep
  dsimp only
  rw[dT (by omega),cT,hg,bnd,iF (by omega) (by omega),bnd,jd (by have:=hpt.len;omega) (by omega),bnd,bnd,ev]
  cases nameS es[q].key with
  |false=>right;rw[cF];exact⟨_,rfl,λy hy=>by cases hy⟩
  |true=>
   rw[cT,hr,bnd]
   cases r with
   |inl z=>right;exact⟨_,rfl,λy hy=>by cases hy⟩
   |inr z=>
    left
    dsimp only
    rw[aZ (by omega) (by omega)]
    refine⟨_,rfl,by dsimp only;omega,?_⟩
    have:=hrp z rfl
    rw[List.take_add_one,List.getElem?_map,List.getElem?_eq_getElem hq]
    exact this
 ·intro s hI
  obtain⟨i,ts⟩:=s
  obtain⟨i1,i2⟩:=hI
  have i1':i=(es.length:Int):=i1
  subst i1'
  unfold secStep
  dsimp only
  rw[dF (by omega),cF]
  refine⟨_,rfl,λy hy=>?_⟩
  cases hy
  have:I ((es.map (·.key)).take es.length) ts:=i2
  rwa [List.take_of_length_le (by simp)] at this
 ·intro b hb
  cases b with
  |inl y=>exact Ans.inl
  |inr y=>exact Ans.inr ⟨_,hb y rfl,by rw[hks];exact oz (nodup_ok hpt.2.1),by rw[List.length_map];omega⟩
def GT:Nat→TA0→Int→Prop
 |0,_,_=>False
 |k+1,t,deep=>deep≤2∧t.aO.length≤6∧t.aW.length≤6∧t.bU.length≤8∧t.bC.length≤6∧Rise (t.aO.map (·.aj))∧Rise (t.aW.map (·.aj))∧Rise (t.bU.map (·.jn))∧Rise (t.bC.map (·.aj))∧
  ∀x∈t.bU,(x.cA=[83,116,97,99,107]↔x.bg.length=1)∧x.bg.length≤1∧x.bA.length≤8∧(Rise (x.bT.map (·.aj))∧x.bT.length≤3000)∧∀u∈x.bg,GT k u (deep+1)
def GR (k:Nat) (deep:Int) (x:TB0):Prop:=(x.cA=[83,116,97,99,107]↔x.bg.length=1)∧x.bg.length≤1∧x.bA.length≤8∧(Rise (x.bT.map (·.aj))∧x.bT.length≤3000)∧∀u∈x.bg,GT k u (deep+1)
abbrev RcTm:=TD0→Bs→Int→Option (FX TA0)
theorem resource_run {n : Nat} (hn : 100000 ≤ n) {k : Nat} {deep : Int} (hd0 : 0 ≤ deep) {rc : RcTm} (hrc : deep < 2 → ∀ y q, VP y q → Ans (rc y q (deep + 1)) (fun t => GT k t (deep + 1))) {id : List UInt8} {v : TD0} {p : List UInt8} (h : VP v p) :
  Ans (dG n rc id v p deep) (fun x => x.jn = id ∧ GR k deep x) := by
 unfold dG
 refine Ans.bind (gU hn h (by simp)) (fun p' => ⟨p', rfl⟩) (fun x hx => ?_)
 obtain ⟨rfl, h5⟩ := hx
 obtain ⟨d, h⟩ := h
 dsimp only
 obtain ⟨t, tp, tok, ht, hto⟩ := cI hn h (key := [84, 121, 112, 101]) (by decide)
 rw [ht, bnd]
 refine Ans.cnd (fun ok => ?_) (fun _ => Ans.inl)
 refine Ans.bind (mc hn (fun _ => ?_)) (fun p' => ⟨p', rfl⟩) (fun ty _ => ?_)
 ·obtain ⟨e, _, hpt⟩ := hto ok
  exact hpt.txt
 dsimp only
 obtain ⟨t2, tp2, tok2, ht2, hto2⟩ := cI hn h (key := [67, 111, 110, 100, 105, 116, 105, 111, 110]) (by decide)
 rw [ht2, bnd]
 refine Ans.bind (mc hn (fun ok2 => ?_)) (fun p' => ⟨p', rfl⟩) (fun co _ => ?_)
 ·obtain ⟨e, _, hpt⟩ := hto2 ok2
  exact hpt.txt
 dsimp only
 obtain ⟨t3, tp3, tok3, ht3, hto3⟩ := cI hn h (key := [68, 101, 112, 101, 110, 100, 115, 79, 110]) (by decide)
 rw [ht3, bnd]
 refine Ans.bind (depends_run hn (fun ok3 => ?_)) (fun p' => ⟨p', rfl⟩) (fun de hde => ?_)
 ·obtain ⟨e, _, hpt⟩ := hto3 ok3
  exact ⟨e, hpt⟩
 dsimp only
 obtain ⟨t4, tp4, tok4, ht4, hto4⟩ := cI hn h (key := [68, 101, 108, 101, 116, 105, 111, 110, 80, 111, 108, 105, 99, 121]) (by decide)
 rw [ht4, bnd]
 refine AnsJ.join (Q' := fun _ => True) ?_ (fun _ _ => ?_)
 ·exact AnsJ.cnd (fun _ => AnsJ.nx trivial) (fun _ => AnsJ.cnd (fun _ => AnsJ.cnd (fun _ => AnsJ.nx trivial) (fun _ => AnsJ.cnd (fun _ => AnsJ.nx trivial) (fun _ => AnsJ.br))) (fun _ => AnsJ.br))
 obtain ⟨t5, tp5, tok5, ht5, hto5⟩ := cI hn h (key := [80, 114, 111, 112, 101, 114, 116, 105, 101, 115]) (by decide)
 rw [ht5, bnd]
 refine Ans.cnd (fun hns => ?_) (fun hst => ?_)
 ·have hne : ¬ ty = [83, 116, 97, 99, 107] := fun e => by rw [decide_eq_true e] at hns; cases hns
  refine AnsJ.join (Q' := fun l => Rise (l.map (·.aj)) ∧ l.length ≤ 3000) ?_ (fun l hl => ?_)
  ·refine AnsJ.cnd (fun ok5 => ?_) (fun _ => AnsJ.nx ⟨List.Pairwise.nil, Nat.zero_le _⟩)
   obtain ⟨e, _, hpt⟩ := hto5 ok5
   exact AnsJ.bind (ox hn ⟨e, hpt⟩) (fun p' => ⟨p', rfl⟩) (fun l hl => AnsJ.nx hl)
  ·exact Ans.inr ⟨rfl, ⟨fun e => absurd e hne, fun e => by cases e⟩, Nat.zero_le _, hde, hl, fun u hu => by cases hu⟩
 ·have hty : ty = [83, 116, 97, 99, 107] := by
   have : (!decide (ty = [83, 116, 97, 99, 107])) = false := hst
   cases hb : decide (ty = [83, 116, 97, 99, 107]) with
   | true => exact of_decide_eq_true hb
   | false => rw [hb] at this; cases this
  refine Ans.cnd (fun ok5 => ?_) (fun _ => Ans.inl)
  obtain ⟨e, _, hpt⟩ := hto5 ok5
  refine Ans.bind (gU hn ⟨e, hpt⟩ (by simp)) (fun p' => ⟨p', rfl⟩) (fun x hx => ?_)
  obtain ⟨rfl, h55⟩ := hx
  dsimp only
  obtain ⟨t6, tp6, tok6, ht6, hto6⟩ := cI hn hpt (key := [84, 101, 109, 112, 108, 97, 116, 101]) (by decide)
  rw [ht6, bnd]
  refine Ans.cnd (fun ok6 => ?_) (fun _ => Ans.inl)
  obtain ⟨e6, _, hpt6⟩ := hto6 ok6
  refine Ans.cnd (fun hdp => ?_) (fun _ => Ans.inl)
  have hdp' : deep < 2 := of_decide_eq_true hdp
  rw [aZ (by omega) (by omega)]
  refine Ans.bind (hrc hdp' t6 tp6 ⟨e6, hpt6⟩) (fun p' => ⟨p', rfl⟩) (fun tm htm => ?_)
  dsimp only
  have etm : (⟨tm.aO, tm.aW, tm.bU, tm.bC⟩ : TA0) = tm := by cases tm; rfl
  obtain ⟨t7, tp7, tok7, ht7, hto7⟩ := cI hn hpt (key := [80, 97, 114, 97, 109, 101, 116, 101, 114, 115]) (by decide)
  rw [ht7, bnd, etm]
  have hin : ∀ u ∈ [tm], GT k u (deep + 1) := fun u hu => by
   obtain rfl := List.mem_singleton.1 hu
   exact htm
  refine Ans.cnd (fun ok7 => ?_) (fun _ => Ans.inr ⟨rfl, ⟨fun _ => rfl, fun _ => hty⟩, Nat.le_refl _, hde, ⟨List.Pairwise.nil, Nat.zero_le _⟩, hin⟩)
  obtain ⟨e7, _, hpt7⟩ := hto7 ok7
  exact Ans.bind (ox hn ⟨e7, hpt7⟩) (fun p' => ⟨p', rfl⟩) (fun l hl => Ans.inr ⟨rfl, ⟨fun _ => rfl, fun _ => hty⟩, Nat.le_refl _, hde, hl, hin⟩)
def I1 (b:List TH0) (c:List TB0) (d:List TC0) (names:List Bs) (ts:TS):Prop:=ts.1.map (·.aj)=names∧ts.2=(b,c,d)
def I2 (a:List TE0) (c:List TB0) (d:List TC0) (names:List Bs) (ts:TS):Prop:=ts.2.1.map (·.aj)=names∧ts.1=a∧ts.2.2=(c,d)
def I3 (k:Nat) (deep:Int) (a:List TE0) (b:List TH0) (d:List TC0) (names:List Bs) (ts:TS):Prop:=ts.2.2.1.map (·.jn)=names∧ts.1=a∧ts.2.1=b∧ts.2.2.2=d∧∀x∈ts.2.2.1,GR k deep x
def I4 (a:List TE0) (b:List TH0) (c:List TB0) (names:List Bs) (ts:TS):Prop:=ts.2.2.2.map (·.aj)=names∧ts.1=a∧ts.2.1=b∧ts.2.2.1=c
theorem len_of {α:Type} {f:α→Bs} {l:List α} {names:List Bs} (h:l.map f=names) (hl:names.length≤10):l.length≤10:=by
 have:=congrArg List.length h
 rw[List.length_map] at this
 omega
theorem cl1_run {n:Nat} (hn:100000≤n) {b:List TH0} {c:List TB0} {d:List TC0} (names:List Bs) (k:Bs) (y:TD0) (q:Bs) (ts:TS) (hl:names.length≤10) (hI:I1 b c d names ts) (h:VP y q):
 Ans (cZ n k y q ts.1 ts.2.1 ts.2.2.1 ts.2.2.2) (I1 b c d (names++[k])):=by
 obtain⟨h1,h2⟩:=hI
 have hlen:=len_of h1 hl
 unfold cZ
 refine AnsJ.join (Q':=λl=>l.map (·.aj)=names++[k]) ?_ (λl hl2=>Ans.inr ⟨hl2,h2⟩)
 refine AnsJ.bind (param_run hn h) (λp'=>⟨p',bi (by omega)⟩) (λx hx=>?_)
 rw[bi (by omega)]
 exact AnsJ.nx (by rw[List.map_append,h1];show names++[x.aj]=_;rw[hx])
theorem cl2_run {n:Nat} (hn:100000≤n) {a:List TE0} {c:List TB0} {d:List TC0} (names:List Bs) (k:Bs) (y:TD0) (q:Bs) (ts:TS) (hl:names.length≤10) (hI:I2 a c d names ts) (h:VP y q):
 Ans (da n k y q ts.1 ts.2.1 ts.2.2.1 ts.2.2.2) (I2 a c d (names++[k])):=by
 obtain⟨h1,h2,h3⟩:=hI
 have hlen:=len_of h1 hl
 unfold da
 refine AnsJ.join (Q':=λl=>l.map (·.aj)=names++[k]) ?_ (λl hl2=>Ans.inr ⟨hl2,h2,h3⟩)
 have hg:aU (ts.2.1++[(⟨([]:Bs),(0:Int),ae,ae,([]:List TH0)⟩:TH0)]) ((ts.2.1.length:Nat):Int)=some ⟨[],0,ae,ae,[]⟩:=by simp[aU]
 refine AnsJ.bind (defined_run hn h) (λp'=>⟨p',by rw[bi (by omega),hg,bnd]⟩) (λx hx=>?_)
 rw[bi (by omega),hg,bnd]
 refine AnsJ.nx ?_
 rw[Int.toNat_natCast,List.set_append_right _ _ (Nat.le_refl _),Nat.sub_self,List.set_cons_zero,List.map_append,h1]
 show names++[x.aj]=_
 rw[hx]
theorem cl3_run {n:Nat} (hn:100000≤n) {j:Nat} {deep:Int} (hd0:0≤deep) {rc:RcTm} (hrc:deep<2→∀y q,VP y q→Ans (rc y q (deep+1)) (λt=>GT j t (deep+1))) {a:List TE0} {b:List TH0} {d:List TC0} (names:List Bs) (k:Bs) (y:TD0) (q:Bs) (ts:TS) (hl:names.length≤10) (hI:I3 j deep a b d names ts) (h:VP y q):
 Ans (cz n rc k y q ts.1 ts.2.1 ts.2.2.1 ts.2.2.2 deep) (I3 j deep a b d (names++[k])):=by
 obtain⟨h1,h2,h3,h4,h5⟩:=hI
 have hlen:=len_of h1 hl
 unfold cz
 refine AnsJ.join (Q':=λl=>l.map (·.jn)=names++[k]∧∀x∈l,GR j deep x) ?_ (λl hl2=>Ans.inr ⟨hl2.1,h2,h3,h4,hl2.2⟩)
 refine AnsJ.bind (resource_run hn hd0 hrc h) (λp'=>⟨p',bi (by omega)⟩) (λx hx=>?_)
 rw[bi (by omega)]
 have ex: (⟨x.jn,x.cA,x.dm,x.bT,x.bA,(x.cU),x.bg⟩:TB0)=x:=by cases x;rfl
 dsimp only
 rw[ex]
 refine AnsJ.nx ⟨by rw[List.map_append,h1];show names++[x.jn]=_;rw[hx.1],λz hz=>?_⟩
 rcases List.mem_append.1 hz with hz|hz
 ·exact h5 z hz
 ·obtain rfl:=List.mem_singleton.1 hz
  exact hx.2
theorem cl4_run {n:Nat} (hn:100000≤n) {a:List TE0} {b:List TH0} {c:List TB0} (names:List Bs) (k:Bs) (y:TD0) (q:Bs) (ts:TS) (hl:names.length≤10) (hI:I4 a b c names ts) (h:VP y q):
 Ans (db n k y q ts.1 ts.2.1 ts.2.2.1 ts.2.2.2) (I4 a b c (names++[k])):=by
 obtain⟨h1,h2,h3,h4⟩:=hI
 have hlen:=len_of h1 hl
 unfold db
 refine AnsJ.join (Q':=λl=>l.map (·.aj)=names++[k]) ?_ (λl hl2=>Ans.inr ⟨hl2,h2,h3,h4⟩)
 refine AnsJ.bind (output_run hn h) (λp'=>⟨p',bi (by omega)⟩) (λx hx=>?_)
 rw[bi (by omega)]
 exact AnsJ.nx (by rw[List.map_append,h1];show names++[x.aj]=_;rw[hx])
theorem lM {n:Nat} (hn:100000≤n): ∀ (k:Nat) (deep:Int) (v:TD0) (p:Bs),0≤deep→deep≤2→2-deep<(k:Int)→VP v p→Ans (cx n k v p deep) (λt=>GT k t deep)
 |0,deep,v,p,h0,h2,hk,_=>absurd hk (by omega)
 |k+1,deep,v,p,h0,h2,hk,h=>by
  show Ans (dH n (cx n k) v p deep) _
  unfold dH
  refine Ans.bind (gU hn h (by simp)) (λp'=>⟨p',rfl⟩) (λx hx=>?_)
  obtain⟨rfl,h5⟩:=hx
  obtain⟨d,h⟩:=h
  dsimp only
  rw[sec1_eq]
  refine Ans.bind (mT hn h (by decide) (by decide) (I1 [] [] []) ⟨rfl,rfl⟩ (λnames k y q ts hl hI hy=>cl1_run hn names k y q ts hl hI hy)) (λp'=>⟨p',rfl⟩) (λts1 hts1=>?_)
  obtain⟨n1,⟨a1,a2⟩,a3,a4⟩:=hts1
  obtain⟨pa,b1,c1,d1⟩:=ts1
  obtain⟨rfl,rfl,rfl⟩:b1=[]∧c1=[]∧d1=[]:=by
   have: (b1,c1,d1)=(([]:List TH0),([]:List TB0),([]:List TC0)):=a2
   simpa using this
  have a1':pa.map (·.aj)=n1:=a1
  dsimp only
  rw[sec2_eq]
  refine Ans.bind (mT hn h (by decide) (by decide) (I2 pa [] []) ⟨rfl,rfl,rfl⟩ (λnames k y q ts hl hI hy=>cl2_run hn names k y q ts hl hI hy)) (λp'=>⟨p',rfl⟩) (λts2 hts2=>?_)
  obtain⟨n2,⟨b1,b2,b3⟩,b4,b5⟩:=hts2
  obtain⟨pa',cs,c1,d1⟩:=ts2
  have e1:pa'=pa:=b2
  obtain⟨rfl,rfl⟩:c1=[]∧d1=[]:=by
   have: (c1,d1)=(([]:List TB0),([]:List TC0)):=b3
   simpa using this
  subst e1
  have b1':cs.map (·.aj)=n2:=b1
  dsimp only
  rw[sec3_eq]
  refine Ans.bind (mT hn h (by decide) (by decide) (I3 k deep pa' cs []) ⟨rfl,rfl,rfl,rfl,λx hx=>by cases hx⟩ (λnames k y q ts hl hI hy=>cl3_run hn h0 (λhd y q hyq=>lM hn _ (deep+1) y q (by omega) (by omega) (by omega) hyq) names k y q ts hl hI hy)) (λp'=>⟨p',rfl⟩) (λts3 hts3=>?_)
  obtain⟨n3,⟨c1,c2,c3,c4,c5⟩,c6,c7⟩:=hts3
  obtain⟨pa2,cs2,rs,d1⟩:=ts3
  have e1:pa2=pa':=c2
  have e2:cs2=cs:=c3
  have e3:d1=[]:=c4
  subst e1 e2 e3
  have c1':rs.map (·.jn)=n3:=c1
  dsimp only
  rw[sec4_eq]
  refine Ans.bind (mT hn h (by decide) (by decide) (I4 pa2 cs2 rs) ⟨rfl,rfl,rfl,rfl⟩ (λnames k y q ts hl hI hy=>cl4_run hn names k y q ts hl hI hy)) (λp'=>⟨p',rfl⟩) (λts4 hts4=>?_)
  obtain⟨n4,⟨f1,f2,f3,f4⟩,f5,f6⟩:=hts4
  obtain⟨pa3,cs3,rs3,os⟩:=ts4
  have e1:pa3=pa2:=f2
  have e2:cs3=cs2:=f3
  have e3:rs3=rs:=f4
  subst e1 e2 e3
  have f1':os.map (·.aj)=n4:=f1
  refine Ans.inr ?_
  have l1:pa3.length=n1.length:=by rw[←a1',List.length_map]
  have l2:cs3.length=n2.length:=by rw[←b1',List.length_map]
  have l3:rs3.length=n3.length:=by rw[←c1',List.length_map]
  have l4:os.length=n4.length:=by rw[←f1',List.length_map]
  exact⟨h2,by show pa3.length≤6;omega,by show cs3.length≤6;omega,by show rs3.length≤8;omega,by show os.length≤6;omega,by show Rise (pa3.map (·.aj));rw[a1'];exact a3,by show Rise (cs3.map (·.aj));rw[b1'];exact b4,by show Rise (rs3.map (·.jn));rw[c1'];exact c6,by show Rise (os.map (·.aj));rw[f1'];exact f5,c5⟩
set_option maxRecDepth 20000 in
theorem readD_0 {M:Mem} {w0:World} {H:List Ent} {w:World} (b4 b2:Nat) (hp:Hp w0 M (oC b4 #[iL 0] 32::H) w):CallsD Tryz.prog 22 [pP b4,pP b2].toArray .returning w (λe u' w'=>∃v,e=.returned v∧settle u'=.returning∧Hp w0 M (oC b4 #[iL 0] 32::H) w'):=by
 refine CallsD.mono' (callsD_of_wp (R:=λe w'=>∃v,e=.returned v∧Hp w0 M (oC b4 #[iL 0] 32::H) w') Tryz.func22 rfl ?_) λe u w ⟨hu,v,he,hq⟩=>⟨v,he,by rw[hu];rfl,hq⟩
 have f:Frm 5 (frame0 [pP b4,pP b2] 0) _:=kF (by simp)
 refine RR (Z f (Y30 (v:=iL 0) rfl (ad:=⟨b4,0,none⟩) (hp.ownCell 0 rfl 0)) λ_ f=>eN (L':=[(3,bO false)]) (w':=w) f 1 [3] kr λ_ f=>eT (Y7 f (wp_skip (dK f rfl ?_))))
 exact⟨_,rfl,hp⟩
set_option maxRecDepth 20000 in
theorem readD_z {M:Mem} {w0:World} {H:List Ent} {w:World} (b4 b2:Nat) (e0:Int) (hp:Hp w0 M (Ent.obj b4 (.cells #[.int .i64 e0] 32 (0,0))::Ent.obj b2 (.cells #[.slice none 0 0,.slice none 0 0,.slice none 0 0,.slice none 0 0] 41 (0,0))::H) w):CallsD Tryz.prog 22 [.pointer (some ⟨b4,0,none⟩),.pointer (some ⟨b2,0,none⟩)].toArray .returning w (λe u' w'=>∃v,e=.returned v∧settle u'=.returning∧Hp w0 M (Ent.obj b4 (.cells #[.int .i64 e0] 32 (0,0))::Ent.obj b2 (.cells #[.slice none 0 0,.slice none 0 0,.slice none 0 0,.slice none 0 0] 41 (0,0))::H) w'):=by
 refine CallsD.mono' (callsD_of_wp (R:=λe w'=>∃v,e=.returned v∧Hp w0 M (Ent.obj b4 (.cells #[.int .i64 e0] 32 (0,0))::Ent.obj b2 (.cells #[.slice none 0 0,.slice none 0 0,.slice none 0 0,.slice none 0 0] 41 (0,0))::H) w') Tryz.func22 rfl ?_) λe u w ⟨hu,v,he,hq⟩=>⟨v,he,by rw[hu];rfl,hq⟩
 have f:Frm 5 (frame0 [.pointer (some ⟨b4,0,none⟩),.pointer (some ⟨b2,0,none⟩)] 0) _:=kF (by simp)
 refine RR (Z f (Y30 (v:=.int .i64 e0) rfl (ad:=⟨b4,0,none⟩) (hp.ownCell 0 rfl 0)) λ_ f=>Y f 1 λ_ f=>eT (Y6 f (b:= !(decide (e0=0))) (λB1=>?_) λB1=>?_))
 ·have U1: ¬ (e0=0):=(cn dI).1 B1
  refine aN (Y f 1 λ_ f=>?_)
  have N1:=hp.pl [1]
  refine Y26 (vs:=[.slice none 0 0,.slice none 0 0,.slice none 0 0,.slice none 0 0]) (j:=0) f N1 rfl rfl (by simp[Value.oneCell',S]) (by simp) (by decide) (cs':=#[.slice none 0 0,.slice none 0 0,.slice none 0 0,.slice none 0 0]) λW1 N2 _ f=>am rfl ?_
  have N3:=N2.pl [1]
  refine dK f rfl ?_
  exact⟨_,rfl,N3⟩
 ·have U2: ¬ (¬ (e0=0)):=aA (cn dI) B1
  refine wp_skip (dK f rfl ?_)
  exact⟨_,rfl,hp⟩
def ia (n:Nat) (d0:TD0):Option (TA0×Bs×Int):=
 (hP n d0).bind λX1=>
 bif(!(decide (X1=0))) then
  (some ((z_TA0,([]:Bs),X1)))
 else
  (io n d0 ([]:Bs) (0:Int)).bind λX2=>
  (match X2 with
  |.inl X3=>some ((z_TA0,X3.2,X3.1))
  |.inr X4=>some ((X4,([]:Bs),(0:Int))))
theorem kw (n:Nat) (M:Mem) (hG:GL M) (c0:Lv) (d0:TD0) (h0:Rep M (ap d0) c0) (r:TA0×Bs×Int) (hF:ia n d0=some r):Ok Tryz.prog M 11 [.agg c0.toArray] (λM' v=>∃ (c0:Lv),v=.tuple #[.agg c0.toArray,S r.2.1,iL r.2.2]∧Rep M' (bY r.1) c0):=by
 unfold ia at hF
 intro M1 hM0 w0 H w p0
 replace hG:=GL.mono hM0 hG
 replace h0:=Rep.mono hM0 _ _ h0
 obtain⟨Z1,P1,Z2,P2,rfl,B1,B2⟩:=TD0.opn h0
 refine R_enterD 15 Tryz.func11 rfl rfl (by simp) λa0 f0=>RR (Y13 (cs:=(aTD0 d0 Z1 P1 Z2 P2)) (T:=26) f0 p0 λQ1 V1 W1 J1 R1 N1 _ f=>?_)
 have R2:=bR R1
 refine Y12 f N1 (.cells #[Sn,Sn,Sn,Sn] 41 (0,0)) λQ2 W2 N2 _ f=>Y12 f N2 (.cells #[S []] 9 (0,0)) λQ3 W3 N3 _ f=>Y12 f N3 (.cells #[iL 0] 32 (0,0)) λQ4 W4 N4 _ f=>eT (aq (RR (Z f (Y31 (cs:=(lTD0 d0 Z1 P1 Z2 P2)) rfl (ad:=⟨Q1,0,none⟩) (λj v h=>N4.cell (R2 j v h))) λ_ f=>?_)))
 obtain⟨X1,l1,F1⟩:=bS hF
 refine Y18 f N4 (kS n _ (GL.mono J1 hG) _ d0 (TD0.shutx (x:=d0) (B1.mono J1) (B2.mono J1)) X1 l1) λW5 N5 _ f=>Ye f 1 λ_ f=>RR (Ye f 2 λ_ f=>RcF f F1 (λB3 F2=>?_) λB3 F3=>?_)
 ·have U1: ¬ (X1=0):=(cn dI).1 B3
  refine RR (Z f (Y31 (cs:=[Sn,Sn,Sn,Sn]) rfl (ad:=⟨Q2,0,none⟩) (an (N5.ownCell 2 rfl) 0 rfl)) λ_ f=>Y f 1 λ_ f=>?_)
  have N6:=N5.pl [2]
  refine Ys [Sn,Sn,Sn,Sn] #[Sn,Sn,Sn,Sn] f N6 rfl rfl λW6 N7 _ f=>Y25 f N7 2 rfl rfl (b:=Q3) (j:=0) (v:=S []) rfl (by exact rfl) (by simp) (by simp) ((oC Q2 #[Sn,Sn,Sn,Sn] 41)::(oC Q4 #[iL 0] 32)::(oC Q3 #[S []] 9)::H) rfl λW7 N8 _ f=>Y25 f N8 1 rfl rfl (b:=Q4) (j:=0) (v:=iL X1) rfl (by exact rfl) (by simp) (by simp) ((oC Q2 #[Sn,Sn,Sn,Sn] 41)::(oC Q4 #[iL X1] 32)::(oC Q3 #[S []] 9)::H) rfl λW8 N9 _ f=>Er (dj (E_D0 f (oa rfl (Y10 (cs:=[Sn,Sn,Sn,Sn]) (ad:=⟨Q2,0,none⟩) f (an (N9.ownCell 0 rfl) 0 rfl)) (Y9 (v:=S []) (ad:=⟨Q3,0,none⟩) f (N9.ownCell 2 rfl 0)) (Y9 (v:=iL X1) (ad:=⟨Q4,0,none⟩) f (N9.ownCell 1 rfl 0)) ?_)))
  cases sI F2
  exact⟨_,rfl,V1,J1,(N9.dropN 3),⟨[Sn,Sn,Sn,Sn],rfl,(TA0.shut Sli.nil Sli.nil Sli.nil Sli.nil)⟩⟩
 ·have U2: ¬ (¬ (X1=0)):=aA (cn dI) B3
  refine St (RR (Y f 1 λ_ f=>W_defer ({target:=.fn (.func 22) #[pP Q4,pP Q2],args:=#[]}) f kr kr rfl kr λ_ f=>eT (RR (W_defer ({target:=.fn (.func 17) #[],args:=#[pP Q3,pP Q4]}) f kr kr rfl kr λ_ f=>eT (RR (Z f (Y31 (cs:=(lTD0 d0 Z1 P1 Z2 P2)) rfl (ad:=⟨Q1,0,none⟩) (λj v h=>N5.cell (R2 j v h))) λ_ f=>?_))))))
  obtain⟨X2,l2,F4⟩:=bS F3
  rcases X2 with X3|X4
  ·refine aH f N5 (iM n _ (GL.mono J1 hG) _ d0 (TD0.shutx (x:=d0) (B1.mono J1) (B2.mono J1)) ([]:Bs) (0:Int) (.inl X3) l2) kr (λ_=>by kernel_rfl) λV2 W9 J2 N10=>bM ?_
   have N15:=N10.pl [2,1,2]
   refine E_D2p (S2:=λw=>Hp w0 V2 ((oC Q4 #[iL X3.1] 32)::(oC Q2 #[Sn,Sn,Sn,Sn] 41)::(oC Q3 #[S X3.2] 9)::H) w) f rfl (λ_=>by kernel_rfl) rfl (λ_=>by kernel_rfl) (taken_p Q3 Q4 X3 ([]:Bs) (0:Int) N15) (λW11 N12=>CallsD.mono' (readD_z Q4 Q2 X3.1 (N12.perm ((List.Perm.swap _ _ _).trans (List.Perm.cons _ (List.Perm.swap _ _ _))))) (λ_ _ _ hh=>hh)) λW10 N11=>oa rfl (Y10 (cs:=[Sn,Sn,Sn,Sn]) (ad:=⟨Q2,0,none⟩) f (an (N11.ownCell 1 rfl) 0 rfl)) (Y9 (v:=S X3.2) (ad:=⟨Q3,0,none⟩) f (N11.ownCell 2 rfl 0)) (Y9 (v:=iL X3.1) (ad:=⟨Q4,0,none⟩) f (N11.ownCell 0 rfl 0)) ?_
   cases sI F4
   exact⟨_,rfl,V2,(J1.trans J2),(N11.dropN 3),⟨[Sn,Sn,Sn,Sn],rfl,(TA0.shut Sli.nil Sli.nil Sli.nil Sli.nil)⟩⟩
  ·refine Y16 f N5 (OkX.ok (iM n _ (GL.mono J1 hG) _ d0 (TD0.shutx (x:=d0) (B1.mono J1) (B2.mono J1)) ([]:Bs) (0:Int) (.inr X4) l2)) λ_ V3 W12 J3 N18 eM _ f=>?_
   obtain⟨eF,rfl,D1⟩:=eM
   obtain⟨Z3,P3,Z4,P4,Z5,P5,Z6,P6,rfl,B4,B5,B6,B7⟩:=TA0.opn D1
   have N19:=N18.pl [2]
   refine Ys (lTA0 X4 Z3 P3 Z4 P4 Z5 P5 Z6 P6) (aTA0 X4 Z3 P3 Z4 P4 Z5 P5 Z6 P6) f N19 rfl rfl λW13 N20 _ f=>Y25 f N20 2 rfl rfl (b:=Q3) (j:=0) (v:=S []) rfl (by exact rfl) (by simp) (by simp) ((Ent.obj Q2 (.cells (aTA0 X4 Z3 P3 Z4 P4 Z5 P5 Z6 P6) 41 (0,0)))::(oC Q4 #[iL 0] 32)::(oC Q3 #[S []] 9)::H) rfl λW14 N21 _ f=>Y25 f N21 1 rfl rfl (b:=Q4) (j:=0) (v:=iL 0) rfl (by exact rfl) (by simp) (by simp) ((Ent.obj Q2 (.cells (aTA0 X4 Z3 P3 Z4 P4 Z5 P5 Z6 P6) 41 (0,0)))::(oC Q4 #[iL 0] 32)::(oC Q3 #[S []] 9)::H) rfl λW15 N22 _ f=>Er ?_
   have N27:=N22.pl [2,1,2]
   refine E_D2 f rfl (λ_=>by kernel_rfl) rfl (λ_=>by kernel_rfl) (taken_q Q3 Q4 N27) (λW17 N24=>readD_0 Q4 Q2 N24) λW16 N23=>oa rfl (Y10 (cs:=(lTA0 X4 Z3 P3 Z4 P4 Z5 P5 Z6 P6)) (ad:=⟨Q2,0,none⟩) f (an (N23.ownCell 1 rfl) 0 rfl)) (Y9 (v:=S []) (ad:=⟨Q3,0,none⟩) f (N23.ownCell 2 rfl 0)) (Y9 (v:=iL 0) (ad:=⟨Q4,0,none⟩) f (N23.ownCell 0 rfl 0)) ?_
   cases sI F4
   exact⟨_,rfl,V3,(J1.trans J3),(N23.dropN 3),⟨[sL Z3 X4.aO P3,sL Z4 X4.aW P4,sL Z5 X4.bU P5,sL Z6 X4.bC P6],rfl,(TA0.shutx (x:=X4) B4 B5 B6 B7)⟩⟩
end Go.Proofs.YtkopljikappieaaGreatDoor
