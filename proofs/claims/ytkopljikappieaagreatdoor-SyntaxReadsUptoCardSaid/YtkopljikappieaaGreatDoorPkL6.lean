/-
  Texts of this claim, packed (what nothing names is left out): Z3, ReadH, Z5, ZW, LE, SynL1. Own work, partly printed by own programs. No condition.
-/
import Derived.Test.YtkopljikappieaaGreatDoorPkL5
import Derived.Test.YtkopljikappieaaGreatDoorPkL4
import Derived.Test.YtkopljikappieaaGreatDoorPkL1
import Derived.Test.YtkopljikappieaaGreatDoorRows
import Derived.Test.YtkopljikappieaaGreatDoorPkL2
set_option linter.unusedVariables false
set_option linter.unusedSimpArgs false
set_option maxHeartbeats 2000000
section
namespace Go.Proofs.YtkopljikappieaaGreatDoor
open Go Go.Vc Go.RowKit
set_option maxRecDepth 20000 in
theorem jQ (n:Nat) (M:Mem) (hG:GL M) (c0:Lv) (d0:TE0) (h0:Rep M (ai d0) c0) (d1:Bs) (r:Sum (Int×Bs) (List TF0)) (hF:jv n d0 d1=some r):OkXH Tryz.prog M [] 101 [.agg c0.toArray,S d1] 78 r (λr=>λM' E' v=>∃ (A0:Oa) (k0:Nat) (s0:Lv),v=sL A0 r k0∧E'=[.row 70 7 (sL A0 r k0) r.length s0]∧ae M' (r.map cI) s0):=by
 unfold jv at hF
 intro M1 hM0 w0 H w p0
 replace hG:=GL.mono hM0 hG
 replace h0:=Rep.mono hM0 _ _ h0
 obtain⟨Z1,P1,Z2,P2,rfl,B1,B2⟩:=TE0.opn h0
 refine Re 41 Tryz.func101 rfl λa0 f0=>RR (Y5 (cs:=(aTE0 d0 Z1 P1 Z2 P2)) (T:=26) f0 p0 λQ1 V1 W1 J1 R1 N1 _ f=>?_)
 have R2:=aU R1
 refine Ye f 1 λ_ f=>RR (Y f 1 λ_ f=>Y7 f N1 R2 0 rfl λ_ f=>Y f 2 λ_ f=>?_)
 rcases cE hF with⟨B3,F1⟩|⟨B3,F14⟩
 ·have f:=f.st 10 (cB B3)
  refine Y9 f N1 (bA _ (120:Int) d1) λW2 N2 _ f=>eT (ah (RR (Z f (XK N2 R2 0) λ_ f=>?_)))
  obtain⟨X1,l1,F2⟩:=bS F1
  refine Ch f N2 (eM n _ hG.mo _ d0 h0.mo X1 l1) λ_ V2 mG W3 J2 N3 ef _ f=>?_
  obtain⟨Z3,P3,L1,rfl,rfl,D1⟩:=ef
  refine Ye f 2 λ_ f=>wp_block ?_
  obtain⟨Z4,P4,H1,N4⟩:=N3.nilD 70 7 (TF0)
  have f:=f.st 4 (H1)
  have D2:ae V2 (([]:List TF0).map cI) []:=rfl
  obtain⟨Q2,ce,F3⟩:=bS F2
  refine wp_mono (Q:=λe a w=>(∃G1,e=.panic (flawE 78 G1)∧Q2=.inl G1∧∃V7,V2.le V7∧Frm 41 [] a∧Hp w0 V7 (H) w)∨(e=.exit 0∧(∃G2,Q2=.inr G2∧∃V8,V2.le V8∧∃Z10 P11 L4,ae V8 (G2.map cI) L4∧Frm 41 [(4,sL Z10 G2 P11)] a∧Hp w0 V8 ((rO 70 7 Z10 G2 P11 L4)::N4.en.drop 1) w))) (aZ (σ:=(List TF0×Int)×Oa×Nat×Lv) (λx=>match x with|(I1,K1,Z5,P5,L2)=>(((4,sL Z5 K1.1 P5)::(16,iL K1.2)::kpL [1,14,15] f.fr),((rO 70 7 Z5 K1.1 P5 L2)::N4.en.drop 1),λMM=>au (gB n d1 X1) I1 K1=some Q2∧ae MM (K1.1.map cI) L2)) (n,(([]:List TF0),(0:Int)),Z4,P4,[]) (f.kp) N4.kr ⟨ce,D2⟩ ?_) ?_
  ·rintro⟨I1,K1,Z5,P5,L2⟩ V3 _ W4 J3 gL f N5
   obtain⟨ci,D3⟩:=gL
   dsimp only[Hp.en] at N5
   obtain⟨I2,lT,rfl,bg,T1⟩:=aK ci
   unfold gB at bg
   refine RR (Ye f 1 λ_ f=>ah (RcF f bg (λB4 F4=>?_) λB4 F13=>?_))
   ·refine St (ah (wp_block (RR ?_)))
    obtain⟨X2,l2,F5⟩:=bS F4
    obtain⟨Q3,P6,H2,mJ⟩:=N5.rowAddr 1 rfl (bn l2)
    refine Z f (XIo H2 l2) λ_ f=>?_
    obtain⟨dW,-,D4,R3⟩:=ae.get K1.2.toNat (dv em) (ae.mono J3 _ _ D1) (ig l2)
    obtain⟨Z6,P7,Z7,P8,rfl,B5,B6⟩:=aD.opn D4
    refine Z f (XR N5 1 H2 R3 0) λ_ f=>Y4 f N5 (.cells #[S [],iB 0,bO false,iL 0,S [],Sn,Sn] 99 (0,0)) λQ4 W5 N6 _ f=>Wu f N6 0 0 [S X2.key,iB X2.v.ab,bO X2.v.an,iL X2.v.ak,S X2.v.aa,sL Z6 X2.v.ac P7,sL Z7 X2.v.af P8] λW6 N7 _ f=>eT (RR (Y f 2 λ_ f=>Z f (XO N7 0) λ_ f=>?_))
    obtain⟨X3,l3,F6⟩:=bS F5
    refine Y9 f N7 (aR n _ hG.mo d1 X2.key X3 l3) λW7 N8 _ f=>Ye f 1 λ_ f=>RR (Y f 1 λ_ f=>Z f (XO N8 0) λ_ f=>?_)
    obtain⟨X4,l4,F7⟩:=bS F6
    refine Y9 f N8 (dK n _ X2.key X4 l4) λW8 N9 _ f=>Y f 1 λ_ f=>?_
    rcases cE F7 with⟨B7,F8⟩|⟨B7,F12⟩
    ·have f:=f.st 26 (cB B7)
     refine Y9 f N9 (bA _ (120:Int) X3) λW9 N10 _ f=>eT ?_
     have N13:=N10.pl [2,1,2]
     refine cu 1 [(0,true),(1,true),(2,true),(3,true),(4,true),(5,true),(6,false),(7,true),(8,false),(9,false),(10,true)] N13 (Y0 default f 2 λ_ f=>bG f kr kr rfl rfl (λ_ pq=>XO pq 0) λ_ f=>Y0 default f 1 λ_ f=>bG f kr kr rfl rfl (λ_ pq=>XO pq 0) λ_ f=>Y0 default f 1 λ_ f=>bI λW10 N14=>?_)
     obtain⟨X5,l5,F9⟩:=bS F8
     rcases X5 with X6|X7
     ·refine aN f N14 (eB n _ hG.mo _ X2.v (TE0.shutx B5 B6) X3 (.inl X6) l5) kr (λ_=>by kernel_rfl) λV4 W11 J4 N15=>pm f λ_ f=>oP (cj (cj ?_))
      cases sI F9
      exact .inl ⟨_,rfl,(sI T1).symm,_,mL,f.kp,(N15.dropN 3).kr⟩
     refine Y8 f N14 (OkX.ok (eB n _ hG.mo _ X2.v (TE0.shutx B5 B6) X3 (.inr X7) l5)) λ_ V5 W12 J5 N16 iK _ f=>?_
     obtain⟨ie,rfl,D5⟩:=iK
     obtain⟨Z8,P9,rfl,B8⟩:=TG0.opn D5
     refine ag rfl (bL 1 J5 N16 (Y0 default f 1 λ_ f=>bI λW13 N17=>aE (k:=1) (c:=1) f N17 (.cells #[S X2.key,iB X7.ab,S X7.aa,iL X7.ak,S X7.av,S X7.aF,sL Z8 X7.fL P9] 70 (0,0)) kr (λ_=>by kernel_rfl) λQ5 W14 N18 _ f=>ag rfl (bL 2 J5 N18 (bI λW15 N19=>?_))))
     obtain⟨O1,F10⟩:=nS F9
     refine dM (⟨X2.key,X7⟩:TF0) 0 f (N19.toRow 1 70 7 Z5 P5 D3.mo) D3.mo (TF0.shutx B8) O1 λZ9 P10 L3 W16 N20 D6 _ f=>ag rfl (bL 1 J5 N20 (Y0 default f 1 λ_ f=>dx rfl λW17 N21=>ec (az (ay ?_))))
     obtain⟨O2,F11⟩:=nS F10
     refine Y f 1 λ_ f=>?_
     have f:=f.st 39 (iW O2)
     refine Y f 1 λ_ f=>ag rfl ?_
     have N27:=N21.pl [2,1,2]
     refine az ?_
     cases sI F11
     exact⟨⟨_,_,Z9,P10,L3⟩,Nat.lt_succ_self _,_,mL,⟨T1,D6⟩,f.kp,(N27.dropN 1).kr⟩
    have f:=f.st 26 (cB B7)
    refine aN f N9 (bz _ (120:Int) X3) kr (λ_=>by kernel_rfl) λV6 W18 J6 N22=>cj (oP (cj (cj ?_)))
    cases sI F12
    exact .inl ⟨_,rfl,(sI T1).symm,_,mL,f.kp,(N22.dropN 3).kr⟩
   refine wp_exit (dJ (dJ ?_))
   cases sI F13
   exact .inr ⟨rfl,_,(sI T1).symm,_,J3,Z5,P5,L2,D3,f.kp,N5.kr⟩
  rintro _ _ W21 (⟨G1,rfl,rfl,V7,J7,f,N23⟩|⟨rfl,G2,rfl,V8,J8,Z10,P11,L4,D7,f,N24⟩)
  ·refine oP (cj (aV f ?_))
   cases sI F3
   exact⟨V7,mL,N23,rfl⟩
  refine jV (az (RR (Ye f 2 λ_ f=>wp_ret (am f rfl (Lk 4 (sL Z10 G2 P11)) ?_))))
  cases sI F3
  have N28:=N24.pl [1]
  exact⟨_,rfl,_,_,mL,(N28.dropN 1).kr,⟨Z10,P11,L4,rfl,rfl,D7⟩⟩
 have f:=f.st 10 (cB B3)
 refine aN f N1 (bz _ (120:Int) d1) kr (λ_=>by kernel_rfl) λV9 W22 J9 N29=>cj (aV f ?_)
 cases sI F14
 exact⟨V9,mL,N29,rfl⟩
def gI (n:Nat) (rec_syntax_template:TE0→Bs→Int→Option (Sum (Int×Bs) TB0)) (d0:Bs) (d1:TE0) (d2:Bs) (d3:Int):Option (Sum (Int×Bs) TA0):=
 (cX n d1 d2 ([[84,121,112,101],[67,111,110,100,105,116,105,111,110],[68,101,112,101,110,100,115,79,110],[68,101,108,101,116,105,111,110,80,111,108,105,99,121],[80,114,111,112,101,114,116,105,101,115]]:List Bs)).bind λX1=>
 (match X1 with
 |.inl X2=>some (.inl X2)
 |.inr X3=>(aX n [84,121,112,101] X3.1 X3.2).bind λX4=>
  bif X4.2.2 then
   ((eZ n X4.1 X4.2.1 (true)).bind λX5=>
   (match X5 with
   |.inl X6=>some (.inl X6)
   |.inr X7=>(aX n [67,111,110,100,105,116,105,111,110] X3.1 X3.2).bind λX8=>
    (eZ n X8.1 X8.2.1 (X8.2.2)).bind λX9=>
    (match X9 with
    |.inl X10=>some (.inl X10)
    |.inr X11=>(aX n [68,101,112,101,110,100,115,79,110] X3.1 X3.2).bind λX12=>
     (ji n X12.1 X12.2.1 (X12.2.2)).bind λX13=>
     (match X13 with
     |.inl X14=>some (.inl X14)
     |.inr X15=>(aX n [68,101,108,101,116,105,111,110,80,111,108,105,99,121] X3.1 X3.2).bind λX16=>
      ((bif !X16.2.2 then
       (some (.nx ()))
        else
         bif(decide (X16.1.ab=3)) then
          (bif(decide (X16.1.aa=[68,101,108,101,116,101])) then
           (some (.nx ()))
          else
           bif(decide (X16.1.aa=[82,101,116,97,105,110])) then
            (some (.nx ()))
           else
            ((some (.inl ((120:Int),X16.2.1)):Option (Sum (Int×Bs) TA0))).map Lp.br)
         else
          ((some (.inl ((120:Int),X16.2.1)):Option (Sum (Int×Bs) TA0))).map Lp.br:Option (Lp Unit (Sum (Int×Bs) TA0)))).bind λj=>joinF j λG1=>
      (aX n [80,114,111,112,101,114,116,105,101,115] X3.1 X3.2).bind λX17=>
      bif(!(decide (X7=[83,116,97,99,107]))) then
       (((bif X17.2.2 then
        ((jv n X17.1 X17.2.1).bind λX18=>
        (match X18 with
        |.inl X19=>((some (.inl X19):Option (Sum (Int×Bs) TA0))).map Lp.br
        |.inr X20=>some (.nx X20)))
         else
          some (.nx ([]:List TF0)):Option (Lp (List TF0) (Sum (Int×Bs) TA0)))).bind λj=>joinF j λG2=>
       some (.inr (⟨d0,X7,X11,G2,X15,(decide (X16.1.aa=[82,101,116,97,105,110])),([]:List TB0)⟩:TA0)))
      else
       bif X17.2.2 then
        ((cX n X17.1 X17.2.1 ([[84,101,109,112,108,97,116,101],[80,97,114,97,109,101,116,101,114,115]]:List Bs)).bind λX21=>
        (match X21 with
        |.inl X22=>some (.inl X22)
        |.inr X23=>(aX n [84,101,109,112,108,97,116,101] X23.1 X23.2).bind λX24=>
         bif X24.2.2 then
          (bif(decide (d3<2)) then
           (aL (inR .i64 (d3+1))<|
           (rec_syntax_template X24.1 X24.2.1 (d3+1)).bind λX25=>
           (match X25 with
           |.inl X26=>some (.inl X26)
           |.inr X27=>(aX n [80,97,114,97,109,101,116,101,114,115] X23.1 X23.2).bind λX28=>
            bif X28.2.2 then
             ((jv n X28.1 X28.2.1).bind λX29=>
             (match X29 with
             |.inl X30=>some (.inl X30)
             |.inr X31=>some (.inr (⟨d0,X7,X11,X31,X15,(decide (X16.1.aa=[82,101,116,97,105,110])),[X27]⟩:TA0))))
            else
             some (.inr (⟨d0,X7,X11,([]:List TF0),X15,(decide (X16.1.aa=[82,101,116,97,105,110])),[X27]⟩:TA0))))
          else
           some (.inl ((170:Int),X24.2.1)))
         else
          some (.inl ((120:Int),X17.2.1))))
       else
        some (.inl ((120:Int),d2))))))
  else
   some (.inl ((120:Int),d2)))
set_option maxRecDepth 20000 in
theorem kU (n:Nat) (rec_syntax_template:TE0→Bs→Int→Option (Sum (Int×Bs) TB0)) (hrec_syntax_template: ∀ (M:Mem) (hG:GL M) (c0:Lv) (d0:TE0) (h0:Rep M (ai d0) c0) (d1:Bs) (d2:Int) (r:Sum (Int×Bs) TB0) (hF:rec_syntax_template d0 d1 d2=some r),OkX Tryz.prog M 23 [.agg c0.toArray,S d1,iL d2] 78 r (λr=>λM' v=>∃ (c0:Lv),v=.agg c0.toArray∧Rep M' (bB r) c0)) (M:Mem) (hG:GL M) (d0:Bs) (c1:Lv) (d1:TE0) (h1:Rep M (ai d1) c1) (d2:Bs) (d3:Int) (r:Sum (Int×Bs) TA0) (hF:gI n rec_syntax_template d0 d1 d2 d3=some r):OkX Tryz.prog M 54 [S d0,.agg c1.toArray,S d2,iL d3] 78 r (λr=>λM' v=>∃ (c0:Lv),v=.agg c0.toArray∧Rep M' (aY r) c0):=by
 unfold gI at hF
 intro M1 hM0 w0 H w p0
 replace hG:=GL.mono hM0 hG
 replace h1:=Rep.mono hM0 _ _ h1
 obtain⟨Z1,P1,Z2,P2,rfl,B1,B2⟩:=TE0.opn h1
 refine Re 138 Tryz.func54 rfl λa0 f0=>RR (Y5 (cs:=(aTE0 d1 Z1 P1 Z2 P2)) (T:=26) f0 p0 λQ1 V1 W1 J1 R1 N1 _ f=>?_)
 have R2:=aU R1
 refine Y4 f N1 (.cells #[S [],S [],S [],Sn,Sn,bO false,Sn] 66 (0,0)) λQ2 W2 N2 _ f=>eT (RR (Y f 2 λ_ f=>Y4 f N2 (.cells #[S [],S [],S [],Sn,Sn,bO false,Sn] 66 (0,0)) λQ3 W3 N3 _ f=>Wu f N3 0 0 [S d0,S [],S [],Sn,Sn,bO false,Sn] λW4 N4 _ f=>eT (RR (Z f (XK N4 R2 0) λ_ f=>Y f 1 λ_ f=>aE (k:=5) (c:=5) f N4 (.cells #[S [84,121,112,101],S [67,111,110,100,105,116,105,111,110],S [68,101,112,101,110,100,115,79,110],S [68,101,108,101,116,105,111,110,80,111,108,105,99,121],S [80,114,111,112,101,114,116,105,101,115]] 9 (0,0)) kr (λ_=>by kernel_rfl) λQ4 W5 N5 _ f=>?_))))
 obtain⟨Z3,P3,V2,H1,J2,N6,B3⟩:=N5.litS (f:=Dat.str) 5 bH (dD ([[84,121,112,101],[67,111,110,100,105,116,105,111,110],[68,101,112,101,110,100,115,79,110],[68,101,108,101,116,105,111,110,80,111,108,105,99,121],[80,114,111,112,101,114,116,105,101,115]]:List Bs))
 have f:=f.st 26 (H1)
 obtain⟨X1,l1,F1⟩:=bS hF
 rcases X1 with X2|X3
 ·refine aN f N6 (cd n _ hG.mo _ d1 h1.mo d2 Z3 P3 ([[84,121,112,101],[67,111,110,100,105,116,105,111,110],[68,101,112,101,110,100,115,79,110],[68,101,108,101,116,105,111,110,80,111,108,105,99,121],[80,114,111,112,101,114,116,105,101,115]]:List Bs) B3 (.inl X2) l1) kr (λ_=>by kernel_rfl) λV3 W6 J3 N7=>cj (aV f ?_)
  cases sI F1
  exact⟨V3,mL,(N7.dropN 2),rfl⟩
 refine Y8 f N6 (OkX.ok (cd n _ hG.mo _ d1 h1.mo d2 Z3 P3 ([[84,121,112,101],[67,111,110,100,105,116,105,111,110],[68,101,112,101,110,100,115,79,110],[68,101,108,101,116,105,111,110,80,111,108,105,99,121],[80,114,111,112,101,114,116,105,101,115]]:List Bs) B3 (.inr X3) l1)) λ_ V4 W7 J4 N8 ef _ f=>?_
 obtain⟨C1,dW,C2,ie,rfl,D1,eS,D2,hZ⟩:=ef
 obtain⟨Z4,P4,Z5,P5,rfl,B4,B5⟩:=TE0.opn D1
 obtain rfl:ie=[S X3.2]:=D2
 refine Ye f 1 λ_ f=>RR (Y f 1 λ_ f=>?_)
 obtain⟨X4,l2,F2⟩:=bS F1
 refine Y8 f N8 (bf n _ hG.mo [84,121,112,101] C1 (lTE0 X3.1 Z4 P4 Z5 P5) X3.1 D1.mo (bF (eS) 0 rfl) C2 [S X3.2] X3.2 (rfl) (bF (hZ) 0 rfl) X4 l2) λ_ V5 W8 J5 N9 iK _ f=>?_
 obtain⟨lQ,rfl,D3⟩:=iK
 obtain⟨Z6,P6,Z7,P7,rfl,B6,B7⟩:=TE0.opn D3
 refine Y f 4 λ_ f=>Y4 f N9 (.cells #[iB 0,bO false,iL 0,S [],Sn,Sn] 26 (0,0)) λQ5 W9 N10 _ f=>Wu f N10 0 0 (lTE0 X4.1 Z6 P6 Z7 P7) λW10 N11 _ f=>Ye f 2 λ_ f=>RR (Y f 2 λ_ f=>?_)
 rcases cE F2 with⟨B8,F3⟩|⟨B8,F43⟩
 ·have f:=f.st 34 (cB B8)
  refine Y9 f N11 (bA _ (120:Int) d2) λW11 N12 _ f=>eT (RR (Z f (XO N12 0) λ_ f=>Y f 1 λ_ f=>?_))
  obtain⟨X5,l3,F4⟩:=bS F3
  rcases X5 with X6|X7
  ·refine aN f N12 (gz n _ hG.mo _ X4.1 D3.mo X4.2.1 (true) (.inl X6) l3) kr (λ_=>by kernel_rfl) λV6 W12 J6 N13=>cj (aV f ?_)
   cases sI F4
   exact⟨V6,mL,(N13.dropN 3),rfl⟩
  refine Y8 f N12 (OkX.ok (gz n _ hG.mo _ X4.1 D3.mo X4.2.1 (true) (.inr X7) l3)) λ_ V7 W13 J7 N14 mi _ f=>?_
  obtain⟨rfl⟩:=mi
  refine Y f 1 λ_ f=>Wt f N14 1 1 (S X7) λW14 N15 _ f=>eT (RR (Y f 1 λ_ f=>?_))
  obtain⟨X8,l4,F5⟩:=bS F4
  refine Y8 f N15 (bf n _ hG.mo [67,111,110,100,105,116,105,111,110] C1 (lTE0 X3.1 Z4 P4 Z5 P5) X3.1 D1.mo (bF (fu eS) 0 rfl) C2 [S X3.2] X3.2 (rfl) (bF (fu hZ) 0 rfl) X8 l4) λ_ V8 W15 J8 N16 nt _ f=>?_
  obtain⟨rJ,rfl,D4⟩:=nt
  obtain⟨Z8,P8,Z9,P9,rfl,B9,B10⟩:=TE0.opn D4
  refine Y f 3 λ_ f=>?_
  obtain⟨X9,l5,F6⟩:=bS F5
  rcases X9 with X10|X11
  ·refine aN f N16 (gz n _ hG.mo _ X8.1 D4.mo X8.2.1 (X8.2.2) (.inl X10) l5) kr (λ_=>by kernel_rfl) λV9 W16 J9 N17=>cj (aV f ?_)
   cases sI F6
   exact⟨V9,mL,(N17.dropN 3),rfl⟩
  refine Y8 f N16 (OkX.ok (gz n _ hG.mo _ X8.1 D4.mo X8.2.1 (X8.2.2) (.inr X11) l5)) λ_ V10 W17 J10 N18 pg _ f=>?_
  obtain⟨rfl⟩:=pg
  refine Y f 1 λ_ f=>Wt f N18 1 2 (S X11) λW18 N19 _ f=>eT (RR (Y f 1 λ_ f=>?_))
  obtain⟨X12,l6,F7⟩:=bS F6
  refine Y8 f N19 (bf n _ hG.mo [68,101,112,101,110,100,115,79,110] C1 (lTE0 X3.1 Z4 P4 Z5 P5) X3.1 D1.mo (bF (fu eS) 0 rfl) C2 [S X3.2] X3.2 (rfl) (bF (fu hZ) 0 rfl) X12 l6) λ_ V11 W19 J11 N20 so _ f=>?_
  obtain⟨c_5,rfl,D5⟩:=so
  obtain⟨Z10,P10,Z11,P11,rfl,B11,B12⟩:=TE0.opn D5
  refine Y f 3 λ_ f=>?_
  obtain⟨X13,l7,F8⟩:=bS F7
  rcases X13 with X14|X15
  ·refine aN f N20 (mb n _ hG.mo _ X12.1 D5.mo X12.2.1 (X12.2.2) (.inl X14) l7) kr (λ_=>by kernel_rfl) λV12 W20 J12 N21=>cj (aV f ?_)
   cases sI F8
   exact⟨V12,mL,(N21.dropN 3),rfl⟩
  refine Y8 f N20 (OkX.ok (mb n _ hG.mo _ X12.1 D5.mo X12.2.1 (X12.2.2) (.inr X15) l7)) λ_ V13 W21 J13 N22 q_7 _ f=>?_
  obtain⟨Z12,P12,rfl,B13⟩:=q_7
  refine Y f 1 λ_ f=>Wt f N22 1 4 (sL Z12 X15 P12) λW22 N23 _ f=>eT (RR (Y f 1 λ_ f=>?_))
  obtain⟨X16,l8,F9⟩:=bS F8
  refine Y8 f N23 (bf n _ hG.mo [68,101,108,101,116,105,111,110,80,111,108,105,99,121] C1 (lTE0 X3.1 Z4 P4 Z5 P5) X3.1 D1.mo (bF (fu eS) 0 rfl) C2 [S X3.2] X3.2 (rfl) (bF (fu hZ) 0 rfl) X16 l8) λ_ V14 W23 J14 N24 q_8 _ f=>?_
  obtain⟨c_6,rfl,D6⟩:=q_8
  obtain⟨Z13,P13,Z14,P14,rfl,B14,B15⟩:=TE0.opn D6
  refine Y f 4 λ_ f=>Y4 f N24 (.cells #[iB 0,bO false,iL 0,S [],Sn,Sn] 26 (0,0)) λQ6 W24 N25 _ f=>Wu f N25 0 0 (lTE0 X16.1 Z13 P13 Z14 P14) λW25 N26 _ f=>Ye f 2 λ_ f=>ah ?_
  obtain⟨eF,cL,F10⟩:=bS F9
  refine aW (λa_60 W31=>∃G1,eF=.nx G1∧∃V17,V14.le V17∧Frm 138 (kpL [2,3,8,9,10,14] f.fr) a_60∧Hp w0 V17 (N26.en) W31) ?_ ?_
  ·refine ay (Y f 3 λ_ f=>?_)
   rcases cE cL with⟨B16,F11⟩|⟨B16,F12⟩
   ·have f:=f.st 63 (cB B16)
    refine Y f 15 λ_ f=>Y9 f N26 (bA _ (120:Int) X16.2.1) λW26 N27 _ f=>eT ?_
    exact⟨_,(sI F11).symm,_,mL,f.kp,N27.kr⟩
   have f:=f.st 63 (cB B16)
   refine Y f 1 λ_ f=>Z f (XO N26 0) λ_ f=>Y f 2 λ_ f=>?_
   rcases cE F12 with⟨B17,F13⟩|⟨B17,F19⟩
   ·have f:=f.st 67 (cB B17)
    refine Y f 1 λ_ f=>Z f (XO N26 0) λ_ f=>Z f (Y11 rfl (l:=X16.1.aa) (m:=[68,101,108,101,116,101])) λ_ f=>Y f 1 λ_ f=>?_
    rcases cE F13 with⟨B18,F14⟩|⟨B18,F15⟩
    ·have f:=f.st 71 (cB B18)
     refine Y f 7 λ_ f=>Y9 f N26 (bA _ (120:Int) X16.2.1) λW27 N28 _ f=>eT ?_
     exact⟨_,(sI F14).symm,_,mL,f.kp,N28.kr⟩
    have f:=f.st 71 (cB B18)
    refine Y f 1 λ_ f=>Z f (XO N26 0) λ_ f=>Z f (Y11 rfl (l:=X16.1.aa) (m:=[82,101,116,97,105,110])) λ_ f=>Y f 4 λ_ f=>?_
    rcases cE F15 with⟨B19,F16⟩|⟨B19,F17⟩
    ·have f:=f.st 77 (cB B19)
     refine Y9 f N26 (bA _ (120:Int) X16.2.1) λW28 N29 _ f=>eT ?_
     exact⟨_,(sI F16).symm,_,mL,f.kp,N29.kr⟩
    have f:=f.st 77 (cB B19)
    refine aN f N26 (bz _ (120:Int) X16.2.1) kr (λ_=>by kernel_rfl) λV15 W29 J15 N30=>?_
    have F18:=bw F17 F10
    refine cj (cj (aV f ?_))
    cases sI F18
    exact⟨V15,mL,(N30.dropN 4),rfl⟩
   have f:=f.st 67 (cB B17)
   refine Y f 11 λ_ f=>aN f N26 (bz _ (120:Int) X16.2.1) kr (λ_=>by kernel_rfl) λV16 W30 J16 N31=>?_
   have F20:=bw F19 F10
   refine cj (cj (aV f ?_))
   cases sI F20
   exact⟨V16,mL,(N31.dropN 4),rfl⟩
  rintro a_60 W31 ⟨G1,rfl,V17,J17,f,N32⟩
  dsimp only[Hp.en] at N32
  refine az (RR (Y f 1 λ_ f=>Z f (XO N32 0) λ_ f=>Z f (Y11 rfl (l:=X16.1.aa) (m:=[82,101,116,97,105,110])) λ_ f=>Y f 1 λ_ f=>Wt f N32 2 5 (bO (decide (X16.1.aa=[82,101,116,97,105,110]))) λW32 N33 _ f=>eT (RR (Y f 1 λ_ f=>?_))))
  obtain⟨X17,l9,F21⟩:=bS F10
  refine Y8 f N33 (bf n _ hG.mo [80,114,111,112,101,114,116,105,101,115] C1 (lTE0 X3.1 Z4 P4 Z5 P5) X3.1 D1.mo (bF (fu eS) 0 rfl) C2 [S X3.2] X3.2 (rfl) (bF (fu hZ) 0 rfl) X17 l9) λ_ V18 W33 J18 N34 q_9 _ f=>?_
  obtain⟨c_7,rfl,D7⟩:=q_9
  obtain⟨Z15,P15,Z16,P16,rfl,B20,B21⟩:=TE0.opn D7
  refine Y f 4 λ_ f=>Y4 f N34 (.cells #[iB 0,bO false,iL 0,S [],Sn,Sn] 26 (0,0)) λQ7 W34 N35 _ f=>Wu f N35 0 0 (lTE0 X17.1 Z15 P15 Z16 P16) λW35 N36 _ f=>Ye f 2 λ_ f=>ah (RR (Y f 1 λ_ f=>Z f (XO N36 3) λ_ f=>Z f (ep rfl (l:=X7) (m:=[83,116,97,99,107]) kr kr) λ_ f=>eT (RcF f F21 (λB22 F22=>?_) λB22 F28=>?_)))
  ·refine ah (RR (Ye f 1 λ_ f=>?_))
   obtain⟨lb,iJ,F23⟩:=bS F22
   refine aW (λa_81 W39=>∃G2,lb=.nx G2∧∃V21,V18.le V21∧∃Z18 P18 L2,ae V21 (G2.map cI) L2∧Frm 138 (kpL [8,9] f.fr) a_81∧Hp w0 V21 ((rO 70 7 Z18 G2 P18 L2)::setE (N36.en) 3 3 [sL Z18 G2 P18]) W39) ?_ ?_
   ·refine RcF f iJ (λB23 F24=>?_) λB23 F27=>?_
    ·refine ay (Z f (XO N36 0) λ_ f=>Y f 1 λ_ f=>?_)
     obtain⟨X18,l10,F25⟩:=bS F24
     rcases X18 with X19|X20
     ·refine Cx f N36 (jQ n _ hG.mo _ X17.1 D7.mo X17.2.1 (.inl X19) l10) λV19 W36 J19 N37=>?_
      have F26:=bw F25 F23
      refine cj (cj (cj (aV f ?_)))
      cases sI F26
      exact⟨V19,mL,(N37.dropN 5),rfl⟩
     refine Ch f N36 (OkXH.ok (jQ n _ hG.mo _ X17.1 D7.mo X17.2.1 (.inr X20) l10)) λ_ V20 mG W37 J20 N38 q_10 _ f=>?_
     obtain⟨Z17,P17,L1,rfl,rfl,D8⟩:=q_10
     refine Y f 1 λ_ f=>Wt f N38 4 3 (sL Z17 X20 P17) λW38 N39 _ f=>eT ?_
     exact⟨_,(sI F25).symm,_,J20,Z17,P17,L1,D8,f.kp,N39.kr⟩
    refine wp_skip ?_
    obtain⟨Z19,P19,H2,N41⟩:=N36.nilC 3 3 70 7 (TF0)
    have D10:ae V18 (([]:List TF0).map cI) []:=rfl
    refine az ?_
    exact⟨_,(sI F27).symm,_,mL,Z19,P19,_,D10,f.kp,N41.kr⟩
   rintro a_81 W39 ⟨G2,rfl,V21,J21,Z18,P18,L2,D9,f,N40⟩
   dsimp only[Hp.en] at N40
   refine az (RR (Z f (XO N40 4) λ_ f=>?_))
   obtain⟨Z20,P20,V22,H3,J22,N42,B24⟩:=N40.rowSliK (f:=cI) (xs:=G2) 0 70 Z18 P18 rA D9
   have f:=Frm.set f 98 (v:=.agg #[S d0,S X7,S X11,.slice Z18 G2.length P18,.slice Z12 X15.length P12,.bool (decide (X16.1.aa=[82,101,116,97,105,110])),.slice none 0 0]) (v':=.agg #[S d0,S X7,S X11,.slice Z20 G2.length P20,.slice Z12 X15.length P12,.bool (decide (X16.1.aa=[82,101,116,97,105,110])),.slice none 0 0]) (by kernel_rfl) (by rw[H3])
   try simp only[sL] at H3 N42
   rw[H3] at N42
   refine Wu f N42 4 0 [S d0,S X7,S X11,sL Z20 G2 P20,sL Z12 X15 P12,bO (decide (X16.1.aa=[82,101,116,97,105,110])),Sn] λW40 N44 _ f=>Er (bl (bM f rfl (Rv.oN [S d0,S X7,S X11,sL Z20 G2 P20,sL Z12 X15 P12,bO (decide (X16.1.aa=[82,101,116,97,105,110])),Sn] f N44 4 0) ?_))
   cases sI F23
   exact⟨_,rfl,_,mL,(N44.dropN 5).kr,⟨_,rfl,(TA0.shutx B24 B13.mo Sli.nil)⟩⟩
  refine St (RR (Y f 2 λ_ f=>?_))
  rcases cE F28 with⟨B25,F29⟩|⟨B25,F42⟩
  ·have f:=f.st 99 (cB B25)
   refine Y9 f N36 (bA _ (120:Int) d2) λW41 N45 _ f=>eT (RR (Z f (XO N45 0) λ_ f=>Y f 1 λ_ f=>aE (k:=2) (c:=2) f N45 (.cells #[S [84,101,109,112,108,97,116,101],S [80,97,114,97,109,101,116,101,114,115]] 9 (0,0)) kr (λ_=>by kernel_rfl) λQ8 W42 N46 _ f=>?_))
   obtain⟨Z21,P21,V23,H4,J23,N47,B26⟩:=N46.litS (f:=Dat.str) 2 bH (dD ([[84,101,109,112,108,97,116,101],[80,97,114,97,109,101,116,101,114,115]]:List Bs))
   have f:=f.st 104 (H4)
   obtain⟨X21,l11,F30⟩:=bS F29
   rcases X21 with X22|X23
   ·refine aN f N47 (cd n _ hG.mo _ X17.1 D7.mo X17.2.1 Z21 P21 ([[84,101,109,112,108,97,116,101],[80,97,114,97,109,101,116,101,114,115]]:List Bs) B26 (.inl X22) l11) kr (λ_=>by kernel_rfl) λV24 W43 J24 N48=>cj (aV f ?_)
    cases sI F30
    exact⟨V24,mL,(N48.dropN 5),rfl⟩
   refine Y8 f N47 (OkX.ok (cd n _ hG.mo _ X17.1 D7.mo X17.2.1 Z21 P21 ([[84,101,109,112,108,97,116,101],[80,97,114,97,109,101,116,101,114,115]]:List Bs) B26 (.inr X23) l11)) λ_ V25 W44 J25 N49 q_11 _ f=>?_
   obtain⟨C3,c_8,C4,c_9,rfl,D11,hq_5,D12,hq_6⟩:=q_11
   obtain⟨Z22,P22,Z23,P23,rfl,B27,B28⟩:=TE0.opn D11
   obtain rfl:c_9=[S X23.2]:=D12
   refine Ye f 1 λ_ f=>RR (Y f 1 λ_ f=>?_)
   obtain⟨X24,l12,F31⟩:=bS F30
   refine Y8 f N49 (bf n _ hG.mo [84,101,109,112,108,97,116,101] C3 (lTE0 X23.1 Z22 P22 Z23 P23) X23.1 D11.mo (bF (hq_5) 0 rfl) C4 [S X23.2] X23.2 (rfl) (bF (hq_6) 0 rfl) X24 l12) λ_ V26 W45 J26 N50 q_12 _ f=>?_
   obtain⟨c_10,rfl,D13⟩:=q_12
   obtain⟨Z24,P24,Z25,P25,rfl,B29,B30⟩:=TE0.opn D13
   refine Y f 4 λ_ f=>Y4 f N50 (.cells #[iB 0,bO false,iL 0,S [],Sn,Sn] 26 (0,0)) λQ9 W46 N51 _ f=>Wu f N51 0 0 (lTE0 X24.1 Z24 P24 Z25 P25) λW47 N52 _ f=>Ye f 2 λ_ f=>RR (Y f 2 λ_ f=>?_)
   rcases cE F31 with⟨B31,F32⟩|⟨B31,F41⟩
   ·have f:=f.st 112 (cB B31)
    refine Y9 f N52 (bA _ (120:Int) X17.2.1) λW48 N53 _ f=>eT (RR (Y f 3 λ_ f=>?_))
    rcases cE F32 with⟨B32,F33⟩|⟨B32,F40⟩
    ·have f:=f.st 116 (cB B32)
     refine Y9 f N53 (bA _ (170:Int) X24.2.1) λW49 N54 _ f=>eT (RR (Z f (XO N54 0) λ_ f=>Y f 2 λ_ f=>?_))
     obtain⟨O1,F34⟩:=nS F33
     refine Y f 1 λ_ f=>?_
     have f:=f.st 122 (iW O1)
     obtain⟨X25,l13,F35⟩:=bS F34
     rcases X25 with X26|X27
     ·refine aN f N54 (hrec_syntax_template _ hG.mo _ X24.1 D13.mo X24.2.1 (d3+1) (.inl X26) l13) kr (λ_=>by kernel_rfl) λV27 W50 J27 N55=>cj (aV f ?_)
      cases sI F35
      exact⟨V27,mL,(N55.dropN 6),rfl⟩
     refine Y8 f N54 (OkX.ok (hrec_syntax_template _ hG.mo _ X24.1 D13.mo X24.2.1 (d3+1) (.inr X27) l13)) λ_ V28 W51 J28 N56 q_13 _ f=>?_
     obtain⟨c_11,rfl,D14⟩:=q_13
     obtain⟨Z26,P26,Z27,P27,Z28,P28,Z29,P29,rfl,B33,B34,B35,B36⟩:=TB0.opn D14
     refine aE (k:=1) (c:=1) f N56 (.cells (aTB0 X27 Z26 P26 Z27 P27 Z28 P28 Z29 P29) 41 (0,0)) kr (λ_=>by kernel_rfl) λQ10 W52 N57 _ f=>Y f 1 λ_ f=>Wt f N57 5 6 (.slice (some ⟨Q10,0,none⟩) 1 1) λW53 N58 _ f=>eT (ah (RR (Y f 1 λ_ f=>?_)))
     obtain⟨X28,l14,F36⟩:=bS F35
     refine Y8 f N58 (bf n _ hG.mo [80,97,114,97,109,101,116,101,114,115] C3 (lTE0 X23.1 Z22 P22 Z23 P23) X23.1 D11.mo (bF (fu hq_5) 0 rfl) C4 [S X23.2] X23.2 (rfl) (bF (fu hq_6) 0 rfl) X28 l14) λ_ V29 W54 J29 N59 q_14 _ f=>?_
     obtain⟨c_12,rfl,D15⟩:=q_14
     obtain⟨Z30,P30,Z31,P31,rfl,B37,B38⟩:=TE0.opn D15
     refine Y f 4 λ_ f=>Y4 f N59 (.cells #[iB 0,bO false,iL 0,S [],Sn,Sn] 26 (0,0)) λQ11 W55 N60 _ f=>Wu f N60 0 0 (lTE0 X28.1 Z30 P30 Z31 P31) λW56 N61 _ f=>Ye f 2 λ_ f=>RR (Ye f 1 λ_ f=>RcF f F36 (λB39 F37=>?_) λB39 F39=>?_)
     ·refine ay (Z f (XO N61 0) λ_ f=>Y f 1 λ_ f=>?_)
      obtain⟨X29,l15,F38⟩:=bS F37
      rcases X29 with X30|X31
      ·refine Cx f N61 (jQ n _ hG.mo _ X28.1 D15.mo X28.2.1 (.inl X30) l15) λV30 W57 J30 N62=>cj (aV f ?_)
       cases sI F38
       exact⟨V30,mL,(N62.dropN 8),rfl⟩
      refine Ch f N61 (OkXH.ok (jQ n _ hG.mo _ X28.1 D15.mo X28.2.1 (.inr X31) l15)) λ_ V31 rB W58 J31 N63 q_15 _ f=>?_
      obtain⟨Z32,P32,L3,rfl,rfl,D16⟩:=q_15
      refine Y f 1 λ_ f=>Wt f N63 7 3 (sL Z32 X31 P32) λW59 N64 _ f=>eT (RR (Z f (XO N64 7) λ_ f=>?_))
      obtain⟨Z33,P33,V32,H5,J32,N65,B40⟩:=N64.rowSliK (f:=cI) (xs:=X31) 0 70 Z32 P32 rA D16
      have f:=Frm.set f 137 (v:=.agg #[S d0,S X7,S X11,.slice Z32 X31.length P32,.slice Z12 X15.length P12,.bool (decide (X16.1.aa=[82,101,116,97,105,110])),.slice (some ⟨Q10,0,none⟩) 1 1]) (v':=.agg #[S d0,S X7,S X11,.slice Z33 X31.length P33,.slice Z12 X15.length P12,.bool (decide (X16.1.aa=[82,101,116,97,105,110])),.slice (some ⟨Q10,0,none⟩) 1 1]) (by kernel_rfl) (by rw[H5])
      have f:=f.st 135 (H5)
      try simp only[sL] at H5 N65
      rw[H5] at N65
      have N67:=N65.pl [1]
      obtain⟨Z34,P34,V33,H6,J33,N68,B41⟩:=N67.litS (f:=bB) (xs:=[X27]) (cl:=(lTB0 X27 Z26 P26 Z27 P27 Z28 P28 Z29 P29)) 1 ng ⟨_,_,rfl,TB0.shutx B33.mo B34.mo B35.mo B36.mo,rfl⟩
      have f:=Frm.set f 137 (v:=.agg #[S d0,S X7,S X11,.slice Z33 X31.length P33,.slice Z12 X15.length P12,.bool (decide (X16.1.aa=[82,101,116,97,105,110])),.slice (some ⟨Q10,0,none⟩) 1 1]) (v':=.agg #[S d0,S X7,S X11,.slice Z33 X31.length P33,.slice Z12 X15.length P12,.bool (decide (X16.1.aa=[82,101,116,97,105,110])),.slice Z34 [X27].length P34]) (by kernel_rfl) (by rw[H6])
      try simp only[sL] at H6 N68
      rw[H6] at N68
      refine Wu f N68 6 0 [S d0,S X7,S X11,sL Z33 X31 P33,sL Z12 X15 P12,bO (decide (X16.1.aa=[82,101,116,97,105,110])),sL Z34 [X27] P34] λW60 N69 _ f=>Er (bM f rfl (Rv.oN [S d0,S X7,S X11,sL Z33 X31 P33,sL Z12 X15 P12,bO (decide (X16.1.aa=[82,101,116,97,105,110])),sL Z34 [X27] P34] f N69 6 0) ?_)
      cases sI F38
      exact⟨_,rfl,_,mL,(N69.dropN 7).kr,⟨_,rfl,(TA0.shutx B40.mo B13.mo B41)⟩⟩
     refine St (RR (Z f (XO N61 6) λ_ f=>?_))
     have N70:=N61.pl [1]
     obtain⟨Z35,P35,V34,H7,J34,N71,B42⟩:=N70.litS (f:=bB) (xs:=[X27]) (cl:=(lTB0 X27 Z26 P26 Z27 P27 Z28 P28 Z29 P29)) 1 ng ⟨_,_,rfl,TB0.shutx B33.mo B34.mo B35.mo B36.mo,rfl⟩
     have f:=Frm.set f 137 (v:=.agg #[S d0,S X7,S X11,.slice none 0 0,.slice Z12 X15.length P12,.bool (decide (X16.1.aa=[82,101,116,97,105,110])),.slice (some ⟨Q10,0,none⟩) 1 1]) (v':=.agg #[S d0,S X7,S X11,.slice none 0 0,.slice Z12 X15.length P12,.bool (decide (X16.1.aa=[82,101,116,97,105,110])),.slice Z35 [X27].length P35]) (by kernel_rfl) (by rw[H7])
     try simp only[sL] at H7 N71
     rw[H7] at N71
     refine Wu f N71 6 0 [S d0,S X7,S X11,Sn,sL Z12 X15 P12,bO (decide (X16.1.aa=[82,101,116,97,105,110])),sL Z35 [X27] P35] λW61 N72 _ f=>Er (bM f rfl (Rv.oN [S d0,S X7,S X11,Sn,sL Z12 X15 P12,bO (decide (X16.1.aa=[82,101,116,97,105,110])),sL Z35 [X27] P35] f N72 6 0) ?_)
     cases sI F39
     exact⟨_,rfl,_,mL,(N72.dropN 7).kr,⟨_,rfl,(TA0.shutx Sli.nil B13.mo B42)⟩⟩
    have f:=f.st 116 (cB B32)
    refine aN f N53 (bz _ (170:Int) X24.2.1) kr (λ_=>by kernel_rfl) λV35 W62 J35 N73=>cj (aV f ?_)
    cases sI F40
    exact⟨V35,mL,(N73.dropN 6),rfl⟩
   have f:=f.st 112 (cB B31)
   refine aN f N52 (bz _ (120:Int) X17.2.1) kr (λ_=>by kernel_rfl) λV36 W63 J36 N74=>cj (aV f ?_)
   cases sI F41
   exact⟨V36,mL,(N74.dropN 6),rfl⟩
  have f:=f.st 99 (cB B25)
  refine aN f N36 (bz _ (120:Int) d2) kr (λ_=>by kernel_rfl) λV37 W64 J37 N75=>cj (aV f ?_)
  cases sI F42
  exact⟨V37,mL,(N75.dropN 5),rfl⟩
 have f:=f.st 34 (cB B8)
 refine aN f N11 (bz _ (120:Int) d2) kr (λ_=>by kernel_rfl) λV38 W65 J38 N76=>cj (aV f ?_)
 cases sI F43
 exact⟨V38,mL,(N76.dropN 3),rfl⟩
def cK (n:Nat) (rec_syntax_template:TE0→Bs→Int→Option (Sum (Int×Bs) TB0)) (d0:Bs) (d1:TE0) (d2:Bs) (jy:List TD0) (dt:List TH0) (jz:List TA0) (jA:List TC0) (d4:Int):Option (Sum (Int×Bs) (List TD0×List TH0×List TA0×List TC0)):=
 (((gI n rec_syntax_template d0 d1 d2 d4).bind λX1=>
   aL ((jz.length+1)*128≤140737488355328)<|
   (match X1 with
   |.inl X5=>((some (.inl X5):Option (Sum (Int×Bs) (List TD0×List TH0×List TA0×List TC0)))).map Lp.br
   |.inr X6=>some (.nx (jz++[X6]))):Option (Lp (List TA0) (Sum (Int×Bs) (List TD0×List TH0×List TA0×List TC0))))).bind λj=>joinF j λG1=>
 some (.inr (jy,dt,G1,jA))
theorem ku (n:Nat) (rec_syntax_template:TE0→Bs→Int→Option (Sum (Int×Bs) TB0)) (hrec_syntax_template: ∀ (M:Mem) (hG:GL M) (c0:Lv) (d0:TE0) (h0:Rep M (ai d0) c0) (d1:Bs) (d2:Int) (r:Sum (Int×Bs) TB0) (hF:rec_syntax_template d0 d1 d2=some r),OkX Tryz.prog M 23 [.agg c0.toArray,S d1,iL d2] 78 r (λr=>λM' v=>∃ (c0:Lv),v=.agg c0.toArray∧Rep M' (bB r) c0)) (M:Mem) (hG:GL M) (d0:Bs) (c1:Lv) (d1:TE0) (h1:Rep M (ai d1) c1) (d2:Bs) (b3:Nat) (jy:List TD0) (Z1:Oa) (P1:Nat) (L1:Lv) (D1:ae M (jy.map ba) L1) (dt:List TH0) (Z2:Oa) (P2:Nat) (L2:Lv) (D2:ae M (dt.map aH) L2) (jz:List TA0) (Z3:Oa) (P3:Nat) (L3:Lv) (D3:ae M (jz.map aY) L3) (jA:List TC0) (Z4:Oa) (P4:Nat) (L4:Lv) (D4:ae M (jA.map bc) L4) (ad4:Addr) (c4:Lv) (d4:Int) (h4:Rep M ((Dat.int .i64) d4) c4) (q4: ∀j v,c4[j]? =some v→M.cell? (ad4.add j)=some v) (r:Sum (Int×Bs) (List TD0×List TH0×List TA0×List TC0)) (hF:cK n rec_syntax_template d0 d1 d2 jy dt jz jA d4=some r):OkXH Tryz.prog M [oC b3 #[sL Z1 jy P1,sL Z2 dt P2,sL Z3 jz P3,sL Z4 jA P4] 41,rO 58 10 Z1 jy P1 L1,rO 61 15 Z2 dt P2 L2,rO 66 7 Z3 jz P3 L3,rO 68 8 Z4 jA P4 L4] 53 [S d0,.agg c1.toArray,S d2,pP b3,Pa ad4] 78 r (λr=>λM' E' v=>∃ (Z16:Oa) (P16:Nat) (L8:Lv) (Z17:Oa) (P17:Nat) (L9:Lv) (Z18:Oa) (P18:Nat) (L10:Lv) (Z19:Oa) (P19:Nat) (L11:Lv),v=.tuple #[]∧E'=[oC b3 #[sL Z16 r.1 P16,sL Z17 r.2.1 P17,sL Z18 r.2.2.1 P18,sL Z19 r.t3 P19] 41,rO 58 10 Z16 r.1 P16 L8,rO 61 15 Z17 r.2.1 P17 L9,rO 66 7 Z18 r.2.2.1 P18 L10,rO 68 8 Z19 r.t3 P19 L11]∧ae M' (r.1.map ba) L8∧ae M' (r.2.1.map aH) L9∧ae M' (r.2.2.1.map aY) L10∧ae M' (r.t3.map bc) L11):=by
 unfold cK at hF
 intro M1 hM0 w0 H w p0
 replace hG:=GL.mono hM0 hG
 replace h1:=Rep.mono hM0 _ _ h1
 replace D1:=ae.mono hM0 _ _ D1
 replace D2:=ae.mono hM0 _ _ D2
 replace D3:=ae.mono hM0 _ _ D3
 replace D4:=ae.mono hM0 _ _ D4
 replace h4:=Rep.mono hM0 _ _ h4
 replace q4:=λj v h=>hM0.cell (q4 j v h)
 obtain⟨Z5,P5,Z6,P6,rfl,B1,B2⟩:=TE0.opn h1
 obtain rfl:c4=[iL d4]:=h4
 refine Re 18 Tryz.func53 rfl λa0 f0=>RR (Y5 (cs:=(aTE0 d1 Z5 P5 Z6 P6)) (T:=26) f0 p0 λQ1 V1 W1 J1 R1 N1 _ f=>?_)
 have R2:=aU R1
 refine eT ?_
 obtain⟨eF,cL,F1⟩:=bS hF
 refine aW (λa_24 W15=>∃G1,eF=.nx G1∧∃V6,V1.le V6∧∃Z15 P15 L7,ae V6 (G1.map aY) L7∧Frm 18 [] a_24∧Hp w0 V6 ((rO 66 7 Z15 G1 P15 L7)::setE (selE [0,1,2,4] 5 N1.en) 0 2 [sL Z15 G1 P15]) W15) ?_ ?_
 ·have N10:=N1.pl [4,3,3,3,4]
  obtain⟨X1,l1,F2⟩:=bS cL
  obtain⟨O1,F3⟩:=nS F2
  refine dG [9,10] 1 N10 (.quiet 0 (.quiet 1 (.quiet 2 (.quiet 3 (.quiet 4 (.quiet 5 (.alt 6 (.alt 7 (.alt 8 .done .none) .none) .none))))))) (Y1 (v:=Pa (⟨b3,2,none⟩)) rfl f rfl rfl (λ_ _=>by kernel_rfl) λ_ f=>Y1 rfl f rfl rfl (λ_ pq=>XO pq 0) λ_ f=>Y1 (v:=S d0) rfl f rfl rfl (λ_ _=>by kernel_rfl) λ_ f=>Y1 rfl f rfl rfl (λ_ pq=>XK pq R2 0) λ_ f=>Y1 (v:=S d2) rfl f rfl rfl (λ_ _=>by kernel_rfl) λ_ f=>Y1 rfl f rfl rfl (λ_ pq=>XK pq (fu q4) 0) λ_ f=>ao rfl (λW6 N11=>?_) ?_)
  ·rcases X1 with X5|X6
   ·refine aN f N11 (kU n rec_syntax_template hrec_syntax_template _ hG.mo d0 _ d1 h1.mo d2 d4 (.inl X5) l1) kr (λ_=>by kernel_rfl) λV4 W7 J4 N12=>pm f λ_ f=>?_
    have F4:=bw F3 F1
    refine cj (aV f ?_)
    cases sI F4
    exact⟨V4,mL,(N12.dropN 5),rfl⟩
   refine Y8 f N11 (OkX.ok (kU n rec_syntax_template hrec_syntax_template _ hG.mo d0 _ d1 h1.mo d2 d4 (.inr X6) l1)) λ_ V5 W8 J5 N13 iK _ f=>?_
   obtain⟨ie,rfl,D7⟩:=iK
   obtain⟨Z11,P11,Z12,P12,Z13,P13,rfl,B6,B7,B8⟩:=TA0.opn D7
   refine ag rfl (ap 1 J5 N13 (ao rfl (λW9 N14=>?_) ?_))
   ·refine aE (k:=1) (c:=1) f N14 (.cells (aTA0 X6 Z11 P11 Z12 P12 Z13 P13) 66 (0,0)) kr (λ_=>by kernel_rfl) λQ3 W10 N15 _ f=>ag rfl (ap 2 J5 N15 (ao rfl (λW11 N16=>?_) ?_))
    ·refine dM X6 0 f (N16.toRow 1 66 7 Z3 P3 D3.mo) D3.mo (TA0.shutx B6 B7 B8) O1 λZ14 P14 L6 W12 N17 D8 _ f=>ag rfl (ap 1 J5 N17 (dp λW13 N18=>Y f 1 λ_ f=>Wt f N18 1 2 (sL Z14 (jz++[X6]) P14) λW14 N19 _ f=>ag rfl (jD (az ?_))))
     exact⟨_,(sI F3).symm,_,J5,Z14,P14,L6,D8,f.kp,N19.kr⟩
    exact al
   exact al
  exact al
 rintro a_24 W15 ⟨G1,rfl,V6,J6,Z15,P15,L7,D9,f,N20⟩
 dsimp only[Hp.en] at N20
 refine eN f rfl ?_
 cases sI F1
 have N25:=N20.pl [4,1,4,4,4]
 exact⟨_,rfl,_,_,mL,N25.kr,⟨Z1,P1,L1,Z2,P2,L2,Z15,P15,L7,Z4,P4,L4,rfl,rfl,D1.mo,D2.mo,D9,D4.mo⟩⟩
def ic (n:Nat) (rec_syntax_template:TE0→Bs→Int→Option (Sum (Int×Bs) TB0)) (rb:Int) (X1:TE0×Bs×Bool) (X2:List aD) (K1:Int×List TD0×List TH0×List TA0×List TC0):Option (Lp (Int×List TD0×List TH0×List TA0×List TC0) (Sum (Int×Bs) (List TD0×List TH0×List TA0×List TC0))):=
    bif(decide (K1.1<((X2.length:Nat):Int))) then
     ((aB X2 K1.1).bind λX3=>
     (dz n X3.key).bind λX4=>
     (aT n X1.2.1 X3.key).bind λX5=>
     bif X4 then
      ((aT n X1.2.1 X3.key).bind λX6=>
      (cK n rec_syntax_template X3.key X3.v X6 K1.2.1 K1.2.2.1 K1.2.2.2.1 K1.2.2.2.2 rb).bind λX7=>
      (match X7 with
      |.inl X8=>some (.br (.inl X8))
      |.inr X9=>aL (inR .i64 (K1.1+1))<|
       some (.nx (K1.1+1,X9.1,X9.2.1,X9.2.2.1,X9.2.2.2))))
     else
      some (.br (.inl ((120:Int),X5))))
    else
     some (.br (.inr (K1.2.1,K1.2.2.1,K1.2.2.2.1,K1.2.2.2.2)))
def gS (n:Nat) (rec_syntax_template:TE0→Bs→Int→Option (Sum (Int×Bs) TB0)) (d0:Bs) (d1:Int) (cx:List TD0) (cy:List TH0) (cz:List TA0) (cA:List TC0) (rb:Int) (d3_f_0:TE0) (d3_f_1:Bs):Option (Sum (Int×Bs) (List TD0×List TH0×List TA0×List TC0)):=
 (aX n d0 d3_f_0 d3_f_1).bind λX1=>
 bif !X1.2.2 then
  (some (.inr (cx,cy,cz,cA)))
 else
  bif(decide (X1.1.ab=5)) then
   (bif(decide (((X1.1.af.length:Nat):Int)≤d1)) then
    ((cW n X1.1).bind λX2=>
    (au (ic n rec_syntax_template rb X1 X2) n ((0:Int),cx,cy,cz,cA)).bind λQ2=>
    (match Q2 with
    |.inl G1=>some (.inl G1)
    |.inr G2=>some (.inr (G2.1,G2.2.1,G2.2.2.1,G2.2.2.2))))
   else
    some (.inl ((3:Int),X1.2.1)))
  else
   some (.inl ((120:Int),X1.2.1))
set_option maxRecDepth 20000 in
theorem kq (n:Nat) (rec_syntax_template:TE0→Bs→Int→Option (Sum (Int×Bs) TB0)) (hrec_syntax_template: ∀ (M:Mem) (hG:GL M) (c0:Lv) (d0:TE0) (h0:Rep M (ai d0) c0) (d1:Bs) (d2:Int) (r:Sum (Int×Bs) TB0) (hF:rec_syntax_template d0 d1 d2=some r),OkX Tryz.prog M 23 [.agg c0.toArray,S d1,iL d2] 78 r (λr=>λM' v=>∃ (c0:Lv),v=.agg c0.toArray∧Rep M' (bB r) c0)) (M:Mem) (hG:GL M) (d0:Bs) (d1:Int) (lv:Nat) (cx:List TD0) (Z1:Oa) (P1:Nat) (L1:Lv) (D1:ae M (cx.map ba) L1) (cy:List TH0) (Z2:Oa) (P2:Nat) (L2:Lv) (D2:ae M (cy.map aH) L2) (cz:List TA0) (Z3:Oa) (P3:Nat) (L3:Lv) (D3:ae M (cz.map aY) L3) (cA:List TC0) (Z4:Oa) (P4:Nat) (L4:Lv) (D4:ae M (cA.map bc) L4) (ad2_1:Addr) (c2_1:Lv) (rb:Int) (h2_1:Rep M ((Dat.int .i64) rb) c2_1) (q2_1: ∀j v,c2_1[j]? =some v→M.cell? (ad2_1.add j)=some v) (ad3_f_0:Addr) (c3_f_0:Lv) (d3_f_0:TE0) (h3_f_0:Rep M (ai d3_f_0) c3_f_0) (q3_f_0: ∀j v,c3_f_0[j]? =some v→M.cell? (ad3_f_0.add j)=some v) (ad3_f_1:Addr) (c3_f_1:Lv) (d3_f_1:Bs) (h3_f_1:Rep M (Dat.str d3_f_1) c3_f_1) (q3_f_1: ∀j v,c3_f_1[j]? =some v→M.cell? (ad3_f_1.add j)=some v) (ad3:Addr) (q3: ∀j v,[(.func (.func 93) #[] #[Pa ad3_f_0,Pa ad3_f_1]:Value)][j]? =some v→M.cell? (ad3.add j)=some v) (r:Sum (Int×Bs) (List TD0×List TH0×List TA0×List TC0)) (hF:gS n rec_syntax_template d0 d1 cx cy cz cA rb d3_f_0 d3_f_1=some r):OkXH Tryz.prog M [oC lv #[sL Z1 cx P1,sL Z2 cy P2,sL Z3 cz P3,sL Z4 cA P4] 41,rO 58 10 Z1 cx P1 L1,rO 61 15 Z2 cy P2 L2,rO 66 7 Z3 cz P3 L3,rO 68 8 Z4 cA P4 L4] 46 [S d0,iL d1,.func (.func 53) #[] #[pP lv,Pa ad2_1],Pa ad3] 78 r (λr=>λM' E' v=>∃ (Z24:Oa) (P25:Nat) (L18:Lv) (Z25:Oa) (P26:Nat) (L19:Lv) (Z26:Oa) (P27:Nat) (L20:Lv) (Z27:Oa) (P28:Nat) (L21:Lv),v=.tuple #[]∧E'=[oC lv #[sL Z24 r.1 P25,sL Z25 r.2.1 P26,sL Z26 r.2.2.1 P27,sL Z27 r.t3 P28] 41,rO 58 10 Z24 r.1 P25 L18,rO 61 15 Z25 r.2.1 P26 L19,rO 66 7 Z26 r.2.2.1 P27 L20,rO 68 8 Z27 r.t3 P28 L21]∧ae M' (r.1.map ba) L18∧ae M' (r.2.1.map aH) L19∧ae M' (r.2.2.1.map aY) L20∧ae M' (r.t3.map bc) L21):=by
 unfold gS at hF
 intro M1 hM0 w0 H w p0
 replace hG:=GL.mono hM0 hG
 replace D1:=ae.mono hM0 _ _ D1
 replace D2:=ae.mono hM0 _ _ D2
 replace D3:=ae.mono hM0 _ _ D3
 replace D4:=ae.mono hM0 _ _ D4
 replace h2_1:=Rep.mono hM0 _ _ h2_1
 replace q2_1:=λj v h=>hM0.cell (q2_1 j v h)
 replace h3_f_0:=Rep.mono hM0 _ _ h3_f_0
 replace q3_f_0:=λj v h=>hM0.cell (q3_f_0 j v h)
 replace h3_f_1:=Rep.mono hM0 _ _ h3_f_1
 replace q3_f_1:=λj v h=>hM0.cell (q3_f_1 j v h)
 replace q3:=λj v h=>hM0.cell (q3 j v h)
 obtain rfl:c2_1=[iL rb]:=h2_1
 obtain⟨Z5,P5,Z6,P6,rfl,B1,B2⟩:=TE0.opn h3_f_0
 obtain rfl:c3_f_1=[S d3_f_1]:=h3_f_1
 refine Re 59 Tryz.func46 rfl λa0 f0=>RR (Y7 f0 p0 q3 0 rfl λ_ f=>Y f 1 λ_ f=>?_)
 obtain⟨X1,l1,F1⟩:=bS hF
 refine Y8 f p0 (bf n _ hG d0 ad3_f_0 (lTE0 d3_f_0 Z5 P5 Z6 P6) d3_f_0 h3_f_0.mo (bF (q3_f_0) 0 rfl) ad3_f_1 [S d3_f_1] d3_f_1 (rfl) (bF (q3_f_1) 0 rfl) X1 l1) λ_ V1 W1 J1 N1 ef _ f=>?_
 obtain⟨dW,rfl,D5⟩:=ef
 obtain⟨Z7,P7,Z8,P8,rfl,B3,B4⟩:=TE0.opn D5
 refine Y f 4 λ_ f=>Y4 f N1 (.cells #[iB 0,bO false,iL 0,S [],Sn,Sn] 26 (0,0)) λQ1 W2 N2 _ f=>Wu f N2 0 0 (lTE0 X1.1 Z7 P7 Z8 P8) λW3 N3 _ f=>Ye f 2 λ_ f=>ah (RR (Ye f 2 λ_ f=>RcF f F1 (λB5 F2=>?_) λB5 F3=>?_))
 ·refine wp_ret (bl (oQ f rfl ?_))
  cases sI F2
  exact⟨_,rfl,_,_,J1,(N3.dropN 1).kr,⟨Z1,P1,L1,Z2,P2,L2,Z3,P3,L3,Z4,P4,L4,rfl,rfl,D1.mo,D2.mo,D3.mo,D4.mo⟩⟩
 refine St (RR (Y f 1 λ_ f=>Z f (XO N3 0) λ_ f=>Y f 2 λ_ f=>?_))
 rcases cE F3 with⟨B6,F4⟩|⟨B6,F19⟩
 ·have f:=f.st 23 (cB B6)
  refine Y9 f N3 (bA _ (120:Int) X1.2.1) λW4 N4 _ f=>eT (RR (Y f 1 λ_ f=>Z f (XO N4 0) λ_ f=>Y f 4 λ_ f=>?_))
  rcases cE F4 with⟨B7,F5⟩|⟨B7,F18⟩
  ·have f:=f.st 30 (cB B7)
   refine Y9 f N4 (bA _ (3:Int) X1.2.1) λW5 N5 _ f=>eT (RR (Z f (XO N5 0) λ_ f=>?_))
   obtain⟨X2,l2,F6⟩:=bS F5
   refine Ch f N5 (eM n _ hG.mo _ X1.1 D5.mo X2 l2) λ_ V2 mG W6 J2 N6 iK _ f=>?_
   obtain⟨Z9,P9,L5,rfl,rfl,D6⟩:=iK
   refine Ye f 2 λ_ f=>wp_block ?_
   have N13:=N6.pl [2,2,2,6,6,6,6]
   obtain⟨Q2,ce,F7⟩:=bS F6
   refine wp_mono (Q:=λe a w=>(∃G1,e=.panic (flawE 78 G1)∧Q2=.inl G1∧∃V7,V2.le V7∧Frm 59 [] a∧Hp w0 V7 (H) w)∨(e=.exit 0∧(∃G2,Q2=.inr G2∧∃V8,V2.le V8∧∃Z20 P21 L14 Z21 P22 L15 Z22 P23 L16 Z23 P24 L17,ae V8 (G2.1.map ba) L14∧ae V8 (G2.2.1.map aH) L15∧ae V8 (G2.2.2.1.map aY) L16∧ae V8 (G2.t3.map bc) L17∧Frm 59 [] a∧Hp w0 V8 ((rO 58 10 Z20 G2.1 P21 L14)::(rO 61 15 Z21 G2.2.1 P22 L15)::(rO 66 7 Z22 G2.2.2.1 P23 L16)::(rO 68 8 Z23 G2.t3 P24 L17)::setE (setE (setE (setE (N13.en.drop 4) 2 0 [sL Z20 G2.1 P21]) 2 1 [sL Z21 G2.2.1 P22]) 2 2 [sL Z22 G2.2.2.1 P23]) 2 3 [sL Z23 G2.t3 P24]) w))) (aZ (σ:=(Int×List TD0×List TH0×List TA0×List TC0)×Oa×Nat×Lv×Oa×Nat×Lv×Oa×Nat×Lv×Oa×Nat×Lv) (λx=>match x with|(I1,K1,Z10,P10,L6,Z11,P11,L7,Z12,P12,L8,Z13,P13,L9)=>(((36,iL K1.1)::kpL [2,8,34,35] f.fr),((rO 58 10 Z10 K1.2.1 P10 L6)::(rO 61 15 Z11 K1.2.2.1 P11 L7)::(rO 66 7 Z12 K1.t3.1 P12 L8)::(rO 68 8 Z13 K1.t4 P13 L9)::setE (setE (setE (setE (N13.en.drop 4) 2 0 [sL Z10 K1.2.1 P10]) 2 1 [sL Z11 K1.2.2.1 P11]) 2 2 [sL Z12 K1.t3.1 P12]) 2 3 [sL Z13 K1.t4 P13]),λMM=>au (ic n rec_syntax_template rb X1 X2) I1 K1=some Q2∧ae MM (K1.2.1.map ba) L6∧ae MM (K1.2.2.1.map aH) L7∧ae MM (K1.t3.1.map aY) L8∧ae MM (K1.t4.map bc) L9)) (n,((0:Int),cx,cy,cz,cA),Z1,P1,L1,Z2,P2,L2,Z3,P3,L3,Z4,P4,L4) (f.kp) N13.kr ⟨ce,D1.mo,D2.mo,D3.mo,D4.mo⟩ ?_) ?_
   ·rintro⟨I1,K1,Z10,P10,L6,Z11,P11,L7,Z12,P12,L8,Z13,P13,L9⟩ V3 _ W7 J3 gL f N14
    obtain⟨ci,D7,D8,D9,D10⟩:=gL
    dsimp only[Hp.en] at N14
    obtain⟨I2,lT,rfl,bg,T1⟩:=aK ci
    unfold ic at bg
    refine RR (Ye f 1 λ_ f=>ah (RcF f bg (λB8 F8=>?_) λB8 F17=>?_))
    ·refine St (ah (wp_block (RR ?_)))
     obtain⟨X3,l3,F9⟩:=bS F8
     obtain⟨Q3,P14,H1,mJ⟩:=N14.rowAddr 4 rfl (bn l3)
     refine Z f (XIo H1 l3) λ_ f=>?_
     obtain⟨ie,-,D11,R1⟩:=ae.get K1.1.toNat (dv em) (ae.mono J3 _ _ D6) (ig l3)
     obtain⟨Z14,P15,Z15,P16,rfl,B9,B10⟩:=aD.opn D11
     refine Z f (XR N14 4 H1 R1 0) λ_ f=>Y4 f N14 (.cells #[S [],iB 0,bO false,iL 0,S [],Sn,Sn] 99 (0,0)) λQ4 W8 N15 _ f=>Wu f N15 0 0 [S X3.key,iB X3.v.ab,bO X3.v.an,iL X3.v.ak,S X3.v.aa,sL Z14 X3.v.ac P15,sL Z15 X3.v.af P16] λW9 N16 _ f=>eT (ah (cu 0 [(0,true),(1,true),(2,true),(3,true),(4,true),(5,true),(6,true),(7,false)] N16 (Y0 default f 1 λ_ f=>bG f kr kr rfl rfl (λ_ pq=>XO pq 0) λ_ f=>?_)))
     obtain⟨X4,l4,F10⟩:=bS F9
     refine eR (v:=bO X4) f kr kr rfl rfl (λ_=>by kernel_rfl) (dK n _ X3.key X4 l4) λ_ f=>Y0 default f 2 λ_ f=>bG f kr kr rfl rfl (λ_ pq=>XO pq 0) λ_ f=>?_
     obtain⟨X5,l5,F11⟩:=bS F10
     refine eR (v:=S X5) f kr kr rfl rfl (λ_=>by kernel_rfl) (aR n _ hG.mo X1.2.1 X3.key X5 l5) λ_ f=>bI λW12 N19=>?_
     rcases cE F11 with⟨B11,F12⟩|⟨B11,F16⟩
     ·have f:=f.st 42 (cB B11)
      refine Y9 f N19 (bA _ (120:Int) X5) λW13 N20 _ f=>ag rfl (bL 0 mL N20 (dx rfl λW14 N21=>az ?_))
      have N29:=N21.pl [6,6,2,7,7,7,7,7]
      refine cu 5 [(0,true),(1,true),(2,true),(3,true),(4,true),(5,true),(6,true),(7,true),(8,true),(9,false)] N29 (Y0 default f 2 λ_ f=>bG f kr kr rfl rfl (λ_ pq=>XO pq 0) λ_ f=>Y0 default f 1 λ_ f=>bG f kr kr rfl rfl (λ_ pq=>XO pq 0) λ_ f=>Y0 default f 2 λ_ f=>bG f kr kr rfl rfl (λ_ pq=>XO pq 0) λ_ f=>?_)
      obtain⟨X6,l6,F13⟩:=bS F12
      refine eR (v:=S X6) f kr kr rfl rfl (λ_=>by kernel_rfl) (aR n _ hG.mo X1.2.1 X3.key X6 l6) λ_ f=>bI λW16 N31=>?_
      obtain⟨X7,l7,F14⟩:=bS F13
      rcases X7 with X8|X9
      ·have N37:=N31.pl [3,3,3,3,4]
       refine Cx f N37 (ku n rec_syntax_template hrec_syntax_template _ hG.mo X3.key _ X3.v (TE0.shutx B9 B10) X6 lv K1.2.1 Z10 P10 L6 D7 K1.2.2.1 Z11 P11 L7 D8 K1.t3.1 Z12 P12 L8 D9 K1.t4 Z13 P13 L9 D10 ad2_1 [iL rb] rb (rfl) (bF (fu q2_1) 0 rfl) (.inl X8) l7) λV4 W17 J4 N32=>pm f λ_ f=>oP (cj (cj ?_))
       cases sI F14
       exact .inl ⟨_,rfl,(sI T1).symm,_,mL,f.kp,(N32.dropN 3).kr⟩
      have N43:=N31.pl [3,3,3,3,4]
      refine Ch f N43 (OkXH.ok (ku n rec_syntax_template hrec_syntax_template _ hG.mo X3.key _ X3.v (TE0.shutx B9 B10) X6 lv K1.2.1 Z10 P10 L6 D7 K1.2.2.1 Z11 P11 L7 D8 K1.t3.1 Z12 P12 L8 D9 K1.t4 Z13 P13 L9 D10 ad2_1 [iL rb] rb (rfl) (bF (fu q2_1) 0 rfl) (.inr X9) l7)) λ_ V5 rB W18 J5 N38 mi _ f=>?_
      obtain⟨Z16,P17,L10,Z17,P18,L11,Z18,P19,L12,Z19,P20,L13,rfl,rfl,D12,D13,D14,D15⟩:=mi
      refine ag rfl (bL 5 J5 N38 (dx rfl λW19 N44=>ec (az (ay ?_))))
      obtain⟨O1,F15⟩:=nS F14
      refine Y f 1 λ_ f=>?_
      have f:=f.st 58 (iW O1)
      refine Y f 1 λ_ f=>ag rfl ?_
      have N54:=N44.pl [7,7,6,6,6,6,7]
      refine az ?_
      cases sI F15
      exact⟨⟨_,_,Z16,P17,L10,Z17,P18,L11,Z18,P19,L12,Z19,P20,L13⟩,Nat.lt_succ_self _,_,mL,⟨T1,D12,D13,D14,D15⟩,f.kp,(N54.dropN 1).kr⟩
     have f:=f.st 42 (cB B11)
     refine aN f N19 (bz _ (120:Int) X5) kr (λ_=>by kernel_rfl) λV6 W20 J6 N45=>pm f λ_ f=>cj (oP (cj (cj ?_)))
     cases sI F16
     exact .inl ⟨_,rfl,(sI T1).symm,_,mL,f.kp,(N45.dropN 8).kr⟩
    refine wp_exit (dJ (dJ ?_))
    cases sI F17
    exact .inr ⟨rfl,_,(sI T1).symm,_,J3,Z10,P10,L6,Z11,P11,L7,Z12,P12,L8,Z13,P13,L9,D7,D8,D9,D10,f.kp,N14.kr⟩
   rintro _ _ W23 (⟨G1,rfl,rfl,V7,J7,f,N46⟩|⟨rfl,G2,rfl,V8,J8,Z20,P21,L14,Z21,P22,L15,Z22,P23,L16,Z23,P24,L17,D16,D17,D18,D19,f,N47⟩)
   ·refine oP (aV f ?_)
    cases sI F7
    exact⟨V7,mL,N46,rfl⟩
   refine jV (eN f rfl ?_)
   cases sI F7
   have N61:=N47.pl [3,3,3,3,6,6,6]
   exact⟨_,rfl,_,_,mL,(N61.dropN 2).kr,⟨Z20,P21,L14,Z21,P22,L15,Z22,P23,L16,Z23,P24,L17,rfl,rfl,D16,D17,D18,D19⟩⟩
  have f:=f.st 30 (cB B7)
  refine aN f N4 (bz _ (3:Int) X1.2.1) kr (λ_=>by kernel_rfl) λV9 W24 J9 N62=>cj (aV f ?_)
  cases sI F18
  exact⟨V9,mL,(N62.dropN 6),rfl⟩
 have f:=f.st 23 (cB B6)
 refine aN f N3 (bz _ (120:Int) X1.2.1) kr (λ_=>by kernel_rfl) λV10 W25 J10 N63=>cj (aV f ?_)
 cases sI F19
 exact⟨V10,mL,(N63.dropN 6),rfl⟩
def jO (n:Nat) (d0:Bs) (d1:TE0) (d2:Bs):Option (Sum (Int×Bs) TC0):=
 (cX n d1 d2 ([[86,97,108,117,101],[67,111,110,100,105,116,105,111,110]]:List Bs)).bind λX1=>
 (match X1 with
 |.inl X2=>some (.inl X2)
 |.inr X3=>(aX n [86,97,108,117,101] X3.1 X3.2).bind λX4=>
  bif X4.2.2 then
   ((jj n X4.1 X4.2.1).bind λX5=>
   (match X5 with
   |.inl X6=>some (.inl X6)
   |.inr X7=>(aX n [67,111,110,100,105,116,105,111,110] X3.1 X3.2).bind λX8=>
    (eZ n X8.1 X8.2.1 (X8.2.2)).bind λX9=>
    (match X9 with
    |.inl X10=>some (.inl X10)
    |.inr X11=>some (.inr (⟨d0,X11,X7⟩:TC0)))))
  else
   some (.inl ((120:Int),d2)))
theorem mE (n:Nat) (M:Mem) (hG:GL M) (d0:Bs) (c1:Lv) (d1:TE0) (h1:Rep M (ai d1) c1) (d2:Bs) (r:Sum (Int×Bs) TC0) (hF:jO n d0 d1 d2=some r):OkX Tryz.prog M 56 [S d0,.agg c1.toArray,S d2] 78 r (λr=>λM' v=>∃ (c0:Lv),v=.agg c0.toArray∧Rep M' (bc r) c0):=by
 unfold jO at hF
 intro M1 hM0 w0 H w p0
 replace hG:=GL.mono hM0 hG
 replace h1:=Rep.mono hM0 _ _ h1
 obtain⟨Z1,P1,Z2,P2,rfl,B1,B2⟩:=TE0.opn h1
 refine Re 38 Tryz.func56 rfl λa0 f0=>RR (Y5 (cs:=(aTE0 d1 Z1 P1 Z2 P2)) (T:=26) f0 p0 λQ1 V1 W1 J1 R1 N1 _ f=>?_)
 have R2:=aU R1
 refine Y4 f N1 (.cells #[S [],S [],iB 0,S [],iL 0,S [],S [],Sn] 68 (0,0)) λQ2 W2 N2 _ f=>eT (RR (Z f (XK N2 R2 0) λ_ f=>Y f 1 λ_ f=>aE (k:=2) (c:=2) f N2 (.cells #[S [86,97,108,117,101],S [67,111,110,100,105,116,105,111,110]] 9 (0,0)) kr (λ_=>by kernel_rfl) λQ3 W3 N3 _ f=>?_))
 obtain⟨Z3,P3,V2,H1,J2,N4,B3⟩:=N3.litS (f:=Dat.str) 2 bH (dD ([[86,97,108,117,101],[67,111,110,100,105,116,105,111,110]]:List Bs))
 have f:=f.st 14 (H1)
 obtain⟨X1,l1,F1⟩:=bS hF
 rcases X1 with X2|X3
 ·refine aN f N4 (cd n _ hG.mo _ d1 h1.mo d2 Z3 P3 ([[86,97,108,117,101],[67,111,110,100,105,116,105,111,110]]:List Bs) B3 (.inl X2) l1) kr (λ_=>by kernel_rfl) λV3 W4 J3 N5=>cj (aV f ?_)
  cases sI F1
  exact⟨V3,mL,(N5.dropN 1),rfl⟩
 refine Y8 f N4 (OkX.ok (cd n _ hG.mo _ d1 h1.mo d2 Z3 P3 ([[86,97,108,117,101],[67,111,110,100,105,116,105,111,110]]:List Bs) B3 (.inr X3) l1)) λ_ V4 W5 J4 N6 ef _ f=>?_
 obtain⟨C1,dW,C2,ie,rfl,D1,eS,D2,hZ⟩:=ef
 obtain⟨Z4,P4,Z5,P5,rfl,B4,B5⟩:=TE0.opn D1
 obtain rfl:ie=[S X3.2]:=D2
 refine Ye f 1 λ_ f=>RR (Y f 1 λ_ f=>?_)
 obtain⟨X4,l2,F2⟩:=bS F1
 refine Y8 f N6 (bf n _ hG.mo [86,97,108,117,101] C1 (lTE0 X3.1 Z4 P4 Z5 P5) X3.1 D1.mo (bF (eS) 0 rfl) C2 [S X3.2] X3.2 (rfl) (bF (hZ) 0 rfl) X4 l2) λ_ V5 W6 J5 N7 iK _ f=>?_
 obtain⟨lQ,rfl,D3⟩:=iK
 obtain⟨Z6,P6,Z7,P7,rfl,B6,B7⟩:=TE0.opn D3
 refine Y f 4 λ_ f=>Y4 f N7 (.cells #[iB 0,bO false,iL 0,S [],Sn,Sn] 26 (0,0)) λQ4 W7 N8 _ f=>Wu f N8 0 0 (lTE0 X4.1 Z6 P6 Z7 P7) λW8 N9 _ f=>Ye f 2 λ_ f=>RR (Y f 2 λ_ f=>?_)
 rcases cE F2 with⟨B8,F3⟩|⟨B8,F7⟩
 ·have f:=f.st 22 (cB B8)
  refine Y9 f N9 (bA _ (120:Int) d2) λW9 N10 _ f=>eT (RR (Y f 1 λ_ f=>Z f (XO N10 0) λ_ f=>Y f 1 λ_ f=>?_))
  obtain⟨X5,l3,F4⟩:=bS F3
  rcases X5 with X6|X7
  ·refine aN f N10 (eB n _ hG.mo _ X4.1 D3.mo X4.2.1 (.inl X6) l3) kr (λ_=>by kernel_rfl) λV6 W10 J6 N11=>cj (aV f ?_)
   cases sI F4
   exact⟨V6,mL,(N11.dropN 2),rfl⟩
  refine Y8 f N10 (OkX.ok (eB n _ hG.mo _ X4.1 D3.mo X4.2.1 (.inr X7) l3)) λ_ V7 W11 J7 N12 mi _ f=>?_
  obtain⟨rJ,rfl,D4⟩:=mi
  obtain⟨Z8,P8,rfl,B9⟩:=TG0.opn D4
  refine Y f 1 λ_ f=>Y4 f N12 (.cells #[S [],S [],iB 0,S [],iL 0,S [],S [],Sn] 68 (0,0)) λQ5 W12 N13 _ f=>Wu f N13 0 0 [S d0,S [],iB X7.ab,S X7.aa,iL X7.ak,S X7.av,S X7.aF,sL Z8 X7.fL P8] λW13 N14 _ f=>eT (RR (Y f 1 λ_ f=>?_))
  obtain⟨X8,l4,F5⟩:=bS F4
  refine Y8 f N14 (bf n _ hG.mo [67,111,110,100,105,116,105,111,110] C1 (lTE0 X3.1 Z4 P4 Z5 P5) X3.1 D1.mo (bF (fu eS) 0 rfl) C2 [S X3.2] X3.2 (rfl) (bF (fu hZ) 0 rfl) X8 l4) λ_ V8 W14 J8 N15 nt _ f=>?_
  obtain⟨c_5,rfl,D5⟩:=nt
  obtain⟨Z9,P9,Z10,P10,rfl,B10,B11⟩:=TE0.opn D5
  refine Y f 3 λ_ f=>?_
  obtain⟨X9,l5,F6⟩:=bS F5
  rcases X9 with X10|X11
  ·refine aN f N15 (gz n _ hG.mo _ X8.1 D5.mo X8.2.1 (X8.2.2) (.inl X10) l5) kr (λ_=>by kernel_rfl) λV9 W15 J9 N16=>cj (aV f ?_)
   cases sI F6
   exact⟨V9,mL,(N16.dropN 3),rfl⟩
  refine Y8 f N15 (OkX.ok (gz n _ hG.mo _ X8.1 D5.mo X8.2.1 (X8.2.2) (.inr X11) l5)) λ_ V10 W16 J10 N17 pg _ f=>?_
  obtain⟨rfl⟩:=pg
  refine Y f 1 λ_ f=>Wt f N17 0 1 (S X11) λW17 N18 _ f=>eT (RR (Z f (XO N18 0) λ_ f=>Wu f N18 2 0 [S d0,S X11,iB X7.ab,S X7.aa,iL X7.ak,S X7.av,S X7.aF,sL Z8 X7.fL P8] λW18 N19 _ f=>Er (bM f rfl (Rv.oN [S d0,S X11,iB X7.ab,S X7.aa,iL X7.ak,S X7.av,S X7.aF,sL Z8 X7.fL P8] f N19 2 0) ?_)))
  cases sI F6
  exact⟨_,rfl,_,mL,(N19.dropN 3).kr,⟨_,rfl,(TC0.shutx B9.mo)⟩⟩
 have f:=f.st 22 (cB B8)
 refine aN f N9 (bz _ (120:Int) d2) kr (λ_=>by kernel_rfl) λV11 W19 J11 N20=>cj (aV f ?_)
 cases sI F7
 exact⟨V11,mL,(N20.dropN 2),rfl⟩
def dm (n:Nat) (d0:Bs) (d1:TE0) (d2:Bs) (jy:List TD0) (dt:List TH0) (jz:List TA0) (jA:List TC0):Option (Sum (Int×Bs) (List TD0×List TH0×List TA0×List TC0)):=
 (((jO n d0 d1 d2).bind λX1=>
   aL ((jA.length+1)*120≤140737488355328)<|
   (match X1 with
   |.inl X5=>((some (.inl X5):Option (Sum (Int×Bs) (List TD0×List TH0×List TA0×List TC0)))).map Lp.br
   |.inr X6=>some (.nx (jA++[X6]))):Option (Lp (List TC0) (Sum (Int×Bs) (List TD0×List TH0×List TA0×List TC0))))).bind λj=>joinF j λG1=>
 some (.inr (jy,dt,jz,G1))
theorem kY (n:Nat) (M:Mem) (hG:GL M) (d0:Bs) (c1:Lv) (d1:TE0) (h1:Rep M (ai d1) c1) (d2:Bs) (b3:Nat) (jy:List TD0) (Z1:Oa) (P1:Nat) (L1:Lv) (D1:ae M (jy.map ba) L1) (dt:List TH0) (Z2:Oa) (P2:Nat) (L2:Lv) (D2:ae M (dt.map aH) L2) (jz:List TA0) (Z3:Oa) (P3:Nat) (L3:Lv) (D3:ae M (jz.map aY) L3) (jA:List TC0) (Z4:Oa) (P4:Nat) (L4:Lv) (D4:ae M (jA.map bc) L4) (r:Sum (Int×Bs) (List TD0×List TH0×List TA0×List TC0)) (hF:dm n d0 d1 d2 jy dt jz jA=some r):OkXH Tryz.prog M [oC b3 #[sL Z1 jy P1,sL Z2 dt P2,sL Z3 jz P3,sL Z4 jA P4] 41,rO 58 10 Z1 jy P1 L1,rO 61 15 Z2 dt P2 L2,rO 66 7 Z3 jz P3 L3,rO 68 8 Z4 jA P4 L4] 55 [S d0,.agg c1.toArray,S d2,pP b3] 78 r (λr=>λM' E' v=>∃ (Z12:Oa) (P12:Nat) (L8:Lv) (Z13:Oa) (P13:Nat) (L9:Lv) (Z14:Oa) (P14:Nat) (L10:Lv) (Z15:Oa) (P15:Nat) (L11:Lv),v=.tuple #[]∧E'=[oC b3 #[sL Z12 r.1 P12,sL Z13 r.2.1 P13,sL Z14 r.2.2.1 P14,sL Z15 r.t3 P15] 41,rO 58 10 Z12 r.1 P12 L8,rO 61 15 Z13 r.2.1 P13 L9,rO 66 7 Z14 r.2.2.1 P14 L10,rO 68 8 Z15 r.t3 P15 L11]∧ae M' (r.1.map ba) L8∧ae M' (r.2.1.map aH) L9∧ae M' (r.2.2.1.map aY) L10∧ae M' (r.t3.map bc) L11):=by
 unfold dm at hF
 intro M1 hM0 w0 H w p0
 replace hG:=GL.mono hM0 hG
 replace h1:=Rep.mono hM0 _ _ h1
 replace D1:=ae.mono hM0 _ _ D1
 replace D2:=ae.mono hM0 _ _ D2
 replace D3:=ae.mono hM0 _ _ D3
 replace D4:=ae.mono hM0 _ _ D4
 obtain⟨Z5,P5,Z6,P6,rfl,B1,B2⟩:=TE0.opn h1
 refine Re 16 Tryz.func55 rfl λa0 f0=>RR (Y5 (cs:=(aTE0 d1 Z5 P5 Z6 P6)) (T:=26) f0 p0 λQ1 V1 W1 J1 R1 N1 _ f=>?_)
 have R2:=aU R1
 refine eT ?_
 obtain⟨eF,cL,F1⟩:=bS hF
 refine aW (λa_22 W15=>∃G1,eF=.nx G1∧∃V6,V1.le V6∧∃Z11 P11 L7,ae V6 (G1.map bc) L7∧Frm 16 [] a_22∧Hp w0 V6 ((rO 68 8 Z11 G1 P11 L7)::setE (selE [0,1,2,3] 5 N1.en) 0 3 [sL Z11 G1 P11]) W15) ?_ ?_
 ·have N10:=N1.pl [3,3,3,3,4]
  obtain⟨X1,l1,F2⟩:=bS cL
  obtain⟨O1,F3⟩:=nS F2
  refine dG [8,9] 1 N10 (.quiet 0 (.quiet 1 (.quiet 2 (.quiet 3 (.quiet 4 (.alt 5 (.alt 6 (.alt 7 .done .none) .none) .none)))))) (Y1 (v:=Pa (⟨b3,3,none⟩)) rfl f rfl rfl (λ_ _=>by kernel_rfl) λ_ f=>Y1 rfl f rfl rfl (λ_ pq=>XO pq 0) λ_ f=>Y1 (v:=S d0) rfl f rfl rfl (λ_ _=>by kernel_rfl) λ_ f=>Y1 rfl f rfl rfl (λ_ pq=>XK pq R2 0) λ_ f=>Y1 (v:=S d2) rfl f rfl rfl (λ_ _=>by kernel_rfl) λ_ f=>ao rfl (λW6 N11=>?_) ?_)
  ·rcases X1 with X5|X6
   ·refine aN f N11 (mE n _ hG.mo d0 _ d1 h1.mo d2 (.inl X5) l1) kr (λ_=>by kernel_rfl) λV4 W7 J4 N12=>pm f λ_ f=>?_
    have F4:=bw F3 F1
    refine cj (aV f ?_)
    cases sI F4
    exact⟨V4,mL,(N12.dropN 5),rfl⟩
   refine Y8 f N11 (OkX.ok (mE n _ hG.mo d0 _ d1 h1.mo d2 (.inr X6) l1)) λ_ V5 W8 J5 N13 iK _ f=>?_
   obtain⟨ie,rfl,D7⟩:=iK
   obtain⟨Z9,P9,rfl,B4⟩:=TC0.opn D7
   refine ag rfl (ap 1 J5 N13 (ao rfl (λW9 N14=>?_) ?_))
   ·refine aE (k:=1) (c:=1) f N14 (.cells (aTC0 X6 Z9 P9) 68 (0,0)) kr (λ_=>by kernel_rfl) λQ3 W10 N15 _ f=>ag rfl (ap 2 J5 N15 (ao rfl (λW11 N16=>?_) ?_))
    ·refine dM X6 0 f (N16.toRow 1 68 8 Z4 P4 D4.mo) D4.mo (TC0.shutx B4) O1 λZ10 P10 L6 W12 N17 D8 _ f=>ag rfl (ap 1 J5 N17 (dp λW13 N18=>Y f 1 λ_ f=>Wt f N18 1 3 (sL Z10 (jA++[X6]) P10) λW14 N19 _ f=>ag rfl (jD (az ?_))))
     exact⟨_,(sI F3).symm,_,J5,Z10,P10,L6,D8,f.kp,N19.kr⟩
    exact al
   exact al
  exact al
 rintro a_22 W15 ⟨G1,rfl,V6,J6,Z11,P11,L7,D9,f,N20⟩
 dsimp only[Hp.en] at N20
 refine eN f rfl ?_
 cases sI F1
 have N24:=N20.pl [4,4,4,4]
 exact⟨_,rfl,_,_,mL,N24.kr,⟨Z1,P1,L1,Z2,P2,L2,Z3,P3,L3,Z11,P11,L7,rfl,rfl,D1.mo,D2.mo,D3.mo,D9⟩⟩
def ib (n:Nat) (X1:TE0×Bs×Bool) (X2:List aD) (K1:Int×List TD0×List TH0×List TA0×List TC0):Option (Lp (Int×List TD0×List TH0×List TA0×List TC0) (Sum (Int×Bs) (List TD0×List TH0×List TA0×List TC0))):=
    bif(decide (K1.1<((X2.length:Nat):Int))) then
     ((aB X2 K1.1).bind λX3=>
     (dz n X3.key).bind λX4=>
     (aT n X1.2.1 X3.key).bind λX5=>
     bif X4 then
      ((aT n X1.2.1 X3.key).bind λX6=>
      (dm n X3.key X3.v X6 K1.2.1 K1.2.2.1 K1.2.2.2.1 K1.2.2.2.2).bind λX7=>
      (match X7 with
      |.inl X8=>some (.br (.inl X8))
      |.inr X9=>aL (inR .i64 (K1.1+1))<|
       some (.nx (K1.1+1,X9.1,X9.2.1,X9.2.2.1,X9.2.2.2))))
     else
      some (.br (.inl ((120:Int),X5))))
    else
     some (.br (.inr (K1.2.1,K1.2.2.1,K1.2.2.2.1,K1.2.2.2.2)))
def gR (n:Nat) (d0:Bs) (d1:Int) (cx:List TD0) (cy:List TH0) (cz:List TA0) (cA:List TC0) (d3_f_0:TE0) (d3_f_1:Bs):Option (Sum (Int×Bs) (List TD0×List TH0×List TA0×List TC0)):=
 (aX n d0 d3_f_0 d3_f_1).bind λX1=>
 bif !X1.2.2 then
  (some (.inr (cx,cy,cz,cA)))
 else
  bif(decide (X1.1.ab=5)) then
   (bif(decide (((X1.1.af.length:Nat):Int)≤d1)) then
    ((cW n X1.1).bind λX2=>
    (au (ib n X1 X2) n ((0:Int),cx,cy,cz,cA)).bind λQ2=>
    (match Q2 with
    |.inl G1=>some (.inl G1)
    |.inr G2=>some (.inr (G2.1,G2.2.1,G2.2.2.1,G2.2.2.2))))
   else
    some (.inl ((3:Int),X1.2.1)))
  else
   some (.inl ((120:Int),X1.2.1))
set_option maxRecDepth 20000 in
theorem ko (n:Nat) (M:Mem) (hG:GL M) (d0:Bs) (d1:Int) (lv:Nat) (cx:List TD0) (Z1:Oa) (P1:Nat) (L1:Lv) (D1:ae M (cx.map ba) L1) (cy:List TH0) (Z2:Oa) (P2:Nat) (L2:Lv) (D2:ae M (cy.map aH) L2) (cz:List TA0) (Z3:Oa) (P3:Nat) (L3:Lv) (D3:ae M (cz.map aY) L3) (cA:List TC0) (Z4:Oa) (P4:Nat) (L4:Lv) (D4:ae M (cA.map bc) L4) (ad3_f_0:Addr) (c3_f_0:Lv) (d3_f_0:TE0) (h3_f_0:Rep M (ai d3_f_0) c3_f_0) (q3_f_0: ∀j v,c3_f_0[j]? =some v→M.cell? (ad3_f_0.add j)=some v) (ad3_f_1:Addr) (c3_f_1:Lv) (d3_f_1:Bs) (h3_f_1:Rep M (Dat.str d3_f_1) c3_f_1) (q3_f_1: ∀j v,c3_f_1[j]? =some v→M.cell? (ad3_f_1.add j)=some v) (ad3:Addr) (q3: ∀j v,[(.func (.func 93) #[] #[Pa ad3_f_0,Pa ad3_f_1]:Value)][j]? =some v→M.cell? (ad3.add j)=some v) (r:Sum (Int×Bs) (List TD0×List TH0×List TA0×List TC0)) (hF:gR n d0 d1 cx cy cz cA d3_f_0 d3_f_1=some r):OkXH Tryz.prog M [oC lv #[sL Z1 cx P1,sL Z2 cy P2,sL Z3 cz P3,sL Z4 cA P4] 41,rO 58 10 Z1 cx P1 L1,rO 61 15 Z2 cy P2 L2,rO 66 7 Z3 cz P3 L3,rO 68 8 Z4 cA P4 L4] 46 [S d0,iL d1,.func (.func 55) #[] #[pP lv],Pa ad3] 78 r (λr=>λM' E' v=>∃ (Z24:Oa) (P25:Nat) (L18:Lv) (Z25:Oa) (P26:Nat) (L19:Lv) (Z26:Oa) (P27:Nat) (L20:Lv) (Z27:Oa) (P28:Nat) (L21:Lv),v=.tuple #[]∧E'=[oC lv #[sL Z24 r.1 P25,sL Z25 r.2.1 P26,sL Z26 r.2.2.1 P27,sL Z27 r.t3 P28] 41,rO 58 10 Z24 r.1 P25 L18,rO 61 15 Z25 r.2.1 P26 L19,rO 66 7 Z26 r.2.2.1 P27 L20,rO 68 8 Z27 r.t3 P28 L21]∧ae M' (r.1.map ba) L18∧ae M' (r.2.1.map aH) L19∧ae M' (r.2.2.1.map aY) L20∧ae M' (r.t3.map bc) L21):=by
 unfold gR at hF
 intro M1 hM0 w0 H w p0
 replace hG:=GL.mono hM0 hG
 replace D1:=ae.mono hM0 _ _ D1
 replace D2:=ae.mono hM0 _ _ D2
 replace D3:=ae.mono hM0 _ _ D3
 replace D4:=ae.mono hM0 _ _ D4
 replace h3_f_0:=Rep.mono hM0 _ _ h3_f_0
 replace q3_f_0:=λj v h=>hM0.cell (q3_f_0 j v h)
 replace h3_f_1:=Rep.mono hM0 _ _ h3_f_1
 replace q3_f_1:=λj v h=>hM0.cell (q3_f_1 j v h)
 replace q3:=λj v h=>hM0.cell (q3 j v h)
 obtain⟨Z5,P5,Z6,P6,rfl,B1,B2⟩:=TE0.opn h3_f_0
 obtain rfl:c3_f_1=[S d3_f_1]:=h3_f_1
 refine Re 59 Tryz.func46 rfl λa0 f0=>RR (Y7 f0 p0 q3 0 rfl λ_ f=>Y f 1 λ_ f=>?_)
 obtain⟨X1,l1,F1⟩:=bS hF
 refine Y8 f p0 (bf n _ hG d0 ad3_f_0 (lTE0 d3_f_0 Z5 P5 Z6 P6) d3_f_0 h3_f_0.mo (bF (q3_f_0) 0 rfl) ad3_f_1 [S d3_f_1] d3_f_1 (rfl) (bF (q3_f_1) 0 rfl) X1 l1) λ_ V1 W1 J1 N1 ef _ f=>?_
 obtain⟨dW,rfl,D5⟩:=ef
 obtain⟨Z7,P7,Z8,P8,rfl,B3,B4⟩:=TE0.opn D5
 refine Y f 4 λ_ f=>Y4 f N1 (.cells #[iB 0,bO false,iL 0,S [],Sn,Sn] 26 (0,0)) λQ1 W2 N2 _ f=>Wu f N2 0 0 (lTE0 X1.1 Z7 P7 Z8 P8) λW3 N3 _ f=>Ye f 2 λ_ f=>ah (RR (Ye f 2 λ_ f=>RcF f F1 (λB5 F2=>?_) λB5 F3=>?_))
 ·refine wp_ret (bl (oQ f rfl ?_))
  cases sI F2
  exact⟨_,rfl,_,_,J1,(N3.dropN 1).kr,⟨Z1,P1,L1,Z2,P2,L2,Z3,P3,L3,Z4,P4,L4,rfl,rfl,D1.mo,D2.mo,D3.mo,D4.mo⟩⟩
 refine St (RR (Y f 1 λ_ f=>Z f (XO N3 0) λ_ f=>Y f 2 λ_ f=>?_))
 rcases cE F3 with⟨B6,F4⟩|⟨B6,F19⟩
 ·have f:=f.st 23 (cB B6)
  refine Y9 f N3 (bA _ (120:Int) X1.2.1) λW4 N4 _ f=>eT (RR (Y f 1 λ_ f=>Z f (XO N4 0) λ_ f=>Y f 4 λ_ f=>?_))
  rcases cE F4 with⟨B7,F5⟩|⟨B7,F18⟩
  ·have f:=f.st 30 (cB B7)
   refine Y9 f N4 (bA _ (3:Int) X1.2.1) λW5 N5 _ f=>eT (RR (Z f (XO N5 0) λ_ f=>?_))
   obtain⟨X2,l2,F6⟩:=bS F5
   refine Ch f N5 (eM n _ hG.mo _ X1.1 D5.mo X2 l2) λ_ V2 mG W6 J2 N6 iK _ f=>?_
   obtain⟨Z9,P9,L5,rfl,rfl,D6⟩:=iK
   refine Ye f 2 λ_ f=>wp_block ?_
   have N13:=N6.pl [2,2,2,6,6,6,6]
   obtain⟨Q2,ce,F7⟩:=bS F6
   refine wp_mono (Q:=λe a w=>(∃G1,e=.panic (flawE 78 G1)∧Q2=.inl G1∧∃V7,V2.le V7∧Frm 59 [] a∧Hp w0 V7 (H) w)∨(e=.exit 0∧(∃G2,Q2=.inr G2∧∃V8,V2.le V8∧∃Z20 P21 L14 Z21 P22 L15 Z22 P23 L16 Z23 P24 L17,ae V8 (G2.1.map ba) L14∧ae V8 (G2.2.1.map aH) L15∧ae V8 (G2.2.2.1.map aY) L16∧ae V8 (G2.t3.map bc) L17∧Frm 59 [] a∧Hp w0 V8 ((rO 58 10 Z20 G2.1 P21 L14)::(rO 61 15 Z21 G2.2.1 P22 L15)::(rO 66 7 Z22 G2.2.2.1 P23 L16)::(rO 68 8 Z23 G2.t3 P24 L17)::setE (setE (setE (setE (N13.en.drop 4) 2 0 [sL Z20 G2.1 P21]) 2 1 [sL Z21 G2.2.1 P22]) 2 2 [sL Z22 G2.2.2.1 P23]) 2 3 [sL Z23 G2.t3 P24]) w))) (aZ (σ:=(Int×List TD0×List TH0×List TA0×List TC0)×Oa×Nat×Lv×Oa×Nat×Lv×Oa×Nat×Lv×Oa×Nat×Lv) (λx=>match x with|(I1,K1,Z10,P10,L6,Z11,P11,L7,Z12,P12,L8,Z13,P13,L9)=>(((36,iL K1.1)::kpL [2,8,34,35] f.fr),((rO 58 10 Z10 K1.2.1 P10 L6)::(rO 61 15 Z11 K1.2.2.1 P11 L7)::(rO 66 7 Z12 K1.t3.1 P12 L8)::(rO 68 8 Z13 K1.t4 P13 L9)::setE (setE (setE (setE (N13.en.drop 4) 2 0 [sL Z10 K1.2.1 P10]) 2 1 [sL Z11 K1.2.2.1 P11]) 2 2 [sL Z12 K1.t3.1 P12]) 2 3 [sL Z13 K1.t4 P13]),λMM=>au (ib n X1 X2) I1 K1=some Q2∧ae MM (K1.2.1.map ba) L6∧ae MM (K1.2.2.1.map aH) L7∧ae MM (K1.t3.1.map aY) L8∧ae MM (K1.t4.map bc) L9)) (n,((0:Int),cx,cy,cz,cA),Z1,P1,L1,Z2,P2,L2,Z3,P3,L3,Z4,P4,L4) (f.kp) N13.kr ⟨ce,D1.mo,D2.mo,D3.mo,D4.mo⟩ ?_) ?_
   ·rintro⟨I1,K1,Z10,P10,L6,Z11,P11,L7,Z12,P12,L8,Z13,P13,L9⟩ V3 _ W7 J3 gL f N14
    obtain⟨ci,D7,D8,D9,D10⟩:=gL
    dsimp only[Hp.en] at N14
    obtain⟨I2,lT,rfl,bg,T1⟩:=aK ci
    unfold ib at bg
    refine RR (Ye f 1 λ_ f=>ah (RcF f bg (λB8 F8=>?_) λB8 F17=>?_))
    ·refine St (ah (wp_block (RR ?_)))
     obtain⟨X3,l3,F9⟩:=bS F8
     obtain⟨Q3,P14,H1,mJ⟩:=N14.rowAddr 4 rfl (bn l3)
     refine Z f (XIo H1 l3) λ_ f=>?_
     obtain⟨ie,-,D11,R1⟩:=ae.get K1.1.toNat (dv em) (ae.mono J3 _ _ D6) (ig l3)
     obtain⟨Z14,P15,Z15,P16,rfl,B9,B10⟩:=aD.opn D11
     refine Z f (XR N14 4 H1 R1 0) λ_ f=>Y4 f N14 (.cells #[S [],iB 0,bO false,iL 0,S [],Sn,Sn] 99 (0,0)) λQ4 W8 N15 _ f=>Wu f N15 0 0 [S X3.key,iB X3.v.ab,bO X3.v.an,iL X3.v.ak,S X3.v.aa,sL Z14 X3.v.ac P15,sL Z15 X3.v.af P16] λW9 N16 _ f=>eT (ah (cu 0 [(0,true),(1,true),(2,true),(3,true),(4,true),(5,true),(6,true),(7,false)] N16 (Y0 default f 1 λ_ f=>bG f kr kr rfl rfl (λ_ pq=>XO pq 0) λ_ f=>?_)))
     obtain⟨X4,l4,F10⟩:=bS F9
     refine eR (v:=bO X4) f kr kr rfl rfl (λ_=>by kernel_rfl) (dK n _ X3.key X4 l4) λ_ f=>Y0 default f 2 λ_ f=>bG f kr kr rfl rfl (λ_ pq=>XO pq 0) λ_ f=>?_
     obtain⟨X5,l5,F11⟩:=bS F10
     refine eR (v:=S X5) f kr kr rfl rfl (λ_=>by kernel_rfl) (aR n _ hG.mo X1.2.1 X3.key X5 l5) λ_ f=>bI λW12 N19=>?_
     rcases cE F11 with⟨B11,F12⟩|⟨B11,F16⟩
     ·have f:=f.st 42 (cB B11)
      refine Y9 f N19 (bA _ (120:Int) X5) λW13 N20 _ f=>ag rfl (bL 0 mL N20 (dx rfl λW14 N21=>az ?_))
      have N29:=N21.pl [6,6,2,7,7,7,7,7]
      refine cu 5 [(0,true),(1,true),(2,true),(3,true),(4,true),(5,true),(6,true),(7,true),(8,true),(9,false)] N29 (Y0 default f 2 λ_ f=>bG f kr kr rfl rfl (λ_ pq=>XO pq 0) λ_ f=>Y0 default f 1 λ_ f=>bG f kr kr rfl rfl (λ_ pq=>XO pq 0) λ_ f=>Y0 default f 2 λ_ f=>bG f kr kr rfl rfl (λ_ pq=>XO pq 0) λ_ f=>?_)
      obtain⟨X6,l6,F13⟩:=bS F12
      refine eR (v:=S X6) f kr kr rfl rfl (λ_=>by kernel_rfl) (aR n _ hG.mo X1.2.1 X3.key X6 l6) λ_ f=>bI λW16 N31=>?_
      obtain⟨X7,l7,F14⟩:=bS F13
      rcases X7 with X8|X9
      ·have N37:=N31.pl [3,3,3,3,4]
       refine Cx f N37 (kY n _ hG.mo X3.key _ X3.v (TE0.shutx B9 B10) X6 lv K1.2.1 Z10 P10 L6 D7 K1.2.2.1 Z11 P11 L7 D8 K1.t3.1 Z12 P12 L8 D9 K1.t4 Z13 P13 L9 D10 (.inl X8) l7) λV4 W17 J4 N32=>pm f λ_ f=>oP (cj (cj ?_))
       cases sI F14
       exact .inl ⟨_,rfl,(sI T1).symm,_,mL,f.kp,(N32.dropN 3).kr⟩
      have N43:=N31.pl [3,3,3,3,4]
      refine Ch f N43 (OkXH.ok (kY n _ hG.mo X3.key _ X3.v (TE0.shutx B9 B10) X6 lv K1.2.1 Z10 P10 L6 D7 K1.2.2.1 Z11 P11 L7 D8 K1.t3.1 Z12 P12 L8 D9 K1.t4 Z13 P13 L9 D10 (.inr X9) l7)) λ_ V5 rB W18 J5 N38 mi _ f=>?_
      obtain⟨Z16,P17,L10,Z17,P18,L11,Z18,P19,L12,Z19,P20,L13,rfl,rfl,D12,D13,D14,D15⟩:=mi
      refine ag rfl (bL 5 J5 N38 (dx rfl λW19 N44=>ec (az (ay ?_))))
      obtain⟨O1,F15⟩:=nS F14
      refine Y f 1 λ_ f=>?_
      have f:=f.st 58 (iW O1)
      refine Y f 1 λ_ f=>ag rfl ?_
      have N54:=N44.pl [7,7,6,6,6,6,7]
      refine az ?_
      cases sI F15
      exact⟨⟨_,_,Z16,P17,L10,Z17,P18,L11,Z18,P19,L12,Z19,P20,L13⟩,Nat.lt_succ_self _,_,mL,⟨T1,D12,D13,D14,D15⟩,f.kp,(N54.dropN 1).kr⟩
     have f:=f.st 42 (cB B11)
     refine aN f N19 (bz _ (120:Int) X5) kr (λ_=>by kernel_rfl) λV6 W20 J6 N45=>pm f λ_ f=>cj (oP (cj (cj ?_)))
     cases sI F16
     exact .inl ⟨_,rfl,(sI T1).symm,_,mL,f.kp,(N45.dropN 8).kr⟩
    refine wp_exit (dJ (dJ ?_))
    cases sI F17
    exact .inr ⟨rfl,_,(sI T1).symm,_,J3,Z10,P10,L6,Z11,P11,L7,Z12,P12,L8,Z13,P13,L9,D7,D8,D9,D10,f.kp,N14.kr⟩
   rintro _ _ W23 (⟨G1,rfl,rfl,V7,J7,f,N46⟩|⟨rfl,G2,rfl,V8,J8,Z20,P21,L14,Z21,P22,L15,Z22,P23,L16,Z23,P24,L17,D16,D17,D18,D19,f,N47⟩)
   ·refine oP (aV f ?_)
    cases sI F7
    exact⟨V7,mL,N46,rfl⟩
   refine jV (eN f rfl ?_)
   cases sI F7
   have N61:=N47.pl [3,3,3,3,6,6,6]
   exact⟨_,rfl,_,_,mL,(N61.dropN 2).kr,⟨Z20,P21,L14,Z21,P22,L15,Z22,P23,L16,Z23,P24,L17,rfl,rfl,D16,D17,D18,D19⟩⟩
  have f:=f.st 30 (cB B7)
  refine aN f N4 (bz _ (3:Int) X1.2.1) kr (λ_=>by kernel_rfl) λV9 W24 J9 N62=>cj (aV f ?_)
  cases sI F18
  exact⟨V9,mL,(N62.dropN 6),rfl⟩
 have f:=f.st 23 (cB B6)
 refine aN f N3 (bz _ (120:Int) X1.2.1) kr (λ_=>by kernel_rfl) λV10 W25 J10 N63=>cj (aV f ?_)
 cases sI F19
 exact⟨V10,mL,(N63.dropN 6),rfl⟩
def gJ (n:Nat) (rec_syntax_template:TE0→Bs→Int→Option (Sum (Int×Bs) TB0)) (d0:TE0) (d1:Bs) (d2:Int):Option (Sum (Int×Bs) TB0):=
 (cX n d0 d1 ([[80,97,114,97,109,101,116,101,114,115],[67,111,110,100,105,116,105,111,110,115],[82,101,115,111,117,114,99,101,115],[79,117,116,112,117,116,115]]:List Bs)).bind λX1=>
 (match X1 with
 |.inl X2=>some (.inl X2)
 |.inr X3=>(iR n [80,97,114,97,109,101,116,101,114,115] (6:Int) ([]:List TD0) ([]:List TH0) ([]:List TA0) ([]:List TC0) X3.1 X3.2).bind λX4=>
  (match X4 with
  |.inl X5=>some (.inl X5)
  |.inr X6=>(gQ n [67,111,110,100,105,116,105,111,110,115] (6:Int) X6.1 X6.2.1 X6.2.2.1 X6.2.2.2 X3.1 X3.2).bind λX7=>
   (match X7 with
   |.inl X8=>some (.inl X8)
   |.inr X9=>(gS n rec_syntax_template [82,101,115,111,117,114,99,101,115] (8:Int) X9.1 X9.2.1 X9.2.2.1 X9.2.2.2 d2 X3.1 X3.2).bind λX10=>
    (match X10 with
    |.inl X11=>some (.inl X11)
    |.inr X12=>(gR n [79,117,116,112,117,116,115] (6:Int) X12.1 X12.2.1 X12.2.2.1 X12.2.2.2 X3.1 X3.2).bind λX13=>
     (match X13 with
     |.inl X14=>some (.inl X14)
     |.inr X15=>some (.inr (⟨X15.1,X15.2.1,X15.2.2.1,X15.2.2.2⟩:TB0)))))))
set_option maxRecDepth 20000 in
theorem oa (n:Nat) (rec_syntax_template:TE0→Bs→Int→Option (Sum (Int×Bs) TB0)) (hrec_syntax_template: ∀ (M:Mem) (hG:GL M) (c0:Lv) (d0:TE0) (h0:Rep M (ai d0) c0) (d1:Bs) (d2:Int) (r:Sum (Int×Bs) TB0) (hF:rec_syntax_template d0 d1 d2=some r),OkX Tryz.prog M 23 [.agg c0.toArray,S d1,iL d2] 78 r (λr=>λM' v=>∃ (c0:Lv),v=.agg c0.toArray∧Rep M' (bB r) c0)) (M:Mem) (hG:GL M) (c0:Lv) (d0:TE0) (h0:Rep M (ai d0) c0) (d1:Bs) (d2:Int) (r:Sum (Int×Bs) TB0) (hF:gJ n rec_syntax_template d0 d1 d2=some r):OkX Tryz.prog M 23 [.agg c0.toArray,S d1,iL d2] 78 r (λr=>λM' v=>∃ (c0:Lv),v=.agg c0.toArray∧Rep M' (bB r) c0):=by
 unfold gJ at hF
 intro M1 hM0 w0 H w p0
 replace hG:=GL.mono hM0 hG
 replace h0:=Rep.mono hM0 _ _ h0
 obtain⟨Z1,P1,Z2,P2,rfl,B1,B2⟩:=TE0.opn h0
 refine Re 27 Tryz.func23 rfl λa0 f0=>RR (Y5 (cs:=(aTE0 d0 Z1 P1 Z2 P2)) (T:=26) f0 p0 λQ1 V1 W1 J1 R1 N1 _ f=>?_)
 have R2:=aU R1
 refine Y5 (cs:=#[iL d2]) (T:=3) f N1 λQ2 V2 W2 J2 R3 N2 _ f=>?_
 have R4:=aU R3
 refine Y4 f N2 (.cells #[Sn,Sn,Sn,Sn] 41 (0,0)) λQ3 W3 N3 _ f=>eT (RR (Z f (XK N3 R2 0) λ_ f=>Y f 1 λ_ f=>aE (k:=4) (c:=4) f N3 (.cells #[S [80,97,114,97,109,101,116,101,114,115],S [67,111,110,100,105,116,105,111,110,115],S [82,101,115,111,117,114,99,101,115],S [79,117,116,112,117,116,115]] 9 (0,0)) kr (λ_=>by kernel_rfl) λQ4 W4 N4 _ f=>?_))
 obtain⟨Z3,P3,V3,H1,J3,N5,B3⟩:=N4.litS (f:=Dat.str) 4 bH (dD ([[80,97,114,97,109,101,116,101,114,115],[67,111,110,100,105,116,105,111,110,115],[82,101,115,111,117,114,99,101,115],[79,117,116,112,117,116,115]]:List Bs))
 have f:=f.st 11 (H1)
 obtain⟨X1,l1,F1⟩:=bS hF
 rcases X1 with X2|X3
 ·refine aN f N5 (cd n _ hG.mo _ d0 h0.mo d1 Z3 P3 ([[80,97,114,97,109,101,116,101,114,115],[67,111,110,100,105,116,105,111,110,115],[82,101,115,111,117,114,99,101,115],[79,117,116,112,117,116,115]]:List Bs) B3 (.inl X2) l1) kr (λ_=>by kernel_rfl) λV4 W5 J4 N6=>cj (aV f ?_)
  cases sI F1
  exact⟨V4,mL,(N6.dropN 1),rfl⟩
 refine Y8 f N5 (OkX.ok (cd n _ hG.mo _ d0 h0.mo d1 Z3 P3 ([[80,97,114,97,109,101,116,101,114,115],[67,111,110,100,105,116,105,111,110,115],[82,101,115,111,117,114,99,101,115],[79,117,116,112,117,116,115]]:List Bs) B3 (.inr X3) l1)) λ_ V5 W6 J5 N7 ef _ f=>?_
 obtain⟨C1,dW,C2,ie,rfl,D1,eS,D2,hZ⟩:=ef
 obtain⟨Z4,P4,Z5,P5,rfl,B4,B5⟩:=TE0.opn D1
 obtain rfl:ie=[S X3.2]:=D2
 refine Y4 f N7 (.cells #[.nilFunc] 92 (0,0)) λQ5 W7 N8 _ f=>Wt f N8 0 0 (.func (.func 93) #[] #[Pa C1,Pa C2]) λW8 N9 _ f=>?_
 obtain⟨V6,J6,N10,R5⟩:=N9.fzOwn
 refine eT (RR (Ye f 2 λ_ f=>RR (Y f 2 λ_ f=>?_)))
 obtain⟨Z6,P6,H2,N11⟩:=N10.nilC 0 0 58 10 (TD0)
 have D3:ae V6 (([]:List TD0).map ba) []:=rfl
 obtain⟨Z7,P7,H3,N12⟩:=N11.nilC 1 1 61 15 (TH0)
 have D4:ae V6 (([]:List TH0).map aH) []:=rfl
 obtain⟨Z8,P8,H4,N13⟩:=N12.nilC 2 2 66 7 (TA0)
 have D5:ae V6 (([]:List TA0).map aY) []:=rfl
 obtain⟨Z9,P9,H5,N14⟩:=N13.nilC 3 3 68 8 (TC0)
 have D6:ae V6 (([]:List TC0).map bc) []:=rfl
 obtain⟨X4,l2,F2⟩:=bS F1
 rcases X4 with X5|X6
 ·have N19:=N14.pl [1,2,3,4]
  refine Cx f N19 (kV n _ hG.mo [80,97,114,97,109,101,116,101,114,115] (6:Int) Q3 ([]:List TD0) Z6 P6 [] D3 ([]:List TH0) Z7 P7 [] D4 ([]:List TA0) Z8 P8 [] D5 ([]:List TC0) Z9 P9 [] D6 C1 (lTE0 X3.1 Z4 P4 Z5 P5) X3.1 D1.mo (bF (fu eS) 0 rfl) C2 [S X3.2] X3.2 (rfl) (bF (fu hZ) 0 rfl) (⟨Q5,0,none⟩) (R5) (.inl X5) l2) λV7 W9 J7 N15=>cj (aV f ?_)
  cases sI F2
  exact⟨V7,mL,N15,rfl⟩
 have N24:=N14.pl [1,2,3,4]
 refine Ch f N24 (OkXH.ok (kV n _ hG.mo [80,97,114,97,109,101,116,101,114,115] (6:Int) Q3 ([]:List TD0) Z6 P6 [] D3 ([]:List TH0) Z7 P7 [] D4 ([]:List TA0) Z8 P8 [] D5 ([]:List TC0) Z9 P9 [] D6 C1 (lTE0 X3.1 Z4 P4 Z5 P5) X3.1 D1.mo (bF (fu eS) 0 rfl) C2 [S X3.2] X3.2 (rfl) (bF (fu hZ) 0 rfl) (⟨Q5,0,none⟩) (R5) (.inr X6) l2)) λ_ V8 mG W10 J8 N20 iK _ f=>?_
 obtain⟨Z10,P10,L1,Z11,P11,L2,Z12,P12,L3,Z13,P13,L4,rfl,rfl,D7,D8,D9,D10⟩:=iK
 refine eT (RR (Y f 2 λ_ f=>?_))
 obtain⟨X7,l3,F3⟩:=bS F2
 rcases X7 with X8|X9
 ·refine Cx f N20 (kn n _ hG.mo [67,111,110,100,105,116,105,111,110,115] (6:Int) Q3 X6.1 Z10 P10 L1 D7 X6.2.1 Z11 P11 L2 D8 X6.2.2.1 Z12 P12 L3 D9 X6.t3 Z13 P13 L4 D10 C1 (lTE0 X3.1 Z4 P4 Z5 P5) X3.1 D1.mo (bF (fu eS) 0 rfl) C2 [S X3.2] X3.2 (rfl) (bF (fu hZ) 0 rfl) (⟨Q5,0,none⟩) (fu R5) (.inl X8) l3) λV9 W11 J9 N25=>cj (aV f ?_)
  cases sI F3
  exact⟨V9,mL,N25,rfl⟩
 refine Ch f N20 (OkXH.ok (kn n _ hG.mo [67,111,110,100,105,116,105,111,110,115] (6:Int) Q3 X6.1 Z10 P10 L1 D7 X6.2.1 Z11 P11 L2 D8 X6.2.2.1 Z12 P12 L3 D9 X6.t3 Z13 P13 L4 D10 C1 (lTE0 X3.1 Z4 P4 Z5 P5) X3.1 D1.mo (bF (fu eS) 0 rfl) C2 [S X3.2] X3.2 (rfl) (bF (fu hZ) 0 rfl) (⟨Q5,0,none⟩) (fu R5) (.inr X9) l3)) λ_ V10 rB W12 J10 N26 mi _ f=>?_
 obtain⟨Z14,P14,L5,Z15,P15,L6,Z16,P16,L7,Z17,P17,L8,rfl,rfl,D11,D12,D13,D14⟩:=mi
 refine eT (RR (Y f 2 λ_ f=>?_))
 obtain⟨X10,l4,F4⟩:=bS F3
 rcases X10 with X11|X12
 ·refine Cx f N26 (kq n rec_syntax_template hrec_syntax_template _ hG.mo [82,101,115,111,117,114,99,101,115] (8:Int) Q3 X9.1 Z14 P14 L5 D11 X9.2.1 Z15 P15 L6 D12 X9.2.2.1 Z16 P16 L7 D13 X9.t3 Z17 P17 L8 D14 (⟨Q2,0,none⟩) [iL d2] d2 (rfl) (bF (fu R4) 0 rfl) C1 (lTE0 X3.1 Z4 P4 Z5 P5) X3.1 D1.mo (bF (fu eS) 0 rfl) C2 [S X3.2] X3.2 (rfl) (bF (fu hZ) 0 rfl) (⟨Q5,0,none⟩) (fu R5) (.inl X11) l4) λV11 W13 J11 N27=>cj (aV f ?_)
  cases sI F4
  exact⟨V11,mL,N27,rfl⟩
 refine Ch f N26 (OkXH.ok (kq n rec_syntax_template hrec_syntax_template _ hG.mo [82,101,115,111,117,114,99,101,115] (8:Int) Q3 X9.1 Z14 P14 L5 D11 X9.2.1 Z15 P15 L6 D12 X9.2.2.1 Z16 P16 L7 D13 X9.t3 Z17 P17 L8 D14 (⟨Q2,0,none⟩) [iL d2] d2 (rfl) (bF (fu R4) 0 rfl) C1 (lTE0 X3.1 Z4 P4 Z5 P5) X3.1 D1.mo (bF (fu eS) 0 rfl) C2 [S X3.2] X3.2 (rfl) (bF (fu hZ) 0 rfl) (⟨Q5,0,none⟩) (fu R5) (.inr X12) l4)) λ_ V12 E_3 W14 J12 N28 nt _ f=>?_
 obtain⟨Z18,P18,L9,Z19,P19,L10,Z20,P20,L11,Z21,P21,L12,rfl,rfl,D15,D16,D17,D18⟩:=nt
 refine eT (RR (Y f 2 λ_ f=>?_))
 obtain⟨X13,l5,F5⟩:=bS F4
 rcases X13 with X14|X15
 ·refine Cx f N28 (ko n _ hG.mo [79,117,116,112,117,116,115] (6:Int) Q3 X12.1 Z18 P18 L9 D15 X12.2.1 Z19 P19 L10 D16 X12.2.2.1 Z20 P20 L11 D17 X12.t3 Z21 P21 L12 D18 C1 (lTE0 X3.1 Z4 P4 Z5 P5) X3.1 D1.mo (bF (fu eS) 0 rfl) C2 [S X3.2] X3.2 (rfl) (bF (fu hZ) 0 rfl) (⟨Q5,0,none⟩) (fu R5) (.inl X14) l5) λV13 W15 J13 N29=>cj (aV f ?_)
  cases sI F5
  exact⟨V13,mL,N29,rfl⟩
 refine Ch f N28 (OkXH.ok (ko n _ hG.mo [79,117,116,112,117,116,115] (6:Int) Q3 X12.1 Z18 P18 L9 D15 X12.2.1 Z19 P19 L10 D16 X12.2.2.1 Z20 P20 L11 D17 X12.t3 Z21 P21 L12 D18 C1 (lTE0 X3.1 Z4 P4 Z5 P5) X3.1 D1.mo (bF (fu eS) 0 rfl) C2 [S X3.2] X3.2 (rfl) (bF (fu hZ) 0 rfl) (⟨Q5,0,none⟩) (fu R5) (.inr X15) l5)) λ_ V14 E_4 W16 J14 N30 pg _ f=>?_
 obtain⟨Z22,P22,L13,Z23,P23,L14,Z24,P24,L15,Z25,P25,L16,rfl,rfl,D19,D20,D21,D22⟩:=pg
 refine eT (RR (Z f (XO N30 0) λ_ f=>?_))
 obtain⟨Z26,P26,V15,H6,J15,N31,B6⟩:=N30.rowSliK (f:=ba) (xs:=X15.1) 1 58 Z22 P22 rz D19
 have f:=Frm.set f 26 (v:=.agg #[.slice Z22 X15.1.length P22,.slice Z23 X15.2.1.length P23,.slice Z24 X15.2.2.1.length P24,.slice Z25 X15.2.2.2.length P25]) (v':=.agg #[.slice Z26 X15.1.length P26,.slice Z23 X15.2.1.length P23,.slice Z24 X15.2.2.1.length P24,.slice Z25 X15.2.2.2.length P25]) (by kernel_rfl) (by rw[H6])
 try simp only[sL] at H6 N31
 rw[H6] at N31
 obtain⟨Z27,P27,V16,H7,J16,N33,B7⟩:=N31.rowSliK (f:=aH) (xs:=X15.2.1) 1 61 Z23 P23 dH D20.mo
 have f:=Frm.set f 26 (v:=.agg #[.slice Z26 X15.1.length P26,.slice Z23 X15.2.1.length P23,.slice Z24 X15.2.2.1.length P24,.slice Z25 X15.2.2.2.length P25]) (v':=.agg #[.slice Z26 X15.1.length P26,.slice Z27 X15.2.1.length P27,.slice Z24 X15.2.2.1.length P24,.slice Z25 X15.2.2.2.length P25]) (by kernel_rfl) (by rw[H7])
 try simp only[sL] at H7 N33
 rw[H7] at N33
 obtain⟨Z28,P28,V17,H8,J17,N35,B8⟩:=N33.rowSliK (f:=aY) (xs:=X15.2.2.1) 1 66 Z24 P24 rx D21.mo
 have f:=Frm.set f 26 (v:=.agg #[.slice Z26 X15.1.length P26,.slice Z27 X15.2.1.length P27,.slice Z24 X15.2.2.1.length P24,.slice Z25 X15.2.2.2.length P25]) (v':=.agg #[.slice Z26 X15.1.length P26,.slice Z27 X15.2.1.length P27,.slice Z28 X15.2.2.1.length P28,.slice Z25 X15.2.2.2.length P25]) (by kernel_rfl) (by rw[H8])
 try simp only[sL] at H8 N35
 rw[H8] at N35
 obtain⟨Z29,P29,V18,H9,J18,N37,B9⟩:=N35.rowSliK (f:=bc) (xs:=X15.t3) 1 68 Z25 P25 ry D22.mo
 have f:=Frm.set f 26 (v:=.agg #[.slice Z26 X15.1.length P26,.slice Z27 X15.2.1.length P27,.slice Z28 X15.2.2.1.length P28,.slice Z25 X15.2.2.2.length P25]) (v':=.agg #[.slice Z26 X15.1.length P26,.slice Z27 X15.2.1.length P27,.slice Z28 X15.2.2.1.length P28,.slice Z29 X15.2.2.2.length P29]) (by kernel_rfl) (by rw[H9])
 try simp only[sL] at H9 N37
 rw[H9] at N37
 refine Wu f N37 0 0 [sL Z26 X15.1 P26,sL Z27 X15.2.1 P27,sL Z28 X15.2.2.1 P28,sL Z29 X15.t3 P29] λW17 N39 _ f=>Er (bM f rfl (Rv.oN [sL Z26 X15.1 P26,sL Z27 X15.2.1 P27,sL Z28 X15.2.2.1 P28,sL Z29 X15.t3 P29] f N39 0 0) ?_)
 cases sI F5
 exact⟨_,rfl,_,mL,(N39.dropN 1).kr,⟨_,rfl,(TB0.shutx B6.mo B7.mo B8.mo B9)⟩⟩
def cn (n:Nat):Nat→TE0→Bs→Int→Option (Sum (Int×Bs) TB0)
 |0=>λ_ _ _=>none
 |k+1=>gJ n (cn n k)
def lg (n:Nat) (d0:TE0) (d1:Bs) (d2:Int):Option (Sum (Int×Bs) TB0):=cn n n d0 d1 d2
theorem lM (n:Nat) (M:Mem) (hG:GL M) (c0:Lv) (d0:TE0) (h0:Rep M (ai d0) c0) (d1:Bs) (d2:Int) (r:Sum (Int×Bs) TB0) (hF:lg n d0 d1 d2=some r):OkX Tryz.prog M 23 [.agg c0.toArray,S d1,iL d2] 78 r (λr=>λM' v=>∃ (c0:Lv),v=.agg c0.toArray∧Rep M' (bB r) c0):=by
 have key: ∀ (k:Nat) (M:Mem) (hG:GL M) (c0:Lv) (d0:TE0) (h0:Rep M (ai d0) c0) (d1:Bs) (d2:Int) (r:Sum (Int×Bs) TB0) (hF:cn n k d0 d1 d2=some r),OkX Tryz.prog M 23 [.agg c0.toArray,S d1,iL d2] 78 r (λr=>λM' v=>∃ (c0:Lv),v=.agg c0.toArray∧Rep M' (bB r) c0):=by
  intro k
  induction k with
  |zero=>intro M hG c0 d0 h0 d1 d2 r hF;simp[cn] at hF
  |succ k ih=>intro M hG c0 d0 h0 d1 d2 r hF;exact oa n (cn n k) ih M hG c0 d0 h0 d1 d2 r hF
 exact key n M hG c0 d0 h0 d1 d2 r hF
set_option maxRecDepth 20000 in
theorem readD_0 {M:Mem} {w0:World} {H:List Ent} {w:World} (b4 b2:Nat) (hp:Hp w0 M (oC b4 #[iL 0] 32::H) w):CallsD Tryz.prog 22 [pP b4,pP b2].toArray .returning w (λe u' w'=>∃v,e=.returned v∧settle u'=.returning∧Hp w0 M (oC b4 #[iL 0] 32::H) w'):=by
 refine CallsD.mono' (callsD_of_wp (R:=λe w'=>∃v,e=.returned v∧Hp w0 M (oC b4 #[iL 0] 32::H) w') Tryz.func22 rfl ?_) λe u w ⟨hu,v,he,hq⟩=>⟨v,he,by rw[hu];rfl,hq⟩
 have f:Frm 5 (frame0 [pP b4,pP b2] 0) _:=ou (by simp)
 refine RR (Z f (eo (v:=iL 0) rfl (ad:=⟨b4,0,none⟩) kr kr (hp.ownCell 0 rfl 0)) λ_ f=>iU (L':=[(3,bO false)]) (w':=w) f 1 [3] kr λ_ f=>eT (jE f kr kr (wp_skip (eN f rfl ?_))))
 exact⟨_,rfl,hp⟩
set_option maxRecDepth 20000 in
theorem readD_z {M:Mem} {w0:World} {H:List Ent} {w:World} (b4 b2:Nat) (e0:Int) (hp:Hp w0 M (oC b4 #[iL e0] 32::oC b2 #[Sn,Sn,Sn,Sn] 41::H) w):CallsD Tryz.prog 22 [pP b4,pP b2].toArray .returning w (λe u' w'=>∃v,e=.returned v∧settle u'=.returning∧Hp w0 M (oC b4 #[iL e0] 32::oC b2 #[Sn,Sn,Sn,Sn] 41::H) w'):=by
 refine CallsD.mono' (callsD_of_wp (R:=λe w'=>∃v,e=.returned v∧Hp w0 M (oC b4 #[iL e0] 32::oC b2 #[Sn,Sn,Sn,Sn] 41::H) w') Tryz.func22 rfl ?_) λe u w ⟨hu,v,he,hq⟩=>⟨v,he,by rw[hu];rfl,hq⟩
 have f:Frm 5 (frame0 [pP b4,pP b2] 0) _:=ou (by simp)
 refine RR (Z f (eo (v:=iL e0) rfl (ad:=⟨b4,0,none⟩) kr kr (hp.ownCell 0 rfl 0)) λ_ f=>Ye f 1 λ_ f=>Y3 f (b:= !(decide (e0=0))) (λB1=>?_) λB1=>?_)
 ·refine ay (Y f 1 λ_ f=>?_)
  have N1:=hp.pl [1]
  refine pt (vs:=[Sn,Sn,Sn,Sn]) (j:=0) f N1 kr kr rfl rfl kr kr (by simp[Value.oneCell',S]) kr (by simp) (by decide) (cs':=#[Sn,Sn,Sn,Sn]) kr λW1 N2 _ f=>ag rfl ?_
  have N3:=N2.pl [1]
  refine eN f rfl ?_
  exact⟨_,rfl,N3⟩
 refine wp_skip (eN f rfl ?_)
 exact⟨_,rfl,hp⟩
def kT (n:Nat) (d0:TE0):Option (TB0×Bs×Int):=
 (kI n d0).bind λX1=>
 bif(!(decide (X1=0))) then
  (some ((ra,([]:Bs),X1)))
 else
  (lg n d0 ([]:Bs) (0:Int)).bind λX2=>
  (match X2 with
  |.inl X3=>some ((ra,X3.2,X3.1))
  |.inr X4=>some ((X4,([]:Bs),(0:Int))))
theorem nX (n:Nat) (M:Mem) (hG:GL M) (c0:Lv) (d0:TE0) (h0:Rep M (ai d0) c0) (r:TB0×Bs×Int) (hF:kT n d0=some r):Ok Tryz.prog M 11 [.agg c0.toArray] (λM' v=>∃ (c0:Lv),v=.tuple #[.agg c0.toArray,S r.2.1,iL r.2.2]∧Rep M' (bB r.1) c0):=by
 unfold kT at hF
 intro M1 hM0 w0 H w p0
 replace hG:=GL.mono hM0 hG
 replace h0:=Rep.mono hM0 _ _ h0
 obtain⟨Z1,P1,Z2,P2,rfl,B1,B2⟩:=TE0.opn h0
 refine R_enterD 15 Tryz.func11 rfl rfl (by simp) λa0 f0=>RR (Y5 (cs:=(aTE0 d0 Z1 P1 Z2 P2)) (T:=26) f0 p0 λQ1 V1 W1 J1 R1 N1 _ f=>?_)
 have R2:=aU R1
 refine Y4 f N1 (.cells #[Sn,Sn,Sn,Sn] 41 (0,0)) λQ2 W2 N2 _ f=>Y4 f N2 (.cells #[S []] 9 (0,0)) λQ3 W3 N3 _ f=>Y4 f N3 (.cells #[iL 0] 32 (0,0)) λQ4 W4 N4 _ f=>eT (ah (RR (Z f (XK N4 R2 0) λ_ f=>?_)))
 obtain⟨X1,l1,F1⟩:=bS hF
 refine Y9 f N4 (oL n _ hG.mo _ d0 h0.mo X1 l1) λW5 N5 _ f=>Ye f 1 λ_ f=>RR (Ye f 2 λ_ f=>RcF f F1 (λB3 F2=>?_) λB3 F3=>?_)
 ·refine RR (Z f (XO N5 2) λ_ f=>Y f 1 λ_ f=>Wu f N5 2 0 [Sn,Sn,Sn,Sn] λW6 N6 _ f=>Wt f N6 1 0 (S []) λW7 N7 _ f=>Wt f N7 0 0 (iL X1) λW8 N8 _ f=>Er (bl (E_D0 f (tf rfl (Rv.oN [Sn,Sn,Sn,Sn] f N8 2 0) (Rv.o1 (S []) f N8 1 0) (Rv.o1 (iL X1) f N8 0 0) ?_))))
  cases sI F2
  exact⟨_,rfl,_,J1,(N8.dropN 3).kr,⟨_,rfl,(TB0.shutx Sli.nil Sli.nil Sli.nil Sli.nil)⟩⟩
 refine St (RR (Y f 1 λ_ f=>W_defer ({target:=.fn (.func 22) #[pP Q4,pP Q2],args:=#[]}) f kr kr rfl kr λ_ f=>eT (RR (W_defer ({target:=.fn (.func 17) #[],args:=#[pP Q3,pP Q4]}) f kr kr rfl kr λ_ f=>eT (RR (Z f (XK N5 R2 0) λ_ f=>?_))))))
 obtain⟨X2,l2,F4⟩:=bS F3
 rcases X2 with X3|X4
 ·refine aN f N5 (lM n _ hG.mo _ d0 h0.mo ([]:Bs) (0:Int) (.inl X3) l2) kr (λ_=>by kernel_rfl) λV2 W9 J2 N9=>cj ?_
  have N14:=N9.pl [2,1,2]
  refine E_D2p (S2:=λw=>Hp w0 V2 ((oC Q4 #[iL X3.1] 32)::(oC Q2 #[Sn,Sn,Sn,Sn] 41)::(oC Q3 #[S X3.2] 9)::H) w) f rfl (λ_=>by kernel_rfl) rfl (λ_=>by kernel_rfl) (taken_p Q3 Q4 X3 ([]:Bs) (0:Int) N14) (λW11 N11=>CallsD.mono' (readD_z Q4 Q2 X3.1 (N11.perm ((List.Perm.swap _ _ _).trans (List.Perm.cons _ (List.Perm.swap _ _ _))))) (λ_ _ _ hh=>hh)) λW10 N10=>tf rfl (Rv.oN [Sn,Sn,Sn,Sn] f N10 1 0) (Rv.o1 (S X3.2) f N10 2 0) (Rv.o1 (iL X3.1) f N10 0 0) ?_
  cases sI F4
  exact⟨_,rfl,_,mL,(N10.dropN 3).kr,⟨_,rfl,(TB0.shutx Sli.nil Sli.nil Sli.nil Sli.nil)⟩⟩
 refine Y8 f N5 (OkX.ok (lM n _ hG.mo _ d0 h0.mo ([]:Bs) (0:Int) (.inr X4) l2)) λ_ V3 W12 J3 N17 ef _ f=>?_
 obtain⟨dW,rfl,D1⟩:=ef
 obtain⟨Z3,P3,Z4,P4,Z5,P5,Z6,P6,rfl,B4,B5,B6,B7⟩:=TB0.opn D1
 refine Wu f N17 2 0 (lTB0 X4 Z3 P3 Z4 P4 Z5 P5 Z6 P6) λW13 N18 _ f=>Wt f N18 1 0 (S []) λW14 N19 _ f=>Wt f N19 0 0 (iL 0) λW15 N20 _ f=>Er (E_D2 f rfl (λ_=>by kernel_rfl) rfl (λ_=>by kernel_rfl) (taken_q Q3 Q4 N20) (λW17 N22=>readD_0 Q4 Q2 N22) λW16 N21=>tf rfl (Rv.oN (lTB0 X4 Z3 P3 Z4 P4 Z5 P5 Z6 P6) f N21 2 0) (Rv.o1 (S []) f N21 1 0) (Rv.o1 (iL 0) f N21 0 0) ?_)
 cases sI F4
 exact⟨_,rfl,_,mL,(N21.dropN 3).kr,⟨_,rfl,D1.mo⟩⟩
def kN (n:Nat):Option Bool:=
 (lU n (⟨(5:Int),(false),(0:Int),([]:Bs),[(⟨(3:Int),(false),(0:Int),[65],([]:List TE0),([]:List Bs)⟩:TE0)],([[82,101,102]]:List Bs)⟩:TE0)).bind λX1=>
 (aB [(⟨(3:Int),(false),(0:Int),[65],([]:List TE0),([]:List Bs)⟩:TE0)] (0:Int)).bind λX2=>
 (aB [(⟨(3:Int),(false),(0:Int),[65],([]:List TE0),([]:List Bs)⟩:TE0)] (0:Int)).bind λX3=>
 (lU n (⟨(5:Int),(false),(0:Int),([]:Bs),[X2,X3],([[82,101,102],[83,117,98]]:List Bs)⟩:TE0)).bind λX4=>
 (kT n (⟨(5:Int),(false),(0:Int),([]:Bs),[(⟨(5:Int),(false),(0:Int),([]:Bs),[(⟨(5:Int),(false),(0:Int),([]:Bs),([]:List TE0),([]:List Bs)⟩:TE0)],([[65]]:List Bs)⟩:TE0)],([[82,101,115,111,117,114,99,101,115]]:List Bs)⟩:TE0)).bind λX5=>
 bif(decide (X1.2.2=0)) then
  (bif(decide (X1.1.ab=3)) then
   (bif(decide (X1.1.av=[65])) then
    (bif(decide (X4.2.2=121)) then
     (bif(decide (X4.2.1=[])) then
      (bif(decide (X5.2.2=120)) then
       (some ((decide (X5.2.1=[82,101,115,111,117,114,99,101,115,47,65]))))
      else
       some ((false)))
     else
      some ((false)))
    else
     some ((false)))
   else
    some ((false)))
  else
   some ((false)))
 else
  some ((false))
set_option maxRecDepth 20000 in
theorem nN (n:Nat) (M:Mem) (hG:GL M) (r:Bool) (hF:kN n=some r):Ok Tryz.prog M 7 [] (λ_ v=>v=bO r):=by
 unfold kN at hF
 intro M1 hM0 w0 H w p0
 replace hG:=GL.mono hM0 hG
 refine Re 83 Tryz.func7 rfl λa0 f0=>RR (Ye f0 1 λ_ f=>RR (aE (k:=1) (c:=1) f p0 (.cells #[S [82,101,102]] 9 (0,0)) kr (λ_=>by kernel_rfl) λQ1 W1 N1 _ f=>Y f 1 λ_ f=>aE (k:=1) (c:=1) f N1 (.cells #[iB 3,bO false,iL 0,S [65],Sn,Sn] 26 (0,0)) kr (λ_=>by kernel_rfl) λQ2 W2 N2 _ f=>Y f 1 λ_ f=>Y4 f N2 (.cells #[iB 0,bO false,iL 0,S [],Sn,Sn] 26 (0,0)) λQ3 W3 N3 _ f=>?_))
 have N4:=N3.pl [1]
 obtain⟨Z1,P1,V1,H1,J1,N5,B1⟩:=N4.litS (f:=ai) (xs:=[(⟨(3:Int),(false),(0:Int),[65],([]:List TE0),([]:List Bs)⟩:TE0)]) (cl:=[iB 3,bO false,iL 0,S [65],Sn,Sn]) 1 jx ⟨_,_,rfl,TE0.shutx Sli.nil Sli.nil,rfl⟩
 have f:=Frm.set f 16 (v:=.agg #[.int .i8 5,.bool false,.int .i64 0,S [],.slice (some ⟨Q2,0,none⟩) 1 1,.slice (some ⟨Q1,0,none⟩) 1 1]) (v':=.agg #[.int .i8 5,.bool false,.int .i64 0,S [],.slice Z1 [(⟨(3:Int),(false),(0:Int),[65],([]:List TE0),([]:List (List UInt8))⟩:TE0)].length P1,.slice (some ⟨Q1,0,none⟩) 1 1]) (by kernel_rfl) (by rw[H1])
 have N6:=N5.pl [1]
 obtain⟨Z2,P2,V2,H2,J2,N7,B2⟩:=N6.litS (f:=Dat.str) 1 bH (dD ([[82,101,102]]:List Bs))
 have f:=Frm.set f 16 (v:=.agg #[.int .i8 5,.bool false,.int .i64 0,S [],.slice Z1 [(⟨(3:Int),(false),(0:Int),[65],([]:List TE0),([]:List (List UInt8))⟩:TE0)].length P1,.slice (some ⟨Q1,0,none⟩) 1 1]) (v':=.agg #[.int .i8 5,.bool false,.int .i64 0,S [],.slice Z1 [(⟨(3:Int),(false),(0:Int),[65],([]:List TE0),([]:List (List UInt8))⟩:TE0)].length P1,.slice Z2 ([[82,101,102]]:List (List UInt8)).length P2]) (by kernel_rfl) (by rw[H2])
 refine Wu f N7 0 0 [iB 5,bO false,iL 0,S [],sL Z1 [(⟨(3:Int),(false),(0:Int),[65],([]:List TE0),([]:List Bs)⟩:TE0)] P1,sL Z2 ([[82,101,102]]:List Bs) P2] λW4 N8 _ f=>eT (RR (Z f (XO N8 0) λ_ f=>?_))
 obtain⟨X1,l1,F1⟩:=bS hF
 refine Y8 f N8 (nW n _ hG.mo _ (⟨(5:Int),(false),(0:Int),([]:Bs),[(⟨(3:Int),(false),(0:Int),[65],([]:List TE0),([]:List Bs)⟩:TE0)],([[82,101,102]]:List Bs)⟩:TE0) (TE0.shutx B1.mo B2) X1 l1) λ_ V3 W5 J3 N9 ef _ f=>?_
 obtain⟨dW,rfl,D1⟩:=ef
 obtain⟨Z3,P3,rfl,B3⟩:=TG0.opn D1
 refine Y f 4 λ_ f=>Y4 f N9 (.cells #[iB 0,S [],iL 0,S [],S [],Sn] 31 (0,0)) λQ4 W6 N10 _ f=>Wu f N10 0 0 (lTG0 X1.1 Z3 P3) λW7 N11 _ f=>Ye f 2 λ_ f=>RR (Z f (XO N11 1) λ_ f=>Y4 f N11 (.cells #[iB 0,bO false,iL 0,S [],Sn,Sn] 26 (0,0)) λQ5 W8 N12 _ f=>Wu f N12 0 0 [iB 5,bO false,iL 0,S [],sL Z1 [(⟨(3:Int),(false),(0:Int),[65],([]:List TE0),([]:List Bs)⟩:TE0)] P1,sL Z2 ([[82,101,102]]:List Bs) P2] λW9 N13 _ f=>eT (RR (aE (k:=2) (c:=2) f N13 (.cells #[S [82,101,102],S [83,117,98]] 9 (0,0)) kr (λ_=>by kernel_rfl) λQ6 W10 N14 _ f=>Y f 1 λ_ f=>Wt f N14 1 5 (.slice (some ⟨Q6,0,none⟩) 2 2) λW11 N15 _ f=>eT (ah (po 8 N15 kr kr λW12 N16=>cY (v:=Pa (⟨Q3,4,none⟩)) f kr kr rfl rfl kr λ_ f=>cY f kr kr rfl rfl (XO N16 3) λ_ f=>?_)))))
 obtain⟨X2,l2,F2⟩:=bS F1
 obtain⟨C1,ie,jC,D2,R1⟩:=N16.at_ B1 l2
 obtain⟨Z4,P4,Z5,P5,rfl,B4,B5⟩:=TE0.opn D2
 refine cY f kr kr rfl rfl (XI jC l2) λ_ f=>cY f kr kr rfl rfl (XK N16 R1 0) λ_ f=>cY (v:=Pa (⟨Q3,4,none⟩)) f kr kr rfl rfl kr λ_ f=>cY f kr kr rfl rfl (XO N16 3) λ_ f=>?_
 obtain⟨X3,l3,F3⟩:=bS F2
 obtain⟨C2,lQ,ly,D3,R2⟩:=N16.at_ B1 l3
 obtain⟨Z6,P6,Z7,P7,rfl,B6,B7⟩:=TE0.opn D3
 refine cY f kr kr rfl rfl (XI ly l3) λ_ f=>cY f kr kr rfl rfl (XK N16 R2 0) λ_ f=>qi rfl (aE (k:=2) (c:=2) f N16 (.cells #[iB X2.ab,bO X2.an,iL X2.ak,S X2.aa,sL Z4 X2.ac P4,sL Z5 X2.af P5,iB X3.ab,bO X3.an,iL X3.ak,S X3.aa,sL Z6 X3.ac P6,sL Z7 X3.af P7] 26 (0,0)) kr (λ_=>by kernel_rfl) λQ7 W13 N17 _ f=>Y f 1 λ_ f=>Wt f N17 2 4 (.slice (some ⟨Q7,0,none⟩) 2 2) λW14 N18 _ f=>eT (RR (Z f (XO N18 2) λ_ f=>?_)))
 obtain⟨Z8,P8,V4,H3,J4,N19,B8⟩:=N18.litS (f:=ai) (xs:=[X2,X3]) (cl:=[iB X2.ab,bO X2.an,iL X2.ak,S X2.aa,sL Z4 X2.ac P4,sL Z5 X2.af P5,iB X3.ab,bO X3.an,iL X3.ak,S X3.aa,sL Z6 X3.ac P6,sL Z7 X3.af P7]) 2 jx ⟨_,_,rfl,TE0.shutx B4 B5,⟨_,_,rfl,TE0.shutx B6 B7,rfl⟩⟩
 have f:=Frm.set f 37 (v:=.agg #[.int .i8 5,.bool false,.int .i64 0,S [],.slice (some ⟨Q7,0,none⟩) 2 2,.slice (some ⟨Q6,0,none⟩) 2 2]) (v':=.agg #[.int .i8 5,.bool false,.int .i64 0,S [],.slice Z8 [X2,X3].length P8,.slice (some ⟨Q6,0,none⟩) 2 2]) (by kernel_rfl) (by rw[H3])
 have f:=f.st 34 (H3)
 try simp only[sL] at H3 N19
 rw[H3] at N19
 obtain⟨Z9,P9,V5,H4,J5,N20,B9⟩:=N19.litS (f:=Dat.str) 2 bH (dD ([[82,101,102],[83,117,98]]:List Bs))
 have f:=Frm.set f 37 (v:=.agg #[.int .i8 5,.bool false,.int .i64 0,S [],.slice Z8 [X2,X3].length P8,.slice (some ⟨Q6,0,none⟩) 2 2]) (v':=.agg #[.int .i8 5,.bool false,.int .i64 0,S [],.slice Z8 [X2,X3].length P8,.slice Z9 ([[82,101,102],[83,117,98]]:List (List UInt8)).length P9]) (by kernel_rfl) (by rw[H4])
 try simp only[sL] at H4 N20
 rw[H4] at N20
 obtain⟨X4,l4,F4⟩:=bS F3
 refine Y8 f N20 (nW n _ hG.mo _ (⟨(5:Int),(false),(0:Int),([]:Bs),[X2,X3],([[82,101,102],[83,117,98]]:List Bs)⟩:TE0) (TE0.shutx B8.mo B9) X4 l4) λ_ V6 W15 J6 N21 iK _ f=>?_
 obtain⟨rJ,rfl,D4⟩:=iK
 obtain⟨Z10,P10,rfl,B10⟩:=TG0.opn D4
 refine Y f 4 λ_ f=>Y4 f N21 (.cells #[iB 0,S [],iL 0,S [],S [],Sn] 31 (0,0)) λQ8 W16 N22 _ f=>Wu f N22 0 0 (lTG0 X4.1 Z10 P10) λW17 N23 _ f=>Ye f 2 λ_ f=>RR (aE (k:=1) (c:=1) f N23 (.cells #[S [65]] 9 (0,0)) kr (λ_=>by kernel_rfl) λQ9 W18 N24 _ f=>Y f 1 λ_ f=>aE (k:=1) (c:=1) f N24 (.cells #[iB 5,bO false,iL 0,S [],Sn,Sn] 26 (0,0)) kr (λ_=>by kernel_rfl) λQ10 W19 N25 _ f=>Y f 1 λ_ f=>Y4 f N25 (.cells #[iB 0,bO false,iL 0,S [],Sn,Sn] 26 (0,0)) λQ11 W20 N26 _ f=>?_)
 have N27:=N26.pl [1]
 obtain⟨Z11,P11,V7,H5,J7,N28,B11⟩:=N27.litS (f:=ai) (xs:=[(⟨(5:Int),(false),(0:Int),([]:Bs),([]:List TE0),([]:List Bs)⟩:TE0)]) (cl:=[iB 5,bO false,iL 0,S [],Sn,Sn]) 1 jx ⟨_,_,rfl,TE0.shutx Sli.nil Sli.nil,rfl⟩
 have f:=Frm.set f 45 (v:=.agg #[.int .i8 5,.bool false,.int .i64 0,S [],.slice (some ⟨Q10,0,none⟩) 1 1,.slice (some ⟨Q9,0,none⟩) 1 1]) (v':=.agg #[.int .i8 5,.bool false,.int .i64 0,S [],.slice Z11 [(⟨(5:Int),(false),(0:Int),([]:List UInt8),([]:List TE0),([]:List (List UInt8))⟩:TE0)].length P11,.slice (some ⟨Q9,0,none⟩) 1 1]) (by kernel_rfl) (by rw[H5])
 have N29:=N28.pl [1]
 obtain⟨Z12,P12,V8,H6,J8,N30,B12⟩:=N29.litS (f:=Dat.str) 1 bH (dD ([[65]]:List Bs))
 have f:=Frm.set f 45 (v:=.agg #[.int .i8 5,.bool false,.int .i64 0,S [],.slice Z11 [(⟨(5:Int),(false),(0:Int),([]:List UInt8),([]:List TE0),([]:List (List UInt8))⟩:TE0)].length P11,.slice (some ⟨Q9,0,none⟩) 1 1]) (v':=.agg #[.int .i8 5,.bool false,.int .i64 0,S [],.slice Z11 [(⟨(5:Int),(false),(0:Int),([]:List UInt8),([]:List TE0),([]:List (List UInt8))⟩:TE0)].length P11,.slice Z12 ([[65]]:List (List UInt8)).length P12]) (by kernel_rfl) (by rw[H6])
 refine Wu f N30 0 0 [iB 5,bO false,iL 0,S [],sL Z11 [(⟨(5:Int),(false),(0:Int),([]:Bs),([]:List TE0),([]:List Bs)⟩:TE0)] P11,sL Z12 ([[65]]:List Bs) P12] λW21 N31 _ f=>eT (RR (aE (k:=1) (c:=1) f N31 (.cells #[S [82,101,115,111,117,114,99,101,115]] 9 (0,0)) kr (λ_=>by kernel_rfl) λQ12 W22 N32 _ f=>Z f (XO N32 1) λ_ f=>aE (k:=1) (c:=1) f N32 (.cells #[iB 5,bO false,iL 0,S [],sL Z11 [(⟨(5:Int),(false),(0:Int),([]:Bs),([]:List TE0),([]:List Bs)⟩:TE0)] P11,sL Z12 ([[65]]:List Bs) P12] 26 (0,0)) kr (λ_=>by kernel_rfl) λQ13 W23 N33 _ f=>Y f 1 λ_ f=>?_))
 obtain⟨Z13,P13,V9,H7,J9,N34,B13⟩:=N33.litS (f:=ai) (xs:=[(⟨(5:Int),(false),(0:Int),([]:Bs),[(⟨(5:Int),(false),(0:Int),([]:Bs),([]:List TE0),([]:List Bs)⟩:TE0)],([[65]]:List Bs)⟩:TE0)]) (cl:=[iB 5,bO false,iL 0,S [],sL Z11 [(⟨(5:Int),(false),(0:Int),([]:Bs),([]:List TE0),([]:List Bs)⟩:TE0)] P11,sL Z12 ([[65]]:List Bs) P12]) 1 jx ⟨_,_,rfl,TE0.shutx B11.mo B12,rfl⟩
 have f:=Frm.set f 50 (v:=.agg #[.int .i8 5,.bool false,.int .i64 0,S [],.slice (some ⟨Q13,0,none⟩) 1 1,.slice (some ⟨Q12,0,none⟩) 1 1]) (v':=.agg #[.int .i8 5,.bool false,.int .i64 0,S [],.slice Z13 [(⟨(5:Int),(false),(0:Int),([]:List UInt8),[(⟨(5:Int),(false),(0:Int),([]:List UInt8),([]:List TE0),([]:List (List UInt8))⟩:TE0)],([[65]]:List (List UInt8))⟩:TE0)].length P13,.slice (some ⟨Q12,0,none⟩) 1 1]) (by kernel_rfl) (by rw[H7])
 obtain⟨Z14,P14,V10,H8,J10,N35,B14⟩:=N34.litS (f:=Dat.str) 1 bH (dD ([[82,101,115,111,117,114,99,101,115]]:List Bs))
 have f:=Frm.set f 50 (v:=.agg #[.int .i8 5,.bool false,.int .i64 0,S [],.slice Z13 [(⟨(5:Int),(false),(0:Int),([]:List UInt8),[(⟨(5:Int),(false),(0:Int),([]:List UInt8),([]:List TE0),([]:List (List UInt8))⟩:TE0)],([[65]]:List (List UInt8))⟩:TE0)].length P13,.slice (some ⟨Q12,0,none⟩) 1 1]) (v':=.agg #[.int .i8 5,.bool false,.int .i64 0,S [],.slice Z13 [(⟨(5:Int),(false),(0:Int),([]:List UInt8),[(⟨(5:Int),(false),(0:Int),([]:List UInt8),([]:List TE0),([]:List (List UInt8))⟩:TE0)],([[65]]:List (List UInt8))⟩:TE0)].length P13,.slice Z14 ([[82,101,115,111,117,114,99,101,115]]:List (List UInt8)).length P14]) (by kernel_rfl) (by rw[H8])
 obtain⟨X5,l5,F5⟩:=bS F4
 refine Y8 f N35 (nX n _ hG.mo _ (⟨(5:Int),(false),(0:Int),([]:Bs),[(⟨(5:Int),(false),(0:Int),([]:Bs),[(⟨(5:Int),(false),(0:Int),([]:Bs),([]:List TE0),([]:List Bs)⟩:TE0)],([[65]]:List Bs)⟩:TE0)],([[82,101,115,111,117,114,99,101,115]]:List Bs)⟩:TE0) (TE0.shutx B13.mo B14) X5 l5) λ_ V11 W24 J11 N36 mi _ f=>?_
 obtain⟨c_5,rfl,D5⟩:=mi
 obtain⟨Z15,P15,Z16,P16,Z17,P17,Z18,P18,rfl,B15,B16,B17,B18⟩:=TB0.opn D5
 refine Y f 4 λ_ f=>Y4 f N36 (.cells #[Sn,Sn,Sn,Sn] 41 (0,0)) λQ14 W25 N37 _ f=>Wu f N37 0 0 (lTB0 X5.1 Z15 P15 Z16 P16 Z17 P17 Z18 P18) λW26 N38 _ f=>Ye f 2 λ_ f=>RR (Y f 3 λ_ f=>?_)
 rcases cE F5 with⟨B19,F6⟩|⟨B19,F17⟩
 ·have f:=f.st 57 (cB B19)
  refine Y f 1 λ_ f=>Z f (XO N38 4) λ_ f=>Y f 3 λ_ f=>?_
  rcases cE F6 with⟨B20,F7⟩|⟨B20,F16⟩
  ·have f:=f.st 62 (cB B20)
   refine Y f 1 λ_ f=>Z f (XO N38 4) λ_ f=>Z f (Y11 rfl (l:=X1.1.av) (m:=[65])) λ_ f=>Y f 2 λ_ f=>?_
   rcases cE F7 with⟨B21,F8⟩|⟨B21,F15⟩
   ·have f:=f.st 67 (cB B21)
    refine Y f 4 λ_ f=>?_
    rcases cE F8 with⟨B22,F9⟩|⟨B22,F14⟩
    ·have f:=f.st 71 (cB B22)
     refine Y f 1 λ_ f=>Z f (Y11 rfl (l:=X4.2.1) (m:=[])) λ_ f=>Y f 2 λ_ f=>?_
     rcases cE F9 with⟨B23,F10⟩|⟨B23,F13⟩
     ·have f:=f.st 75 (cB B23)
      refine Y f 4 λ_ f=>?_
      rcases cE F10 with⟨B24,F11⟩|⟨B24,F12⟩
      ·have f:=f.st 79 (cB B24)
       refine Y f 1 λ_ f=>Z f (Y11 rfl (l:=X5.2.1) (m:=[82,101,115,111,117,114,99,101,115,47,65])) λ_ f=>Ye f 2 λ_ f=>wp_ret (am f rfl (Lk 0 (bO (decide (X5.2.1=[82,101,115,111,117,114,99,101,115,47,65])))) ?_)
       cases sI F11
       exact⟨_,rfl,_,mL,(N38.dropN 6).kr,rfl⟩
      have f:=f.st 79 (cB B24)
      refine Ye f 4 λ_ f=>wp_ret (am f rfl (Lk 0 (bO false)) ?_)
      cases sI F12
      exact⟨_,rfl,_,mL,(N38.dropN 6).kr,rfl⟩
     have f:=f.st 75 (cB B23)
     refine Ye f 8 λ_ f=>wp_ret (am f rfl (Lk 0 (bO false)) ?_)
     cases sI F13
     exact⟨_,rfl,_,mL,(N38.dropN 6).kr,rfl⟩
    have f:=f.st 71 (cB B22)
    refine Ye f 12 λ_ f=>wp_ret (am f rfl (Lk 0 (bO false)) ?_)
    cases sI F14
    exact⟨_,rfl,_,mL,(N38.dropN 6).kr,rfl⟩
   have f:=f.st 67 (cB B21)
   refine Ye f 16 λ_ f=>wp_ret (am f rfl (Lk 0 (bO false)) ?_)
   cases sI F15
   exact⟨_,rfl,_,mL,(N38.dropN 6).kr,rfl⟩
  have f:=f.st 62 (cB B20)
  refine Ye f 21 λ_ f=>wp_ret (am f rfl (Lk 0 (bO false)) ?_)
  cases sI F16
  exact⟨_,rfl,_,mL,(N38.dropN 6).kr,rfl⟩
 have f:=f.st 57 (cB B19)
 refine Ye f 26 λ_ f=>wp_ret (am f rfl (Lk 0 (bO false)) ?_)
 cases sI F17
 exact⟨_,rfl,_,mL,(N38.dropN 6).kr,rfl⟩
end Go.Proofs.YtkopljikappieaaGreatDoor
end
section
namespace Go.Proofs.YtkopljikappieaaGreatDoor
open Go Go.Vc Go.RowKit
end Go.Proofs.YtkopljikappieaaGreatDoor
end
section
namespace Go.Proofs.YtkopljikappieaaGreatDoor
open Go Go.Vc Go.RowKit
def GX:Nat→TG0→Prop
 |0,_=>False
 |d+1,x=>x.fL.length≤20000∧∀y∈x.fL,GX d y
theorem GX.nil {d:Nat} {x:TG0} (h:x.fL=[]):GX (d+1) x:=by
 refine⟨by rw[h];simp,?_⟩
 rw[h]
 intro y hy
 simp at hy
theorem exL_in {E : TE0 → List UInt8 → FX TG0} {at_ : List UInt8} : ∀ {i : Nat} {l : List TE0} {xs : List TG0}, exL E at_ i l = .inr xs → xs.length = l.length ∧ ∀ y ∈ xs, ∃ x ∈ l, ∃ p, E x p = .inr y
 | i, [], xs, h => by
  rw [exL] at h
  obtain rfl := Sum.inr.inj h
  exact ⟨rfl, fun y hy => by simp at hy⟩
 | i, v :: r, xs, h => by
  rw [exL] at h
  cases hE : E v (plcS at_ i) with
  | inl p => rw [hE] at h; exact absurd h (by simp)
  | inr x =>
   rw [hE] at h
   dsimp only at h
   cases hr : exL E at_ (i + 1) r with
   | inl p => rw [hr] at h; exact absurd h (by simp)
   | inr ys =>
    rw [hr] at h
    obtain rfl := Sum.inr.inj h
    obtain ⟨h1, h2⟩ := exL_in hr
    refine ⟨by simp [h1], fun y hy => ?_⟩
    rcases List.mem_cons.1 hy with rfl | hy
    ·exact ⟨v, by simp, _, hE⟩
    obtain ⟨x, hx, p, hp⟩ := h2 y hy
    exact ⟨x, List.mem_cons_of_mem _ hx, p, hp⟩
theorem pN {α β:Type} {f:α→β} {x:FX α} {y:β} (h:mapX f x=.inr y): ∃z,x=.inr z∧y=f z:=by
 cases x with
 |inl p=>exact absurd h (by simp[mapX])
 |inr z=>exact⟨z,rfl,(Sum.inr.inj h).symm⟩
theorem jt {at_:Bs} {y:TG0} (h:shp at_=.inr y):False:=by simp[shp] at h
theorem pF {E:TE0→Bs→FX TG0} {d:Nat} (hE: ∀v p x,E v p=.inr x→GX (d+1) x) {at_:Bs} {i:Nat} {l:List TE0} {xs:List TG0} (h:exL E at_ i l=.inr xs) (hl:l.length≤8):xs.length≤20000∧∀y∈xs,GX (d+1) y:=by
 obtain⟨h1,h2⟩:=exL_in h
 refine⟨by omega,λy hy=>?_⟩
 obtain⟨x,_,p,hp⟩:=h2 y hy
 exact hE x p y hp
theorem callV_good {E:TE0→Bs→FX TG0} {d:Nat} (hE: ∀v p x,E v p=.inr x→GX (d+1) x) {key:Bs} {v:TE0} {at_:Bs} {x:TG0} (h:callV E key v at_=.inr x):GX (d+2) x:=by
 unfold callV at h
 cases hk1:decide (key=[82,101,102]) with
 |true=>
  rw[hk1,cT] at h
  unfold c1V at h
  cases hb:nameV v with
  |true=>rw[hb,cT] at h;obtain rfl:=Sum.inr.inj h;exact GX.nil rfl
  |false=>rw[hb,cF] at h;exact(jt h).elim
 |false=>
  rw[hk1,cF] at h
  cases hk2:decide (key=[71,101,116,65,116,116]) with
  |true=>
   rw[hk2,cT] at h
   unfold c2V at h
   rcases iF v with⟨a,b,h2,hk,hl⟩|⟨h2,hk⟩
   ·rw[h2] at h
    dsimp only at h
    cases hb: (nameV a&& (decide (b.ab=3)&&attrS b.aa)) with
    |true=>rw[hb,cT] at h;obtain rfl:=Sum.inr.inj h;exact GX.nil rfl
    |false=>rw[hb,cF] at h;exact(jt h).elim
   rw[h2] at h;exact(jt h).elim
  |false=>
   rw[hk2,cF] at h
   cases hk3:decide (key=[83,117,98]) with
   |true=>
    rw[hk3,cT] at h
    unfold c3V at h
    cases hb:decide (v.ab=3) with
    |false=>rw[hb,cF] at h;exact(jt h).elim
    |true=>
     rw[hb,cT] at h
     cases hz:decide ((lexS v.aa).2.2=0) with
     |false=>rw[hz,cF] at h;exact absurd h (by simp)
     |true=>
      rw[hz,cT] at h
      obtain rfl:=Sum.inr.inj h
      refine⟨by have:=lexS_len v.aa;dsimp only;omega,λy hy=>GX.nil (lexS_flat v.aa y hy)⟩
   |false=>
    rw[hk3,cF] at h
    cases hk4:decide (key=[73,102]) with
    |true=>
     rw[hk4,cT] at h
     unfold c4V at h
     rcases mc v with⟨a,b,c,h2,hk,hl⟩|⟨h2,hk⟩
     ·rw[h2] at h
      dsimp only at h
      cases hb:nameV a with
      |true=>rw[hb,cT] at h;obtain⟨z,hz,rfl⟩:=pN h;exact pF hE hz (by simp)
      |false=>rw[hb,cF] at h;exact(jt h).elim
     rw[h2] at h;exact(jt h).elim
    |false=>
     rw[hk4,cF] at h
     cases hk5:decide (key=[74,111,105,110]) with
     |true=>
      rw[hk5,cT] at h
      unfold c5V at h
      rcases iF v with⟨a,b,h2,hk,hl⟩|⟨h2,hk⟩
      ·rw[h2] at h
       dsimp only at h
       cases hb:wordV a with
       |true=>rw[hb,cT] at h;obtain⟨z,hz,rfl⟩:=pN h;exact pF hE hz (by simp)
       |false=>rw[hb,cF] at h;exact(jt h).elim
      rw[h2] at h;exact(jt h).elim
     |false=>
      rw[hk5,cF] at h
      cases hk6:decide (key=[83,101,108,101,99,116]) with
      |true=>
       rw[hk6,cT] at h
       unfold c6V at h
       rcases iF v with⟨a,b,h2,hk,hl⟩|⟨h2,hk⟩
       ·rw[h2] at h
        dsimp only at h
        obtain⟨z,hz,rfl⟩:=pN h
        exact pF hE hz (by simp)
       rw[h2] at h;exact(jt h).elim
      |false=>rw[hk6,cF] at h;exact(jt h).elim
theorem oY: ∀ (d:Nat) (v:TE0) (at_:Bs) (x:TG0),exprV d v at_=.inr x→GX (d+1) x
 |0,v,at_,x,h=>(jt h).elim
 |d+1,v,at_,x,h=>by
  have ih:=oY d
  rw[exprV,exprB] at h
  cases h3:decide (v.ab=3) with
  |true=>
   rw[h3,cT] at h
   cases hb:wordV v with
   |true=>rw[hb,cT] at h;obtain rfl:=Sum.inr.inj h;exact GX.nil rfl
   |false=>rw[hb,cF] at h;exact(jt h).elim
  |false=>
   rw[h3,cF] at h
   cases h2:decide (v.ab=2) with
   |true=>rw[h2,cT] at h;obtain rfl:=Sum.inr.inj h;exact GX.nil rfl
   |false=>
    rw[h2,cF] at h
    cases h4:decide (v.ab=4) with
    |true=>
     rw[h4,cT] at h
     cases h8:decide (((v.ac.length:Nat):Int)≤8) with
     |true=>rw[h8,cT] at h;obtain⟨z,hz,rfl⟩:=pN h;exact pF ih hz (by have:=of_decide_eq_true h8;omega)
     |false=>rw[h8,cF] at h;exact absurd h (by simp)
    |false=>
     rw[h4,cF] at h
     split at h
     ·exact callV_good ih h
     exact(jt h).elim
theorem same_all {n:Nat} (hn:100000≤n): ∀ (k d:Nat) (l:List TG0),d<k→l.length≤20000→(∀y∈l,GX d y)→dY n k l l=some true
 |0,d,l,h,_,_=>absurd h (by omega)
 |k+1,d,l,hk,hl,hg=>by
  show ii n (dY n k) l l=some true
  unfold ii
  rw[dT rfl,nT,cF]
  have:=gr (step:=gl n (dY n k) l l) (n:=n) (λq=>((q:Nat):Int)) l.length (.inr ()) (λq hq=>by
   have hg1:aB l (q:Int)=some l[q]:=by simp[aB,hq]
   have hgx:=hg l[q] (List.getElem_mem hq)
   unfold gl
   rw[dT (by omega),cT,hg1,bnd,bnd]
   unfold lj
   rw[dT rfl,cT,dT rfl,cT,dT rfl,cT,dT rfl,cT,dT rfl,cT]
   match d,hk,hgx with
   |d+1,hk,hgx=>
    rw[same_all hn k d l[q].fL (by omega) hgx.1 hgx.2,bnd,bnd,nT,cF,aI (by omega) (by omega)]
    rfl) (by
   unfold gl
   rw[dF (by omega),cF]) (by omega)
  have e0: ((0:Nat):Int)=0:=rfl
  rw[e0] at this
  rw[this,bnd]
theorem same_self {n d:Nat} (hn:100000≤n) {x:TG0} (hd:d≤1000) (h:GX (d+1) x):dS n x x=some true:=by
 unfold dS mX
 rw[dT rfl,cT,dT rfl,cT,dT rfl,cT,dT rfl,cT,dT rfl,cT]
 unfold mj
 rw[same_all hn n d x.fL (by omega) h.1 h.2,bnd,bnd]
end Go.Proofs.YtkopljikappieaaGreatDoor
end
