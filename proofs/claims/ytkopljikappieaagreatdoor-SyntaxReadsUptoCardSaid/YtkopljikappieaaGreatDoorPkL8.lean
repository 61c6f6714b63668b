/-
  Texts of this claim, packed (what nothing names is left out): R2, SynG1, SynG2, SynG3, SynG4, SynG5, SynG6, SynG7, SynG8. Own work, partly printed by own programs. No condition.
-/
import Derived.Test.YtkopljikappieaaGreatDoorPkL7
import Derived.Test.YtkopljikappieaaGreatDoorPkL4
import Derived.Test.YtkopljikappieaaGreatDoorPkL6
set_option linter.unusedVariables false
set_option linter.unusedSimpArgs false
set_option maxHeartbeats 2000000
namespace Go.Proofs.YtkopljikappieaaGreatDoor
open Go Go.Vc Go.RowKit
set_option maxRecDepth 20000 in
theorem ky (n:Nat) (M:Mem) (b0:Nat) (aO:Int) (aC:Bs) (c1:Lv) (d1:TE0) (h1:Rep M (ai d1) c1) (d2:Bs) (r:List TF0×Int×Bs) (hF:cV n aO aC d1 d2=some r):OkH Tryz.prog M [oC b0 #[iL aO,S aC] 54] 111 [pP b0,.agg c1.toArray,S d2] (λM' E' v=>∃ (A0:Oa) (k0:Nat) (s0:Lv),v=sL A0 r.1 k0∧E'=[.row 70 7 (sL A0 r.1 k0) r.1.length s0,oC b0 #[iL r.2.1,S r.2.2] 54]∧ae M' (r.1.map cI) s0):=by
 unfold cV at hF
 intro M1 hM0 w0 H w p0
 replace h1:=Rep.mono hM0 _ _ h1
 obtain⟨Z1,P1,Z2,P2,rfl,B1,B2⟩:=TE0.opn h1
 refine Re 79 Tryz.func111 rfl λa0 f0=>RR (Y5 (cs:=(aTE0 d1 Z1 P1 Z2 P2)) (T:=26) f0 p0 λQ1 V1 W1 J1 R1 N1 _ f=>?_)
 have R2:=aU R1
 refine Ye f 1 λ_ f=>ah (RR (Y f 3 λ_ f=>Z f (XO N1 0) λ_ f=>Ye f 1 λ_ f=>RcF f hF (λB3 F1=>?_) λB3 F2=>?_))
 ·refine RR (Ye f 1 λ_ f=>wp_ret (bl ?_))
  obtain⟨Z3,P3,H1,N2⟩:=N1.nilD 70 7 (TF0)
  have f:=f.st 6 (H1)
  have D1:ae V1 (([]:List TF0).map cI) []:=rfl
  refine am f rfl (Lk 6 (sL Z3 ([]:List TF0) P3)) ?_
  cases sI F1
  exact⟨_,rfl,_,_,J1,N2.kr,⟨Z3,P3,[],rfl,rfl,D1⟩⟩
 refine St (ah (RR (Y f 1 λ_ f=>Y7 f N1 R2 0 rfl λ_ f=>Ye f 1 λ_ f=>RcF f F2 (λB4 F3=>?_) λB4 F5=>?_)))
 ·refine RR (Y f 2 λ_ f=>?_)
  obtain⟨X1,l1,F4⟩:=bS F3
  refine Ch f N1 (ax n _ b0 aO aC (120:Int) d2 X1 l1) λ_ V2 mG W2 J2 N3 ef _ f=>?_
  obtain⟨rfl,rfl⟩:=ef
  refine eT (RR (Ye f 1 λ_ f=>wp_ret (bl ?_)))
  obtain⟨Z4,P4,H2,N4⟩:=N3.nilD 70 7 (TF0)
  have f:=f.st 6 (H2)
  have D2:ae V2 (([]:List TF0).map cI) []:=rfl
  refine am f rfl (Lk 6 (sL Z4 ([]:List TF0) P4)) ?_
  cases sI F4
  exact⟨_,rfl,_,_,mL,N4.kr,⟨Z4,P4,[],rfl,rfl,D2⟩⟩
 refine St (RR (Ye f 1 λ_ f=>RR (Z f (XK N1 R2 0) λ_ f=>?_)))
 obtain⟨X2,l2,F6⟩:=bS F5
 refine Y8 f N1 (ml n _ _ d1 h1.mo X2 l2) λ_ V3 W3 J3 N5 iK _ f=>?_
 obtain⟨Z5,P5,rfl,B5⟩:=iK
 refine Ye f 1 λ_ f=>ah (RR (Ye f 1 λ_ f=>wp_block ?_))
 obtain⟨Z6,P6,H3,N6⟩:=N5.nilD 70 7 (TF0)
 have f:=f.st 7 (H3)
 have D3:ae V3 (([]:List TF0).map cI) []:=rfl
 obtain⟨Q2,ce,F7⟩:=bS F6
 refine wp_mono (Q:=λe a w=>(e=.exit 0∧(∃G4,Q2=G4∧∃V15,V3.le V15∧∃Z18 P18 L3,ae V15 (G4.1.map cI) L3∧Frm 79 [(7,sL Z18 G4.1 P18)] a∧Hp w0 V15 ((rO 70 7 Z18 G4.1 P18 L3)::setE (setE (N6.en.drop 1) 0 0 [iL G4.2.1]) 0 1 [S G4.2.2]) w))) (aZ (σ:=(List TF0×Int×Int×Bs)×Oa×Nat×Lv) (λx=>match x with|(I1,K1,Z7,P7,L1)=>(((7,sL Z7 K1.1 P7)::(9,iL K1.2.1)::kpL [0,2,4,8] f.fr),((rO 70 7 Z7 K1.1 P7 L1)::setE (setE (N6.en.drop 1) 0 0 [iL K1.2.2.1]) 0 1 [S K1.t3]),λMM=>au (cM n d1 d2 X2) I1 K1=some Q2∧ae MM (K1.1.map cI) L1)) (n,(([]:List TF0),(0:Int),aO,aC),Z6,P6,[]) (f.kp) N6.kr ⟨ce,D3⟩ ?_) ?_
 ·rintro⟨I1,K1,Z7,P7,L1⟩ V4 _ W4 J4 gL f N7
  obtain⟨ci,D4⟩:=gL
  dsimp only[Hp.en] at N7
  obtain⟨I2,lT,rfl,bg,T1⟩:=aK ci
  unfold cM at bg
  refine ah (ah ?_)
  obtain⟨eF,cL,F8⟩:=bS bg
  refine aW (λa_24 W5=>∃G1,eF=G1∧∃V5,V4.le V5∧Frm 79 ((35,bO G1)::kpL [0,2,4,7,8,9] f.fr) a_24∧Hp w0 V5 (N7.en) W5) ?_ ?_
  ·refine ay (Y f 5 λ_ f=>?_)
   rcases cE cL with⟨B6,F9⟩|⟨B6,F10⟩
   ·have f:=f.st 29 (cB B6)
    refine Y f 3 λ_ f=>Z f (XO N7 1) λ_ f=>Ye f 2 λ_ f=>?_
    exact⟨_,(sI F9).symm,_,mL,f.kp,N7.kr⟩
   have f:=f.st 29 (cB B6)
   refine Ye f 6 λ_ f=>?_
   exact⟨_,(sI F10).symm,_,mL,f.kp,N7.kr⟩
  rintro a_24 W5 ⟨G1,eS,V5,J5,f,N8⟩
  dsimp only[Hp.en] at N8
  subst eF
  refine az (RcF f F8 (λB7 F11=>?_) λB7 F29=>?_)
  ·refine St (ah (wp_block (ah ?_)))
   obtain⟨lb,iJ,F12⟩:=bS F11
   refine aW (λa_52 W23=>∃G2,lb=G2∧∃V9,V5.le V9∧∃C3 c_6,Rep V9 (ai G2) c_6∧(∀j u,c_6[j]? =some u→V9.cell? (C3.add j)=some u)∧Frm 79 ((10,Pa C3)::kpL [0,2,4,7,8,9] f.fr) a_52∧Hp w0 V9 (N8.en) W23) ?_ ?_
   ·obtain⟨X3,l3,F13⟩:=bS iJ
    obtain⟨X4,l4,F14⟩:=bS F13
    refine dG [11] 0 N8 (.quiet 0 (.quiet 1 (.quiet 2 (.quiet 3 (.quiet 4 (.alt 5 (.quiet 6 (.quiet 7 (.quiet 8 (.alt 9 (.alt 10 .done .none) .none)))) (.alt 9 (.alt 5 (.quiet 6 (.quiet 7 (.quiet 8 (.alt 10 .done .none)))) .none) .none))))))) (Y1 rfl f rfl rfl (λ_ pq=>XK pq (fu R2) 0) λ_ f=>Y1 (v:=sL Z5 X2 P5) rfl f rfl rfl (λ_ _=>by kernel_rfl) λ_ f=>Y1 (v:=iL K1.2.1) rfl f rfl rfl (λ_ _=>by kernel_rfl) λ_ f=>?_)
    obtain⟨C2,lQ,ly,D7,R4⟩:=Sli.aM V5 B5 l3
    obtain rfl:lQ=[S X3]:=D7
    refine Y1 rfl f rfl rfl (λ_ pq=>XI ly l3) λ_ f=>Y1 rfl f rfl rfl (λ_ pq=>XK pq R4 0) λ_ f=>ao rfl (λW9 N12=>?_) ?_
    ·refine Y8 f N12 (cZ n _ _ d1 h1.mo X3 X4 l4) λ_ V7 W10 J7 N13 nt _ f=>?_
     obtain⟨rJ,rfl,D8⟩:=nt
     obtain⟨Z10,P10,Z11,P11,rfl,B10,B11⟩:=TE0.opn D8
     refine ag rfl (ap 0 J7 N13 (Y1 (v:=.tuple #[.agg (aTE0 X4.1 Z10 P10 Z11 P11),bO X4.2]) rfl f rfl rfl (λ_ _=>by kernel_rfl) λ_ f=>Y1 (v:=.agg (aTE0 X4.1 Z10 P10 Z11 P11)) rfl f rfl rfl (λ_ _=>by kernel_rfl) λ_ f=>Y1 (v:=bO X4.2) rfl f rfl rfl (λ_ _=>by kernel_rfl) λ_ f=>ao rfl (λW11 N14=>?_) ?_))
     ·refine Y4 f N14 (.cells #[iB 0,bO false,iL 0,S [],Sn,Sn] 26 (0,0)) λQ4 W12 N15 _ f=>ag rfl (ap 1 J7 N15 (ao rfl (λW13 N16=>?_) ?_))
      ·refine Wu f N16 0 0 (lTE0 X4.1 Z10 P10 Z11 P11) λW14 N17 _ f=>ag rfl (ap 1 J7 N17 (dp λW15 N18=>Y f 1 λ_ f=>ag rfl (jD ?_)))
       obtain⟨V10,J10,N27,R5⟩:=N18.fzOwn
       refine az ?_
       exact⟨_,(sI F14).symm,_,mL,⟨Q4,0,none⟩,_,D8.mo,(bF (R5) 0 rfl),f.kp,N27.kr⟩
      exact al
     exact al
    refine ao rfl (λW16 N19=>?_) ?_
    ·refine Y4 f N19 (.cells #[iB 0,bO false,iL 0,S [],Sn,Sn] 26 (0,0)) λQ5 W17 N20 _ f=>ag rfl (ap 1 mL N20 (ao rfl (λW18 N21=>?_) ?_))
     ·refine Y8 f N21 (cZ n _ _ d1 h1.mo X3 X4 l4) λ_ V8 W19 J8 N22 pg _ f=>?_
      obtain⟨c_5,rfl,D9⟩:=pg
      obtain⟨Z12,P12,Z13,P13,rfl,B12,B13⟩:=TE0.opn D9
      refine ag rfl (ap 1 J8 N22 (Y1 (v:=.tuple #[.agg (aTE0 X4.1 Z12 P12 Z13 P13),bO X4.2]) rfl f rfl rfl (λ_ _=>by kernel_rfl) λ_ f=>Y1 (v:=.agg (aTE0 X4.1 Z12 P12 Z13 P13)) rfl f rfl rfl (λ_ _=>by kernel_rfl) λ_ f=>Y1 (v:=bO X4.2) rfl f rfl rfl (λ_ _=>by kernel_rfl) λ_ f=>ao rfl (λW20 N23=>?_) ?_))
      ·refine Wu f N23 0 0 (lTE0 X4.1 Z12 P12 Z13 P13) λW21 N24 _ f=>ag rfl (ap 1 J8 N24 (dp λW22 N25=>Y f 1 λ_ f=>ag rfl (jD ?_)))
       obtain⟨V11,J11,N28,R6⟩:=N25.fzOwn
       refine az ?_
       exact⟨_,(sI F14).symm,_,mL,⟨Q5,0,none⟩,_,D9.mo,(bF (R6) 0 rfl),f.kp,N28.kr⟩
      exact al
     exact al
    exact al
   rintro a_52 W23 ⟨G2,qt,V9,J9,C3,c_6,D10,hZ,f,N26⟩
   dsimp only[Hp.en] at N26
   subst lb
   obtain⟨Z14,P14,Z15,P15,rfl,B14,B15⟩:=TE0.opn D10
   refine az (ah (RR (Y f 2 λ_ f=>?_)))
   obtain⟨X8,l5,F15⟩:=bS F12
   obtain⟨C4,c_7,qm,D11,R7⟩:=N26.at_ B5 l5
   obtain rfl:c_7=[S X8]:=D11
   refine Z f (XI qm l5) λ_ f=>Y7 f N26 R7 0 rfl λ_ f=>?_
   obtain⟨X9,l6,F16⟩:=bS F15
   refine Y9 f N26 (gN n _ X8 X9 l6) λW24 N29 _ f=>Ye f 1 λ_ f=>?_
   obtain⟨ns,la,F17⟩:=bS F16
   refine aW (λa_63 W27=>∃G3,ns=G3∧∃V13,V9.le V13∧Frm 79 (kpL [0,2,4,7,8,9,10] f.fr) a_63∧Hp w0 V13 (setE (setE (selE [1,0] 2 N29.en) 0 0 [iL G3.1]) 0 1 [S G3.2]) W27) ?_ ?_
   ·refine RcF f la (λB16 F18=>?_) λB16 F22=>?_
    ·refine ay (Y f 4 λ_ f=>?_)
     obtain⟨X10,l7,F19⟩:=bS F18
     obtain⟨C5,c_8,qn,D12,R8⟩:=N29.at_ B5 l7
     obtain rfl:c_8=[S X10]:=D12
     refine Z f (XI qn l7) λ_ f=>Y7 f N29 R8 0 rfl λ_ f=>?_
     obtain⟨X11,l8,F20⟩:=bS F19
     refine Y9 f N29 (be n _ d2 X10 X11 l8) λW25 N30 _ f=>?_
     obtain⟨X12,l9,F21⟩:=bS F20
     have N32:=N30.pl [1]
     refine Ch f N32 (ax n _ b0 K1.2.2.1 K1.t3 (120:Int) X11 X12 l9) λ_ V12 rB W26 J12 N31 so _ f=>?_
     obtain⟨rfl,rfl⟩:=so
     refine eT ?_
     exact⟨_,(sI F21).symm,_,J12,f.kp,N31.kr⟩
    refine wp_skip ?_
    have N34:=N29.pl [1]
    refine az ?_
    exact⟨_,(sI F22).symm,_,mL,f.kp,N34.kr⟩
   rintro a_63 W27 ⟨G3,rY,V13,J13,f,N33⟩
   dsimp only[Hp.en] at N33
   subst ns
   refine az (cu 2 [(0,true),(1,true),(2,true),(3,true),(4,true),(5,true),(6,true),(7,true),(8,true),(9,true),(10,true),(11,true),(12,true),(13,false),(14,true),(15,false),(16,false),(17,true)] N33 (Y0 default f 3 λ_ f=>?_))
   obtain⟨X13,l10,F23⟩:=bS F17
   obtain⟨C6,c_9,e_5,D13,R9⟩:=Sli.aM V13 B5 l10
   obtain rfl:c_9=[S X13]:=D13
   refine bG f kr kr rfl rfl (λ_ pq=>XI e_5 l10) λ_ f=>bG f kr kr rfl rfl (λ_ pq=>XK pq R9 0) λ_ f=>Y0 default f 1 λ_ f=>bG f kr kr rfl rfl (λ_ pq=>XK pq (fu hZ) 0) λ_ f=>Y0 default f 3 λ_ f=>?_
   obtain⟨X14,l11,F24⟩:=bS F23
   obtain⟨C7,c_10,e_6,D14,R10⟩:=Sli.aM V13 B5 l11
   obtain rfl:c_10=[S X14]:=D14
   refine bG f kr kr rfl rfl (λ_ pq=>XI e_6 l11) λ_ f=>bG f kr kr rfl rfl (λ_ pq=>XK pq R10 0) λ_ f=>?_
   obtain⟨X15,l12,F25⟩:=bS F24
   refine eR (v:=S X15) f kr kr rfl rfl (λ_=>by kernel_rfl) (be n _ d2 X14 X15 l12) λ_ f=>bI λW29 N36=>?_
   obtain⟨X16,l13,F26⟩:=bS F25
   refine Ch f N36 (dA n _ b0 G3.1 G3.2 _ G2 D10.mo X15 X16 l13) λ_ V14 E_3 W30 J14 N37 q_7 _ f=>?_
   obtain⟨c_11,rfl,rfl,D15⟩:=q_7
   obtain⟨Z16,P16,rfl,B17⟩:=TG0.opn D15
   refine ag rfl (bL 2 J14 N37 (Y0 default f 1 λ_ f=>bI λW31 N38=>aE (k:=1) (c:=1) f N38 (.cells #[S X13,iB X16.1.ab,S X16.1.aa,iL X16.1.ak,S X16.1.av,S X16.1.aF,sL Z16 X16.1.fL P16] 70 (0,0)) kr (λ_=>by kernel_rfl) λQ6 W32 N39 _ f=>ag rfl (bL 3 J14 N39 (bI λW33 N40=>?_))))
   obtain⟨O1,F27⟩:=nS F26
   refine dM (⟨X13,X16.1⟩:TF0) 0 f (N40.toRow 2 70 7 Z7 P7 D4.mo) D4.mo (TF0.shutx B17) O1 λZ17 P17 L2 W34 N41 D16 _ f=>ag rfl (bL 2 J14 N41 (Y0 default f 1 λ_ f=>dx rfl λW35 N42=>ec (az (ay (Y f 1 λ_ f=>?_)))))
   obtain⟨O2,F28⟩:=nS F27
   refine Y f 1 λ_ f=>?_
   have f:=f.st 37 (iW O2)
   refine Ye f 1 λ_ f=>?_
   cases sI F28
   exact⟨⟨_,_,Z17,P17,L2⟩,Nat.lt_succ_self _,_,mL,⟨T1,D16⟩,f.kp,N42.kr⟩
  refine wp_exit (dJ (dJ ?_))
  cases sI F29
  exact⟨rfl,_,(sI T1).symm,_,mL,Z7,P7,L1,D4.mo,f.kp,N8.kr⟩
 rintro _ _ W37 ⟨rfl,G4,hq_,V15,J15,Z18,P18,L3,D17,f,N43⟩
 subst Q2
 refine jV (az (RR (Ye f 2 λ_ f=>wp_ret (am f rfl (Lk 6 (sL Z18 G4.1 P18)) ?_))))
 cases sI F7
 exact⟨_,rfl,_,_,mL,N43.kr,⟨Z18,P18,L3,rfl,rfl,D17⟩⟩
def dn (n:Nat) (rec_ref13_reader_template:Int→Bs→TE0→Bs→Int→Option (TB0×Int×Bs)) (aO:Int) (aC:Bs) (dc:Bs) (hO:Bs) (kK:Bs) (kw:List TF0) (kz:List Bs) (kL:Bool) (jZ:List TB0) (d2:TE0) (d3:Bs) (d4:Int):Option (Int×Bs×Bs×Bs×Bs×List TF0×List Bs×Bool×List TB0):=
 (bk n aO aC d2 d3 ([[84,101,109,112,108,97,116,101],[80,97,114,97,109,101,116,101,114,115]]:List Bs)).bind λX1=>
 bif !X1.1 then
  (some ((X1.2.1,X1.2.2,dc,hO,kK,kw,kz,(kL),jZ)))
 else
  (cN n X1.2.1 X1.2.2 d2 d3 [84,101,109,112,108,97,116,101]).bind λX2=>
  bif !X2.2.1 then
   (some ((X2.2.2.1,X2.2.2.2,dc,hO,kK,kw,kz,(kL),jZ)))
  else
   bif(decide ((2:Int)≤d4)) then
    ((bt n d3 [84,101,109,112,108,97,116,101]).bind λX3=>
    (aq n X2.2.2.1 X2.2.2.2 (170:Int) X3).bind λX4=>
    some ((X4.1,X4.2,dc,hO,kK,kw,kz,(kL),jZ)))
   else
    (bt n d3 [84,101,109,112,108,97,116,101]).bind λX5=>
    aL (inR .i64 (d4+1))<|
    (rec_ref13_reader_template X2.2.2.1 X2.2.2.2 X2.1 X5 (d4+1)).bind λX6=>
    (eh n d2 [80,97,114,97,109,101,116,101,114,115]).bind λX7=>
    bif X7.2 then
     ((bt n d3 [80,97,114,97,109,101,116,101,114,115]).bind λX8=>
     (cV n X6.2.1 X6.2.2 X7.1 X8).bind λX9=>
     some ((X9.2.1,X9.2.2,dc,hO,kK,X9.1,kz,(kL),[X6.1])))
    else
     some ((X6.2.1,X6.2.2,dc,hO,kK,kw,kz,(kL),[X6.1]))
set_option maxRecDepth 20000 in
theorem mm (n:Nat) (rec_ref13_reader_template:Int→Bs→TE0→Bs→Int→Option (TB0×Int×Bs)) (hrec_ref13_reader_template: ∀ (M:Mem) (b0:Nat) (aO:Int) (aC:Bs) (c1:Lv) (d1:TE0) (h1:Rep M (ai d1) c1) (d2:Bs) (d3:Int) (r:TB0×Int×Bs) (hF:rec_ref13_reader_template aO aC d1 d2 d3=some r),OkH Tryz.prog M [oC b0 #[iL aO,S aC] 54] 24 [pP b0,.agg c1.toArray,S d2,iL d3] (λM' E' v=>∃ (c0:Lv),v=.agg c0.toArray∧E'=[oC b0 #[iL r.2.1,S r.2.2] 54]∧Rep M' (bB r.1) c0)) (M:Mem) (b0:Nat) (aO:Int) (aC:Bs) (b1:Nat) (dc:Bs) (hO:Bs) (kK:Bs) (kw:List TF0) (Z1:Oa) (P1:Nat) (L1:Lv) (D1:ae M (kw.map cI) L1) (kz:List Bs) (Z2:Oa) (P2:Nat) (B1:Sli M 1 Dat.str Z2 P2 kz) (kL:Bool) (jZ:List TB0) (Z3:Oa) (P3:Nat) (L2:Lv) (D2:ae M (jZ.map bB) L2) (c2:Lv) (d2:TE0) (h2:Rep M (ai d2) c2) (d3:Bs) (d4:Int) (r:Int×Bs×Bs×Bs×Bs×List TF0×List Bs×Bool×List TB0) (hF:dn n rec_ref13_reader_template aO aC dc hO kK kw kz kL jZ d2 d3 d4=some r):OkH Tryz.prog M [oC b0 #[iL aO,S aC] 54,oC b1 #[S dc,S hO,S kK,sL Z1 kw P1,sL Z2 kz P2,bO kL,sL Z3 jZ P3] 66,rO 70 7 Z1 kw P1 L1,rO 41 4 Z3 jZ P3 L2] 110 [pP b0,pP b1,.agg c2.toArray,S d3,iL d4] (λM' E' v=>∃ (Z21:Oa) (P21:Nat) (L4:Lv) (Z22:Oa) (P22:Nat) (Z23:Oa) (P23:Nat),v=.tuple #[]∧E'=[oC b0 #[iL r.1,S r.2.1] 54,oC b1 #[S r.2.2.1,S r.t3.1,S r.t4.1,sL Z21 r.t5.1 P21,sL Z22 r.t6.1 P22,bO r.t7.1,sL Z23 r.t8 P23] 66,rO 70 7 Z21 r.t5.1 P21 L4]∧ae M' (r.t5.1.map cI) L4∧Sli M' 1 Dat.str Z22 P22 r.t6.1∧Sli M' 4 bB Z23 P23 r.t8):=by
 unfold dn at hF
 intro M1 hM0 w0 H w p0
 replace D1:=ae.mono hM0 _ _ D1
 replace B1:=B1.mono hM0
 replace D2:=ae.mono hM0 _ _ D2
 replace h2:=Rep.mono hM0 _ _ h2
 obtain⟨Z4,P4,Z5,P5,rfl,B2,B3⟩:=TE0.opn h2
 refine Re 60 Tryz.func110 rfl λa0 f0=>RR (Y5 (cs:=(aTE0 d2 Z4 P4 Z5 P5)) (T:=26) f0 p0 λQ1 V1 W1 J1 R1 N1 _ f=>?_)
 have R2:=aU R1
 refine eT (ah (RR (Y f 1 λ_ f=>Z f (XK N1 R2 0) λ_ f=>Y f 1 λ_ f=>aE (k:=2) (c:=2) f N1 (.cells #[S [84,101,109,112,108,97,116,101],S [80,97,114,97,109,101,116,101,114,115]] 9 (0,0)) kr (λ_=>by kernel_rfl) λQ2 W2 N2 _ f=>?_)))
 obtain⟨Z6,P6,V2,H1,J2,N3,B4⟩:=N2.litS (f:=Dat.str) 2 bH (dD ([[84,101,109,112,108,97,116,101],[80,97,114,97,109,101,116,101,114,115]]:List Bs))
 have f:=f.st 17 (H1)
 obtain⟨X1,l1,F1⟩:=bS hF
 refine Ch f N3 (da n _ b0 aO aC _ d2 h2.mo d3 Z6 P6 ([[84,101,109,112,108,97,116,101],[80,97,114,97,109,101,116,101,114,115]]:List Bs) B4 X1 l1) λ_ V3 mG W3 J3 N4 ef _ f=>?_
 obtain⟨rfl,rfl⟩:=ef
 refine Ye f 1 λ_ f=>RcF f F1 (λB5 F2=>?_) λB5 F3=>?_
 ·refine wp_ret (bl ?_)
  obtain⟨Z7,P7,V4,H2,J4,N5,B6⟩:=N4.rowSliK (f:=bB) (xs:=jZ) 3 41 Z3 P3 ng D2.mo
  try simp only[sL] at H2 N5
  rw[H2] at N5
  refine oQ f rfl ?_
  cases sI F2
  exact⟨_,rfl,_,_,mL,N5.kr,⟨Z1,P1,L1,Z2,P2,Z7,P7,rfl,rfl,D1.mo,B1.mo,B6⟩⟩
 refine St (RR (Y f 1 λ_ f=>Z f (XK N4 R2 0) λ_ f=>Y f 1 λ_ f=>?_))
 obtain⟨X2,l2,F4⟩:=bS F3
 refine Ch f N4 (gG n _ b0 X1.2.1 X1.2.2 _ d2 h2.mo d3 [84,101,109,112,108,97,116,101] X2 l2) λ_ V5 rB W4 J5 N7 iK _ f=>?_
 obtain⟨dW,rfl,rfl,D3⟩:=iK
 obtain⟨Z8,P8,Z9,P9,rfl,B7,B8⟩:=TE0.opn D3
 refine Y f 3 λ_ f=>Y4 f N7 (.cells #[iB 0,bO false,iL 0,S [],Sn,Sn] 26 (0,0)) λQ3 W5 N8 _ f=>Wu f N8 0 0 (lTE0 X2.1 Z8 P8 Z9 P9) λW6 N9 _ f=>Ye f 1 λ_ f=>ah (RR (Ye f 2 λ_ f=>RcF f F4 (λB9 F5=>?_) λB9 F6=>?_))
 ·refine wp_ret (bl ?_)
  obtain⟨Z10,P10,V6,H3,J6,N10,B10⟩:=N9.rowSliK (f:=bB) (xs:=jZ) 4 41 Z3 P3 ng D2.mo
  try simp only[sL] at H3 N10
  rw[H3] at N10
  refine oQ f rfl ?_
  cases sI F5
  exact⟨_,rfl,_,_,mL,(N10.dropN 1).kr,⟨Z1,P1,L1,Z2,P2,Z10,P10,rfl,rfl,D1.mo,B1.mo,B10⟩⟩
 refine St (ah (RR (Ye f 2 λ_ f=>RcF f F6 (λB11 F7=>?_) λB11 F10=>?_)))
 ·refine RR (Y f 2 λ_ f=>?_)
  obtain⟨X3,l3,F8⟩:=bS F7
  refine Y9 f N9 (be n _ d3 [84,101,109,112,108,97,116,101] X3 l3) λW7 N12 _ f=>?_
  obtain⟨X4,l4,F9⟩:=bS F8
  have N14:=N12.pl [1]
  refine Ch f N14 (ax n _ b0 X2.2.2.1 X2.t3 (170:Int) X3 X4 l4) λ_ V7 E_3 W8 J7 N13 mi _ f=>?_
  obtain⟨rfl,rfl⟩:=mi
  refine Er (bl ?_)
  obtain⟨Z11,P11,V8,H4,J8,N15,B12⟩:=N13.rowSliK (f:=bB) (xs:=jZ) 4 41 Z3 P3 ng D2.mo
  try simp only[sL] at H4 N15
  rw[H4] at N15
  refine oQ f rfl ?_
  cases sI F9
  have N20:=N15.pl [3,3,2,3]
  exact⟨_,rfl,_,_,mL,(N20.dropN 1).kr,⟨Z1,P1,L1,Z2,P2,Z11,P11,rfl,rfl,D1.mo,B1.mo,B12⟩⟩
 refine St (ah ?_)
 have N25:=N9.pl [4,4,2,4,4]
 refine cu 2 [(0,true),(1,true),(2,true),(3,true),(4,true),(5,true),(6,true),(7,false),(8,false),(9,true),(10,true),(11,false)] N25 (Y0 default f 2 λ_ f=>bG f kr kr rfl rfl (λ_ pq=>XO pq 0) λ_ f=>Y0 default f 1 λ_ f=>?_)
 obtain⟨X5,l5,F11⟩:=bS F10
 refine eR (v:=S X5) f kr kr rfl rfl (λ_=>by kernel_rfl) (be n _ d3 [84,101,109,112,108,97,116,101] X5 l5) λ_ f=>Y0 default f 1 λ_ f=>?_
 obtain⟨O1,F12⟩:=nS F11
 refine bG (v:=iL (IntKind.wrap .i64 (d4+1))) f kr kr rfl rfl (λ_ pq=>by kernel_rfl) λ_ f=>?_
 have f:=f.st 41 (iW O1)
 refine bI λW10 N27=>?_
 obtain⟨X6,l6,F13⟩:=bS F12
 refine Ch f N27 (hrec_ref13_reader_template _ b0 X2.2.2.1 X2.t3 _ X2.1 D3.mo X5 (d4+1) X6 l6) λ_ V9 E_4 W11 J9 N28 nt _ f=>?_
 obtain⟨ie,rfl,rfl,D4⟩:=nt
 obtain⟨Z12,P12,Z13,P13,Z14,P14,Z15,P15,rfl,B13,B14,B15,B16⟩:=TB0.opn D4
 refine ag rfl (bL 2 J9 N28 (bI λW12 N29=>aE (k:=1) (c:=1) f N29 (.cells (aTB0 X6.1 Z12 P12 Z13 P13 Z14 P14 Z15 P15) 41 (0,0)) kr (λ_=>by kernel_rfl) λQ4 W13 N30 _ f=>ag rfl (bL 3 J9 N30 (Y0 default f 2 λ_ f=>bI λW14 N31=>Wt f N31 2 6 (.slice (some ⟨Q4,0,none⟩) 1 1) λW15 N32 _ f=>ag rfl (bL 3 J9 N32 (dx rfl λW16 N33=>az (RR (Z f (XK N33 R2 0) λ_ f=>?_))))))))
 obtain⟨X7,l7,F14⟩:=bS F13
 refine Y8 f N33 (cZ n _ _ d2 h2.mo [80,97,114,97,109,101,116,101,114,115] X7 l7) λ_ V10 W17 J10 N34 pg _ f=>?_
 obtain⟨lQ,rfl,D5⟩:=pg
 obtain⟨Z16,P16,Z17,P17,rfl,B17,B18⟩:=TE0.opn D5
 refine Y f 3 λ_ f=>Y4 f N34 (.cells #[iB 0,bO false,iL 0,S [],Sn,Sn] 26 (0,0)) λQ5 W18 N35 _ f=>Wu f N35 0 0 (lTE0 X7.1 Z16 P16 Z17 P17) λW19 N36 _ f=>Ye f 1 λ_ f=>RR (Ye f 1 λ_ f=>RcF f F14 (λB19 F15=>?_) λB19 F18=>?_)
 ·have N43:=N36.pl [6,6,6,4,4,6,6]
  refine cu 2 [(0,true),(1,true),(2,true),(3,true),(4,true),(5,false),(6,true),(7,true),(8,false)] N43 (Y0 default f 2 λ_ f=>bG f kr kr rfl rfl (λ_ pq=>XO pq 0) λ_ f=>Y0 default f 1 λ_ f=>?_)
  obtain⟨X8,l8,F16⟩:=bS F15
  refine eR (v:=S X8) f kr kr rfl rfl (λ_=>by kernel_rfl) (be n _ d3 [80,97,114,97,109,101,116,101,114,115] X8 l8) λ_ f=>bI λW21 N45=>?_
  obtain⟨X9,l9,F17⟩:=bS F16
  refine Ch f N45 (ky n _ b0 X6.2.1 X6.2.2 _ X7.1 D5.mo X8 X9 l9) λ_ V11 E_5 W22 J11 N46 so _ f=>?_
  obtain⟨Z18,P18,L3,rfl,rfl,D6⟩:=so
  refine ag rfl (bL 3 J11 N46 (Y0 default f 2 λ_ f=>bI λW23 N47=>Wt f N47 2 3 (sL Z18 X9.1 P18) λW24 N48 _ f=>ag rfl (bL 3 J11 N48 (dx rfl λW25 N49=>?_))))
  have N50:=N49.pl [4]
  obtain⟨Z19,P19,V12,H5,J12,N51,B20⟩:=N50.litS (f:=bB) (xs:=[X6.1]) (cl:=(lTB0 X6.1 Z12 P12 Z13 P13 Z14 P14 Z15 P15)) 1 ng ⟨_,_,rfl,TB0.shutx B13.mo B14.mo B15.mo B16.mo,rfl⟩
  try simp only[sL] at H5 N51
  rw[H5] at N51
  refine eN f rfl ?_
  cases sI F17
  have N57:=N51.pl [2,2,6,6,6,6]
  exact⟨_,rfl,_,_,mL,(N57.dropN 4).kr,⟨Z18,P18,L3,Z2,P2,Z19,P19,rfl,rfl,D6.mo,B1.mo,B20⟩⟩
 refine wp_skip ?_
 have N58:=N36.pl [1]
 obtain⟨Z20,P20,V13,H6,J13,N59,B21⟩:=N58.litS (f:=bB) (xs:=[X6.1]) (cl:=(lTB0 X6.1 Z12 P12 Z13 P13 Z14 P14 Z15 P15)) 1 ng ⟨_,_,rfl,TB0.shutx B13.mo B14.mo B15.mo B16.mo,rfl⟩
 try simp only[sL] at H6 N59
 rw[H6] at N59
 refine eN f rfl ?_
 cases sI F18
 have N65:=N59.pl [4,3,3,5,5,5]
 exact⟨_,rfl,_,_,mL,(N65.dropN 3).kr,⟨Z1,P1,L1,Z2,P2,Z20,P20,rfl,rfl,D1.mo,B1.mo,B21⟩⟩
def bm (n:Nat) (rec_ref13_reader_template:Int→Bs→TE0→Bs→Int→Option (TB0×Int×Bs)) (aO:Int) (aC:Bs) (d1:Bs) (d2:TE0) (d3:Bs) (d4:Int):Option (TA0×Int×Bs):=
 (bk n aO aC d2 d3 ([[84,121,112,101],[67,111,110,100,105,116,105,111,110],[68,101,112,101,110,100,115,79,110],[68,101,108,101,116,105,111,110,80,111,108,105,99,121],[80,114,111,112,101,114,116,105,101,115]]:List Bs)).bind λX1=>
 bif !X1.1 then
  (some (((⟨d1,([]:Bs),([]:Bs),([]:List TF0),([]:List Bs),(false),([]:List TB0)⟩:TA0),X1.2.1,X1.2.2)))
 else
  (cN n X1.2.1 X1.2.2 d2 d3 [84,121,112,101]).bind λX2=>
  bif !X2.2.1 then
   (some (((⟨d1,([]:Bs),([]:Bs),([]:List TF0),([]:List Bs),(false),([]:List TB0)⟩:TA0),X2.2.2.1,X2.2.2.2)))
  else
   (dU n X2.1).bind λX3=>
   ((bif !X3 then
    ((bt n d3 [84,121,112,101]).bind λX4=>
    (aq n X2.2.2.1 X2.2.2.2 (120:Int) X4).bind λX5=>
    some ((X5.1,X5.2)))
     else
      some ((X2.2.2.1,X2.2.2.2)):Option (Int×Bs))).bind λG1=>
   (cU n G1.1 G1.2 d2 d3 [67,111,110,100,105,116,105,111,110]).bind λX6=>
   (cS n X6.2.1 X6.2.2 d2 d3).bind λX7=>
   (eh n d2 [68,101,108,101,116,105,111,110,80,111,108,105,99,121]).bind λX8=>
   ((bif X8.2 then
    (bif(!(decide (X8.1.ab=3))) then
     (some ((true)))
    else
     bif(!(decide (X8.1.aa=[68,101,108,101,116,101]))) then
      (some ((!(decide (X8.1.aa=[82,101,116,97,105,110])))))
     else
      some ((false)))
     else
      some ((false)):Option Bool)).bind λG2=>
   ((bif G2 then
    ((bt n d3 [68,101,108,101,116,105,111,110,80,111,108,105,99,121]).bind λX9=>
    (aq n X7.2.1 X7.2.2 (120:Int) X9).bind λX10=>
    some ((X10.1,X10.2)))
     else
      some ((X7.2.1,X7.2.2)):Option (Int×Bs))).bind λG3=>
   ((bif X8.2 then
    (some ((decide (X8.1.aa=[82,101,116,97,105,110]))))
     else
      some ((false)):Option Bool)).bind λG4=>
   (eh n d2 [80,114,111,112,101,114,116,105,101,115]).bind λX11=>
   bif(decide (X2.1.aa=[83,116,97,99,107])) then
    (bif !X11.2 then
     ((aq n G3.1 G3.2 (120:Int) d3).bind λX12=>
     some (((⟨d1,X2.1.aa,X6.1,([]:List TF0),X7.1,(G4),([]:List TB0)⟩:TA0),X12.1,X12.2)))
    else
     (bt n d3 [80,114,111,112,101,114,116,105,101,115]).bind λX13=>
     (dn n rec_ref13_reader_template G3.1 G3.2 d1 X2.1.aa X6.1 ([]:List TF0) X7.1 (G4) ([]:List TB0) X11.1 X13 d4).bind λX14=>
     some (((⟨X14.2.2.1,X14.2.2.2.1,X14.2.2.2.2.1,X14.2.2.2.2.2.1,X14.2.2.2.2.2.2.1,(X14.2.2.2.2.2.2.2.1),X14.2.2.2.2.2.2.2.2⟩:TA0),X14.1,X14.2.1)))
   else
    bif X11.2 then
     ((bt n d3 [80,114,111,112,101,114,116,105,101,115]).bind λX15=>
     (cV n G3.1 G3.2 X11.1 X15).bind λX16=>
     some (((⟨d1,X2.1.aa,X6.1,X16.1,X7.1,(G4),([]:List TB0)⟩:TA0),X16.2.1,X16.2.2)))
    else
     some (((⟨d1,X2.1.aa,X6.1,([]:List TF0),X7.1,(G4),([]:List TB0)⟩:TA0),G3.1,G3.2))
set_option maxRecDepth 20000 in
theorem lG (n:Nat) (rec_ref13_reader_template:Int→Bs→TE0→Bs→Int→Option (TB0×Int×Bs)) (hrec_ref13_reader_template: ∀ (M:Mem) (b0:Nat) (aO:Int) (aC:Bs) (c1:Lv) (d1:TE0) (h1:Rep M (ai d1) c1) (d2:Bs) (d3:Int) (r:TB0×Int×Bs) (hF:rec_ref13_reader_template aO aC d1 d2 d3=some r),OkH Tryz.prog M [oC b0 #[iL aO,S aC] 54] 24 [pP b0,.agg c1.toArray,S d2,iL d3] (λM' E' v=>∃ (c0:Lv),v=.agg c0.toArray∧E'=[oC b0 #[iL r.2.1,S r.2.2] 54]∧Rep M' (bB r.1) c0)) (M:Mem) (b0:Nat) (aO:Int) (aC:Bs) (d1:Bs) (c2:Lv) (d2:TE0) (h2:Rep M (ai d2) c2) (d3:Bs) (d4:Int) (r:TA0×Int×Bs) (hF:bm n rec_ref13_reader_template aO aC d1 d2 d3 d4=some r):OkH Tryz.prog M [oC b0 #[iL aO,S aC] 54] 63 [pP b0,S d1,.agg c2.toArray,S d3,iL d4] (λM' E' v=>∃ (c0:Lv),v=.agg c0.toArray∧E'=[oC b0 #[iL r.2.1,S r.2.2] 54]∧Rep M' (aY r.1) c0):=by
 unfold bm at hF
 intro M1 hM0 w0 H w p0
 replace h2:=Rep.mono hM0 _ _ h2
 obtain⟨Z1,P1,Z2,P2,rfl,B1,B2⟩:=TE0.opn h2
 refine Re 117 Tryz.func63 rfl λa0 f0=>RR (Y5 (cs:=(aTE0 d2 Z1 P1 Z2 P2)) (T:=26) f0 p0 λQ1 V1 W1 J1 R1 N1 _ f=>?_)
 have R2:=aU R1
 refine Y4 f N1 (.cells #[S [],S [],S [],Sn,Sn,bO false,Sn] 66 (0,0)) λQ2 W2 N2 _ f=>eT (RR (Y f 2 λ_ f=>Y4 f N2 (.cells #[S [],S [],S [],Sn,Sn,bO false,Sn] 66 (0,0)) λQ3 W3 N3 _ f=>Wu f N3 0 0 [S d1,S [],S [],Sn,Sn,bO false,Sn] λW4 N4 _ f=>eT (ah (RR (Y f 1 λ_ f=>Z f (XK N4 R2 0) λ_ f=>Y f 1 λ_ f=>aE (k:=5) (c:=5) f N4 (.cells #[S [84,121,112,101],S [67,111,110,100,105,116,105,111,110],S [68,101,112,101,110,100,115,79,110],S [68,101,108,101,116,105,111,110,80,111,108,105,99,121],S [80,114,111,112,101,114,116,105,101,115]] 9 (0,0)) kr (λ_=>by kernel_rfl) λQ4 W5 N5 _ f=>?_)))))
 obtain⟨Z3,P3,V2,H1,J2,N6,B3⟩:=N5.litS (f:=Dat.str) 5 bH (dD ([[84,121,112,101],[67,111,110,100,105,116,105,111,110],[68,101,112,101,110,100,115,79,110],[68,101,108,101,116,105,111,110,80,111,108,105,99,121],[80,114,111,112,101,114,116,105,101,115]]:List Bs))
 have f:=f.st 22 (H1)
 obtain⟨X1,l1,F1⟩:=bS hF
 have N8:=N6.pl [2]
 refine Ch f N8 (da n _ b0 aO aC _ d2 h2.mo d3 Z3 P3 ([[84,121,112,101],[67,111,110,100,105,116,105,111,110],[68,101,112,101,110,100,115,79,110],[68,101,108,101,116,105,111,110,80,111,108,105,99,121],[80,114,111,112,101,114,116,105,101,115]]:List Bs) B3 X1 l1) λ_ V3 mG W6 J3 N7 ef _ f=>?_
 obtain⟨rfl,rfl⟩:=ef
 refine Ye f 1 λ_ f=>RcF f F1 (λB4 F2=>?_) λB4 F3=>?_
 ·refine RR (Z f (XO N7 1) λ_ f=>Wu f N7 2 0 [S d1,S [],S [],Sn,Sn,bO false,Sn] λW7 N9 _ f=>Er (bl (bM f rfl (Rv.oN [S d1,S [],S [],Sn,Sn,bO false,Sn] f N9 2 0) ?_)))
  cases sI F2
  have N11:=N9.pl [2,2]
  exact⟨_,rfl,_,_,mL,(N11.dropN 2).kr,⟨_,rfl,rfl,(TA0.shutx Sli.nil Sli.nil Sli.nil)⟩⟩
 refine St (RR (Y f 1 λ_ f=>Z f (XK N7 R2 0) λ_ f=>Y f 1 λ_ f=>?_))
 obtain⟨X2,l2,F4⟩:=bS F3
 refine Ch f N7 (gG n _ b0 X1.2.1 X1.2.2 _ d2 h2.mo d3 [84,121,112,101] X2 l2) λ_ V4 rB W8 J4 N12 iK _ f=>?_
 obtain⟨dW,rfl,rfl,D1⟩:=iK
 obtain⟨Z4,P4,Z5,P5,rfl,B5,B6⟩:=TE0.opn D1
 refine Y f 3 λ_ f=>Y4 f N12 (.cells #[iB 0,bO false,iL 0,S [],Sn,Sn] 26 (0,0)) λQ5 W9 N13 _ f=>Wu f N13 0 0 (lTE0 X2.1 Z4 P4 Z5 P5) λW10 N14 _ f=>Ye f 1 λ_ f=>ah (RR (Ye f 2 λ_ f=>RcF f F4 (λB7 F5=>?_) λB7 F6=>?_))
 ·refine RR (Z f (XO N14 2) λ_ f=>Wu f N14 3 0 [S d1,S [],S [],Sn,Sn,bO false,Sn] λW11 N15 _ f=>Er (bl (bM f rfl (Rv.oN [S d1,S [],S [],Sn,Sn,bO false,Sn] f N15 3 0) ?_)))
  cases sI F5
  have N19:=N15.pl [1,3,3,3]
  exact⟨_,rfl,_,_,mL,(N19.dropN 3).kr,⟨_,rfl,rfl,(TA0.shutx Sli.nil Sli.nil Sli.nil)⟩⟩
 refine St (ah (RR (Z f (XO N14 0) λ_ f=>?_)))
 obtain⟨X3,l3,F7⟩:=bS F6
 refine Y9 f N14 (gf n _ _ X2.1 D1.mo X3 l3) λW12 N20 _ f=>Ye f 1 λ_ f=>?_
 obtain⟨eF,cL,F8⟩:=bS F7
 refine aW (λa_31 W15=>∃G1,eF=G1∧∃V6,V4.le V6∧Frm 117 (kpL [0,3,4,7,10,11,12] f.fr) a_31∧Hp w0 V6 (setE (setE (selE [1,0,2,3] 4 N20.en) 0 0 [iL G1.1]) 0 1 [S G1.2]) W15) ?_ ?_
 ·refine RcF f cL (λB8 F9=>?_) λB8 F12=>?_
  ·refine ay (Y f 2 λ_ f=>?_)
   obtain⟨X4,l4,F10⟩:=bS F9
   refine Y9 f N20 (be n _ d3 [84,121,112,101] X4 l4) λW13 N21 _ f=>?_
   obtain⟨X5,l5,F11⟩:=bS F10
   have N23:=N21.pl [1]
   refine Ch f N23 (ax n _ b0 X2.2.2.1 X2.t3 (120:Int) X4 X5 l5) λ_ V5 E_3 W14 J5 N22 mi _ f=>?_
   obtain⟨rfl,rfl⟩:=mi
   refine eT ?_
   exact⟨_,(sI F11).symm,_,J5,f.kp,N22.kr⟩
  refine wp_skip ?_
  have N28:=N20.pl [3,3,2,3]
  refine az ?_
  exact⟨_,(sI F12).symm,_,mL,f.kp,N28.kr⟩
 rintro a_31 W15 ⟨G1,eS,V6,J6,f,N24⟩
 dsimp only[Hp.en] at N24
 subst eF
 refine az (RR (Y f 1 λ_ f=>Z f (XO N24 1) λ_ f=>Y f 1 λ_ f=>Wt f N24 2 1 (S X2.1.aa) λW16 N29 _ f=>eT (RR (Y f 1 λ_ f=>Z f (XK N29 R2 0) λ_ f=>Y f 1 λ_ f=>?_))))
 obtain⟨X6,l6,F13⟩:=bS F8
 refine Ch f N29 (kx n _ b0 G1.1 G1.2 _ d2 h2.mo d3 [67,111,110,100,105,116,105,111,110] X6 l6) λ_ V7 E_4 W17 J7 N30 nt _ f=>?_
 obtain⟨rfl,rfl⟩:=nt
 refine Y f 1 λ_ f=>Wt f N30 2 2 (S X6.1) λW18 N31 _ f=>eT (RR (Y f 1 λ_ f=>Z f (XK N31 R2 0) λ_ f=>Y f 1 λ_ f=>?_))
 obtain⟨X7,l7,F14⟩:=bS F13
 refine Ch f N31 (mB n _ b0 X6.2.1 X6.2.2 _ d2 h2.mo d3 X7 l7) λ_ V8 E_5 W19 J8 N32 pg _ f=>?_
 obtain⟨Z6,P6,rfl,rfl,B9⟩:=pg
 refine Y f 1 λ_ f=>Wt f N32 2 4 (sL Z6 X7.1 P6) λW20 N33 _ f=>eT (RR (Z f (XK N33 R2 0) λ_ f=>?_))
 obtain⟨X8,l8,F15⟩:=bS F14
 refine Y8 f N33 (cZ n _ _ d2 h2.mo [68,101,108,101,116,105,111,110,80,111,108,105,99,121] X8 l8) λ_ V9 W21 J9 N34 so _ f=>?_
 obtain⟨ie,rfl,D2⟩:=so
 obtain⟨Z7,P7,Z8,P8,rfl,B10,B11⟩:=TE0.opn D2
 refine Y f 3 λ_ f=>Y4 f N34 (.cells #[iB 0,bO false,iL 0,S [],Sn,Sn] 26 (0,0)) λQ6 W22 N35 _ f=>Wu f N35 0 0 (lTE0 X8.1 Z7 P7 Z8 P8) λW23 N36 _ f=>Ye f 1 λ_ f=>ah (ah ?_)
 obtain⟨lb,iJ,F16⟩:=bS F15
 refine aW (λa_69 W24=>∃G2,lb=G2∧∃V10,V9.le V10∧Frm 117 ((76,bO G2)::kpL [0,3,4,7,10,11,14,15] f.fr) a_69∧Hp w0 V10 (N36.en) W24) ?_ ?_
 ·refine ay (Y f 2 λ_ f=>?_)
  rcases cE iJ with⟨B12,F17⟩|⟨B12,F22⟩
  ·have f:=f.st 62 (cB B12)
   refine Y f 1 λ_ f=>Z f (XO N36 0) λ_ f=>Y f 2 λ_ f=>?_
   rcases cE F17 with⟨B13,F18⟩|⟨B13,F19⟩
   ·have f:=f.st 66 (cB B13)
    refine Ye f 10 λ_ f=>?_
    exact⟨_,(sI F18).symm,_,mL,f.kp,N36.kr⟩
   have f:=f.st 66 (cB B13)
   refine Y f 1 λ_ f=>Z f (XO N36 0) λ_ f=>Z f (ep rfl (l:=X8.1.aa) (m:=[68,101,108,101,116,101]) kr kr) λ_ f=>Y f 1 λ_ f=>?_
   rcases cE F19 with⟨B14,F20⟩|⟨B14,F21⟩
   ·have f:=f.st 70 (cB B14)
    refine Y f 1 λ_ f=>Z f (XO N36 0) λ_ f=>Z f (ep rfl (l:=X8.1.aa) (m:=[82,101,116,97,105,110]) kr kr) λ_ f=>Ye f 3 λ_ f=>?_
    exact⟨_,(sI F20).symm,_,mL,f.kp,N36.kr⟩
   have f:=f.st 70 (cB B14)
   refine Ye f 6 λ_ f=>?_
   exact⟨_,(sI F21).symm,_,mL,f.kp,N36.kr⟩
  have f:=f.st 62 (cB B12)
  refine Ye f 14 λ_ f=>?_
  exact⟨_,(sI F22).symm,_,mL,f.kp,N36.kr⟩
 rintro a_69 W24 ⟨G2,hZ,V10,J10,f,N37⟩
 dsimp only[Hp.en] at N37
 subst lb
 refine az ?_
 obtain⟨ns,la,F23⟩:=bS F16
 refine aW (λa_73 W27=>∃G3,ns=G3∧∃V12,V10.le V12∧Frm 117 (kpL [0,3,4,7,10,11,14,15] f.fr) a_73∧Hp w0 V12 (setE (setE (selE [1,0,2,3,4] 5 N37.en) 0 0 [iL G3.1]) 0 1 [S G3.2]) W27) ?_ ?_
 ·refine RcF f la (λB15 F24=>?_) λB15 F27=>?_
  ·refine ay (Y f 2 λ_ f=>?_)
   obtain⟨X9,l9,F25⟩:=bS F24
   refine Y9 f N37 (be n _ d3 [68,101,108,101,116,105,111,110,80,111,108,105,99,121] X9 l9) λW25 N38 _ f=>?_
   obtain⟨X10,l10,F26⟩:=bS F25
   have N40:=N38.pl [1]
   refine Ch f N40 (ax n _ b0 X7.2.1 X7.2.2 (120:Int) X9 X10 l10) λ_ V11 E_6 W26 J11 N39 q_7 _ f=>?_
   obtain⟨rfl,rfl⟩:=q_7
   refine eT ?_
   exact⟨_,(sI F26).symm,_,J11,f.kp,N39.kr⟩
  refine wp_skip ?_
  have N46:=N37.pl [4,4,4,3,4]
  refine az ?_
  exact⟨_,(sI F27).symm,_,mL,f.kp,N46.kr⟩
 rintro a_73 W27 ⟨G3,qt,V12,J12,f,N41⟩
 dsimp only[Hp.en] at N41
 subst ns
 refine az (ah ?_)
 obtain⟨qh,mK,F28⟩:=bS F23
 refine aW (λa_82 W30=>∃G4,qh=G4∧∃V13,V12.le V13∧Frm 117 (kpL [0,3,4,7,10,11] f.fr) a_82∧Hp w0 V13 (setE (N41.en) 3 5 [bO G4]) W30) ?_ ?_
 ·refine ay (Y f 2 λ_ f=>?_)
  rcases cE mK with⟨B16,F29⟩|⟨B16,F30⟩
  ·have f:=f.st 82 (cB B16)
   refine Y f 1 λ_ f=>Z f (XO N41 1) λ_ f=>Z f (Y11 rfl (l:=X8.1.aa) (m:=[82,101,116,97,105,110])) λ_ f=>Y f 2 λ_ f=>Wt f N41 3 5 (bO (decide (X8.1.aa=[82,101,116,97,105,110]))) λW28 N47 _ f=>eT ?_
   exact⟨_,(sI F29).symm,_,mL,f.kp,N47.kr⟩
  have f:=f.st 82 (cB B16)
  refine Y f 5 λ_ f=>Wt f N41 3 5 (bO false) λW29 N48 _ f=>eT ?_
  exact⟨_,(sI F30).symm,_,mL,f.kp,N48.kr⟩
 rintro a_82 W30 ⟨G4,rY,V13,J13,f,N49⟩
 dsimp only[Hp.en] at N49
 subst qh
 refine az (RR (Z f (XK N49 R2 0) λ_ f=>?_))
 obtain⟨X11,l11,F31⟩:=bS F28
 refine Y8 f N49 (cZ n _ _ d2 h2.mo [80,114,111,112,101,114,116,105,101,115] X11 l11) λ_ V14 W31 J14 N50 q_8 _ f=>?_
 obtain⟨lQ,rfl,D3⟩:=q_8
 obtain⟨Z9,P9,Z10,P10,rfl,B17,B18⟩:=TE0.opn D3
 refine Y f 3 λ_ f=>Y4 f N50 (.cells #[iB 0,bO false,iL 0,S [],Sn,Sn] 26 (0,0)) λQ7 W32 N51 _ f=>Wu f N51 0 0 (lTE0 X11.1 Z9 P9 Z10 P10) λW33 N52 _ f=>Ye f 1 λ_ f=>ah (RR (Y f 1 λ_ f=>Z f (XO N52 4) λ_ f=>Z f (Y11 rfl (l:=X2.1.aa) (m:=[83,116,97,99,107])) λ_ f=>eT (RcF f F31 (λB19 F32=>?_) λB19 F38=>?_)))
 ·refine ah (RR (Ye f 2 λ_ f=>RcF f F32 (λB20 F33=>?_) λB20 F35=>?_))
  ·refine RR (Y f 2 λ_ f=>?_)
   obtain⟨X12,l12,F34⟩:=bS F33
   have N54:=N52.pl [1]
   refine Ch f N54 (ax n _ b0 G3.1 G3.2 (120:Int) d3 X12 l12) λ_ V15 E_7 W34 J15 N53 q_9 _ f=>?_
   obtain⟨rfl,rfl⟩:=q_9
   refine eT (RR (Z f (XO N53 4) λ_ f=>Wu f N53 5 0 [S d1,S X2.1.aa,S X6.1,Sn,sL Z6 X7.1 P6,bO G4,Sn] λW35 N55 _ f=>Er (bl (bl (bM f rfl (Rv.oN [S d1,S X2.1.aa,S X6.1,Sn,sL Z6 X7.1 P6,bO G4,Sn] f N55 5 0) ?_)))))
   cases sI F34
   have N60:=N55.pl [5,5,5,5,5]
   exact⟨_,rfl,_,_,mL,(N60.dropN 5).kr,⟨_,rfl,rfl,(TA0.shutx Sli.nil B9.mo Sli.nil)⟩⟩
  refine St (ah ?_)
  have N66:=N52.pl [5,4,4,3,5,5]
  refine cu 2 [(0,true),(1,true),(2,true),(3,true),(4,true),(5,false)] N66 (Y0 default f 1 λ_ f=>bG f kr kr rfl rfl (λ_ pq=>XO pq 0) λ_ f=>Y0 default f 1 λ_ f=>?_)
  obtain⟨X13,l13,F36⟩:=bS F35
  refine eR (v:=S X13) f kr kr rfl rfl (λ_=>by kernel_rfl) (be n _ d3 [80,114,111,112,101,114,116,105,101,115] X13 l13) λ_ f=>Y0 default f 1 λ_ f=>bI λW37 N68=>?_
  obtain⟨Z11,P11,H2,N69⟩:=N68.nilC 1 3 70 7 (TF0)
  have D4:ae V14 (([]:List TF0).map cI) []:=rfl
  obtain⟨Z12,P12,H3,N70⟩:=N69.nilC 2 6 41 4 (TB0)
  have D5:ae V14 (([]:List TB0).map bB) []:=rfl
  obtain⟨X14,l14,F37⟩:=bS F36
  have N74:=N70.pl [1,3,3]
  refine Ch f N74 (mm n rec_ref13_reader_template hrec_ref13_reader_template _ b0 G3.1 G3.2 Q3 d1 X2.1.aa X6.1 ([]:List TF0) Z11 P11 [] D4 X7.1 Z6 P6 B9.mo (G4) ([]:List TB0) Z12 P12 [] D5 _ X11.1 D3.mo X13 d4 X14 l14) λ_ V16 E_8 W38 J16 N71 q_10 _ f=>?_
  obtain⟨Z13,P13,L1,Z14,P14,Z15,P15,rfl,rfl,D6,B21,B22⟩:=q_10
  refine ag rfl (bL 3 J16 N71 (dx rfl λW39 N75=>az (RR (Z f (XO N75 1) λ_ f=>?_))))
  obtain⟨Z16,P16,V17,H4,J17,N76,B23⟩:=N75.rowSliK (f:=cI) (xs:=X14.t5.1) 2 70 Z13 P13 rA D6
  have f:=Frm.set f 108 (v:=.agg #[S X14.2.2.1,S X14.2.2.2.1,S X14.2.2.2.2.1,.slice Z13 X14.2.2.2.2.2.1.length P13,.slice Z14 X14.2.2.2.2.2.2.1.length P14,.bool X14.2.2.2.2.2.2.2.1,.slice Z15 X14.2.2.2.2.2.2.2.2.length P15]) (v':=.agg #[S X14.2.2.1,S X14.2.2.2.1,S X14.2.2.2.2.1,.slice Z16 X14.2.2.2.2.2.1.length P16,.slice Z14 X14.2.2.2.2.2.2.1.length P14,.bool X14.2.2.2.2.2.2.2.1,.slice Z15 X14.2.2.2.2.2.2.2.2.length P15]) (by kernel_rfl) (by rw[H4])
  try simp only[sL] at H4 N76
  rw[H4] at N76
  refine Wu f N76 5 0 [S X14.2.2.1,S X14.t3.1,S X14.t4.1,sL Z16 X14.t5.1 P16,sL Z14 X14.t6.1 P14,bO X14.t7.1,sL Z15 X14.t8 P15] λW40 N78 _ f=>Er (bl (bM f rfl (Rv.oN [S X14.2.2.1,S X14.t3.1,S X14.t4.1,sL Z16 X14.t5.1 P16,sL Z14 X14.t6.1 P14,bO X14.t7.1,sL Z15 X14.t8 P15] f N78 5 0) ?_))
  cases sI F37
  have N83:=N78.pl [5,5,5,5,5]
  exact⟨_,rfl,_,_,mL,(N83.dropN 5).kr,⟨_,rfl,rfl,(TA0.shutx B23 B21.mo B22.mo)⟩⟩
 refine St (ah (RR (Ye f 1 λ_ f=>RcF f F38 (λB24 F39=>?_) λB24 F42=>?_)))
 ·have N89:=N52.pl [5,4,4,3,5,5]
  refine cu 2 [(0,true),(1,true),(2,true),(3,true),(4,false),(5,true),(6,false)] N89 (Y0 default f 1 λ_ f=>bG f kr kr rfl rfl (λ_ pq=>XO pq 0) λ_ f=>Y0 default f 1 λ_ f=>?_)
  obtain⟨X15,l15,F40⟩:=bS F39
  refine eR (v:=S X15) f kr kr rfl rfl (λ_=>by kernel_rfl) (be n _ d3 [80,114,111,112,101,114,116,105,101,115] X15 l15) λ_ f=>bI λW42 N91=>?_
  obtain⟨X16,l16,F41⟩:=bS F40
  refine Ch f N91 (ky n _ b0 G3.1 G3.2 _ X11.1 D3.mo X15 X16 l16) λ_ V18 E_9 W43 J18 N92 q_11 _ f=>?_
  obtain⟨Z17,P17,L2,rfl,rfl,D7⟩:=q_11
  refine ag rfl (bL 3 J18 N92 (Y0 default f 1 λ_ f=>bI λW44 N93=>Wt f N93 2 3 (sL Z17 X16.1 P17) λW45 N94 _ f=>ag rfl (bL 3 J18 N94 (dx rfl λW46 N95=>az (RR (Z f (XO N95 2) λ_ f=>?_))))))
  obtain⟨Z18,P18,V19,H5,J19,N96,B25⟩:=N95.rowSliK (f:=cI) (xs:=X16.1) 0 70 Z17 P17 rA D7
  have f:=Frm.set f 116 (v:=.agg #[S d1,S X2.1.aa,S X6.1,.slice Z17 X16.1.length P17,.slice Z6 X7.1.length P6,.bool G4,.slice none 0 0]) (v':=.agg #[S d1,S X2.1.aa,S X6.1,.slice Z18 X16.1.length P18,.slice Z6 X7.1.length P6,.bool G4,.slice none 0 0]) (by kernel_rfl) (by rw[H5])
  have f:=f.st 114 (H5)
  try simp only[sL] at H5 N96
  rw[H5] at N96
  refine Wu f N96 5 0 [S d1,S X2.1.aa,S X6.1,sL Z18 X16.1 P18,sL Z6 X7.1 P6,bO G4,Sn] λW47 N98 _ f=>Er (bM f rfl (Rv.oN [S d1,S X2.1.aa,S X6.1,sL Z18 X16.1 P18,sL Z6 X7.1 P6,bO G4,Sn] f N98 5 0) ?_)
  cases sI F41
  have N103:=N98.pl [5,5,5,5,5]
  exact⟨_,rfl,_,_,mL,(N103.dropN 5).kr,⟨_,rfl,rfl,(TA0.shutx B25 B9.mo Sli.nil)⟩⟩
 refine St (RR (Z f (XO N52 4) λ_ f=>Wu f N52 5 0 [S d1,S X2.1.aa,S X6.1,Sn,sL Z6 X7.1 P6,bO G4,Sn] λW48 N104 _ f=>Er (bM f rfl (Rv.oN [S d1,S X2.1.aa,S X6.1,Sn,sL Z6 X7.1 P6,bO G4,Sn] f N104 5 0) ?_)))
 cases sI F42
 have N110:=N104.pl [1,5,5,5,5,5]
 exact⟨_,rfl,_,_,mL,(N110.dropN 5).kr,⟨_,rfl,rfl,(TA0.shutx Sli.nil B9.mo Sli.nil)⟩⟩
def bX (n:Nat) (aO:Int) (aC:Bs) (d1:Bs) (d2:TE0) (d3:Bs):Option (TC0×Int×Bs):=
 (bk n aO aC d2 d3 ([[86,97,108,117,101],[67,111,110,100,105,116,105,111,110]]:List Bs)).bind λX1=>
 bif !X1.1 then
  (some (((⟨d1,([]:Bs),aQ⟩:TC0),X1.2.1,X1.2.2)))
 else
  (cN n X1.2.1 X1.2.2 d2 d3 [86,97,108,117,101]).bind λX2=>
  bif !X2.2.1 then
   (some (((⟨d1,([]:Bs),aQ⟩:TC0),X2.2.2.1,X2.2.2.2)))
  else
   (bt n d3 [86,97,108,117,101]).bind λX3=>
   (cf n X2.2.2.1 X2.2.2.2 X2.1 X3).bind λX4=>
   (cU n X4.2.1 X4.2.2 d2 d3 [67,111,110,100,105,116,105,111,110]).bind λX5=>
   some (((⟨d1,X5.1,X4.1⟩:TC0),X5.2.1,X5.2.2))
set_option maxRecDepth 20000 in
theorem nc (n:Nat) (M:Mem) (b0:Nat) (aO:Int) (aC:Bs) (d1:Bs) (c2:Lv) (d2:TE0) (h2:Rep M (ai d2) c2) (d3:Bs) (r:TC0×Int×Bs) (hF:bX n aO aC d1 d2 d3=some r):OkH Tryz.prog M [oC b0 #[iL aO,S aC] 54] 64 [pP b0,S d1,.agg c2.toArray,S d3] (λM' E' v=>∃ (c0:Lv),v=.agg c0.toArray∧E'=[oC b0 #[iL r.2.1,S r.2.2] 54]∧Rep M' (bc r.1) c0):=by
 unfold bX at hF
 intro M1 hM0 w0 H w p0
 replace h2:=Rep.mono hM0 _ _ h2
 obtain⟨Z1,P1,Z2,P2,rfl,B1,B2⟩:=TE0.opn h2
 refine Re 43 Tryz.func64 rfl λa0 f0=>RR (Y5 (cs:=(aTE0 d2 Z1 P1 Z2 P2)) (T:=26) f0 p0 λQ1 V1 W1 J1 R1 N1 _ f=>?_)
 have R2:=aU R1
 refine Y4 f N1 (.cells #[S [],S [],iB 0,S [],iL 0,S [],S [],Sn] 68 (0,0)) λQ2 W2 N2 _ f=>eT (RR (Y f 2 λ_ f=>Y4 f N2 (.cells #[S [],S [],iB 0,S [],iL 0,S [],S [],Sn] 68 (0,0)) λQ3 W3 N3 _ f=>Wu f N3 0 0 [S d1,S [],iB 0,S [],iL 0,S [],S [],Sn] λW4 N4 _ f=>eT (ah (RR (Y f 1 λ_ f=>Z f (XK N4 R2 0) λ_ f=>Y f 1 λ_ f=>aE (k:=2) (c:=2) f N4 (.cells #[S [86,97,108,117,101],S [67,111,110,100,105,116,105,111,110]] 9 (0,0)) kr (λ_=>by kernel_rfl) λQ4 W5 N5 _ f=>?_)))))
 obtain⟨Z3,P3,V2,H1,J2,N6,B3⟩:=N5.litS (f:=Dat.str) 2 bH (dD ([[86,97,108,117,101],[67,111,110,100,105,116,105,111,110]]:List Bs))
 have f:=f.st 17 (H1)
 obtain⟨X1,l1,F1⟩:=bS hF
 have N8:=N6.pl [2]
 refine Ch f N8 (da n _ b0 aO aC _ d2 h2.mo d3 Z3 P3 ([[86,97,108,117,101],[67,111,110,100,105,116,105,111,110]]:List Bs) B3 X1 l1) λ_ V3 mG W6 J3 N7 ef _ f=>?_
 obtain⟨rfl,rfl⟩:=ef
 refine Ye f 1 λ_ f=>RcF f F1 (λB4 F2=>?_) λB4 F3=>?_
 ·refine RR (Z f (XO N7 1) λ_ f=>Wu f N7 2 0 [S d1,S [],iB 0,S [],iL 0,S [],S [],Sn] λW7 N9 _ f=>Er (bl (bM f rfl (Rv.oN [S d1,S [],iB 0,S [],iL 0,S [],S [],Sn] f N9 2 0) ?_)))
  cases sI F2
  have N11:=N9.pl [2,2]
  exact⟨_,rfl,_,_,mL,(N11.dropN 2).kr,⟨_,rfl,rfl,(TC0.shutx Sli.nil)⟩⟩
 refine St (RR (Y f 1 λ_ f=>Z f (XK N7 R2 0) λ_ f=>Y f 1 λ_ f=>?_))
 obtain⟨X2,l2,F4⟩:=bS F3
 refine Ch f N7 (gG n _ b0 X1.2.1 X1.2.2 _ d2 h2.mo d3 [86,97,108,117,101] X2 l2) λ_ V4 rB W8 J4 N12 iK _ f=>?_
 obtain⟨dW,rfl,rfl,D1⟩:=iK
 obtain⟨Z4,P4,Z5,P5,rfl,B5,B6⟩:=TE0.opn D1
 refine Y f 3 λ_ f=>Y4 f N12 (.cells #[iB 0,bO false,iL 0,S [],Sn,Sn] 26 (0,0)) λQ5 W9 N13 _ f=>Wu f N13 0 0 (lTE0 X2.1 Z4 P4 Z5 P5) λW10 N14 _ f=>Ye f 1 λ_ f=>ah (RR (Ye f 2 λ_ f=>RcF f F4 (λB7 F5=>?_) λB7 F6=>?_))
 ·refine RR (Z f (XO N14 2) λ_ f=>Wu f N14 3 0 [S d1,S [],iB 0,S [],iL 0,S [],S [],Sn] λW11 N15 _ f=>Er (bl (bM f rfl (Rv.oN [S d1,S [],iB 0,S [],iL 0,S [],S [],Sn] f N15 3 0) ?_)))
  cases sI F5
  have N19:=N15.pl [1,3,3,3]
  exact⟨_,rfl,_,_,mL,(N19.dropN 3).kr,⟨_,rfl,rfl,(TC0.shutx Sli.nil)⟩⟩
 refine St (ah ?_)
 have N23:=N14.pl [3,1,3,3]
 refine cu 2 [(0,true),(1,true),(2,true),(3,true),(4,false),(5,true),(6,false)] N23 (Y0 default f 1 λ_ f=>bG f kr kr rfl rfl (λ_ pq=>XO pq 0) λ_ f=>Y0 default f 1 λ_ f=>?_)
 obtain⟨X3,l3,F7⟩:=bS F6
 refine eR (v:=S X3) f kr kr rfl rfl (λ_=>by kernel_rfl) (be n _ d3 [86,97,108,117,101] X3 l3) λ_ f=>bI λW13 N25=>?_
 obtain⟨X4,l4,F8⟩:=bS F7
 refine Ch f N25 (dA n _ b0 X2.2.2.1 X2.t3 _ X2.1 D1.mo X3 X4 l4) λ_ V5 E_3 W14 J5 N26 mi _ f=>?_
 obtain⟨ie,rfl,rfl,D2⟩:=mi
 obtain⟨Z6,P6,rfl,B8⟩:=TG0.opn D2
 refine ag rfl (bL 2 J5 N26 (Y0 default f 1 λ_ f=>bI λW15 N27=>Wu f N27 1 2 (lTG0 X4.1 Z6 P6) λW16 N28 _ f=>ag rfl (bL 2 J5 N28 (dx rfl λW17 N29=>az (RR (Y f 1 λ_ f=>Z f (XK N29 R2 0) λ_ f=>Y f 1 λ_ f=>?_))))))
 obtain⟨X5,l5,F9⟩:=bS F8
 refine Ch f N29 (kx n _ b0 X4.2.1 X4.2.2 _ d2 h2.mo d3 [67,111,110,100,105,116,105,111,110] X5 l5) λ_ V6 E_4 W18 J6 N30 nt _ f=>?_
 obtain⟨rfl,rfl⟩:=nt
 refine Y f 1 λ_ f=>Wt f N30 1 1 (S X5.1) λW19 N31 _ f=>eT (RR (Z f (XO N31 1) λ_ f=>Wu f N31 3 0 [S d1,S X5.1,iB X4.1.ab,S X4.1.aa,iL X4.1.ak,S X4.1.av,S X4.1.aF,sL Z6 X4.1.fL P6] λW20 N32 _ f=>Er (bM f rfl (Rv.oN [S d1,S X5.1,iB X4.1.ab,S X4.1.aa,iL X4.1.ak,S X4.1.av,S X4.1.aF,sL Z6 X4.1.fL P6] f N32 3 0) ?_)))
 cases sI F9
 have N35:=N32.pl [3,3,3]
 exact⟨_,rfl,_,_,mL,(N35.dropN 3).kr,⟨_,rfl,rfl,(TC0.shutx B8.mo)⟩⟩
def aS (n:Nat) (rec_ref13_reader_template:Int→Bs→TE0→Bs→Int→Option (TB0×Int×Bs)) (d3:Int) (K1:List Bs×List Int×Int×Int×Bs×List TD0×List TH0×List TA0×List TC0×List TD0×List TH0×List TA0×List TC0) (X3:TE0×Bool) (X4:Bs) (X8:List Bs) (K2:Int×Int×Bs×List TD0×List TH0×List TA0×List TC0×List TD0×List TH0×List TA0×List TC0):Option (Lp (Int×Int×Bs×List TD0×List TH0×List TA0×List TC0×List TD0×List TH0×List TA0×List TC0) (Sum (Int×Bs×List TD0×List TH0×List TA0×List TC0×List TD0×List TH0×List TA0×List TC0) (Int×Bs×List TD0×List TH0×List TA0×List TC0×List TD0×List TH0×List TA0×List TC0))):=
    ((bif(decide (K2.1<((X8.length:Nat):Int))) then
     (some ((decide (K2.2.1=0))))
      else
       some ((false)):Option Bool)).bind λG3=>
    bif G3 then
     ((((aB X8 K2.1).bind λX9=>
       (eh n X3.1 X9).bind λX10=>
       some (X10.1):Option TE0)).bind λG4=>
     (aB X8 K2.1).bind λX14=>
     (bt n X4 X14).bind λX15=>
     (aB X8 K2.1).bind λX16=>
     (gt n X16).bind λX17=>
     bif !X17 then
      ((aq n K2.2.1 K2.2.2.1 (120:Int) X15).bind λX18=>
      some (.br (.inl (X18.1,X18.2,K2.2.2.2.2.2.2.2.1,K2.2.2.2.2.2.2.2.2.1,K2.2.2.2.2.2.2.2.2.2.1,K2.2.2.2.2.2.2.2.2.2.2,K2.2.2.2.2.2.2.2.1,K2.2.2.2.2.2.2.2.2.1,K2.2.2.2.2.2.2.2.2.2.1,K2.2.2.2.2.2.2.2.2.2.2))))
     else
      bif(decide (K1.2.2.1=0)) then
       ((((aB X8 K2.1).bind λX19=>
         (bZ n K2.2.1 K2.2.2.1 X19 G4 X15).bind λX20=>
         aL ((K2.2.2.2.2.2.2.2.1.length+1)*128≤140737488355328)<|
         some ((X20.2.1,X20.2.2,K2.2.2.2.2.2.2.2.1++[X20.1])):Option (Int×Bs×List TD0))).bind λG5=>
       aL (inR .i64 (K2.1+1))<|
       some (.nx (K2.1+1,G5.1,G5.2.1,K2.2.2.2.1,K2.2.2.2.2.1,K2.2.2.2.2.2.1,K2.2.2.2.2.2.2.1,G5.2.2,K2.2.2.2.2.2.2.2.2.1,K2.2.2.2.2.2.2.2.2.2.1,K2.2.2.2.2.2.2.2.2.2.2)))
      else
       bif(decide (K1.2.2.1=1)) then
        ((((aB X8 K2.1).bind λX23=>
          (bK n K2.2.1 K2.2.2.1 X23 G4 X15).bind λX24=>
          aL ((K2.2.2.2.2.2.2.2.2.1.length+1)*224≤140737488355328)<|
          some ((X24.2.1,X24.2.2,K2.2.2.2.2.2.2.2.2.1++[X24.1])):Option (Int×Bs×List TH0))).bind λG6=>
        aL (inR .i64 (K2.1+1))<|
        some (.nx (K2.1+1,G6.1,G6.2.1,K2.2.2.2.1,K2.2.2.2.2.1,K2.2.2.2.2.2.1,K2.2.2.2.2.2.2.1,K2.2.2.2.2.2.2.2.1,G6.2.2,K2.2.2.2.2.2.2.2.2.2.1,K2.2.2.2.2.2.2.2.2.2.2)))
       else
        bif(decide (K1.2.2.1=2)) then
         ((((aB X8 K2.1).bind λX27=>
           (bm n rec_ref13_reader_template K2.2.1 K2.2.2.1 X27 G4 X15 d3).bind λX28=>
           aL ((K2.2.2.2.2.2.2.2.2.2.1.length+1)*128≤140737488355328)<|
           some ((X28.2.1,X28.2.2,K2.2.2.2.2.2.2.2.2.2.1++[X28.1])):Option (Int×Bs×List TA0))).bind λG7=>
         aL (inR .i64 (K2.1+1))<|
         some (.nx (K2.1+1,G7.1,G7.2.1,K2.2.2.2.1,K2.2.2.2.2.1,K2.2.2.2.2.2.1,K2.2.2.2.2.2.2.1,K2.2.2.2.2.2.2.2.1,K2.2.2.2.2.2.2.2.2.1,G7.2.2,K2.2.2.2.2.2.2.2.2.2.2)))
        else
         (((aB X8 K2.1).bind λX31=>
           (bX n K2.2.1 K2.2.2.1 X31 G4 X15).bind λX32=>
           aL ((K2.2.2.2.2.2.2.2.2.2.2.length+1)*120≤140737488355328)<|
           some ((X32.2.1,X32.2.2,K2.2.2.2.2.2.2.2.2.2.2++[X32.1])):Option (Int×Bs×List TC0))).bind λG8=>
         aL (inR .i64 (K2.1+1))<|
         some (.nx (K2.1+1,G8.1,G8.2.1,K2.2.2.2.1,K2.2.2.2.2.1,K2.2.2.2.2.2.1,K2.2.2.2.2.2.2.1,K2.2.2.2.2.2.2.2.1,K2.2.2.2.2.2.2.2.2.1,K2.2.2.2.2.2.2.2.2.2.1,G8.2.2)))
    else
     some (.br (.inr (K2.2.1,K2.2.2.1,K2.2.2.2.2.2.2.2.1,K2.2.2.2.2.2.2.2.2.1,K2.2.2.2.2.2.2.2.2.2.1,K2.2.2.2.2.2.2.2.2.2.2,K2.2.2.2.1,K2.2.2.2.2.1,K2.2.2.2.2.2.1,K2.2.2.2.2.2.2.1)))
def aJ (n:Nat) (rec_ref13_reader_template:Int→Bs→TE0→Bs→Int→Option (TB0×Int×Bs)) (d1:TE0) (d2:Bs) (d3:Int) (K1:List Bs×List Int×Int×Int×Bs×List TD0×List TH0×List TA0×List TC0×List TD0×List TH0×List TA0×List TC0):Option (Lp (List Bs×List Int×Int×Int×Bs×List TD0×List TH0×List TA0×List TC0×List TD0×List TH0×List TA0×List TC0) (Sum (Int×Bs×List TD0×List TH0×List TA0×List TC0×List TD0×List TH0×List TA0×List TC0) (Int×Bs×List TD0×List TH0×List TA0×List TC0×List TD0×List TH0×List TA0×List TC0))):=
    bif(decide (K1.2.2.1<((K1.1.length:Nat):Int))) then
     ((aB K1.1 K1.2.2.1).bind λX2=>
     (eh n d1 X2).bind λX3=>
     ((bif !X3.2 then
      (some ((true)))
       else
        some ((!(decide (K1.2.2.2.1=0)))):Option Bool)).bind λG1=>
     bif G1 then
      (aL (inR .i64 (K1.2.2.1+1))<|
      some (.nx (K1.1,K1.2.1,K1.2.2.1+1,K1.2.2.2.1,K1.2.2.2.2.1,K1.2.2.2.2.2.1,K1.2.2.2.2.2.2.1,K1.2.2.2.2.2.2.2.1,K1.2.2.2.2.2.2.2.2.1,K1.2.2.2.2.2.2.2.2.2.1,K1.2.2.2.2.2.2.2.2.2.2.1,K1.2.2.2.2.2.2.2.2.2.2.2.1,K1.2.2.2.2.2.2.2.2.2.2.2.2)))
     else
      (bt n d2 X2).bind λX4=>
      bif(!(decide (X3.1.ab=5))) then
       ((aq n K1.2.2.2.1 K1.2.2.2.2.1 (120:Int) X4).bind λX5=>
       some (.br (.inl (X5.1,X5.2,K1.2.2.2.2.2.2.2.2.2.1,K1.2.2.2.2.2.2.2.2.2.2.1,K1.2.2.2.2.2.2.2.2.2.2.2.1,K1.2.2.2.2.2.2.2.2.2.2.2.2,K1.2.2.2.2.2.2.2.2.2.1,K1.2.2.2.2.2.2.2.2.2.2.1,K1.2.2.2.2.2.2.2.2.2.2.2.1,K1.2.2.2.2.2.2.2.2.2.2.2.2))))
      else
       (aB K1.2.1 K1.2.2.1).bind λX6=>
       ((bif(decide (X6<((X3.1.af.length:Nat):Int))) then
        ((aq n K1.2.2.2.1 K1.2.2.2.2.1 (3:Int) X4).bind λX7=>
        some ((X7.1,X7.2)))
         else
          some ((K1.2.2.2.1,K1.2.2.2.2.1)):Option (Int×Bs))).bind λG2=>
       (jT n X3.1).bind λX8=>
       (au (aS n rec_ref13_reader_template d3 K1 X3 X4 X8) n ((0:Int),G2.1,G2.2,K1.2.2.2.2.2.1,K1.2.2.2.2.2.2.1,K1.2.2.2.2.2.2.2.1,K1.2.2.2.2.2.2.2.2.1,K1.2.2.2.2.2.2.2.2.2.1,K1.2.2.2.2.2.2.2.2.2.2.1,K1.2.2.2.2.2.2.2.2.2.2.2.1,K1.2.2.2.2.2.2.2.2.2.2.2.2)).bind λQ11=>
       (match Q11 with
       |.inl G9=>some (.br (.inl (G9.1,G9.2.1,G9.2.2.1,G9.2.2.2.1,G9.2.2.2.2.1,G9.2.2.2.2.2.1,G9.2.2.2.2.2.2.1,G9.2.2.2.2.2.2.2.1,G9.2.2.2.2.2.2.2.2.1,G9.2.2.2.2.2.2.2.2.2)))
       |.inr G10=>aL (inR .i64 (K1.2.2.1+1))<|
        some (.nx (K1.1,K1.2.1,K1.2.2.1+1,G10.1,G10.2.1,G10.2.2.2.2.2.2.1,G10.2.2.2.2.2.2.2.1,G10.2.2.2.2.2.2.2.2.1,G10.2.2.2.2.2.2.2.2.2,G10.2.2.1,G10.2.2.2.1,G10.2.2.2.2.1,G10.2.2.2.2.2.1))))
    else
     some (.br (.inr (K1.2.2.2.1,K1.2.2.2.2.1,K1.2.2.2.2.2.2.2.2.2.1,K1.2.2.2.2.2.2.2.2.2.2.1,K1.2.2.2.2.2.2.2.2.2.2.2.1,K1.2.2.2.2.2.2.2.2.2.2.2.2,K1.2.2.2.2.2.1,K1.2.2.2.2.2.2.1,K1.2.2.2.2.2.2.2.1,K1.2.2.2.2.2.2.2.2.1)))
def dB (n:Nat) (rec_ref13_reader_template:Int→Bs→TE0→Bs→Int→Option (TB0×Int×Bs)) (aO:Int) (aC:Bs) (d1:TE0) (d2:Bs) (d3:Int):Option (TB0×Int×Bs):=
 (bk n aO aC d1 d2 ([[80,97,114,97,109,101,116,101,114,115],[67,111,110,100,105,116,105,111,110,115],[82,101,115,111,117,114,99,101,115],[79,117,116,112,117,116,115]]:List Bs)).bind λX1=>
 bif !X1.1 then
  (some ((ra,X1.2.1,X1.2.2)))
 else
  (au (aJ n rec_ref13_reader_template d1 d2 d3) n (([[80,97,114,97,109,101,116,101,114,115],[67,111,110,100,105,116,105,111,110,115],[82,101,115,111,117,114,99,101,115],[79,117,116,112,117,116,115]]:List Bs),[(6:Int),(6:Int),(8:Int),(6:Int)],(0:Int),X1.2.1,X1.2.2,([]:List TD0),([]:List TH0),([]:List TA0),([]:List TC0),([]:List TD0),([]:List TH0),([]:List TA0),([]:List TC0))).bind λQ7=>
  (match Q7 with
  |.inl G11=>some (((⟨G11.2.2.2.2.2.2.1,G11.2.2.2.2.2.2.2.1,G11.2.2.2.2.2.2.2.2.1,G11.2.2.2.2.2.2.2.2.2⟩:TB0),G11.1,G11.2.1))
  |.inr G12=>some (((⟨G12.2.2.1,G12.2.2.2.1,G12.2.2.2.2.1,G12.2.2.2.2.2.1⟩:TB0),G12.1,G12.2.1)))
set_option maxRecDepth 20000 in
theorem lH (n:Nat) (rec_ref13_reader_template:Int→Bs→TE0→Bs→Int→Option (TB0×Int×Bs)) (hrec_ref13_reader_template: ∀ (M:Mem) (b0:Nat) (aO:Int) (aC:Bs) (c1:Lv) (d1:TE0) (h1:Rep M (ai d1) c1) (d2:Bs) (d3:Int) (r:TB0×Int×Bs) (hF:rec_ref13_reader_template aO aC d1 d2 d3=some r),OkH Tryz.prog M [oC b0 #[iL aO,S aC] 54] 24 [pP b0,.agg c1.toArray,S d2,iL d3] (λM' E' v=>∃ (c0:Lv),v=.agg c0.toArray∧E'=[oC b0 #[iL r.2.1,S r.2.2] 54]∧Rep M' (bB r.1) c0)) (M:Mem) (b0:Nat) (aO:Int) (aC:Bs) (c1:Lv) (d1:TE0) (h1:Rep M (ai d1) c1) (d2:Bs) (d3:Int) (r:TB0×Int×Bs) (hF:dB n rec_ref13_reader_template aO aC d1 d2 d3=some r):OkH Tryz.prog M [oC b0 #[iL aO,S aC] 54] 24 [pP b0,.agg c1.toArray,S d2,iL d3] (λM' E' v=>∃ (c0:Lv),v=.agg c0.toArray∧E'=[oC b0 #[iL r.2.1,S r.2.2] 54]∧Rep M' (bB r.1) c0):=by
 unfold dB at hF
 intro M1 hM0 w0 H w p0
 replace h1:=Rep.mono hM0 _ _ h1
 obtain⟨Z1,P1,Z2,P2,rfl,B1,B2⟩:=TE0.opn h1
 refine Re 178 Tryz.func24 rfl λa0 f0=>RR (Y5 (cs:=(aTE0 d1 Z1 P1 Z2 P2)) (T:=26) f0 p0 λQ1 V1 W1 J1 R1 N1 _ f=>?_)
 have R2:=aU R1
 refine Y4 f N1 (.cells #[Sn,Sn,Sn,Sn] 41 (0,0)) λQ2 W2 N2 _ f=>eT (RR (Y4 f N2 (.cells #[Sn,Sn,Sn,Sn] 41 (0,0)) λQ3 W3 N3 _ f=>eT (ah (RR (Y f 1 λ_ f=>Z f (XK N3 R2 0) λ_ f=>Y f 1 λ_ f=>aE (k:=4) (c:=4) f N3 (.cells #[S [80,97,114,97,109,101,116,101,114,115],S [67,111,110,100,105,116,105,111,110,115],S [82,101,115,111,117,114,99,101,115],S [79,117,116,112,117,116,115]] 9 (0,0)) kr (λ_=>by kernel_rfl) λQ4 W4 N4 _ f=>?_)))))
 obtain⟨Z3,P3,V2,H1,J2,N5,B3⟩:=N4.litS (f:=Dat.str) 4 bH (dD ([[80,97,114,97,109,101,116,101,114,115],[67,111,110,100,105,116,105,111,110,115],[82,101,115,111,117,114,99,101,115],[79,117,116,112,117,116,115]]:List Bs))
 have f:=f.st 25 (H1)
 obtain⟨X1,l1,F1⟩:=bS hF
 have N7:=N5.pl [2]
 refine Ch f N7 (da n _ b0 aO aC _ d1 h1.mo d2 Z3 P3 ([[80,97,114,97,109,101,116,101,114,115],[67,111,110,100,105,116,105,111,110,115],[82,101,115,111,117,114,99,101,115],[79,117,116,112,117,116,115]]:List Bs) B3 X1 l1) λ_ V3 mG W5 J3 N6 ef _ f=>?_
 obtain⟨rfl,rfl⟩:=ef
 refine Ye f 1 λ_ f=>RcF f F1 (λB4 F2=>?_) λB4 F3=>?_
 ·refine RR (Z f (XO N6 1) λ_ f=>Wu f N6 2 0 [Sn,Sn,Sn,Sn] λW6 N8 _ f=>Er (bl (bM f rfl (Rv.oN [Sn,Sn,Sn,Sn] f N8 2 0) ?_)))
  cases sI F2
  have N10:=N8.pl [2,2]
  exact⟨_,rfl,_,_,mL,(N10.dropN 2).kr,⟨_,rfl,rfl,(TB0.shutx Sli.nil Sli.nil Sli.nil Sli.nil)⟩⟩
 refine St (RR (aE (k:=4) (c:=4) f N6 (.cells #[S [80,97,114,97,109,101,116,101,114,115],S [67,111,110,100,105,116,105,111,110,115],S [82,101,115,111,117,114,99,101,115],S [79,117,116,112,117,116,115]] 9 (0,0)) kr (λ_=>by kernel_rfl) λQ5 W7 N11 _ f=>Ye f 1 λ_ f=>RR (aE (k:=4) (c:=4) f N11 (.cells #[iL 6,iL 6,iL 8,iL 6] 3 (0,0)) kr (λ_=>by kernel_rfl) λQ6 W8 N12 _ f=>Ye f 1 λ_ f=>ah (RR (Ye f 1 λ_ f=>wp_block ?_)))))
 have N13:=N12.pl [1]
 have D1:ae V3 (([[80,97,114,97,109,101,116,101,114,115],[67,111,110,100,105,116,105,111,110,115],[82,101,115,111,117,114,99,101,115],[79,117,116,112,117,116,115]]:List Bs).map Dat.str) [S [80,97,114,97,109,101,116,101,114,115],S [67,111,110,100,105,116,105,111,110,115],S [82,101,115,111,117,114,99,101,115],S [79,117,116,112,117,116,115]]:=⟨_,_,rfl,rfl,⟨_,_,rfl,rfl,⟨_,_,rfl,rfl,⟨_,_,rfl,rfl,rfl⟩⟩⟩⟩
 have N14:=N13.objR 4 1
 have N15:=N14.pl [1]
 have D2:ae V3 ([(6:Int),(6:Int),(8:Int),(6:Int)].map (Dat.int .i64)) [iL 6,iL 6,iL 8,iL 6]:=⟨_,_,rfl,rfl,⟨_,_,rfl,rfl,⟨_,_,rfl,rfl,⟨_,_,rfl,rfl,rfl⟩⟩⟩⟩
 have N16:=N15.objR 4 1
 obtain⟨Z4,P4,H2,N17⟩:=N16.nilC 3 0 58 10 (TD0)
 have D3:ae V3 (([]:List TD0).map ba) []:=rfl
 obtain⟨Z5,P5,H3,N18⟩:=N17.nilC 4 1 61 15 (TH0)
 have D4:ae V3 (([]:List TH0).map aH) []:=rfl
 obtain⟨Z6,P6,H4,N19⟩:=N18.nilC 5 2 66 7 (TA0)
 have D5:ae V3 (([]:List TA0).map aY) []:=rfl
 obtain⟨Z7,P7,H5,N20⟩:=N19.nilC 6 3 68 8 (TC0)
 have D6:ae V3 (([]:List TC0).map bc) []:=rfl
 have N29:=N20.pl [8,8,8,3,4,5,6,7,8]
 obtain⟨Q7,ce,F4⟩:=bS F3
 refine wp_mono (Q:=λe a w=>(e=.ret∧(∃G11,Q7=.inl G11∧∃V42,V3.le V42∧∃Z93 P95 Z94 P96 Z95 P97 Z96 P98 Z97 P99 Z98 P100 Z99 P101 Z100 P102,Sli V42 10 ba Z93 P95 G11.2.2.1∧Sli V42 15 aH Z94 P96 G11.t3.1∧Sli V42 7 aY Z95 P97 G11.t4.1∧Sli V42 8 bc Z96 P98 G11.t5.1∧Sli V42 10 ba Z97 P99 G11.t6.1∧Sli V42 15 aH Z98 P100 G11.t7.1∧Sli V42 7 aY Z99 P101 G11.t8.1∧Sli V42 8 bc Z100 P102 G11.t9∧Frm 178 [(8,pP Q2)] a∧Hp w0 V42 ((oC b0 #[iL G11.1,S G11.2.1] 54)::(oC Q3 #[sL Z93 G11.2.2.1 P95,sL Z94 G11.t3.1 P96,sL Z95 G11.t4.1 P97,sL Z96 G11.t5.1 P98] 41)::(oC Q2 #[sL Z97 G11.t6.1 P99,sL Z98 G11.t7.1 P100,sL Z99 G11.t8.1 P101,sL Z100 G11.t9 P102] 41)::H) w))∨(e=.exit 0∧(∃G12,Q7=.inr G12∧∃V43,V3.le V43∧∃Z101 P103 L27 Z102 P104 L28 Z103 P105 L29 Z104 P106 L30 Z105 P107 Z106 P108 Z107 P109 Z108 P110,ae V43 (G12.2.2.1.map ba) L27∧ae V43 (G12.t3.1.map aH) L28∧ae V43 (G12.t4.1.map aY) L29∧ae V43 (G12.t5.1.map bc) L30∧Sli V43 10 ba Z105 P107 G12.t6.1∧Sli V43 15 aH Z106 P108 G12.t7.1∧Sli V43 7 aY Z107 P109 G12.t8.1∧Sli V43 8 bc Z108 P110 G12.t9∧Frm 178 (kpL [8,9] f.fr) a∧Hp w0 V43 ((rO 58 10 Z101 G12.2.2.1 P103 L27)::(rO 61 15 Z102 G12.t3.1 P104 L28)::(rO 66 7 Z103 G12.t4.1 P105 L29)::(rO 68 8 Z104 G12.t5.1 P106 L30)::(oC b0 #[iL G12.1,S G12.2.1] 54)::(oC Q3 #[sL Z101 G12.2.2.1 P103,sL Z102 G12.t3.1 P104,sL Z103 G12.t4.1 P105,sL Z104 G12.t5.1 P106] 41)::(oC Q2 #[sL Z105 G12.t6.1 P107,sL Z106 G12.t7.1 P108,sL Z107 G12.t8.1 P109,sL Z108 G12.t9 P110] 41)::H) w))) (aZ (σ:=(List Bs×List Int×Int×Int×Bs×List TD0×List TH0×List TA0×List TC0×List TD0×List TH0×List TA0×List TC0)×Oa×Nat×Lv×Oa×Nat×Lv×Oa×Nat×Oa×Nat×Oa×Nat×Oa×Nat×Oa×Nat×Lv×Oa×Nat×Lv×Oa×Nat×Lv×Oa×Nat×Lv) (λx=>match x with|(I1,K1,Z8,P8,L1,Z9,P9,L2,Z10,P10,Z11,P11,Z12,P12,Z13,P13,Z14,P14,L3,Z15,P15,L4,Z16,P16,L5,Z17,P17,L6)=>(((10,sL Z8 K1.1 P8)::(11,sL Z9 K1.2.1 P9)::(12,iL K1.2.2.1)::kpL [0,2,3,5,8,9] f.fr),((rO 9 1 Z8 K1.1 P8 L1)::(rO 3 1 Z9 K1.2.1 P9 L2)::(rO 58 10 Z14 K1.t9.1 P14 L3)::(rO 61 15 Z15 K1.t10.1 P15 L4)::(rO 66 7 Z16 K1.t11.1 P16 L5)::(rO 68 8 Z17 K1.t12 P17 L6)::(oC b0 #[iL K1.t3.1,S K1.t4.1] 54)::(oC Q3 #[sL Z14 K1.t9.1 P14,sL Z15 K1.t10.1 P15,sL Z16 K1.t11.1 P16,sL Z17 K1.t12 P17] 41)::(oC Q2 #[sL Z10 K1.t5.1 P10,sL Z11 K1.t6.1 P11,sL Z12 K1.t7.1 P12,sL Z13 K1.t8.1 P13] 41)::H),λMM=>au (aJ n rec_ref13_reader_template d1 d2 d3) I1 K1=some Q7∧ae MM (K1.1.map Dat.str) L1∧ae MM (K1.2.1.map (Dat.int .i64)) L2∧Sli MM 10 ba Z10 P10 K1.t5.1∧Sli MM 15 aH Z11 P11 K1.t6.1∧Sli MM 7 aY Z12 P12 K1.t7.1∧Sli MM 8 bc Z13 P13 K1.t8.1∧ae MM (K1.t9.1.map ba) L3∧ae MM (K1.t10.1.map aH) L4∧ae MM (K1.t11.1.map aY) L5∧ae MM (K1.t12.map bc) L6)) (n,(([[80,97,114,97,109,101,116,101,114,115],[67,111,110,100,105,116,105,111,110,115],[82,101,115,111,117,114,99,101,115],[79,117,116,112,117,116,115]]:List Bs),[(6:Int),(6:Int),(8:Int),(6:Int)],(0:Int),X1.2.1,X1.2.2,([]:List TD0),([]:List TH0),([]:List TA0),([]:List TC0),([]:List TD0),([]:List TH0),([]:List TA0),([]:List TC0)),some ⟨Q5,0,none⟩,4,[S [80,97,114,97,109,101,116,101,114,115],S [67,111,110,100,105,116,105,111,110,115],S [82,101,115,111,117,114,99,101,115],S [79,117,116,112,117,116,115]],some ⟨Q6,0,none⟩,4,[iL 6,iL 6,iL 8,iL 6],none,0,none,0,none,0,none,0,Z4,P4,[],Z5,P5,[],Z6,P6,[],Z7,P7,[]) (f.kp) N29.kr ⟨ce,D1,D2,Sli.nil,Sli.nil,Sli.nil,Sli.nil,D3,D4,D5,D6⟩ ?_) ?_
 ·rintro⟨I1,K1,Z8,P8,L1,Z9,P9,L2,Z10,P10,Z11,P11,Z12,P12,Z13,P13,Z14,P14,L3,Z15,P15,L4,Z16,P16,L5,Z17,P17,L6⟩ V4 _ W9 J4 gL f N30
  obtain⟨ci,D7,D8,B5,B6,B7,B8,D9,D10,D11,D12⟩:=gL
  dsimp only at N30
  obtain⟨I2,lT,rfl,bg,T1⟩:=aK ci
  unfold aJ at bg
  refine ah (RR (Ye f 4 λ_ f=>RcF f bg (λB9 F5=>?_) λB9 F67=>?_))
  ·refine St (ah (wp_block (RR (Y f 2 λ_ f=>?_))))
   obtain⟨X2,l2,F6⟩:=bS F5
   obtain⟨Q8,P18,H6,mJ⟩:=N30.rowAddr 0 rfl (bn l2)
   refine Z f (XIo H6 l2) λ_ f=>?_
   obtain⟨dW,-,D13,R3⟩:=ae.get K1.2.2.1.toNat (dv bH) D7 (ig l2)
   obtain rfl:dW=[S X2]:=D13
   refine Z f (XR N30 0 H6 R3 0) λ_ f=>Ye f 1 λ_ f=>RR (Z f (XK N30 R2 0) λ_ f=>Y f 1 λ_ f=>?_)
   obtain⟨X3,l3,F7⟩:=bS F6
   refine Y8 f N30 (cZ n _ _ d1 h1.mo X2 X3 l3) λ_ V5 W10 J5 N31 iK _ f=>?_
   obtain⟨ie,rfl,D14⟩:=iK
   obtain⟨Z18,P19,Z19,P20,rfl,B10,B11⟩:=TE0.opn D14
   refine Y f 3 λ_ f=>Y4 f N31 (.cells #[iB 0,bO false,iL 0,S [],Sn,Sn] 26 (0,0)) λQ9 W11 N32 _ f=>Wu f N32 0 0 (lTE0 X3.1 Z18 P19 Z19 P20) λW12 N33 _ f=>Ye f 1 λ_ f=>ah (ah ?_)
   obtain⟨eF,cL,F8⟩:=bS F7
   refine aW (λa_35 W13=>∃G1,eF=G1∧∃V6,V5.le V6∧Frm 178 ((55,bO G1)::kpL [0,2,3,5,8,9,10,11,12,13,14] f.fr) a_35∧Hp w0 V6 (N33.en) W13) ?_ ?_
   ·refine ay (Y f 3 λ_ f=>?_)
    rcases cE cL with⟨B12,F9⟩|⟨B12,F10⟩
    ·have f:=f.st 49 (cB B12)
     refine Ye f 6 λ_ f=>?_
     exact⟨_,(sI F9).symm,_,mL,f.kp,N33.kr⟩
    have f:=f.st 49 (cB B12)
    refine Y f 3 λ_ f=>Z f (XO N33 7) λ_ f=>Ye f 2 λ_ f=>?_
    exact⟨_,(sI F10).symm,_,mL,f.kp,N33.kr⟩
   rintro a_35 W13 ⟨G1,eS,V6,J6,f,N34⟩
   dsimp only[Hp.en] at N34
   subst eF
   refine az (RcF f F8 (λB13 F11=>?_) λB13 F13=>?_)
   ·refine wp_exit (dJ (jV (az (ay (Y f 1 λ_ f=>?_)))))
    obtain⟨O1,F12⟩:=nS F11
    refine Y f 1 λ_ f=>?_
    have f:=f.st 36 (iW O1)
    refine Ye f 1 λ_ f=>?_
    cases sI F12
    exact⟨⟨_,_,Z8,P8,L1,Z9,P9,L2,Z10,P10,Z11,P11,Z12,P12,Z13,P13,Z14,P14,L3,Z15,P15,L4,Z16,P16,L5,Z17,P17,L6⟩,Nat.lt_succ_self _,_,mL,⟨T1,D7.mo,D8.mo,B5.mo,B6.mo,B7.mo,B8.mo,D9.mo,D10.mo,D11.mo,D12.mo⟩,f.kp,(N34.dropN 1).kr⟩
   refine St (RR (Y f 2 λ_ f=>?_))
   obtain⟨X4,l4,F14⟩:=bS F13
   refine Y9 f N34 (be n _ d2 X2 X4 l4) λW14 N35 _ f=>Ye f 1 λ_ f=>ah (RR (Y f 1 λ_ f=>Z f (XO N35 0) λ_ f=>Ye f 1 λ_ f=>RcF f F14 (λB14 F15=>?_) λB14 F17=>?_))
   ·refine RR (Y f 2 λ_ f=>?_)
    obtain⟨X5,l5,F16⟩:=bS F15
    have N37:=N35.pl [7]
    refine Ch f N37 (ax n _ b0 K1.t3.1 K1.t4.1 (120:Int) X4 X5 l5) λ_ V7 rB W15 J7 N36 mi _ f=>?_
    obtain⟨rfl,rfl⟩:=mi
    refine eT (RR (Z f (XO N36 8) λ_ f=>?_))
    obtain⟨Z20,P21,V8,H7,J8,N38,B15⟩:=N36.rowSliK (f:=ba) (xs:=K1.t9.1) 4 58 Z14 P14 rz D9.mo
    have f:=Frm.set f 65 (v:=.agg #[.slice Z14 K1.2.2.2.2.2.2.2.2.2.1.length P14,.slice Z15 K1.2.2.2.2.2.2.2.2.2.2.1.length P15,.slice Z16 K1.2.2.2.2.2.2.2.2.2.2.2.1.length P16,.slice Z17 K1.2.2.2.2.2.2.2.2.2.2.2.2.length P17]) (v':=.agg #[.slice Z20 K1.2.2.2.2.2.2.2.2.2.1.length P21,.slice Z15 K1.2.2.2.2.2.2.2.2.2.2.1.length P15,.slice Z16 K1.2.2.2.2.2.2.2.2.2.2.2.1.length P16,.slice Z17 K1.2.2.2.2.2.2.2.2.2.2.2.2.length P17]) (by kernel_rfl) (by rw[H7])
    try simp only[sL] at H7 N38
    rw[H7] at N38
    obtain⟨Z21,P22,V9,H8,J9,N40,B16⟩:=N38.rowSliK (f:=aH) (xs:=K1.t10.1) 4 61 Z15 P15 dH D10.mo
    have f:=Frm.set f 65 (v:=.agg #[.slice Z20 K1.2.2.2.2.2.2.2.2.2.1.length P21,.slice Z15 K1.2.2.2.2.2.2.2.2.2.2.1.length P15,.slice Z16 K1.2.2.2.2.2.2.2.2.2.2.2.1.length P16,.slice Z17 K1.2.2.2.2.2.2.2.2.2.2.2.2.length P17]) (v':=.agg #[.slice Z20 K1.2.2.2.2.2.2.2.2.2.1.length P21,.slice Z21 K1.2.2.2.2.2.2.2.2.2.2.1.length P22,.slice Z16 K1.2.2.2.2.2.2.2.2.2.2.2.1.length P16,.slice Z17 K1.2.2.2.2.2.2.2.2.2.2.2.2.length P17]) (by kernel_rfl) (by rw[H8])
    try simp only[sL] at H8 N40
    rw[H8] at N40
    obtain⟨Z22,P23,V10,H9,J10,N42,B17⟩:=N40.rowSliK (f:=aY) (xs:=K1.t11.1) 4 66 Z16 P16 rx D11.mo
    have f:=Frm.set f 65 (v:=.agg #[.slice Z20 K1.2.2.2.2.2.2.2.2.2.1.length P21,.slice Z21 K1.2.2.2.2.2.2.2.2.2.2.1.length P22,.slice Z16 K1.2.2.2.2.2.2.2.2.2.2.2.1.length P16,.slice Z17 K1.2.2.2.2.2.2.2.2.2.2.2.2.length P17]) (v':=.agg #[.slice Z20 K1.2.2.2.2.2.2.2.2.2.1.length P21,.slice Z21 K1.2.2.2.2.2.2.2.2.2.2.1.length P22,.slice Z22 K1.2.2.2.2.2.2.2.2.2.2.2.1.length P23,.slice Z17 K1.2.2.2.2.2.2.2.2.2.2.2.2.length P17]) (by kernel_rfl) (by rw[H9])
    try simp only[sL] at H9 N42
    rw[H9] at N42
    obtain⟨Z23,P24,V11,H10,J11,N44,B18⟩:=N42.rowSliK (f:=bc) (xs:=K1.t12) 4 68 Z17 P17 ry D12.mo
    have f:=Frm.set f 65 (v:=.agg #[.slice Z20 K1.2.2.2.2.2.2.2.2.2.1.length P21,.slice Z21 K1.2.2.2.2.2.2.2.2.2.2.1.length P22,.slice Z22 K1.2.2.2.2.2.2.2.2.2.2.2.1.length P23,.slice Z17 K1.2.2.2.2.2.2.2.2.2.2.2.2.length P17]) (v':=.agg #[.slice Z20 K1.2.2.2.2.2.2.2.2.2.1.length P21,.slice Z21 K1.2.2.2.2.2.2.2.2.2.2.1.length P22,.slice Z22 K1.2.2.2.2.2.2.2.2.2.2.2.1.length P23,.slice Z23 K1.2.2.2.2.2.2.2.2.2.2.2.2.length P24]) (by kernel_rfl) (by rw[H10])
    try simp only[sL] at H10 N44
    rw[H10] at N44
    refine Wu f N44 5 0 [sL Z20 K1.t9.1 P21,sL Z21 K1.t10.1 P22,sL Z22 K1.t11.1 P23,sL Z23 K1.t12 P24] λW16 N46 _ f=>Er (bl (eu (bl ?_)))
    have N254:=N46.pl [5,5,2,5,5,5]
    refine bl ?_
    cases sI F16
    exact .inl ⟨rfl,_,(sI T1).symm,_,mL,Z20,P21,Z21,P22,Z22,P23,Z23,P24,Z20,P21,Z21,P22,Z22,P23,Z23,P24,B15.mo,B16.mo,B17.mo,B18,B15.mo,B16.mo,B17.mo,B18,f.kp,(N254.dropN 3).kr⟩
   refine St (ah (ah (cu 0 [(0,true),(1,true),(2,true),(3,true),(4,true),(5,false),(6,false),(7,true)] N35 (Y0 default f 1 λ_ f=>bG f kr kr rfl rfl (λ_ pq=>XO pq 0) λ_ f=>Y0 default f 3 λ_ f=>bI λW17 N47=>?_))))
   obtain⟨X6,l6,F18⟩:=bS F17
   obtain⟨Q10,P25,H11,rW⟩:=N47.rowAddr 2 rfl (bn l6)
   refine Z f (XIo H11 l6) λ_ f=>ag rfl (bL 0 mL N47 (bI λW18 N48=>?_))
   obtain⟨lQ,-,D15,R4⟩:=ae.get K1.2.2.1.toNat (dv (nh .i64)) (ae.mono (J5.trans J6) _ _ D8) (ig l6)
   obtain rfl:lQ=[iL X6]:=D15
   refine Z f (XR N48 2 H11 R4 0) λ_ f=>ag rfl (bL 0 mL N48 (Y0 default f 1 λ_ f=>dx rfl λW19 N49=>az ?_))
   obtain⟨lb,iJ,F19⟩:=bS F18
   refine aW (λa_57 W21=>∃G2,lb=G2∧∃V13,V6.le V13∧Frm 178 (kpL [0,2,3,5,8,9,10,11,12,14,16] f.fr) a_57∧Hp w0 V13 (setE (setE (selE [7,0,1,2,3,4,5,6,8,9] 10 N49.en) 0 0 [iL G2.1]) 0 1 [S G2.2]) W21) ?_ ?_
   ·refine RcF f iJ (λB19 F20=>?_) λB19 F22=>?_
    ·refine ay (Y f 2 λ_ f=>?_)
     obtain⟨X7,l7,F21⟩:=bS F20
     have N51:=N49.pl [7]
     refine Ch f N51 (ax n _ b0 K1.t3.1 K1.t4.1 (3:Int) X4 X7 l7) λ_ V12 E_3 W20 J12 N50 nt _ f=>?_
     obtain⟨rfl,rfl⟩:=nt
     refine eT ?_
     exact⟨_,(sI F21).symm,_,J12,f.kp,N50.kr⟩
    refine wp_skip ?_
    have N62:=N49.pl [9,9,8,8,8,8,8,8,8,9]
    refine az ?_
    exact⟨_,(sI F22).symm,_,mL,f.kp,N62.kr⟩
   rintro a_57 W21 ⟨G2,hZ,V13,J13,f,N52⟩
   dsimp only[Hp.en] at N52
   subst lb
   refine az (RR (Z f (XO N52 1) λ_ f=>?_))
   obtain⟨X8,l8,F23⟩:=bS F19
   refine Y8 f N52 (ml n _ _ X3.1 (TE0.shutx B10.mo B11.mo) X8 l8) λ_ V14 W22 J14 N63 pg _ f=>?_
   obtain⟨Z24,P26,rfl,B20⟩:=pg
   refine Ye f 1 λ_ f=>RR (Ye f 1 λ_ f=>wp_block ?_)
   have N73:=N63.pl [9,9,5,5,5,5,9,9,9,9]
   obtain⟨Q11,nI,F24⟩:=bS F23
   refine wp_mono (Q:=λe a w=>(e=.ret∧(∃G9,Q11=.inl G9∧∃V40,V14.le V40∧∃Z77 P79 Z78 P80 Z79 P81 Z80 P82 Z81 P83 Z82 P84 Z83 P85 Z84 P86,Sli V40 10 ba Z77 P79 G9.2.2.1∧Sli V40 15 aH Z78 P80 G9.t3.1∧Sli V40 7 aY Z79 P81 G9.t4.1∧Sli V40 8 bc Z80 P82 G9.t5.1∧Sli V40 10 ba Z81 P83 G9.t6.1∧Sli V40 15 aH Z82 P84 G9.t7.1∧Sli V40 7 aY Z83 P85 G9.t8.1∧Sli V40 8 bc Z84 P86 G9.t9∧Frm 178 [(8,pP Q2)] a∧Hp w0 V40 (setE (setE (setE (setE (setE (setE (setE (setE (setE (setE (N73.en.drop 4) 0 0 [iL G9.1]) 0 1 [S G9.2.1]) 4 0 [sL Z77 G9.2.2.1 P79]) 4 1 [sL Z78 G9.t3.1 P80]) 4 2 [sL Z79 G9.t4.1 P81]) 4 3 [sL Z80 G9.t5.1 P82]) 5 0 [sL Z81 G9.t6.1 P83]) 5 1 [sL Z82 G9.t7.1 P84]) 5 2 [sL Z83 G9.t8.1 P85]) 5 3 [sL Z84 G9.t9 P86]) w))∨(e=.exit 2∧(∃G10,Q11=.inr G10∧∃V41,V14.le V41∧∃Z85 P87 L23 Z86 P88 L24 Z87 P89 L25 Z88 P90 L26 Z89 P91 Z90 P92 Z91 P93 Z92 P94,ae V41 (G10.2.2.1.map ba) L23∧ae V41 (G10.t3.1.map aH) L24∧ae V41 (G10.t4.1.map aY) L25∧ae V41 (G10.t5.1.map bc) L26∧Sli V41 10 ba Z89 P91 G10.t6.1∧Sli V41 15 aH Z90 P92 G10.t7.1∧Sli V41 7 aY Z91 P93 G10.t8.1∧Sli V41 8 bc Z92 P94 G10.t9∧Frm 178 (kpL [0,2,3,5,8,9,10,11,12] f.fr) a∧Hp w0 V41 ((rO 58 10 Z85 G10.2.2.1 P87 L23)::(rO 61 15 Z86 G10.t3.1 P88 L24)::(rO 66 7 Z87 G10.t4.1 P89 L25)::(rO 68 8 Z88 G10.t5.1 P90 L26)::setE (setE (setE (setE (setE (setE (setE (setE (setE (setE (N73.en.drop 4) 0 0 [iL G10.1]) 0 1 [S G10.2.1]) 4 0 [sL Z85 G10.2.2.1 P87]) 4 1 [sL Z86 G10.t3.1 P88]) 4 2 [sL Z87 G10.t4.1 P89]) 4 3 [sL Z88 G10.t5.1 P90]) 5 0 [sL Z89 G10.t6.1 P91]) 5 1 [sL Z90 G10.t7.1 P92]) 5 2 [sL Z91 G10.t8.1 P93]) 5 3 [sL Z92 G10.t9 P94]) w))) (aZ (σ:=(Int×Int×Bs×List TD0×List TH0×List TA0×List TC0×List TD0×List TH0×List TA0×List TC0)×Oa×Nat×Oa×Nat×Oa×Nat×Oa×Nat×Oa×Nat×Lv×Oa×Nat×Lv×Oa×Nat×Lv×Oa×Nat×Lv) (λx=>match x with|(I3,K2,Z25,P27,Z26,P28,Z27,P29,Z28,P30,Z29,P31,L7,Z30,P32,L8,Z31,P33,L9,Z32,P34,L10)=>(((18,iL K2.1)::kpL [0,2,3,5,8,9,10,11,12,14,16,17] f.fr),((rO 58 10 Z29 K2.t7.1 P31 L7)::(rO 61 15 Z30 K2.t8.1 P32 L8)::(rO 66 7 Z31 K2.t9.1 P33 L9)::(rO 68 8 Z32 K2.t10 P34 L10)::setE (setE (setE (setE (setE (setE (setE (setE (setE (setE (N73.en.drop 4) 0 0 [iL K2.2.1]) 0 1 [S K2.2.2.1]) 4 0 [sL Z29 K2.t7.1 P31]) 4 1 [sL Z30 K2.t8.1 P32]) 4 2 [sL Z31 K2.t9.1 P33]) 4 3 [sL Z32 K2.t10 P34]) 5 0 [sL Z25 K2.t3.1 P27]) 5 1 [sL Z26 K2.t4.1 P28]) 5 2 [sL Z27 K2.t5.1 P29]) 5 3 [sL Z28 K2.t6.1 P30]),λMM=>au (aS n rec_ref13_reader_template d3 K1 X3 X4 X8) I3 K2=some Q11∧Sli MM 10 ba Z25 P27 K2.t3.1∧Sli MM 15 aH Z26 P28 K2.t4.1∧Sli MM 7 aY Z27 P29 K2.t5.1∧Sli MM 8 bc Z28 P30 K2.t6.1∧ae MM (K2.t7.1.map ba) L7∧ae MM (K2.t8.1.map aH) L8∧ae MM (K2.t9.1.map aY) L9∧ae MM (K2.t10.map bc) L10)) (n,((0:Int),G2.1,G2.2,K1.t5.1,K1.t6.1,K1.t7.1,K1.t8.1,K1.t9.1,K1.t10.1,K1.t11.1,K1.t12),Z10,P10,Z11,P11,Z12,P12,Z13,P13,Z14,P14,L3,Z15,P15,L4,Z16,P16,L5,Z17,P17,L6) (f.kp) N73.kr ⟨nI,B5.mo,B6.mo,B7.mo,B8.mo,D9.mo,D10.mo,D11.mo,D12.mo⟩ ?_) ?_
   ·rintro⟨I3,K2,Z25,P27,Z26,P28,Z27,P29,Z28,P30,Z29,P31,L7,Z30,P32,L8,Z31,P33,L9,Z32,P34,L10⟩ V15 _ W23 J15 I_2 f N74
    obtain⟨nv,B21,B22,B23,B24,D16,D17,D18,D19⟩:=I_2
    dsimp only[Hp.en] at N74
    obtain⟨I4,r_2,rfl,kM,T2⟩:=aK nv
    unfold aS at kM
    refine ah (ah ?_)
    obtain⟨ns,la,F25⟩:=bS kM
    refine aW (λa_68 W24=>∃G3,ns=G3∧∃V16,V15.le V16∧Frm 178 ((89,bO G3)::kpL [0,2,3,5,8,9,10,11,12,14,16,17,18] f.fr) a_68∧Hp w0 V16 (N74.en) W24) ?_ ?_
    ·refine ay (Y f 5 λ_ f=>?_)
     rcases cE la with⟨B25,F26⟩|⟨B25,F27⟩
     ·have f:=f.st 83 (cB B25)
      refine Y f 3 λ_ f=>Z f (XO N74 4) λ_ f=>Ye f 2 λ_ f=>?_
      exact⟨_,(sI F26).symm,_,mL,f.kp,N74.kr⟩
     have f:=f.st 83 (cB B25)
     refine Ye f 6 λ_ f=>?_
     exact⟨_,(sI F27).symm,_,mL,f.kp,N74.kr⟩
    rintro a_68 W24 ⟨G3,qt,V16,J16,f,N75⟩
    dsimp only[Hp.en] at N75
    subst ns
    refine az (RcF f F25 (λB26 F28=>?_) λB26 F65=>?_)
    ·refine St (ah (wp_block (ah ?_)))
     obtain⟨qh,mK,F29⟩:=bS F28
     refine aW (λa_96 W42=>∃G4,qh=G4∧∃V20,V16.le V20∧∃C3 c_9,Rep V20 (ai G4) c_9∧(∀j u,c_9[j]? =some u→V20.cell? (C3.add j)=some u)∧Frm 178 ((19,Pa C3)::kpL [0,2,3,5,8,9,10,11,12,14,16,17,18] f.fr) a_96∧Hp w0 V20 (N75.en) W42) ?_ ?_
     ·obtain⟨X9,l9,F30⟩:=bS mK
      obtain⟨X10,l10,F31⟩:=bS F30
      refine dG [11] 0 N75 (.quiet 0 (.quiet 1 (.quiet 2 (.quiet 3 (.quiet 4 (.alt 5 (.quiet 6 (.quiet 7 (.quiet 8 (.alt 9 (.alt 10 .done .none) .none)))) (.alt 9 (.alt 5 (.quiet 6 (.quiet 7 (.quiet 8 (.alt 10 .done .none)))) .none) .none))))))) (Y1 rfl f rfl rfl (λ_ pq=>XO pq 5) λ_ f=>Y1 (v:=sL Z24 X8 P26) rfl f rfl rfl (λ_ _=>by kernel_rfl) λ_ f=>Y1 (v:=iL K2.1) rfl f rfl rfl (λ_ _=>by kernel_rfl) λ_ f=>?_)
      obtain⟨C2,c_6,ly,D22,R6⟩:=Sli.aM V16 B20 l9
      obtain rfl:c_6=[S X9]:=D22
      refine Y1 rfl f rfl rfl (λ_ pq=>XI ly l9) λ_ f=>Y1 rfl f rfl rfl (λ_ pq=>XK pq R6 0) λ_ f=>ao rfl (λW28 N79=>?_) ?_
      ·refine Y8 f N79 (cZ n _ _ X3.1 (TE0.shutx B10.mo B11.mo) X9 X10 l10) λ_ V18 W29 J18 N80 q_7 _ f=>?_
       obtain⟨c_7,rfl,D23⟩:=q_7
       obtain⟨Z35,P37,Z36,P38,rfl,B29,B30⟩:=TE0.opn D23
       refine ag rfl (ap 0 J18 N80 (Y1 (v:=.tuple #[.agg (aTE0 X10.1 Z35 P37 Z36 P38),bO X10.2]) rfl f rfl rfl (λ_ _=>by kernel_rfl) λ_ f=>Y1 (v:=.agg (aTE0 X10.1 Z35 P37 Z36 P38)) rfl f rfl rfl (λ_ _=>by kernel_rfl) λ_ f=>Y1 (v:=bO X10.2) rfl f rfl rfl (λ_ _=>by kernel_rfl) λ_ f=>ao rfl (λW30 N81=>?_) ?_))
       ·refine Y4 f N81 (.cells #[iB 0,bO false,iL 0,S [],Sn,Sn] 26 (0,0)) λQ13 W31 N82 _ f=>ag rfl (ap 1 J18 N82 (ao rfl (λW32 N83=>?_) ?_))
        ·refine Wu f N83 0 0 (lTE0 X10.1 Z35 P37 Z36 P38) λW33 N84 _ f=>ag rfl (ap 1 J18 N84 (dp λW34 N85=>Y f 1 λ_ f=>ag rfl (jD ?_)))
         obtain⟨V21,J21,N94,R7⟩:=N85.fzOwn
         refine az ?_
         exact⟨_,(sI F31).symm,_,mL,⟨Q13,0,none⟩,_,D23.mo,(bF (R7) 0 rfl),f.kp,N94.kr⟩
        exact al
       exact al
      refine ao rfl (λW35 N86=>?_) ?_
      ·refine Y4 f N86 (.cells #[iB 0,bO false,iL 0,S [],Sn,Sn] 26 (0,0)) λQ14 W36 N87 _ f=>ag rfl (ap 1 mL N87 (ao rfl (λW37 N88=>?_) ?_))
       ·refine Y8 f N88 (cZ n _ _ X3.1 (TE0.shutx B10.mo B11.mo) X9 X10 l10) λ_ V19 W38 J19 N89 q_8 _ f=>?_
        obtain⟨c_8,rfl,D24⟩:=q_8
        obtain⟨Z37,P39,Z38,P40,rfl,B31,B32⟩:=TE0.opn D24
        refine ag rfl (ap 1 J19 N89 (Y1 (v:=.tuple #[.agg (aTE0 X10.1 Z37 P39 Z38 P40),bO X10.2]) rfl f rfl rfl (λ_ _=>by kernel_rfl) λ_ f=>Y1 (v:=.agg (aTE0 X10.1 Z37 P39 Z38 P40)) rfl f rfl rfl (λ_ _=>by kernel_rfl) λ_ f=>Y1 (v:=bO X10.2) rfl f rfl rfl (λ_ _=>by kernel_rfl) λ_ f=>ao rfl (λW39 N90=>?_) ?_))
        ·refine Wu f N90 0 0 (lTE0 X10.1 Z37 P39 Z38 P40) λW40 N91 _ f=>ag rfl (ap 1 J19 N91 (dp λW41 N92=>Y f 1 λ_ f=>ag rfl (jD ?_)))
         obtain⟨V22,J22,N95,R8⟩:=N92.fzOwn
         refine az ?_
         exact⟨_,(sI F31).symm,_,mL,⟨Q14,0,none⟩,_,D24.mo,(bF (R8) 0 rfl),f.kp,N95.kr⟩
        exact al
       exact al
      exact al
     rintro a_96 W42 ⟨G4,hq_5,V20,J20,C3,c_9,D25,rY,f,N93⟩
     dsimp only[Hp.en] at N93
     subst qh
     obtain⟨Z39,P41,Z40,P42,rfl,B33,B34⟩:=TE0.opn D25
     refine az (RR (Y f 3 λ_ f=>?_))
     obtain⟨X14,l11,F32⟩:=bS F29
     obtain⟨C4,c_10,qm,D26,R9⟩:=N93.at_ B20 l11
     obtain rfl:c_10=[S X14]:=D26
     refine Z f (XI qm l11) λ_ f=>Y7 f N93 R9 0 rfl λ_ f=>?_
     obtain⟨X15,l12,F33⟩:=bS F32
     refine Y9 f N93 (be n _ X4 X14 X15 l12) λW43 N96 _ f=>Ye f 1 λ_ f=>ah (RR (Y f 2 λ_ f=>?_))
     obtain⟨X16,l13,F34⟩:=bS F33
     obtain⟨C5,c_11,qn,D27,R10⟩:=N96.at_ B20 l13
     obtain rfl:c_11=[S X16]:=D27
     refine Z f (XI qn l13) λ_ f=>Y7 f N96 R10 0 rfl λ_ f=>?_
     obtain⟨X17,l14,F35⟩:=bS F34
     refine Y9 f N96 (gN n _ X16 X17 l14) λW44 N97 _ f=>Ye f 1 λ_ f=>RcF f F35 (λB35 F36=>?_) λB35 F38=>?_
     ·refine RR (Y f 2 λ_ f=>?_)
      obtain⟨X18,l15,F37⟩:=bS F36
      have N99:=N97.pl [4]
      refine Ch f N99 (ax n _ b0 K2.2.1 K2.2.2.1 (120:Int) X15 X18 l15) λ_ V23 E_4 W45 J23 N98 q_9 _ f=>?_
      obtain⟨rfl,rfl⟩:=q_9
      refine eT (RR (Z f (XO N98 8) λ_ f=>?_))
      obtain⟨Z41,P43,V24,H12,J24,N100,B36⟩:=N98.rowSliK (f:=ba) (xs:=K2.t7.1) 1 58 Z29 P31 rz D16.mo
      have f:=Frm.set f 116 (v:=.agg #[.slice Z29 K2.2.2.2.2.2.2.2.1.length P31,.slice Z30 K2.2.2.2.2.2.2.2.2.1.length P32,.slice Z31 K2.2.2.2.2.2.2.2.2.2.1.length P33,.slice Z32 K2.2.2.2.2.2.2.2.2.2.2.length P34]) (v':=.agg #[.slice Z41 K2.2.2.2.2.2.2.2.1.length P43,.slice Z30 K2.2.2.2.2.2.2.2.2.1.length P32,.slice Z31 K2.2.2.2.2.2.2.2.2.2.1.length P33,.slice Z32 K2.2.2.2.2.2.2.2.2.2.2.length P34]) (by kernel_rfl) (by rw[H12])
      try simp only[sL] at H12 N100
      rw[H12] at N100
      obtain⟨Z42,P44,V25,H13,J25,N102,B37⟩:=N100.rowSliK (f:=aH) (xs:=K2.t8.1) 1 61 Z30 P32 dH D17.mo
      have f:=Frm.set f 116 (v:=.agg #[.slice Z41 K2.2.2.2.2.2.2.2.1.length P43,.slice Z30 K2.2.2.2.2.2.2.2.2.1.length P32,.slice Z31 K2.2.2.2.2.2.2.2.2.2.1.length P33,.slice Z32 K2.2.2.2.2.2.2.2.2.2.2.length P34]) (v':=.agg #[.slice Z41 K2.2.2.2.2.2.2.2.1.length P43,.slice Z42 K2.2.2.2.2.2.2.2.2.1.length P44,.slice Z31 K2.2.2.2.2.2.2.2.2.2.1.length P33,.slice Z32 K2.2.2.2.2.2.2.2.2.2.2.length P34]) (by kernel_rfl) (by rw[H13])
      try simp only[sL] at H13 N102
      rw[H13] at N102
      obtain⟨Z43,P45,V26,H14,J26,N104,B38⟩:=N102.rowSliK (f:=aY) (xs:=K2.t9.1) 1 66 Z31 P33 rx D18.mo
      have f:=Frm.set f 116 (v:=.agg #[.slice Z41 K2.2.2.2.2.2.2.2.1.length P43,.slice Z42 K2.2.2.2.2.2.2.2.2.1.length P44,.slice Z31 K2.2.2.2.2.2.2.2.2.2.1.length P33,.slice Z32 K2.2.2.2.2.2.2.2.2.2.2.length P34]) (v':=.agg #[.slice Z41 K2.2.2.2.2.2.2.2.1.length P43,.slice Z42 K2.2.2.2.2.2.2.2.2.1.length P44,.slice Z43 K2.2.2.2.2.2.2.2.2.2.1.length P45,.slice Z32 K2.2.2.2.2.2.2.2.2.2.2.length P34]) (by kernel_rfl) (by rw[H14])
      try simp only[sL] at H14 N104
      rw[H14] at N104
      obtain⟨Z44,P46,V27,H15,J27,N106,B39⟩:=N104.rowSliK (f:=bc) (xs:=K2.t10) 1 68 Z32 P34 ry D19.mo
      have f:=Frm.set f 116 (v:=.agg #[.slice Z41 K2.2.2.2.2.2.2.2.1.length P43,.slice Z42 K2.2.2.2.2.2.2.2.2.1.length P44,.slice Z43 K2.2.2.2.2.2.2.2.2.2.1.length P45,.slice Z32 K2.2.2.2.2.2.2.2.2.2.2.length P34]) (v':=.agg #[.slice Z41 K2.2.2.2.2.2.2.2.1.length P43,.slice Z42 K2.2.2.2.2.2.2.2.2.1.length P44,.slice Z43 K2.2.2.2.2.2.2.2.2.2.1.length P45,.slice Z44 K2.2.2.2.2.2.2.2.2.2.2.length P46]) (by kernel_rfl) (by rw[H15])
      try simp only[sL] at H15 N106
      rw[H15] at N106
      refine Wu f N106 5 0 [sL Z41 K2.t7.1 P43,sL Z42 K2.t8.1 P44,sL Z43 K2.t9.1 P45,sL Z44 K2.t10 P46] λW46 N108 _ f=>Er (bl (eu (bl (bl ?_))))
      cases sI F37
      exact .inl ⟨rfl,_,(sI T2).symm,_,mL,Z41,P43,Z42,P44,Z43,P45,Z44,P46,Z41,P43,Z42,P44,Z43,P45,Z44,P46,B36.mo,B37.mo,B38.mo,B39,B36.mo,B37.mo,B38.mo,B39,f.kp,N108.kr⟩
     refine St (RR (Ye f 1 λ_ f=>wp_block (RR (Ye f 2 λ_ f=>RcF f F38 (λB40 F39=>?_) λB40 F45=>?_))))
     ·obtain⟨j_5,hj_5,F40⟩:=bS F39
      refine aW (λa_137 W58=>∃G5,j_5=G5∧∃V30,V20.le V30∧∃Z53 P55 L13,ae V30 (G5.2.2.map ba) L13∧Frm 178 (kpL [0,2,3,5,8,9,10,11,12,14,16,17,18] f.fr) a_137∧Hp w0 V30 ((rO 58 10 Z53 G5.2.2 P55 L13)::setE (setE (setE (selE [4,1,2,3,5,6,7,8,9] 10 N97.en) 0 0 [iL G5.1]) 0 1 [S G5.2.1]) 7 0 [sL Z53 G5.2.2 P55]) W58) ?_ ?_
      ·have N122:=N97.pl [9,9,9,9,9,8,8,8,9,9]
       obtain⟨X19,l16,F41⟩:=bS hj_5
       obtain⟨X20,l17,F42⟩:=bS F41
       obtain⟨O2,F43⟩:=nS F42
       refine dG [12,13] 2 N122 (.quiet 0 (.quiet 1 (.quiet 2 (.quiet 3 (.quiet 4 (.quiet 5 (.quiet 6 (.quiet 7 (.quiet 8 (.alt 9 (.alt 10 (.alt 11 .done .none) .none) .none)))))))))) (Y1 (v:=pP Q3) rfl f rfl rfl (λ_ _=>by kernel_rfl) λ_ f=>Y1 rfl f rfl rfl (λ_ pq=>XO pq 6) λ_ f=>Y1 (v:=pP b0) rfl f rfl rfl (λ_ _=>by kernel_rfl) λ_ f=>Y1 (v:=sL Z24 X8 P26) rfl f rfl rfl (λ_ _=>by kernel_rfl) λ_ f=>Y1 (v:=iL K2.1) rfl f rfl rfl (λ_ _=>by kernel_rfl) λ_ f=>?_)
       obtain⟨C7,c_14,e_6,D31,R12⟩:=Sli.aM V20 B20 l16
       obtain rfl:c_14=[S X19]:=D31
       refine Y1 rfl f rfl rfl (λ_ pq=>XI e_6 l16) λ_ f=>Y1 rfl f rfl rfl (λ_ pq=>XK pq R12 0) λ_ f=>Y1 rfl f rfl rfl (λ_ pq=>XK pq rY 0) λ_ f=>Y1 (v:=S X15) rfl f rfl rfl (λ_ _=>by kernel_rfl) λ_ f=>ao rfl (λW50 N123=>?_) ?_
       ·have N125:=N123.pl [1]
        refine Ch f N125 (nu n _ b0 K2.2.1 K2.2.2.1 X19 _ G4 D25.mo X15 X20 l17) λ_ V29 E_6 W51 J29 N124 q_11 _ f=>?_
        obtain⟨c_15,rfl,rfl,D32⟩:=q_11
        obtain⟨Z49,P51,Z50,P52,Z51,P53,rfl,B44,B45,B46⟩:=TD0.opn D32
        refine ag rfl (ap 2 J29 N124 (ao rfl (λW52 N126=>?_) ?_))
        ·refine aE (k:=1) (c:=1) f N126 (.cells (aTD0 X20.1 Z49 P51 Z50 P52 Z51 P53) 58 (0,0)) kr (λ_=>by kernel_rfl) λQ16 W53 N127 _ f=>ag rfl (ap 3 J29 N127 (ao rfl (λW54 N128=>?_) ?_))
         ·refine dM X20.1 0 f (N128.toRow 2 58 10 Z29 P31 D16.mo) D16.mo (TD0.shutx B44 B45 B46) O2 λZ52 P54 L12 W55 N129 D33 _ f=>ag rfl (ap 2 J29 N129 (dp λW56 N130=>Y f 1 λ_ f=>Wt f N130 8 0 (sL Z52 (K2.t7.1++[X20.1]) P54) λW57 N131 _ f=>ag rfl (jD (az ?_))))
          exact⟨_,(sI F43).symm,_,J29,Z52,P54,L12,D33,f.kp,N131.kr⟩
         exact al
        exact al
       exact al
      rintro a_137 W58 ⟨G5,hq_6,V30,J30,Z53,P55,L13,D34,f,N132⟩
      dsimp only[Hp.en] at N132
      subst j_5
      refine ec (ec (az (ay (Y f 1 λ_ f=>?_))))
      obtain⟨O3,F44⟩:=nS F40
      refine Y f 1 λ_ f=>?_
      have f:=f.st 91 (iW O3)
      refine Y f 1 λ_ f=>ag rfl ?_
      have N216:=N132.pl [9,9,9,9,9,6,9,9,9,9]
      refine az ?_
      cases sI F44
      exact⟨⟨_,_,Z25,P27,Z26,P28,Z27,P29,Z28,P30,Z53,P55,L13,Z30,P32,L8,Z31,P33,L9,Z32,P34,L10⟩,Nat.lt_succ_self _,_,mL,⟨T2,B21.mo,B22.mo,B23.mo,B24.mo,D34,D17.mo,D18.mo,D19.mo⟩,f.kp,N216.kr⟩
     refine RR (Ye f 2 λ_ f=>RcF f F45 (λB47 F46=>?_) λB47 F52=>?_)
     ·obtain⟨j_6,hj_6,F47⟩:=bS F46
      refine aW (λa_166 W70=>∃G6,j_6=G6∧∃V33,V20.le V33∧∃Z62 P64 L16,ae V33 (G6.2.2.map aH) L16∧Frm 178 (kpL [0,2,3,5,8,9,10,11,12,14,16,17,18] f.fr) a_166∧Hp w0 V33 ((rO 61 15 Z62 G6.2.2 P64 L16)::setE (setE (setE (selE [4,0,2,3,5,6,7,8,9] 10 N97.en) 0 0 [iL G6.1]) 0 1 [S G6.2.1]) 7 1 [sL Z62 G6.2.2 P64]) W70) ?_ ?_
      ·have N146:=N97.pl [9,9,9,9,9,8,8,7,9,9]
       obtain⟨X23,l18,F48⟩:=bS hj_6
       obtain⟨X24,l19,F49⟩:=bS F48
       obtain⟨O4,F50⟩:=nS F49
       refine dG [12,13] 2 N146 (.quiet 0 (.quiet 1 (.quiet 2 (.quiet 3 (.quiet 4 (.quiet 5 (.quiet 6 (.quiet 7 (.quiet 8 (.alt 9 (.alt 10 (.alt 11 .done .none) .none) .none)))))))))) (Y1 (v:=Pa (⟨Q3,1,none⟩)) rfl f rfl rfl (λ_ _=>by kernel_rfl) λ_ f=>Y1 rfl f rfl rfl (λ_ pq=>XO pq 6) λ_ f=>Y1 (v:=pP b0) rfl f rfl rfl (λ_ _=>by kernel_rfl) λ_ f=>Y1 (v:=sL Z24 X8 P26) rfl f rfl rfl (λ_ _=>by kernel_rfl) λ_ f=>Y1 (v:=iL K2.1) rfl f rfl rfl (λ_ _=>by kernel_rfl) λ_ f=>?_)
       obtain⟨C9,c_18,e_8,D38,R14⟩:=Sli.aM V20 B20 l18
       obtain rfl:c_18=[S X23]:=D38
       refine Y1 rfl f rfl rfl (λ_ pq=>XI e_8 l18) λ_ f=>Y1 rfl f rfl rfl (λ_ pq=>XK pq R14 0) λ_ f=>Y1 rfl f rfl rfl (λ_ pq=>XK pq rY 0) λ_ f=>Y1 (v:=S X15) rfl f rfl rfl (λ_ _=>by kernel_rfl) λ_ f=>ao rfl (λW62 N147=>?_) ?_
       ·have N149:=N147.pl [1]
        refine Ch f N149 (mA n _ b0 K2.2.1 K2.2.2.1 X23 _ G4 D25.mo X15 X24 l19) λ_ V32 E_8 W63 J32 N148 q_13 _ f=>?_
        obtain⟨c_19,rfl,rfl,D39⟩:=q_13
        obtain⟨Z58,P60,Z59,P61,Z60,P62,rfl,B51,B52,B53⟩:=TH0.opn D39
        refine ag rfl (ap 2 J32 N148 (ao rfl (λW64 N150=>?_) ?_))
        ·refine aE (k:=1) (c:=1) f N150 (.cells (aTH0 X24.1 Z58 P60 Z59 P61 Z60 P62) 61 (0,0)) kr (λ_=>by kernel_rfl) λQ18 W65 N151 _ f=>ag rfl (ap 3 J32 N151 (ao rfl (λW66 N152=>?_) ?_))
         ·refine dM X24.1 0 f (N152.toRow 2 61 15 Z30 P32 D17.mo) D17.mo (TH0.shutx B51 B52 B53) O4 λZ61 P63 L15 W67 N153 D40 _ f=>ag rfl (ap 2 J32 N153 (dp λW68 N154=>Y f 1 λ_ f=>Wt f N154 8 1 (sL Z61 (K2.t8.1++[X24.1]) P63) λW69 N155 _ f=>ag rfl (jD (az ?_))))
          exact⟨_,(sI F50).symm,_,J32,Z61,P63,L15,D40,f.kp,N155.kr⟩
         exact al
        exact al
       exact al
      rintro a_166 W70 ⟨G6,hq_7,V33,J33,Z62,P64,L16,D41,f,N156⟩
      dsimp only[Hp.en] at N156
      subst j_6
      refine ec (ec (az (ay (Y f 1 λ_ f=>?_))))
      obtain⟨O5,F51⟩:=nS F47
      refine Y f 1 λ_ f=>?_
      have f:=f.st 91 (iW O5)
      refine Y f 1 λ_ f=>ag rfl ?_
      have N226:=N156.pl [9,9,9,9,9,6,9,9,8,9]
      refine az ?_
      cases sI F51
      exact⟨⟨_,_,Z25,P27,Z26,P28,Z27,P29,Z28,P30,Z29,P31,L7,Z62,P64,L16,Z31,P33,L9,Z32,P34,L10⟩,Nat.lt_succ_self _,_,mL,⟨T2,B21.mo,B22.mo,B23.mo,B24.mo,D16.mo,D41,D18.mo,D19.mo⟩,f.kp,N226.kr⟩
     refine RR (Ye f 2 λ_ f=>RcF f F52 (λB54 F53=>?_) λB54 F59=>?_)
     ·obtain⟨j_7,hj_7,F54⟩:=bS F53
      refine aW (λa_196 W82=>∃G7,j_7=G7∧∃V36,V20.le V36∧∃Z71 P73 L19,ae V36 (G7.2.2.map aY) L19∧Frm 178 (kpL [0,2,3,5,8,9,10,11,12,14,16,17,18] f.fr) a_196∧Hp w0 V36 ((rO 66 7 Z71 G7.2.2 P73 L19)::setE (setE (setE (selE [4,0,1,3,5,6,7,8,9] 10 N97.en) 0 0 [iL G7.1]) 0 1 [S G7.2.1]) 7 2 [sL Z71 G7.2.2 P73]) W82) ?_ ?_
      ·have N170:=N97.pl [9,9,9,9,9,8,7,7,9,9]
       obtain⟨X27,l20,F55⟩:=bS hj_7
       obtain⟨X28,l21,F56⟩:=bS F55
       obtain⟨O6,F57⟩:=nS F56
       refine dG [13,14] 2 N170 (.quiet 0 (.quiet 1 (.quiet 2 (.quiet 3 (.quiet 4 (.quiet 5 (.quiet 6 (.quiet 7 (.quiet 8 (.quiet 9 (.alt 10 (.alt 11 (.alt 12 .done .none) .none) .none))))))))))) (Y1 (v:=Pa (⟨Q3,2,none⟩)) rfl f rfl rfl (λ_ _=>by kernel_rfl) λ_ f=>Y1 rfl f rfl rfl (λ_ pq=>XO pq 6) λ_ f=>Y1 (v:=pP b0) rfl f rfl rfl (λ_ _=>by kernel_rfl) λ_ f=>Y1 (v:=sL Z24 X8 P26) rfl f rfl rfl (λ_ _=>by kernel_rfl) λ_ f=>Y1 (v:=iL K2.1) rfl f rfl rfl (λ_ _=>by kernel_rfl) λ_ f=>?_)
       obtain⟨C11,c_22,e_10,D45,R16⟩:=Sli.aM V20 B20 l20
       obtain rfl:c_22=[S X27]:=D45
       refine Y1 rfl f rfl rfl (λ_ pq=>XI e_10 l20) λ_ f=>Y1 rfl f rfl rfl (λ_ pq=>XK pq R16 0) λ_ f=>Y1 rfl f rfl rfl (λ_ pq=>XK pq rY 0) λ_ f=>Y1 (v:=S X15) rfl f rfl rfl (λ_ _=>by kernel_rfl) λ_ f=>Y1 (v:=iL d3) rfl f rfl rfl (λ_ _=>by kernel_rfl) λ_ f=>ao rfl (λW74 N171=>?_) ?_
       ·have N173:=N171.pl [1]
        refine Ch f N173 (lG n rec_ref13_reader_template hrec_ref13_reader_template _ b0 K2.2.1 K2.2.2.1 X27 _ G4 D25.mo X15 d3 X28 l21) λ_ V35 E_10 W75 J35 N172 q_15 _ f=>?_
        obtain⟨c_23,rfl,rfl,D46⟩:=q_15
        obtain⟨Z67,P69,Z68,P70,Z69,P71,rfl,B58,B59,B60⟩:=TA0.opn D46
        refine ag rfl (ap 2 J35 N172 (ao rfl (λW76 N174=>?_) ?_))
        ·refine aE (k:=1) (c:=1) f N174 (.cells (aTA0 X28.1 Z67 P69 Z68 P70 Z69 P71) 66 (0,0)) kr (λ_=>by kernel_rfl) λQ20 W77 N175 _ f=>ag rfl (ap 3 J35 N175 (ao rfl (λW78 N176=>?_) ?_))
         ·refine dM X28.1 0 f (N176.toRow 2 66 7 Z31 P33 D18.mo) D18.mo (TA0.shutx B58 B59 B60) O6 λZ70 P72 L18 W79 N177 D47 _ f=>ag rfl (ap 2 J35 N177 (dp λW80 N178=>Y f 1 λ_ f=>Wt f N178 8 2 (sL Z70 (K2.t9.1++[X28.1]) P72) λW81 N179 _ f=>ag rfl (jD (az ?_))))
          exact⟨_,(sI F57).symm,_,J35,Z70,P72,L18,D47,f.kp,N179.kr⟩
         exact al
        exact al
       exact al
      rintro a_196 W82 ⟨G7,hq_8,V36,J36,Z71,P73,L19,D48,f,N180⟩
      dsimp only[Hp.en] at N180
      subst j_7
      refine ec (ec (az (ay (Y f 1 λ_ f=>?_))))
      obtain⟨O7,F58⟩:=nS F54
      refine Y f 1 λ_ f=>?_
      have f:=f.st 91 (iW O7)
      refine Y f 1 λ_ f=>ag rfl ?_
      have N236:=N180.pl [9,9,9,9,9,6,9,7,9,9]
      refine az ?_
      cases sI F58
      exact⟨⟨_,_,Z25,P27,Z26,P28,Z27,P29,Z28,P30,Z29,P31,L7,Z30,P32,L8,Z71,P73,L19,Z32,P34,L10⟩,Nat.lt_succ_self _,_,mL,⟨T2,B21.mo,B22.mo,B23.mo,B24.mo,D16.mo,D17.mo,D48,D19.mo⟩,f.kp,N236.kr⟩
     obtain⟨j_8,hj_8,F60⟩:=bS F59
     refine aW (λa_224 W94=>∃G8,j_8=G8∧∃V39,V20.le V39∧∃Z76 P78 L22,ae V39 (G8.2.2.map bc) L22∧Frm 178 (kpL [0,2,3,5,8,9,10,11,12,14,16,17,18] f.fr) a_224∧Hp w0 V39 ((rO 68 8 Z76 G8.2.2 P78 L22)::setE (setE (setE (selE [4,0,1,2,5,6,7,8,9] 10 N97.en) 0 0 [iL G8.1]) 0 1 [S G8.2.1]) 7 3 [sL Z76 G8.2.2 P78]) W94) ?_ ?_
     ·have N194:=N97.pl [9,9,9,9,9,7,7,7,9,9]
      obtain⟨X31,l22,F61⟩:=bS hj_8
      obtain⟨X32,l23,F62⟩:=bS F61
      obtain⟨O8,F63⟩:=nS F62
      refine dG [12,13] 2 N194 (.quiet 0 (.quiet 1 (.quiet 2 (.quiet 3 (.quiet 4 (.quiet 5 (.quiet 6 (.quiet 7 (.quiet 8 (.alt 9 (.alt 10 (.alt 11 .done .none) .none) .none)))))))))) (Y1 (v:=Pa (⟨Q3,3,none⟩)) rfl f rfl rfl (λ_ _=>by kernel_rfl) λ_ f=>Y1 rfl f rfl rfl (λ_ pq=>XO pq 6) λ_ f=>Y1 (v:=pP b0) rfl f rfl rfl (λ_ _=>by kernel_rfl) λ_ f=>Y1 (v:=sL Z24 X8 P26) rfl f rfl rfl (λ_ _=>by kernel_rfl) λ_ f=>Y1 (v:=iL K2.1) rfl f rfl rfl (λ_ _=>by kernel_rfl) λ_ f=>?_)
      obtain⟨C13,c_26,e_12,D52,R18⟩:=Sli.aM V20 B20 l22
      obtain rfl:c_26=[S X31]:=D52
      refine Y1 rfl f rfl rfl (λ_ pq=>XI e_12 l22) λ_ f=>Y1 rfl f rfl rfl (λ_ pq=>XK pq R18 0) λ_ f=>Y1 rfl f rfl rfl (λ_ pq=>XK pq rY 0) λ_ f=>Y1 (v:=S X15) rfl f rfl rfl (λ_ _=>by kernel_rfl) λ_ f=>ao rfl (λW86 N195=>?_) ?_
      ·have N197:=N195.pl [1]
       refine Ch f N197 (nc n _ b0 K2.2.1 K2.2.2.1 X31 _ G4 D25.mo X15 X32 l23) λ_ V38 E_12 W87 J38 N196 q_17 _ f=>?_
       obtain⟨c_27,rfl,rfl,D53⟩:=q_17
       obtain⟨Z74,P76,rfl,B62⟩:=TC0.opn D53
       refine ag rfl (ap 2 J38 N196 (ao rfl (λW88 N198=>?_) ?_))
       ·refine aE (k:=1) (c:=1) f N198 (.cells (aTC0 X32.1 Z74 P76) 68 (0,0)) kr (λ_=>by kernel_rfl) λQ22 W89 N199 _ f=>ag rfl (ap 3 J38 N199 (ao rfl (λW90 N200=>?_) ?_))
        ·refine dM X32.1 0 f (N200.toRow 2 68 8 Z32 P34 D19.mo) D19.mo (TC0.shutx B62) O8 λZ75 P77 L21 W91 N201 D54 _ f=>ag rfl (ap 2 J38 N201 (dp λW92 N202=>Y f 1 λ_ f=>Wt f N202 8 3 (sL Z75 (K2.t10++[X32.1]) P77) λW93 N203 _ f=>ag rfl (jD (az ?_))))
         exact⟨_,(sI F63).symm,_,J38,Z75,P77,L21,D54,f.kp,N203.kr⟩
        exact al
       exact al
      exact al
     rintro a_224 W94 ⟨G8,hq_9,V39,J39,Z76,P78,L22,D55,f,N204⟩
     dsimp only[Hp.en] at N204
     subst j_8
     refine ec (ec (az (ay (Y f 1 λ_ f=>?_))))
     obtain⟨O9,F64⟩:=nS F60
     refine Y f 1 λ_ f=>?_
     have f:=f.st 91 (iW O9)
     refine Y f 1 λ_ f=>ag rfl ?_
     have N246:=N204.pl [9,9,9,9,9,6,6,9,9,9]
     refine az ?_
     cases sI F64
     exact⟨⟨_,_,Z25,P27,Z26,P28,Z27,P29,Z28,P30,Z29,P31,L7,Z30,P32,L8,Z31,P33,L9,Z76,P78,L22⟩,Nat.lt_succ_self _,_,mL,⟨T2,B21.mo,B22.mo,B23.mo,B24.mo,D16.mo,D17.mo,D18.mo,D55⟩,f.kp,N246.kr⟩
    refine wp_exit (dJ (dJ ?_))
    cases sI F65
    exact .inr ⟨rfl,_,(sI T2).symm,_,mL,Z29,P31,L7,Z30,P32,L8,Z31,P33,L9,Z32,P34,L10,Z25,P27,Z26,P28,Z27,P29,Z28,P30,D16.mo,D17.mo,D18.mo,D19.mo,B21.mo,B22.mo,B23.mo,B24.mo,f.kp,N75.kr⟩
   rintro _ _ W97 (⟨rfl,G9,rfl,V40,J40,Z77,P79,Z78,P80,Z79,P81,Z80,P82,Z81,P83,Z82,P84,Z83,P85,Z84,P86,B63,B64,B65,B66,B67,B68,B69,B70,f,N205⟩|⟨rfl,G10,rfl,V41,J41,Z85,P87,L23,Z86,P88,L24,Z87,P89,L25,Z88,P90,L26,Z89,P91,Z90,P92,Z91,P93,Z92,P94,D56,D57,D58,D59,B71,B72,B73,B74,f,N206⟩)
   ·refine eu (eu (bl ?_))
    have N260:=N205.pl [5,5,2,5,5,5]
    refine bl ?_
    cases sI F24
    exact .inl ⟨rfl,_,(sI T1).symm,_,mL,Z77,P79,Z78,P80,Z79,P81,Z80,P82,Z81,P83,Z82,P84,Z83,P85,Z84,P86,B63,B64,B65,B66,B67,B68,B69,B70,f.kp,(N260.dropN 3).kr⟩
   refine jV (ec (az (ay (Y f 1 λ_ f=>?_))))
   obtain⟨O10,F66⟩:=nS F24
   refine Y f 1 λ_ f=>?_
   have f:=f.st 36 (iW O10)
   refine Y f 1 λ_ f=>ag rfl ?_
   have N270:=N206.pl [9,9,6,6,6,6,6,9,9,9]
   refine az ?_
   cases sI F66
   exact⟨⟨_,_,Z8,P8,L1,Z9,P9,L2,Z89,P91,Z90,P92,Z91,P93,Z92,P94,Z85,P87,L23,Z86,P88,L24,Z87,P89,L25,Z88,P90,L26⟩,Nat.lt_succ_self _,_,mL,⟨T1,D7.mo,D8.mo,B71,B72,B73,B74,D56,D57,D58,D59⟩,f.kp,(N270.dropN 1).kr⟩
  refine wp_exit (dJ (dJ ?_))
  cases sI F67
  exact .inr ⟨rfl,_,(sI T1).symm,_,J4,Z14,P14,L3,Z15,P15,L4,Z16,P16,L5,Z17,P17,L6,Z10,P10,Z11,P11,Z12,P12,Z13,P13,D9,D10,D11,D12,B5,B6,B7,B8,f.kp,(N30.dropN 2).kr⟩
 rintro _ _ W100 (⟨rfl,G11,rfl,V42,J42,Z93,P95,Z94,P96,Z95,P97,Z96,P98,Z97,P99,Z98,P100,Z99,P101,Z100,P102,B75,B76,B77,B78,B79,B80,B81,B82,f,N247⟩|⟨rfl,G12,rfl,V43,J43,Z101,P103,L27,Z102,P104,L28,Z103,P105,L29,Z104,P106,L30,Z105,P107,Z106,P108,Z107,P109,Z108,P110,D60,D61,D62,D63,B83,B84,B85,B86,f,N248⟩)
 ·refine eu (bl (bM f rfl (Rv.oN [sL Z97 G11.t6.1 P99,sL Z98 G11.t7.1 P100,sL Z99 G11.t8.1 P101,sL Z100 G11.t9 P102] f N247 2 0) ?_))
  cases sI F4
  have N272:=N247.pl [2,2]
  exact⟨_,rfl,_,_,mL,(N272.dropN 2).kr,⟨_,rfl,rfl,(TB0.shutx B79 B80 B81 B82)⟩⟩
 refine jV (az (RR (Z f (XO N248 5) λ_ f=>?_)))
 obtain⟨Z109,P111,V44,H16,J44,N273,B87⟩:=N248.rowSliK (f:=ba) (xs:=G12.2.2.1) 0 58 Z101 P103 rz D60
 have f:=Frm.set f 177 (v:=.agg #[.slice Z101 G12.2.2.1.length P103,.slice Z102 G12.2.2.2.1.length P104,.slice Z103 G12.2.2.2.2.1.length P105,.slice Z104 G12.2.2.2.2.2.1.length P106]) (v':=.agg #[.slice Z109 G12.2.2.1.length P111,.slice Z102 G12.2.2.2.1.length P104,.slice Z103 G12.2.2.2.2.1.length P105,.slice Z104 G12.2.2.2.2.2.1.length P106]) (by kernel_rfl) (by rw[H16])
 try simp only[sL] at H16 N273
 rw[H16] at N273
 obtain⟨Z110,P112,V45,H17,J45,N275,B88⟩:=N273.rowSliK (f:=aH) (xs:=G12.t3.1) 0 61 Z102 P104 dH D61.mo
 have f:=Frm.set f 177 (v:=.agg #[.slice Z109 G12.2.2.1.length P111,.slice Z102 G12.2.2.2.1.length P104,.slice Z103 G12.2.2.2.2.1.length P105,.slice Z104 G12.2.2.2.2.2.1.length P106]) (v':=.agg #[.slice Z109 G12.2.2.1.length P111,.slice Z110 G12.2.2.2.1.length P112,.slice Z103 G12.2.2.2.2.1.length P105,.slice Z104 G12.2.2.2.2.2.1.length P106]) (by kernel_rfl) (by rw[H17])
 try simp only[sL] at H17 N275
 rw[H17] at N275
 obtain⟨Z111,P113,V46,H18,J46,N277,B89⟩:=N275.rowSliK (f:=aY) (xs:=G12.t4.1) 0 66 Z103 P105 rx D62.mo
 have f:=Frm.set f 177 (v:=.agg #[.slice Z109 G12.2.2.1.length P111,.slice Z110 G12.2.2.2.1.length P112,.slice Z103 G12.2.2.2.2.1.length P105,.slice Z104 G12.2.2.2.2.2.1.length P106]) (v':=.agg #[.slice Z109 G12.2.2.1.length P111,.slice Z110 G12.2.2.2.1.length P112,.slice Z111 G12.2.2.2.2.1.length P113,.slice Z104 G12.2.2.2.2.2.1.length P106]) (by kernel_rfl) (by rw[H18])
 try simp only[sL] at H18 N277
 rw[H18] at N277
 obtain⟨Z112,P114,V47,H19,J47,N279,B90⟩:=N277.rowSliK (f:=bc) (xs:=G12.t5.1) 0 68 Z104 P106 ry D63.mo
 have f:=Frm.set f 177 (v:=.agg #[.slice Z109 G12.2.2.1.length P111,.slice Z110 G12.2.2.2.1.length P112,.slice Z111 G12.2.2.2.2.1.length P113,.slice Z104 G12.2.2.2.2.2.1.length P106]) (v':=.agg #[.slice Z109 G12.2.2.1.length P111,.slice Z110 G12.2.2.2.1.length P112,.slice Z111 G12.2.2.2.2.1.length P113,.slice Z112 G12.2.2.2.2.2.1.length P114]) (by kernel_rfl) (by rw[H19])
 try simp only[sL] at H19 N279
 rw[H19] at N279
 refine Wu f N279 2 0 [sL Z109 G12.2.2.1 P111,sL Z110 G12.t3.1 P112,sL Z111 G12.t4.1 P113,sL Z112 G12.t5.1 P114] λW101 N281 _ f=>Er (bM f rfl (Rv.oN [sL Z109 G12.2.2.1 P111,sL Z110 G12.t3.1 P112,sL Z111 G12.t4.1 P113,sL Z112 G12.t5.1 P114] f N281 2 0) ?_)
 cases sI F4
 have N283:=N281.pl [2,2]
 exact⟨_,rfl,_,_,mL,(N283.dropN 2).kr,⟨_,rfl,rfl,(TB0.shutx B87.mo B88.mo B89.mo B90)⟩⟩
def aG (n:Nat):Nat→Int→Bs→TE0→Bs→Int→Option (TB0×Int×Bs)
 |0=>λ_ _ _ _ _=>none
 |k+1=>dB n (aG n k)
def iM (n:Nat) (aO:Int) (aC:Bs) (d1:TE0) (d2:Bs) (d3:Int):Option (TB0×Int×Bs):=aG n n aO aC d1 d2 d3
theorem mn (n:Nat) (M:Mem) (b0:Nat) (aO:Int) (aC:Bs) (c1:Lv) (d1:TE0) (h1:Rep M (ai d1) c1) (d2:Bs) (d3:Int) (r:TB0×Int×Bs) (hF:iM n aO aC d1 d2 d3=some r):OkH Tryz.prog M [oC b0 #[iL aO,S aC] 54] 24 [pP b0,.agg c1.toArray,S d2,iL d3] (λM' E' v=>∃ (c0:Lv),v=.agg c0.toArray∧E'=[oC b0 #[iL r.2.1,S r.2.2] 54]∧Rep M' (bB r.1) c0):=by
 have key: ∀ (k:Nat) (M:Mem) (b0:Nat) (aO:Int) (aC:Bs) (c1:Lv) (d1:TE0) (h1:Rep M (ai d1) c1) (d2:Bs) (d3:Int) (r:TB0×Int×Bs) (hF:aG n k aO aC d1 d2 d3=some r),OkH Tryz.prog M [oC b0 #[iL aO,S aC] 54] 24 [pP b0,.agg c1.toArray,S d2,iL d3] (λM' E' v=>∃ (c0:Lv),v=.agg c0.toArray∧E'=[oC b0 #[iL r.2.1,S r.2.2] 54]∧Rep M' (bB r.1) c0):=by
  intro k
  induction k with
  |zero=>intro M b0 aO aC c1 d1 h1 d2 d3 r hF;simp[aG] at hF
  |succ k ih=>intro M b0 aO aC c1 d1 h1 d2 d3 r hF;exact lH n (aG n k) ih M b0 aO aC c1 d1 h1 d2 d3 r hF
 exact key n M b0 aO aC c1 d1 h1 d2 d3 r hF
def mY (n:Nat) (d0:TE0):Option (TB0×Bs×Int):=
 (jX n d0).bind λX1=>
 bif(!(decide (X1=0))) then
  (some ((ra,([]:Bs),X1)))
 else
  (iM n (0:Int) ([]:Bs) d0 ([]:Bs) (0:Int)).bind λX2=>
  bif(!(decide (X2.2.1=0))) then
   (some ((ra,X2.2.2,X2.2.1)))
  else
   some ((X2.1,([]:Bs),(0:Int)))
theorem sX (n:Nat) (M:Mem) (c0:Lv) (d0:TE0) (h0:Rep M (ai d0) c0) (r:TB0×Bs×Int) (hF:mY n d0=some r):Ok Tryz.prog M 12 [.agg c0.toArray] (λM' v=>∃ (c0:Lv),v=.tuple #[.agg c0.toArray,S r.2.1,iL r.2.2]∧Rep M' (bB r.1) c0):=by
 unfold mY at hF
 intro M1 hM0 w0 H w p0
 replace h0:=Rep.mono hM0 _ _ h0
 obtain⟨Z1,P1,Z2,P2,rfl,B1,B2⟩:=TE0.opn h0
 refine Re 34 Tryz.func12 rfl λa0 f0=>RR (Y5 (cs:=(aTE0 d0 Z1 P1 Z2 P2)) (T:=26) f0 p0 λQ1 V1 W1 J1 R1 N1 _ f=>?_)
 have R2:=aU R1
 refine Y4 f N1 (.cells #[Sn,Sn,Sn,Sn] 41 (0,0)) λQ2 W2 N2 _ f=>Ye f 2 λ_ f=>RR (Z f (XK N2 R2 0) λ_ f=>?_)
 obtain⟨X1,l1,F1⟩:=bS hF
 refine Y9 f N2 (nO n _ _ d0 h0.mo X1 l1) λW3 N3 _ f=>Ye f 1 λ_ f=>ah (RR (Ye f 2 λ_ f=>RcF f F1 (λB3 F2=>?_) λB3 F3=>?_))
 ·refine RR (Y f 2 λ_ f=>Wu f N3 0 0 [Sn,Sn,Sn,Sn] λW4 N4 _ f=>Ye f 2 λ_ f=>wp_ret (bl (pn f rfl (Rv.oN [Sn,Sn,Sn,Sn] f N4 0 0) (Rv.slot (v:=S []) f kr) (Rv.slot (v:=iL X1) f kr) ?_)))
  cases sI F2
  exact⟨_,rfl,_,J1,(N4.dropN 1).kr,⟨_,rfl,(TB0.shutx Sli.nil Sli.nil Sli.nil Sli.nil)⟩⟩
 refine St (RR (Y f 1 λ_ f=>Y4 f N3 (.cells #[iL 0,S []] 54 (0,0)) λQ3 W5 N5 _ f=>Ye f 1 λ_ f=>RR (Y f 1 λ_ f=>Z f (XK N5 R2 0) λ_ f=>?_)))
 obtain⟨X2,l2,F4⟩:=bS F3
 refine Ch f N5 (mn n _ Q3 (0:Int) ([]:Bs) _ d0 h0.mo ([]:Bs) (0:Int) X2 l2) λ_ V2 mG W6 J2 N6 ef _ f=>?_
 obtain⟨dW,rfl,rfl,D1⟩:=ef
 obtain⟨Z3,P3,Z4,P4,Z5,P5,Z6,P6,rfl,B4,B5,B6,B7⟩:=TB0.opn D1
 refine Y4 f N6 (.cells #[Sn,Sn,Sn,Sn] 41 (0,0)) λQ4 W7 N7 _ f=>Wu f N7 0 0 (lTB0 X2.1 Z3 P3 Z4 P4 Z5 P5 Z6 P6) λW8 N8 _ f=>eT (ah (RR (Y f 3 λ_ f=>Z f (XO N8 1) λ_ f=>Ye f 1 λ_ f=>RcF f F4 (λB8 F5=>?_) λB8 F6=>?_)))
 ·refine ah (cu 0 [(0,true),(1,true),(2,true),(3,true),(4,true),(5,true),(6,true),(7,true),(8,true),(9,false),(10,true),(11,true)] N8 (Y0 default f 4 λ_ f=>bG f kr kr rfl rfl (λ_ pq=>XO pq 1) λ_ f=>Y0 default f 3 λ_ f=>bG f kr kr rfl rfl (λ_ pq=>XO pq 1) λ_ f=>bI λW9 N9=>Wu f N9 2 0 [Sn,Sn,Sn,Sn] λW10 N10 _ f=>ag rfl (bL 0 mL N10 (Y0 default f 2 λ_ f=>dx rfl λW11 N11=>az (wp_ret (bl (pn f rfl (Rv.oN [Sn,Sn,Sn,Sn] f N11 2 0) (Rv.slot (v:=S X2.2.2) f kr) (Rv.slot (v:=iL X2.2.1) f kr) ?_)))))))
  cases sI F5
  exact⟨_,rfl,_,mL,(N11.dropN 3).kr,⟨_,rfl,(TB0.shutx Sli.nil Sli.nil Sli.nil Sli.nil)⟩⟩
 refine St (RR (Z f (XO N8 0) λ_ f=>Wu f N8 2 0 (lTB0 X2.1 Z3 P3 Z4 P4 Z5 P5 Z6 P6) λW12 N12 _ f=>Ye f 2 λ_ f=>wp_ret (pn f rfl (Rv.oN (lTB0 X2.1 Z3 P3 Z4 P4 Z5 P5 Z6 P6) f N12 2 0) (Rv.slot (v:=S []) f kr) (Rv.slot (v:=iL 0) f kr) ?_)))
 cases sI F6
 exact⟨_,rfl,_,mL,(N12.dropN 3).kr,⟨_,rfl,D1.mo⟩⟩
structure At (d:Nat) (v:TE0) (p:Bs):Prop where
 sm:Small d v
 ok:OkV v
 d30:d≤30
 len:p.length+6000*d≤500000
 dep:depthV v≤24
 few: (dr v).length≤4096
theorem rM {x:TE0}: ∀ {l:List TE0},x∈l→depthV x≤depthVs l
 |y::r,h=>by
  rw[depthVs]
  rcases List.mem_cons.1 h with rfl|h
  ·exact Nat.le_max_left _ _
  exact Nat.le_trans (rM h) (Nat.le_max_right _ _)
theorem tQ {x:TE0}: ∀ {l:List TE0},x∈l→(dr x).length≤(bU l).length
 |y::r,h=>by
  rw[bU,List.length_append]
  rcases List.mem_cons.1 h with rfl|h
  ·omega
  have:=tQ h;omega
theorem At.part {d:Nat} {v x:TE0} {p q:Bs} (h:At d v p) (hx:x∈v.ac) (hq:q.length≤p.length+5500): ∃e,e<d∧At e x q:=by
 cases d with
 |zero=>exact h.sm.elim
 |succ e=>
  have h1:=h.d30
  have h2:=h.len
  have h3:=h.dep
  have h4:=h.few
  have h5:=rM hx
  have h6:=tQ hx
  rw[oo] at h3
  rw[jn,List.length_cons] at h4
  exact⟨e,Nat.lt_succ_self _,h.sm.2.2.2.2 x hx,h.ok.part hx,by omega,by omega,by omega,by omega⟩
theorem At.wide {d:Nat} {v:TE0} {p:Bs} (h:At d v p):Wide v:=h.sm.wide
theorem At.le {d:Nat} {v:TE0} {p:Bs} (h:At d v p):p.length≤500000:=by have:=h.len;omega
theorem At.txt {d:Nat} {v:TE0} {p:Bs} (h:At d v p):v.aa.length≤5000:=h.wide.2.2.1
theorem At.fine {d:Nat} {v:TE0} {p:Bs} (h:At d v p):Fine v:=⟨Small.le (by have:=h.d30;omega) h.sm,by have:=h.few;omega⟩
theorem At.zero {d:Nat} {v:TE0} {p:Bs} (h:At d v p):checkV v=0:=checkV_of h.ok h.dep h.few
def placeV (key:Bs):List Bs→Option Nat
 |[]=>none
 |k::r=>if k=key then some 0 else(placeV key r).map (· +1)
theorem kB: ∀ {key:Bs} {l:List Bs} {i:Nat},placeV key l=some i→l[i]? =some key∧∀j,j<i→l[j]? ≠some key
 |key,k::r,i,h=>by
  rw[placeV] at h
  by_cases e:k=key
  ·rw[if_pos e] at h
   obtain rfl:=Option.some.inj h
   exact⟨by rw[e];rfl,λj hj=>absurd hj (by omega)⟩
  rw[if_neg e] at h
  obtain⟨j,hj,rfl⟩:=Option.map_eq_some_iff.1 h
  obtain⟨h1,h2⟩:=kB hj
  refine⟨by simpa using h1,λq hq=>?_⟩
  cases q with
  |zero=>simpa using e
  |succ q=>simpa using h2 q (by omega)
theorem mP: ∀ {key:Bs} {l:List Bs},placeV key l=none→key∉l
 |key,[],_=>by simp
 |key,k::r,h=>by
  rw[placeV] at h
  by_cases e:k=key
  ·rw[if_pos e] at h;cases h
  rw[if_neg e] at h
  have:=mP (Option.map_eq_none_iff.1 h)
  simp only[List.mem_cons,not_or]
  exact⟨λh=>e h.symm,this⟩
theorem pQ {key:Bs} {l:List Bs} {i:Nat} (h:placeV key l=some i):i<l.length:=(List.getElem?_eq_some_iff.1 (kB h).1).1
theorem qV {key:Bs} {l:List Bs} {q:Nat} (hq:l[q]? =some key) (hf: ∀j,j<q→l[j]? ≠some key):placeV key l=some q:=by
 cases h:placeV key l with
 |none=>exact absurd (List.mem_of_getElem? hq) (mP h)
 |some i=>
  obtain⟨a,b⟩:=kB h
  rcases Nat.lt_trichotomy i q with hl|hl|hl
  ·exact absurd a (hf i hl)
  ·rw[hl]
  exact absurd hq (b q hl)
theorem tz {n:Nat} (hn:6000<n) (l:List Bs) (key:Bs) (hl:l.length≤3000):cr n l key=some (match placeV key l with|some i=>(i:Int)|none=> -1):=by
 unfold cr
 obtain⟨b,hb,hp⟩:=gD (step:=cc n l key) (n:=n) (s0:=(0:Int)) (λq s=>s=(q:Int)∧∀j,j<q→l[j]? ≠some key)
  (λb=>match b with|.inl i=>∃q:Nat,i=(q:Int)∧placeV key l=some q|.inr _=>placeV key l=none) l.length ⟨rfl,λj hj=>absurd hj (by omega)⟩ (λq s hq hI=>by
   obtain⟨rfl,hI⟩:=hI
   have hg:aB l (q:Int)=some l[q]:=by simp[aB]
   unfold cc
   rw[dT (by omega),cT,hg,bnd]
   by_cases h:key=l[q]
   ·rw[dT h,cT]
    refine .inr ⟨_,rfl,q,rfl,qV (by simp[h,hq]) hI⟩
   ·rw[dF h,cF,aI (by omega) (by omega)]
    refine .inl ⟨_,rfl,by omega,λj hj=>?_⟩
    by_cases hjq:j=q
    ·subst hjq
     simp[hq]
     exact λe=>h e.symm
    exact hI j (by omega)) (λs hI=>by
   obtain⟨rfl,hI⟩:=hI
   unfold cc
   rw[dF (by omega),cF]
   refine⟨_,rfl,?_⟩
   dsimp only
   cases h:placeV key l with
   |none=>rfl
   |some i=>exact absurd (kB h).1 (hI i (pQ h))) (by omega)
 rw[hb,bnd]
 cases b with
 |inl i=>
  obtain⟨q,hq,hp⟩:=hp
  dsimp only
  rw[hp,hq]
 |inr u=>dsimp only at hp ⊢;rw[hp]
theorem has_run {n:Nat} (hn:6000<n) (l:List Bs) (key:Bs) (hl:l.length≤3000):cb n l key=some (decide (key∈l)):=by
 unfold cb
 rw[tz hn l key hl,bnd]
 cases h:placeV key l with
 |none=>rw[dF (mP h)];rfl
 |some i=>
  rw[dT (List.mem_of_getElem? (kB h).1)]
  exact congrArg some (dT (Int.natCast_nonneg i))
def getV (v:TE0) (key:Bs):TE0×Bool:=
 if v.ab=5∧v.af.length=v.ac.length then(match placeV key v.af with|some i=>(v.ac.getD i v,true)|none=>(oO,false)) else(oO,false)
theorem get_own {n:Nat} (hn:6000<n) {v:TE0} (hw:Wide v) (key:Bs):mF n v key=some (getV v key):=by
 unfold mF getV
 rw[tz hn _ _ hw.2.1,bnd]
 by_cases hk:v.ab=5
 ·rw[dT hk,nT,cF]
  by_cases hl:v.af.length=v.ac.length
  ·rw[dT (by omega),nT,cF,if_pos ⟨hk,hl⟩]
   cases h:placeV key v.af with
   |none=>dsimp only;rw[dT (by decide),bnd,cT]
   |some i=>
    have:=pQ h
    dsimp only
    rw[dF (by omega),bnd,cF,dQ v (by omega),bnd]
  rw[dF (by omega),nF,cT,bnd,cT,if_neg (λx=>hl x.2)]
 rw[dF hk,nF,cT,bnd,cT,if_neg (λx=>hk x.1)]
theorem hU {n:Nat} (hn:6000<n) {v:TE0} (hw:Wide v) (key:Bs):eh n v key=some (getV v key):=by
 unfold eh getV
 by_cases hk:v.ab=5
 ·rw[dT hk,nT,cF]
  by_cases hl:v.af.length=v.ac.length
  ·rw[dT (by omega),nT,bnd,cF,if_pos ⟨hk,hl⟩]
   have hle:=hw.2.1
   obtain⟨b,hb,hp⟩:=gD (step:=jr n v key) (n:=n) (s0:=((0:Int),(0:Int),(false),(0:Int),([]:Bs),([]:List TE0),([]:List Bs))) (λq s=>s.1=(q:Int)∧∀j,j<q→v.af[j]? ≠some key)
    (λb=>match b with|.inl y=>∃q:Nat,(⟨y.1,y.2.1,y.2.2.1,y.2.2.2.1,y.2.2.2.2.1,y.2.2.2.2.2⟩:TE0)=v.ac.getD q v∧placeV key v.af=some q|.inr _=>placeV key v.af=none) v.af.length ⟨rfl,λj hj=>absurd hj (by omega)⟩ (λq s hq hI=>by
     obtain⟨i,s⟩:=s
     obtain⟨h1,hI⟩:=hI
     have h1':i=(q:Int):=h1
     subst h1'
     have hg:aB v.af (q:Int)=some v.af[q]:=by simp[aB]
     unfold jr
     dsimp only
     rw[dT (by omega),cT,hg,bnd]
     by_cases h:v.af[q]=key
     ·rw[dT h,cT,dQ v (by omega),bnd]
      exact .inr ⟨_,rfl,q,evV _,qV (by simp[h,hq]) hI⟩
     ·rw[dF h,cF,aI (by omega) (by omega)]
      refine .inl ⟨_,rfl,by dsimp only;omega,λj hj=>?_⟩
      by_cases hjq:j=q
      ·subst hjq
       simpa [hq] using h
      exact hI j (by omega)) (λs hI=>by
     obtain⟨i,s⟩:=s
     obtain⟨h1,hI⟩:=hI
     have h1':i=(v.af.length:Int):=h1
     subst h1'
     unfold jr
     dsimp only
     rw[dF (by omega),cF]
     refine⟨_,rfl,?_⟩
     dsimp only
     cases h:placeV key v.af with
     |none=>rfl
     |some i=>exact absurd (kB h).1 (hI i (pQ h))) (by omega)
   rw[hb,bnd]
   cases b with
   |inl y=>
    obtain⟨q,hq,hp⟩:=hp
    dsimp only
    rw[hp,hq]
   |inr u=>dsimp only at hp ⊢;rw[hp]
  rw[dF (by omega),nF,bnd,cT,if_neg (λx=>hl x.2)]
 rw[dF hk,nF,cT,bnd,cT,if_neg (λx=>hk x.1)]
theorem get_mem {v:TE0} {key:Bs} (h: (getV v key).2=true): (getV v key).1∈v.ac:=by
 unfold getV at h ⊢
 split at h
 ·rename_i hc
  rw[if_pos hc]
  cases hp:placeV key v.af with
  |none=>rw[hp] at h;cases h
  |some i=>
   have:=pQ hp
   simp[List.getD,(by omega:i<v.ac.length)]
 cases h
theorem lA {v:TE0} {key:Bs} (h: (getV v key).2=false): (getV v key).1=oO:=by
 unfold getV at h ⊢
 split at h
 ·rename_i hc
  rw[if_pos hc]
  cases hp:placeV key v.af with
  |none=>rfl
  |some i=>rw[hp] at h;cases h
 rename_i hc
 rw[if_neg hc]
theorem get_key {v:TE0} {key:Bs} (hp:PlainV v) (h5:v.ab=5) (hk:key∈v.af): (getV v key).2=true:=by
 unfold getV
 rw[if_pos ⟨h5,hp.2.2.2.2.2.2.1 h5⟩]
 cases hq:placeV key v.af with
 |none=>exact absurd hk (mP hq)
 |some i=>rfl
def keysV (v:TE0):List Bs:=sortG leS v.af
theorem tB {v:TE0} {k:Bs} (h:k∈keysV v):k∈v.af:=(kF leS v.af).mem_iff.1 h
theorem mw (v:TE0): (keysV v).length=v.af.length:=tO leS v.af
theorem leS_tr: ∀a b c:Bs,leS a b=true→leS b c=true→leS a c=true:=λa b c h1 h2=>by
 simp only[leS,decide_eq_true_eq] at*
 exact List.le_trans h1 h2
theorem leS_tot (a b:Bs):leS a b=true∨leS b a=true:=by simp only[leS,decide_eq_true_eq];exact List.le_total a b
theorem leS_anti (a b:Bs) (h1:leS a b=true) (h2:leS b a=true):a=b:=by
 simp only[leS,decide_eq_true_eq] at*
 exact List.le_antisymm h1 h2
theorem less_leS: ∀ {a b:Bs},Op.bytesLess a b=true→leS a b=true
 |[],_,_=>by simp[leS]
 |a::x,[],h=>by simp[Op.bytesLess] at h
 |a::x,b::y,h=>by
  rw[Op.bytesLess] at h
  simp only[leS,decide_eq_true_eq]
  rw[List.cons_le_cons_iff]
  by_cases e:a=b
  ·subst e
   have:Op.bytesLess x y=true:=by simpa using h
   exact .inr ⟨rfl,by simpa [leS] using less_leS this⟩
  left
  simpa [e] using h
theorem tG: ∀ {a b:Bs},Op.bytesLess a b=false→leS b a=true
 |_,[],_=>by simp[leS]
 |[],b::y,h=>by simp[Op.bytesLess] at h
 |a::x,b::y,h=>by
  rw[Op.bytesLess] at h
  simp only[leS,decide_eq_true_eq]
  rw[List.cons_le_cons_iff]
  by_cases e:a=b
  ·subst e
   have:Op.bytesLess x y=false:=by simpa using h
   exact .inr ⟨rfl,by simpa [leS] using tG this⟩
  left
  have h': ¬a<b:=by simpa [e] using h
  rcases Nat.lt_trichotomy a.toNat b.toNat with q|q|q
  ·exact absurd (UInt8.lt_iff_toNat_lt.2 q) h'
  ·exact absurd (UInt8.toNat_inj.1 q) e
  exact UInt8.lt_iff_toNat_lt.2 q
theorem put_sorted {k:Bs} {L:List Bs} {y:Nat} (hy:y≤L.length) (hL:L.Pairwise (λa b=>leS a b=true)) (h1: ∀i (h:i<y),leS (L[i]'(by omega)) k=true) (h2: ∀h:y<L.length,leS k L[y]=true):
 (L.take y++k::L.drop y).Pairwise (λa b=>leS a b=true):=by
 rw[List.pairwise_append,List.pairwise_cons]
 refine⟨hL.sublist (List.take_sublist _ _),⟨λb hb=>?_,hL.sublist (List.drop_sublist _ _)⟩,λa ha b hb=>?_⟩
 ·by_cases hlt:y<L.length
  ·rw[List.drop_eq_getElem_cons hlt] at hb
   rcases List.mem_cons.1 hb with rfl|hb
   ·exact h2 hlt
   have hd:=hL.sublist (List.drop_sublist y L)
   rw[List.drop_eq_getElem_cons hlt,List.pairwise_cons] at hd
   exact leS_tr _ _ _ (h2 hlt) (hd.1 b hb)
  rw[List.drop_eq_nil_of_le (by omega)] at hb
  cases hb
 obtain⟨i,hi,rfl⟩:=List.getElem_of_mem ha
 rw[List.length_take] at hi
 rw[List.getElem_take]
 have hik:=h1 i (by omega)
 rcases List.mem_cons.1 hb with rfl|hb
 ·exact hik
 rw[←List.take_append_drop y L,List.pairwise_append] at hL
 exact hL.2.2 _ (by rw[←List.getElem_take (i:=i) (j:=y) (h:=by rw[List.length_take];omega)];exact List.getElem_mem _) b hb
theorem put_perm {k:Bs} {L m:List Bs} (y:Nat) (h:L.Perm m): (L.take y++k::L.drop y).Perm (m++[k]):=by
 refine List.perm_middle.trans ?_
 rw[List.take_append_drop]
 exact(h.cons k).trans (List.perm_append_singleton k m).symm
theorem sE {n:Nat} (hn:6000<n): ∀ (k d:Nat) (v:TE0),d≤k→Small d v→OkV v→∃w,dq n k v=some w∧(v.ab=5→w.af=keysV v)
 |_,0,v,_,h,_=>h.elim
 |0,d+1,v,h,_,_=>absurd h (by omega)
 |k+1,d+1,v,hk,hs,hok=>by
  obtain⟨h1,h2,h3,h4,h5⟩:=hs
  have hp:=hok.plain
  show ∃w,iX n (dq n k) v=some w∧_
  unfold iX
  have ih: ∀x∈v.ac,∃w,dq n k x=some w:=λx hx=>by
   obtain⟨w,hw,_⟩:=sE hn k d x (by omega) (h5 x hx) (hok.part hx)
   exact⟨w,hw⟩
  by_cases hkind:v.ab=5
  ·have hkl:v.af.length=v.ac.length:=hp.2.2.2.2.2.2.1 hkind
   obtain⟨b,hb,hq1,hq2⟩:=gD (step:=du n (dq n k) v) (n:=n) (s0:=((0:Int),([]:List TE0),([]:List Bs)))
    (λq s=>s.1=(q:Int)∧s.2.1.length=q∧s.2.2.Perm (v.af.take q)∧s.2.2.Pairwise (λa b=>leS a b=true)) (λb=>b.2.Perm v.af∧b.2.Pairwise (λa b=>leS a b=true)) v.ac.length ⟨rfl,rfl,by simp,List.Pairwise.nil⟩
    (λq s hq hI=>by
     obtain⟨i,out,L⟩:=s
     obtain⟨i1,i2,i3,i4⟩:=hI
     have i1':i=(q:Int):=i1
     have i2':out.length=q:=i2
     subst i1'
     have hLl:L.length=q:=by have:=i3.length_eq;rw[List.length_take] at this;dsimp only at this;omega
     have hg:aB v.ac (q:Int)=some v.ac[q]:=by simp[aB]
     have hgk:aB v.af (q:Int)=some v.af[q]:=by simp[aB,(by omega:q<v.af.length)]
     obtain⟨x,hx⟩:=ih _ (List.getElem_mem hq)
     left
     unfold du
     dsimp only
     rw[dT (by omega),cT,hg,bnd,hx,bnd,dF (by omega),cF]
     obtain⟨y,hy,hy1,hy2,hy3⟩: ∃y:Nat,au (eO n v ((q:Int),out,L)) n (0:Int)=some (y:Int)∧y≤L.length∧(∀i (h:i<y),leS (L[i]?.getD []) v.af[q]=true)∧(∀h:y<L.length,leS v.af[q] L[y]=true):=by
      obtain⟨b,hb,hp⟩:=gD (step:=eO n v ((q:Int),out,L)) (n:=n) (s0:=(0:Int)) (λj s=>s=(j:Int)∧∀i (h:i<j),leS (L[i]?.getD []) v.af[q]=true)
       (λb=>∃y:Nat,b=(y:Int)∧y≤L.length∧(∀i (h:i<y),leS (L[i]?.getD []) v.af[q]=true)∧(∀h:y<L.length,leS v.af[q] L[y]=true)) L.length ⟨rfl,λi h=>absurd h (by omega)⟩
       (λj s hj hI=>by
        obtain⟨rfl,hI⟩:=hI
        have hgj:aB L (j:Int)=some L[j]:=by simp[aB]
        unfold eO
        dsimp only
        rw[dT (by omega),cT,hgj,bnd,hgk,bnd]
        cases hl:Op.bytesLess L[j] v.af[q] with
        |true=>
         rw[cT,aI (by omega) (by omega)]
         refine .inl ⟨_,rfl,by omega,λi hi=>?_⟩
         by_cases hij:i=j
         ·subst hij
          simpa [hj] using less_leS hl
         exact hI i (by omega)
        |false=>
         rw[cF]
         exact .inr ⟨_,rfl,j,rfl,by omega,hI,λh=>tG hl⟩)
       (λs hI=>by
        obtain⟨rfl,hI⟩:=hI
        unfold eO
        dsimp only
        rw[dF (by omega),cF]
        exact⟨_,rfl,L.length,rfl,Nat.le_refl _,hI,λh=>absurd h (by omega)⟩) (by omega)
      obtain⟨y,rfl,a⟩:=hp
      exact⟨y,hb,a⟩
     rw[hy,bnd,aP (by omega),aP (by simp;omega),aP (by omega),aP (by simp;omega),hgk,bnd,aP (by omega),aP (by simp;omega),aP (by simp;omega),bnd,aP (by omega),aP (by simp;omega),aP (by simp;omega),bnd,aI (by omega) (by omega)]
     refine⟨_,rfl,by dsimp only;omega,by simp;omega,?_,?_⟩
     ·dsimp only
      rw[List.nil_append,List.take_length,Int.toNat_natCast,List.take_add_one,List.getElem?_eq_getElem (by omega:q<v.af.length),List.append_assoc]
      exact put_perm y i3
     dsimp only
     rw[List.nil_append,List.take_length,Int.toNat_natCast,List.append_assoc]
     exact put_sorted hy1 i4 (λi h=>by have:=hy2 i h;rwa [List.getElem?_eq_getElem (by omega)] at this) hy3)
    (λs hI=>by
     obtain⟨i,out,L⟩:=s
     obtain⟨i1,i2,i3,i4⟩:=hI
     have i1':i=(v.ac.length:Int):=i1
     subst i1'
     unfold du
     dsimp only
     rw[dF (by omega),cF]
     refine⟨_,rfl,?_,i4⟩
     rwa [List.take_of_length_le (by omega)] at i3) (by omega)
   rw[hb,bnd]
   refine⟨_,rfl,λ_=>?_⟩
   exact List.Perm.eq_of_pairwise (le:=λa b=>leS a b=true) (λa b _ _=>leS_anti a b) hq2 (ne leS_tr leS_tot v.af) (hq1.trans (kF leS v.af).symm)
  obtain⟨b,hb,-⟩:=gD (step:=du n (dq n k) v) (n:=n) (s0:=((0:Int),([]:List TE0),([]:List Bs)))
   (λq s=>s.1=(q:Int)∧s.2.1.length=q) (λb=>True) v.ac.length ⟨rfl,rfl⟩
   (λq s hq hI=>by
    obtain⟨i,out,L⟩:=s
    obtain⟨i1,i2⟩:=hI
    have i1':i=(q:Int):=i1
    have i2':out.length=q:=i2
    subst i1'
    have h4':v.ab=4:=by rcases hp.2.2.2.2.2.1 (by omega) with h|h<;>omega
    have hg:aB v.ac (q:Int)=some v.ac[q]:=by simp[aB]
    obtain⟨x,hx⟩:=ih _ (List.getElem_mem hq)
    left
    unfold du
    dsimp only
    rw[dT (by omega),cT,hg,bnd,hx,bnd,dT h4',cT,aP (by omega),aI (by omega) (by omega)]
    exact⟨_,rfl,by dsimp only;omega,by simp;omega⟩)
   (λs hI=>by
    obtain⟨i,out,L⟩:=s
    obtain⟨i1,i2⟩:=hI
    have i1':i=(v.ac.length:Int):=i1
    subst i1'
    unfold du
    dsimp only
    rw[dF (by omega),cF]
    exact⟨_,rfl,trivial⟩) (by omega)
  rw[hb,bnd]
  exact⟨_,rfl,λh=>absurd h hkind⟩
theorem rZ {n d:Nat} (hn:100000≤n) {v:TE0} {p:Bs} (h:At d v p) (h5:v.ab=5):jT n v=some (keysV v):=by
 obtain⟨w,hw,hk⟩:=sE (n:=n) (by omega) n d v (by have:=h.d30;omega) h.sm h.ok
 unfold jT li
 rw[tj (by omega) h.fine,bnd,dT h.zero,nT,cF]
 unfold mU
 rw[hw,bnd,bnd,hk h5]
def entV (v:TE0):List aD:=(keysV v).map λk=>⟨k,(getV v k).1⟩
theorem nG {n d:Nat} (hn:100000≤n) {v:TE0} {p:Bs} (h:At d v p):cW n v=some (entV v):=by
 have hw:=h.wide
 have hw1:=hw.2.1
 unfold cW ed rq
 rw[aP (by omega),bnd,aP (by omega),bnd]
 have hl:=mw v
 have:=gr (step:=dV n v (keysV v)) (n:=n) (λq=>(((keysV v).take q).map (λk=>(⟨k,(getV v k).1⟩:aD)),((q:Nat):Int))) (keysV v).length (entV v)
  (λq hq=>by
   have hg:aB (keysV v) (q:Int)=some (keysV v)[q]:=by simp[aB]
   unfold dV
   dsimp only
   rw[dT (by omega),cT,hg,bnd,get_own (by omega) hw,bnd,aP (by simp;omega),aI (by omega) (by omega),List.take_add_one,List.getElem?_eq_getElem hq,List.map_append]
   rfl) (by
   unfold dV
   dsimp only
   rw[dF (by omega),cF,List.take_length]
   rfl) (by omega)
 have e0: (((keysV v).take 0).map (λk=>(⟨k,(getV v k).1⟩:aD)),(((0:Nat):Nat):Int))=(([]:List aD),(0:Int)):=rfl
 rw[e0] at this
 show(au (dV n v (keysV v)) n (([]:List aD),(0:Int))).bind _=_
 rw[this,bnd]
def badK (known:List Bs):List Bs→Option Bs
 |[]=>none
 |k::r=>bif decide (k∈known) then badK known r else some k
theorem mN {d:Nat} {v:TE0} {p k:Bs} (h:At d v p) (hk:k∈keysV v):k.length≤5000:=h.wide.2.2.2 k (tB hk)
theorem fields_own {n d:Nat} (hn:100000≤n) {v:TE0} {p:Bs} {known:List Bs} (h:At d v p) (hk:known.length≤3000) (h5:v.ab=5):
 cX n v p known=some (match badK known (keysV v) with|none=>.inr (v,p)|some k=>.inl (120,undS p k)):=by
 have hl:=mw v
 have hw1:=h.wide.2.1
 have key: ∀m i,i+m=(keysV v).length→∀q,m<q→au (gm n p known (entV v)) q (i:Int)=some (match badK known ((keysV v).drop i) with|none=>.inr ()|some k=>.inl (120,undS p k)):=by
  intro m
  induction m with
  |zero=>
   intro i hi q hq
   obtain⟨q,rfl⟩: ∃r,q=r+1:=⟨q-1,by omega⟩
   rw[au,gm]
   rw[dF (by simp[entV];omega),cF,bnd,List.drop_eq_nil_of_le (by omega),badK]
  |succ m ih=>
   intro i hi q hq
   obtain⟨q,rfl⟩: ∃r,q=r+1:=⟨q-1,by omega⟩
   have hlt:i<(keysV v).length:=by omega
   have hg:aB (entV v) (i:Int)=some ⟨(keysV v)[i],(getV v (keysV v)[i]).1⟩:=by simp[aB,entV,hlt]
   have hkl:=mN h (List.getElem_mem hlt)
   rw[au,gm]
   rw[dT (by simp[entV];omega),cT,hg,bnd]
   dsimp only
   rw[has_run (by omega) known _ hk,bnd,me (by have:=h.le;omega) (by omega),bnd,List.drop_eq_getElem_cons hlt,badK]
   cases decide ((keysV v)[i]∈known) with
   |true=>
    have e: (i:Int)+1=((i+1:Nat):Int):=by omega
    rw[cT,cT,aI (by omega) (by omega),bnd,e]
    exact ih (i+1) (by omega) q (by omega)
   |false=>rw[cF,cF,bnd]
 unfold cX
 rw[dT h5,cT,nG hn h,bnd]
 have:=key (keysV v).length 0 (by omega) n (by omega)
 have e0: ((0:Nat):Int)=0:=rfl
 rw[e0,List.drop_zero] at this
 rw[this,bnd]
 cases badK known (keysV v)<;>rfl
theorem fields_doc {n d:Nat} (hn:100000≤n) {v:TE0} {p:Bs} {known:List Bs} (h:At d v p) (hk:known.length≤3000) (h5:v.ab=5) (at0:Bs):
 bk n 0 at0 v p known=some (match badK known (keysV v) with|none=>(true,0,at0)|some k=>(false,120,undS p k)):=by
 have hl:=mw v
 have hw1:=h.wide.2.1
 have inner: ∀ (x:Bs) (i:Nat),aB (keysV v) (i:Int)=some x→au (cG n known (keysV v) ((i:Int),(0:Int),at0)) n (false,(0:Int))=some (decide (x∈known)):=λx i hx=>by
  have hxm:=gD (step:=cG n known (keysV v) ((i:Int),(0:Int),at0)) (n:=n) (s0:=(false,(0:Int))) (λq s=>s.2=(q:Int)∧s.1=decide (x∈known.take q)) (λb=>b=decide (x∈known)) known.length ⟨rfl,by simp⟩
   (λq s hq hI=>by
    obtain⟨b,j⟩:=s
    obtain⟨i1,i2⟩:=hI
    have i1':j=(q:Int):=i1
    have i2':b=decide (x∈known.take q):=i2
    subst i1' i2'
    have hgj:aB known (q:Int)=some known[q]:=by simp[aB]
    left
    unfold cG
    dsimp only
    rw[dT (by omega),cT,List.take_add_one,List.getElem?_eq_getElem hq]
    by_cases hm:x∈known.take q
    ·rw[dT hm,cT,aI (by omega) (by omega)]
     exact⟨_,rfl,by dsimp only;omega,(dT (List.mem_append_left _ hm)).symm⟩
    rw[dF hm,cF,hgj,bnd,hx,bnd,aI (by omega) (by omega)]
    refine⟨_,rfl,by dsimp only;omega,?_⟩
    dsimp only
    by_cases e:known[q]=x
    ·rw[dT e]
     exact(dT (List.mem_append_right _ (by rw[e];exact List.mem_singleton.2 rfl))).symm
    rw[dF e]
    exact(dF λh'=>(List.mem_append.1 h').elim hm λh''=>e (List.mem_singleton.1 h'').symm).symm)
   (λs hI=>by
    obtain⟨b,j⟩:=s
    obtain⟨i1,i2⟩:=hI
    have i1':j=(known.length:Int):=i1
    subst i1'
    unfold cG
    dsimp only
    rw[dF (by omega),cF]
    exact⟨_,rfl,by rw[List.take_length] at i2;exact i2⟩) (by omega)
  obtain⟨b,hb,rfl⟩:=hxm
  exact hb
 have key: ∀m i,i+m=(keysV v).length→∀q,m<q→au (db n p known (keysV v)) q ((i:Int),(0:Int),at0)=some (match badK known ((keysV v).drop i) with|none=>.inr (0,at0)|some k=>.inl (120,undS p k)):=by
  intro m
  induction m with
  |zero=>
   intro i hi q hq
   obtain⟨q,rfl⟩: ∃r,q=r+1:=⟨q-1,by omega⟩
   rw[au,db]
   dsimp only
   rw[dF (by omega),cF,bnd,List.drop_eq_nil_of_le (by omega),badK]
  |succ m ih=>
   intro i hi q hq
   obtain⟨q,rfl⟩: ∃r,q=r+1:=⟨q-1,by omega⟩
   have hlt:i<(keysV v).length:=by omega
   have hg:aB (keysV v) (i:Int)=some (keysV v)[i]:=by simp[aB]
   have hkl:=mN h (List.getElem_mem hlt)
   rw[au,db]
   dsimp only
   rw[dT (by omega),cT,inner _ i hg,bnd,List.drop_eq_getElem_cons hlt,badK]
   cases decide ((keysV v)[i]∈known) with
   |true=>
    have e: (i:Int)+1=((i+1:Nat):Int):=by omega
    rw[nT,cF,cT,aI (by omega) (by omega),bnd,e]
    exact ih (i+1) (by omega) q (by omega)
   |false=>rw[nF,cT,cF,hg,bnd,dw (by have:=h.le;omega) (by omega),bnd,bP,bnd,bnd]
 unfold bk
 rw[dT rfl,nT,cF,dT h5,nT,cF,rZ hn h h5,bnd]
 have:=key (keysV v).length 0 (by omega) n (by omega)
 have e0: ((0:Nat):Int)=0:=rfl
 rw[e0,List.drop_zero] at this
 rw[this,bnd]
 cases badK known (keysV v)<;>rfl
def Agr {α:Type} (at0:Bs) (o:Option (FX α)) (o':Option (α×Int×Bs)) (Q:α→Prop):Prop:=∃r,o=some r∧Doc at0 r o'∧∀x,r=.inr x→Q x
def Kp {α:Type} (o:Option (α×Int×Bs)) (e:Int) (a:Bs):Prop:=∃j,o=some (j,e,a)
theorem dP {n:Nat} {e e':Int} {a p:Bs} (he:e≠0):aq n e a e' p=some (e,a):=by
 unfold aq
 rw[dF he]
 rfl
section
variable {α β τ:Type} {at0:Bs} {Q:α→Prop} {R:β→Prop} {e:Int} {a:Bs}
theorem Agr.inl {p:Bs} {j:α} (he:e≠0):Agr at0 (some (.inl (e,p))) (some (j,e,p)) Q:=⟨_,rfl,⟨he,_,rfl⟩,λx hx=>by cases hx⟩
theorem Agr.kp {p:Bs} {o':Option (α×Int×Bs)} (he:e≠0) (h:Kp o' e p):Agr at0 (some (.inl (e,p))) o' Q:=⟨_,rfl,⟨he,h⟩,λx hx=>by cases hx⟩
theorem Agr.inr {x:α} (h:Q x):Agr at0 (some (.inr x)) (some (x,0,at0)) Q:=⟨_,rfl,rfl,λy hy=>by cases hy;exact h⟩
theorem Agr.bind {o:Option (FX α)} {o':Option (α×Int×Bs)} {f:FX α→Option (FX β)} {g:α×Int×Bs→Option (β×Int×Bs)} (h:Agr at0 o o' Q) (h1: ∀p,f (.inl p)=some (.inl p))
 (hk: ∀j e a,e≠0→Kp (g (j,e,a)) e a) (h2: ∀x,Q x→Agr at0 (f (.inr x)) (g (x,0,at0)) R):Agr at0 (o.bind f) (o'.bind g) R:=by
 obtain⟨r,rfl,hd,hq⟩:=h
 rw[bnd]
 cases r with
 |inl p=>
  obtain⟨he,j,rfl⟩:=hd
  rw[bnd]
  exact⟨_,h1 p,⟨he,hk j p.1 p.2 he⟩,λx hx=>by cases hx⟩
 |inr x=>
  have hd':o'=some (x,0,at0):=hd
  rw[hd',bnd]
  exact h2 x (hq x rfl)
theorem Agr.bindJ {o:Option (FX α)} {o':Option (α×Int×Bs)} {f:FX α→Option (Lp τ (FX β))} {f2:τ→Option (FX β)} {g:α×Int×Bs→Option (β×Int×Bs)} (h:Agr at0 o o' Q) (h1: ∀p,f (.inl p)=some (.br (.inl p)))
 (hk: ∀j e a,e≠0→Kp (g (j,e,a)) e a) (h2: ∀x,Q x→Agr at0 ((f (.inr x)).bind λj=>joinF j f2) (g (x,0,at0)) R):Agr at0 ((o.bind f).bind λj=>joinF j f2) (o'.bind g) R:=by
 obtain⟨r,rfl,hd,hq⟩:=h
 rw[bnd]
 cases r with
 |inl p=>
  obtain⟨he,j,rfl⟩:=hd
  rw[bnd,h1,bnd]
  exact⟨_,rfl,⟨he,hk j p.1 p.2 he⟩,λx hx=>by cases hx⟩
 |inr x=>
  have hd':o'=some (x,0,at0):=hd
  rw[hd',bnd]
  exact h2 x (hq x rfl)
theorem Agr.imp {o:Option (FX α)} {o':Option (α×Int×Bs)} {Q2:α→Prop} (h:Agr at0 o o' Q) (hq: ∀x,Q x→Q2 x):Agr at0 o o' Q2:=by
 obtain⟨r,e,hd,hr⟩:=h
 exact⟨r,e,hd,λx hx=>hq x (hr x hx)⟩
theorem Kp.mk {j:α}:Kp (some (j,e,a)) e a:=⟨j,rfl⟩
theorem Kp.bind {o:Option (α×Int×Bs)} {g:α×Int×Bs→Option (β×Int×Bs)} (h:Kp o e a) (h2: ∀j,Kp (g (j,e,a)) e a):Kp (o.bind g) e a:=by
 obtain⟨j,rfl⟩:=h
 rw[bnd]
 exact h2 j
theorem Kp.tot {γ:Type} {o:Option γ} {x:γ} {g:γ→Option (β×Int×Bs)} (h:o=some x) (h2:Kp (g x) e a):Kp (o.bind g) e a:=by
 rw[h,bnd]
 exact h2
theorem Kp.cnd {b:Bool} {x y:Option (α×Int×Bs)} (h1:b=true→Kp x e a) (h2:b=false→Kp y e a):Kp (bif b then x else y) e a:=by
 cases b
 ·exact h2 rfl
 exact h1 rfl
end
theorem sim {σ β τ γ:Type} {s1:σ→Option (Lp σ β)} {s2:τ→Option (Lp τ γ)} {n:Nat} {x0:σ} {y0:τ} (I:Nat→σ→τ→Prop) (J:Nat→β→τ→Prop) (post:β→γ→Prop) (len:Nat) (h0:I 0 x0 y0)
 (hs: ∀k x y,k<len→I k x y→(∃x' y',s1 x=some (.nx x')∧s2 y=some (.nx y')∧I (k+1) x' y')∨∃b,s1 x=some (.br b)∧((∃c,s2 y=some (.br c)∧post b c)∨∃y',s2 y=some (.nx y')∧J (k+1) b y'))
 (hj: ∀k b y,k≤len→J k b y→(∃c,s2 y=some (.br c)∧post b c)∨(k<len∧∃y',s2 y=some (.nx y')∧J (k+1) b y'))
 (he: ∀x y,I len x y→∃b c,s1 x=some (.br b)∧s2 y=some (.br c)∧post b c) (hn:len+1<n): ∃b c,au s1 n x0=some b∧au s2 n y0=some c∧post b c:=by
 have rest: ∀m k b y,k+m=len→J k b y→∀q,m<q→∃c,au s2 q y=some c∧post b c:=by
  intro m
  induction m with
  |zero=>
   intro k b y hk hJ q hq
   obtain⟨q,rfl⟩: ∃r,q=r+1:=⟨q-1,by omega⟩
   rcases hj k b y (by omega) hJ with⟨c,h1,h2⟩|⟨h,_⟩
   ·exact⟨c,by rw[au,h1,bnd],h2⟩
   omega
  |succ m ih=>
   intro k b y hk hJ q hq
   obtain⟨q,rfl⟩: ∃r,q=r+1:=⟨q-1,by omega⟩
   rcases hj k b y (by omega) hJ with⟨c,h1,h2⟩|⟨h,y',h1,h2⟩
   ·exact⟨c,by rw[au,h1,bnd],h2⟩
   obtain⟨c,h3,h4⟩:=ih (k+1) b y' (by omega) h2 q (by omega)
   exact⟨c,by rw[au,h1,bnd];exact h3,h4⟩
 have go: ∀m k x y,k+m=len→I k x y→∀q,m+1<q→∃b c,au s1 q x=some b∧au s2 q y=some c∧post b c:=by
  intro m
  induction m with
  |zero=>
   intro k x y hk hI q hq
   obtain⟨q,rfl⟩: ∃r,q=r+1:=⟨q-1,by omega⟩
   have hkl:k=len:=by omega
   subst hkl
   obtain⟨b,c,h1,h2,h3⟩:=he x y hI
   exact⟨b,c,by rw[au,h1,bnd],by rw[au,h2,bnd],h3⟩
  |succ m ih=>
   intro k x y hk hI q hq
   obtain⟨q,rfl⟩: ∃r,q=r+1:=⟨q-1,by omega⟩
   rcases hs k x y (by omega) hI with⟨x',y',h1,h2,h3⟩|⟨b,h1,⟨c,h2,h3⟩|⟨y',h2,h3⟩⟩
   ·obtain⟨b,c,h4,h5,h6⟩:=ih (k+1) x' y' (by omega) h3 q (by omega)
    exact⟨b,c,by rw[au,h1,bnd];exact h4,by rw[au,h2,bnd];exact h5,h6⟩
   ·exact⟨b,c,by rw[au,h1,bnd],by rw[au,h2,bnd],h3⟩
   obtain⟨c,h4,h5⟩:=rest m (k+1) b y' (by omega) h3 q (by omega)
   exact⟨b,c,by rw[au,h1,bnd],by rw[au,h2,bnd];exact h4,h5⟩
 exact go len 0 x0 y0 (by omega) h0 n (by omega)
theorem GX.le: ∀ {d e:Nat} {x:TG0},d≤e→GX d x→GX e x
 |0,_,_,_,h=>h.elim
 |d+1,0,_,h,_=>absurd h (by omega)
 |d+1,e+1,x,h,hx=>⟨hx.1,λy hy=>GX.le (by omega) (hx.2 y hy)⟩
theorem exp_both {n d:Nat} (hn:100000≤n) {v:TE0} {p:Bs} (h:At d v p) (at0:Bs):Agr at0 (jj n v p) (cf n 0 at0 v p) (GX 31):=by
 refine⟨exprV d v p,pG hn n d v p (by have:=h.d30;omega) h.sm h.ok (by have:=h.len;omega),?_,λx hx=>?_⟩
 ·exact rR hn n d v p at0 (by have:=h.d30;omega) h.sm h.ok (by have:=h.len;omega)
 exact GX.le (by have:=h.d30;omega) (oY d v p x hx)
theorem exp_keep {n:Nat} (hn:100000≤n) {v:TE0} {p a:Bs} {e:Int} (he:e≠0):Kp (cf n e a v p) e a:=by
 obtain⟨m,rfl⟩: ∃m,n=m+1:=⟨n-1,by omega⟩
 exact⟨_,qc m e a v p he⟩
theorem fields_keep {n:Nat} {v:TE0} {p a:Bs} {e:Int} {known:List Bs} (he:e≠0):bk n e a v p known=some (false,e,a):=by
 unfold bk
 rw[dF he]
 rfl
theorem th {known:List Bs}: ∀ {l:List Bs},badK known l=none→∀k∈l,k∈known
 |[],_,k,hk=>by cases hk
 |x::r,h,k,hk=>by
  rw[badK] at h
  by_cases hx:x∈known
  ·rw[dT hx,cT] at h
   rcases List.mem_cons.1 hk with rfl|hk
   ·exact hx
   exact th h k hk
  rw[dF hx,cF] at h
  cases h
theorem Agr.fields {α:Type} {n d:Nat} (hn:100000≤n) {at0:Bs} {Q:α→Prop} {v:TE0} {p:Bs} {known:List Bs} {f:FX (TE0×Bs)→Option (FX α)} {g:Bool×Int×Bs→Option (α×Int×Bs)}
 (h:At d v p) (hk:known.length≤3000) (h1: ∀q,f (.inl q)=some (.inl q)) (h2: ∀e a,Kp (g (false,e,a)) e a) (h3:v.ab=5→(∀k∈v.af,k∈known)→Agr at0 (f (.inr (v,p))) (g (true,0,at0)) Q):
 Agr at0 ((cX n v p known).bind f) ((bk n 0 at0 v p known).bind g) Q:=by
 by_cases h5:v.ab=5
 ·rw[fields_own hn h hk h5,fields_doc hn h hk h5,bnd,bnd]
  cases hb:badK known (keysV v) with
  |none=>exact h3 h5 (λk hk=>th hb k ((kF leS v.af).mem_iff.2 hk))
  |some k=>dsimp only;rw[h1];exact Agr.kp (by decide) (h2 _ _)
 unfold cX bk
 rw[dF h5,cF,dT rfl,nT,cF,nF,cT,bP,bnd,bnd,bnd,h1]
 exact Agr.kp (by decide) (h2 _ _)
theorem ip {n d:Nat} (hn:100000≤n) {v:TE0} {p key:Bs} (h:At d v p) (hk:key.length≤30):aX n key v p=some ((getV v key).1,undS p key,(getV v key).2):=by
 unfold aX
 rw[get_own (by omega) h.wide,bnd,me (by have:=h.le;omega) (by omega),bnd]
theorem At.get {d:Nat} {v:TE0} {p key:Bs} (h:At d v p) (hk:key.length≤30) (hg: (getV v key).2=true): ∃e,e<d∧At e (getV v key).1 (undS p key):=h.part (get_mem hg) (by have:=kZ p key;omega)
theorem rp {d:Nat} {v:TE0} {p key:Bs} (h:At d v p) (hk:key.length≤30): (getV v key).1.aa.length≤5000:=by
 cases hg: (getV v key).2 with
 |true=>obtain⟨e,_,h⟩:=h.get hk hg;exact h.txt
 |false=>rw[lA hg];exact Nat.zero_le _
theorem get_lst {d:Nat} {v:TE0} {p key:Bs} (h:At d v p) (hk:key.length≤30): (getV v key).1.ac.length≤3000:=by
 cases hg: (getV v key).2 with
 |true=>obtain⟨e,_,h⟩:=h.get hk hg;exact h.wide.1
 |false=>rw[lA hg];exact Nat.zero_le _
theorem get_ltxt {d:Nat} {v:TE0} {p key:Bs} (h:At d v p) (hk:key.length≤30) {x:TE0} (hx:x∈ (getV v key).1.ac):x.aa.length≤5000:=by
 cases hg: (getV v key).2 with
 |true=>obtain⟨e,_,h⟩:=h.get hk hg;obtain⟨e2,_,h2⟩:=h.part hx (q:=[]) (by simp);exact h2.txt
 |false=>rw[lA hg] at hx;cases hx
theorem want_doc {n d:Nat} (hn:100000≤n) {v:TE0} {p key at0:Bs} (h:At d v p):cN n 0 at0 v p key=some ((getV v key).1,(getV v key).2,bif(getV v key).2 then(0,at0) else(120,p)):=by
 unfold cN
 rw[hU (by omega) h.wide,bnd]
 cases (getV v key).2<;>rfl
theorem Agr.want {α:Type} {n d:Nat} (hn:100000≤n) {at0:Bs} {Q:α→Prop} {v:TE0} {p key:Bs} {f:TE0×Bs×Bool→Option (FX α)} {g:TE0×Bool×Int×Bs→Option (α×Int×Bs)}
 (h:At d v p) (hk:key.length≤30) (h1: ∀x q,f (x,q,false)=some (.inl (120,p))) (h2: ∀x e a,Kp (g (x,false,e,a)) e a) (h3: ∀e,e<d→At e (getV v key).1 (undS p key)→Agr at0 (f ((getV v key).1,undS p key,true)) (g ((getV v key).1,true,0,at0)) Q):
 Agr at0 ((aX n key v p).bind f) ((cN n 0 at0 v p key).bind g) Q:=by
 rw[ip hn h hk,want_doc hn h,bnd,bnd]
 cases hg: (getV v key).2 with
 |true=>obtain⟨e,he,h4⟩:=h.get hk hg;exact h3 e he h4
 |false=>rw[h1];exact Agr.kp (by decide) (h2 _ _ _)
theorem sd {n d:Nat} (hn:100000≤n) {v:TE0} {p key:Bs} (h:At d v p) (hk:key.length≤30) (at0:Bs):
 Agr at0 (eZ n (getV v key).1 (undS p key) (getV v key).2) (cU n 0 at0 v p key) (λ_=>True):=by
 unfold eZ cU
 rw[hU (by omega) h.wide,bnd]
 have ht:=rp h hk
 cases hg: (getV v key).2 with
 |false=>
  rw[nF,cT,cT,lA hg]
  exact Agr.inr trivial
 |true=>
  rw[nT,cF,cF,kP hn ht,ke hn ht,bnd,bnd]
  cases nameV (getV v key).1 with
  |true=>rw[cT,nT,cF];exact Agr.inr trivial
  |false=>rw[cF,nF,cT,dw (by have:=h.le;omega) (by omega),bnd,bP,bnd];exact Agr.inl (by decide)
theorem se {n d:Nat} (hn:100000≤n) {v:TE0} {p key a:Bs} {e:Int} (he:e≠0) (h:At d v p) (hk:key.length≤30):Kp (cU n e a v p key) e a:=by
 unfold cU
 refine Kp.tot (hU (by omega) h.wide key) (Kp.cnd (λ_=>Kp.mk) λ_=>Kp.tot (ke hn (rp h hk)) (Kp.cnd (λ_=>?_) λ_=>Kp.mk))
 rw[dw (by have:=h.le;omega) (by omega),bnd,dP he,bnd]
 exact Kp.mk
theorem lD {n:Nat} {v:TE0} {p a:Bs} {e:Int} (he:e≠0):Kp (cV n e a v p) e a:=by
 unfold cV
 rw[dF he]
 exact Kp.mk
theorem ent_at {d:Nat} {v:TE0} {p k:Bs} (h:At d v p) (h5:v.ab=5) (hk:k∈keysV v): ∃e,e<d∧At e (getV v k).1 (undS p k):=by
 have:=mN h hk
 exact h.part (get_mem (get_key h.ok.plain h5 (tB hk))) (by have:=kZ p k;omega)
def GP (l:List TF0):Prop:=l.length≤3000∧∀x∈l,GX 31 x.fE
theorem sk {n d:Nat} (hn:100000≤n) {v:TE0} {p:Bs} (h:At d v p) (at0:Bs):Agr at0 (jv n v p) (cV n 0 at0 v p) GP:=by
 unfold jv cV
 rw[dT rfl,nT,cF]
 by_cases h5:v.ab=5
 ·have hl:=mw v
  have hw1:=h.wide.2.1
  rw[dT h5,cT,nT,cF,nG hn h,rZ hn h h5,bnd,bnd]
  obtain⟨b,c,hb,hc,hp⟩:=sim (s1:=gB n p (entV v)) (s2:=cM n v p (keysV v)) (n:=n) (x0:=(([]:List TF0),(0:Int))) (y0:=(([]:List TF0),(0:Int),(0:Int),at0))
   (λk x y=>x.2=(k:Int)∧x.1.length=k∧(∀z∈x.1,GX 31 z.fE)∧y=(x.1,(k:Int),0,at0)) (λk b y=>∃e a,b=.inl (e,a)∧e≠0∧∃l j,y=(l,j,e,a)) (λb c=>match b with|.inl q=>q.1≠0∧∃l,c=(l,q.1,q.2)|.inr l=>GP l∧c=(l,0,at0)) (keysV v).length ⟨rfl,rfl,by simp,rfl⟩
   (λk x y hk hI=>by
    obtain⟨acc,i⟩:=x
    obtain⟨i1,i2,i3,rfl⟩:=hI
    have i1':i=(k:Int):=i1
    have i2':acc.length=k:=i2
    subst i1'
    have hg:aB (entV v) (k:Int)=some ⟨(keysV v)[k],(getV v (keysV v)[k]).1⟩:=by simp[aB,entV,hk]
    have hg2:aB (keysV v) (k:Int)=some (keysV v)[k]:=by simp[aB]
    have hkl:=mN h (List.getElem_mem hk)
    obtain⟨e,_,hat⟩:=ent_at h h5 (List.getElem_mem hk)
    obtain⟨r,hr1,hr2,hr3⟩:=exp_both hn hat at0
    unfold gB cM
    dsimp only
    rw[dT (by simp[entV];omega),cT,hg,bnd]
    dsimp only
    rw[me (by have:=h.le;omega) (by omega),bnd,lB (by omega) (by omega),bnd,dT (by omega),cT,dT rfl,bnd,cT,hg2,bnd,hU (by omega) h.wide,bnd,bnd,bnd,kQ (by omega) (by omega),bnd]
    cases nameS (keysV v)[k] with
    |false=>
     right
     rw[cF,nF,cT,bnd,dw (by have:=h.le;omega) (by omega),bnd,bP]
     repeat rw[bnd]
     rw[dw (by have:=h.le;omega) (by omega)]
     repeat rw[bnd]
     obtain⟨j,hj⟩:=exp_keep (n:=n) hn (v:=(getV v (keysV v)[k]).1) (p:=undS p (keysV v)[k]) (a:=undS p (keysV v)[k]) (e:=120) (by decide)
     refine⟨_,rfl,.inr ?_⟩
     dsimp only
     rw[hj,bnd,aP (by omega),aI (by omega) (by omega)]
     exact⟨_,rfl,120,_,rfl,by decide,_,_,rfl⟩
    |true=>
     rw[cT,nT,cF]
     repeat rw[bnd]
     rw[dw (by have:=h.le;omega) (by omega),bnd,hr1,bnd]
     cases r with
     |inl q=>
      obtain⟨hq,j,hj⟩:=hr2
      right
      refine⟨_,rfl,.inr ?_⟩
      rw[hj,bnd,aP (by omega),aI (by omega) (by omega)]
      exact⟨_,rfl,q.1,q.2,rfl,hq,_,_,rfl⟩
     |inr z=>
      have hj:cf n 0 at0 (getV v (keysV v)[k]).1 (undS p (keysV v)[k])=some (z,0,at0):=hr2
      left
      dsimp only
      rw[hj,bnd,aP (by omega),aI (by omega) (by omega),aP (by omega),aI (by omega) (by omega)]
      refine⟨_,_,rfl,rfl,by dsimp only;omega,by simp;omega,λy hy=>?_,?_⟩
      ·rcases List.mem_append.1 hy with hy|hy
       ·exact i3 y hy
       obtain rfl:=List.mem_singleton.1 hy
       exact hr3 z rfl
      have e1: (k:Int)+1=((k+1:Nat):Int):=by omega
      rw[e1])
   (λk b y hk hJ=>by
    obtain⟨e,a,rfl,he,l,j,rfl⟩:=hJ
    left
    unfold cM
    dsimp only
    rw[dF he]
    refine⟨_,?_,he,l,rfl⟩
    cases decide (j<(((keysV v).length:Nat):Int))<;>rfl)
   (λx y hI=>by
    obtain⟨acc,i⟩:=x
    obtain⟨i1,i2,i3,rfl⟩:=hI
    have i1':i=((keysV v).length:Int):=i1
    have i2':acc.length=(keysV v).length:=i2
    subst i1'
    unfold gB cM
    dsimp only
    rw[dF (by simp[entV]),cF,dF (by omega),cF,bnd,cF]
    exact⟨_,_,rfl,rfl,⟨by omega,i3⟩,rfl⟩) (by omega)
  rw[hb,hc,bnd,bnd]
  cases b with
  |inl q=>
   obtain⟨hq,l,rfl⟩:=hp
   exact Agr.inl hq
  |inr l=>
   obtain⟨hl,rfl⟩:=hp
   exact Agr.inr hl
 rw[dF h5,cF,nF,cT,bP,bnd]
 exact Agr.inl (by decide)
theorem fault_st {n:Nat} {e e':Int} {a p:Bs} {c:Bool} (he:e≠0): (bif c then((aq n e a e' p).bind λx=>some (x.1,x.2)) else some (e,a):Option (Int×Bs))=some (e,a):=by
 cases c
 ·rfl
 rw[cT,dP he,bnd]
theorem rT {n:Nat} {e e':Int} {a q:Bs} {c:Bool} {u:Option Bs} (hu:u=some q) (he:e≠0): (bif c then(u.bind λy=>(aq n e a e' y).bind λx=>some (x.1,x.2)) else some (e,a):Option (Int×Bs))=some (e,a):=by
 cases c
 ·rfl
 rw[cT,hu,bnd,dP he,bnd]
theorem pA {α:Type} {c:Bool} {x y:α}: ∃z,(bif c then some x else some y)=some z:=by cases c<;>exact⟨_,rfl⟩
theorem dep_inner {n:Nat} (hn:100000≤n) {x1:TE0×Bool} {q:Bs} (hq:q.length≤1000000) {out:List Bs} (ho:out.length≤8) {i:Nat} (hi:i≤8) {z:TE0} (hz:aB x1.1.ac (i:Int)=some z) (e0:Int) (a0:Bs) (e:Int) (a:Bs):
 au (ck n x1 q (out,(i:Int),e0,a0)) n ((0:Int),e,a)=some (if e=0∧z.aa∈out then(41,plcS q i) else(e,a)):=by
 obtain⟨b,hb,rfl⟩:=gD (step:=ck n x1 q (out,(i:Int),e0,a0)) (n:=n) (s0:=((0:Int),e,a)) (λk s=>s.1=(k:Int)∧s.2=if e=0∧z.aa∈out.take k then(41,plcS q i) else(e,a))
  (λb=>b=if e=0∧z.aa∈out then(41,plcS q i) else(e,a)) out.length ⟨rfl,by simp⟩
  (λk s hk hI=>by
   obtain⟨j,s2⟩:=s
   obtain⟨i1,i2⟩:=hI
   have i1':j=(k:Int):=i1
   have i2':s2=if e=0∧z.aa∈out.take k then(41,plcS q i) else(e,a):=i2
   subst i1' i2'
   have hg:aB out (k:Int)=some out[k]:=by simp[aB]
   left
   unfold ck
   dsimp only
   rw[dT (by omega),cT,hg,bnd,hz,bnd,List.take_add_one,List.getElem?_eq_getElem hk]
   by_cases hm:e=0∧z.aa∈out.take k
   ·rw[if_pos hm]
    have hm':e=0∧z.aa∈out.take k++(some out[k]).toList:=⟨hm.1,List.mem_append_left _ hm.2⟩
    by_cases hx:out[k]=z.aa
    ·rw[dT hx,cT,iO hq hi,bnd,dP (by dsimp only;decide),bnd,aI (by omega) (by omega)]
     exact⟨_,rfl,by dsimp only;omega,by rw[if_pos hm']⟩
    rw[dF hx,cF,aI (by omega) (by omega)]
    exact⟨_,rfl,by dsimp only;omega,by rw[if_pos hm']⟩
   rw[if_neg hm]
   by_cases hx:out[k]=z.aa
   ·rw[dT hx,cT,iO hq hi,bnd]
    by_cases he:e=0
    ·subst he
     rw[bP,bnd,aI (by omega) (by omega)]
     exact⟨_,rfl,by dsimp only;omega,by rw[if_pos ⟨rfl,by simp[hx]⟩]⟩
    rw[dP he,bnd,aI (by omega) (by omega)]
    exact⟨_,rfl,by dsimp only;omega,by rw[if_neg (λh=>he h.1)]⟩
   rw[dF hx,cF,aI (by omega) (by omega)]
   refine⟨_,rfl,by dsimp only;omega,?_⟩
   rw[if_neg (λh=>hm ⟨h.1,?_⟩)]
   rcases List.mem_append.1 h.2 with h'|h'
   ·exact h'
   exact(hx (List.mem_singleton.1 (show z.aa∈ [out[k]] from h')).symm).elim)
  (λs hI=>by
   obtain⟨j,s2⟩:=s
   obtain⟨i1,i2⟩:=hI
   have i1':j=(out.length:Int):=i1
   subst i1'
   unfold ck
   dsimp only
   rw[dF (by omega),cF]
   rw[List.take_length] at i2
   exact⟨_,rfl,i2⟩) (by omega)
 exact hb
theorem pB {n d:Nat} (hn:100000≤n) {v:TE0} {p a:Bs} {e:Int} (he:e≠0) (h:At d v p):Kp (cS n e a v p) e a:=by
 unfold cS
 refine Kp.tot (hU (by omega) h.wide _) ?_
 have: (bif !(getV v [68,101,112,101,110,100,115,79,110]).2 then some true else some (!decide (e=0)):Option Bool)=some true:=by
  rw[dF he]
  cases (getV v [68,101,112,101,110,100,115,79,110]).2<;>rfl
 rw[this,bnd,cT]
 exact Kp.mk
theorem depends_both {n d:Nat} (hn:100000≤n) {v:TE0} {p:Bs} (h:At d v p) (at0:Bs):
 Agr at0 (ji n (getV v [68,101,112,101,110,100,115,79,110]).1 (undS p [68,101,112,101,110,100,115,79,110]) (getV v [68,101,112,101,110,100,115,79,110]).2) (cS n 0 at0 v p) (λl=>l.length≤8):=by
 have hk: ([68,101,112,101,110,100,115,79,110]:Bs).length≤30:=by decide
 unfold cS ji
 rw[hU (by omega) h.wide,bnd]
 have htx:=rp h hk
 have hlt: ∀x∈ (getV v [68,101,112,101,110,100,115,79,110]).1.ac,x.aa.length≤5000:=λx hx=>get_ltxt h hk hx
 have hul:=kZ p [68,101,112,101,110,100,115,79,110]
 have hpl:=h.le
 rw[dw (by omega) (by decide)]
 generalize getV v [68,101,112,101,110,100,115,79,110]=x1 at htx hlt ⊢
 generalize undS p [68,101,112,101,110,100,115,79,110]=q at hul ⊢
 simp only[List.length_cons,List.length_nil] at hul
 obtain⟨x,ok⟩:=x1
 cases ok with
 |false=>exact Agr.inr (Nat.zero_le _)
 |true=>
  dsimp only at htx hlt ⊢
  rw[nT,cF,cF,dT rfl,nT,bnd,cF,bnd,kP hn htx,ke hn htx,bnd,bnd]
  cases nameV x with
  |true=>exact Agr.inr (by simp)
  |false=>
   rw[cF,cF]
   by_cases h4:x.ab=4
   ·rw[dT h4,cT,nT,cF]
    by_cases h8: ((x.ac.length:Nat):Int)≤8
    ·rw[dT h8,cT,dF (by omega),cF,bnd]
     obtain⟨b,c,hb,hc,hp⟩:=sim (s1:=eK n x q) (s2:=bQ n (x,true) q) (n:=n) (x0:=(([]:List Bs),(0:Int))) (y0:=(([]:List Bs),(0:Int),(0:Int),at0))
      (λk x y=>x.2=(k:Int)∧x.1.length=k∧y=(x.1,(k:Int),0,at0)) (λk b y=>∃e a,b=.inl (e,a)∧e≠0∧∃l j,y=(l,j,e,a)) (λb c=>match b with|.inl q=>q.1≠0∧∃l,c=(l,q.1,q.2)|.inr l=>l.length≤8∧c=(l,0,at0)) x.ac.length ⟨rfl,rfl,rfl⟩
      (λk s y hk hI=>by
       obtain⟨acc,i⟩:=s
       obtain⟨i1,i2,rfl⟩:=hI
       have i1':i=(k:Int):=i1
       have i2':acc.length=k:=i2
       subst i1'
       have hg:aB x.ac (k:Int)=some x.ac[k]:=by simp[aB]
       have hxt:=hlt _ (List.getElem_mem hk)
       have hin:=dep_inner hn (x1:=(x,true)) (q:=q) (by omega) (out:=acc) (by omega) (i:=k) (by omega) hg 0 at0
       unfold eK bQ
       dsimp only
       rw[dT (by omega),cT,cT,dT rfl,bnd,cT,hg,bnd,bnd,kP hn hxt,ke hn hxt,bnd,bnd,ru (by omega) (by omega),iO (by omega) (by omega),bnd]
       cases nameV x.ac[k] with
       |false=>
        right
        rw[cF,nF,cT,bnd,bP,bnd,bnd]
        dsimp only
        rw[hin,bnd,if_neg (λh=>absurd h.1 (by decide)),bnd,aP (by omega),aI (by omega) (by omega)]
        exact⟨_,rfl,.inr ⟨_,rfl,120,_,rfl,by decide,_,_,rfl⟩⟩
       |true=>
        rw[cT,nT,cF,bnd,has_run (by omega) acc _ (by omega),bnd,bnd]
        dsimp only
        rw[hin,bnd,bnd,aP (by omega),aI (by omega) (by omega)]
        by_cases hm:x.ac[k].aa∈acc
        ·right
         rw[dT hm,nT,cF,if_pos ⟨rfl,hm⟩,aP (by omega),aI (by omega) (by omega)]
         exact⟨_,rfl,.inr ⟨_,rfl,41,_,rfl,by decide,_,_,rfl⟩⟩
        left
        rw[dF hm,nF,cT,if_neg (λh=>hm h.2),aP (by omega),aI (by omega) (by omega)]
        have e1: (k:Int)+1=((k+1:Nat):Int):=by omega
        exact⟨_,_,rfl,rfl,by dsimp only;omega,by simp;omega,by rw[e1]⟩)
      (λk b y hk hJ=>by
       obtain⟨e,a,rfl,he,l,j,rfl⟩:=hJ
       left
       unfold bQ
       dsimp only
       rw[dF he]
       refine⟨_,?_,he,l,rfl⟩
       cases decide (j<((x.ac.length:Nat):Int))<;>rfl)
      (λs y hI=>by
       obtain⟨acc,i⟩:=s
       obtain⟨i1,i2,rfl⟩:=hI
       have i1':i=(x.ac.length:Int):=i1
       have i2':acc.length=x.ac.length:=i2
       subst i1'
       unfold eK bQ
       dsimp only
       rw[dF (by omega),cF,cF,bnd,cF]
       exact⟨_,_,rfl,rfl,by omega,rfl⟩) (by omega)
     rw[hb,hc,bnd,bnd]
     cases b with
     |inl q=>
      obtain⟨hq,l,rfl⟩:=hp
      exact Agr.inl hq
     |inr l=>
      obtain⟨hl,rfl⟩:=hp
      exact Agr.inr hl
    rw[dF h8,cF,dT (by omega),cT,bP,bnd,bnd]
    obtain⟨m,rfl⟩: ∃m,n=m+1:=⟨n-1,by omega⟩
    have:au (bQ (m+1) (x,true) q) (m+1) (([]:List Bs),(0:Int),(3:Int),q)=some ([],3,q):=by
     rw[au,bQ]
     dsimp only
     cases decide ((0:Int)<((x.ac.length:Nat):Int))<;>rfl
    dsimp only
    rw[this,bnd]
    exact Agr.inl (by decide)
   rw[dF h4,cF,nF,cT,bP,bnd]
   exact Agr.inl (by decide)
def kindV (num:Bool) (x:TE0):Bool:=bif num then decide (x.ab=2) else wordV x
theorem nL {n:Nat} (hn:100000≤n) {x:TE0} (hx:x.aa.length≤5000) (num:Bool):kC n x num=some (kindV num x):=by
 unfold kC kindV
 cases num with
 |true=>rfl
 |false=>rw[cF,cF,sH hn hx,bnd]
theorem tC {n:Nat} (hn:100000≤n) {x:TE0} (hx:x.aa.length≤5000) (a0:Bs) (a1 a2:Bool) (a3:Int) (a4:Bool) (a5:Int) (a6:Bs) (a7:List TE0) (a8:List Bs) (a9:List TE0):jk n x a0 a1 a2 a3 a4 a5 a6 a7 a8 a9=some (kindV a1 x,a0,a1,a2,a3,a4,a5,a6,a7,a8,a9):=by
 unfold jk kindV
 cases a1 with
 |true=>
  rw[cT,cT,nT,cF]
  cases decide (x.ab=2)<;>rfl
 |false=>rw[cF,cF,nF,cT,sJ hn hx,bnd]
theorem kind2_own {n:Nat} (hn:100000≤n) {x:TE0} (hx:x.aa.length≤5000) (a0:Bs) (a1 a2:Bool) (a3:Int) (a4:Bool) (a5:Int) (a6:Bs) (a7:List TE0) (a8:List Bs) (a9:List TE0):ju n x a0 a1 a2 a3 a4 a5 a6 a7 a8 a9=some (kindV a1 x,a0,a1,a2,a3,a4,a5,a6,a7,a8,a9):=tC hn hx a0 a1 a2 a3 a4 a5 a6 a7 a8 a9
def GPa (x:TD0):Prop:=Small 30 x.bb∧x.dO.length≤8∧∀y∈x.dO,Small 30 y
theorem num_all3: ((List.range 3001).all λi=>decide ((Go.Num.text (i:Int)).1.length≤20))=true:=by kernel_rfl
theorem plc_doc3 {n:Nat} {a:Bs} {i:Nat} (ha:a.length≤1000000) (hi:i≤3000):bx n a (i:Int)=some (plcS a i):=by
 have:=of_decide_eq_true (List.all_eq_true.1 num_all3 i (List.mem_range.2 (by omega)))
 unfold bx mI
 rw[bnd,dw ha (by omega),bnd]
 rfl
theorem si {n:Nat} (hn:100000≤n) {x2:TE0×Bool×Int×Bs} {x9:TE0×Bool} {q:Bs} (hq:q.length≤1000000) (hl:x9.1.ac.length≤3000) (ht: ∀x∈x9.1.ac,x.aa.length≤5000) {e:Int} {a:Bs} (he:e≠0): ∀m i,i+m=x9.1.ac.length→∀r,m<r→au (bh n x2 x9 q) r ((i:Int),e,a)=some (e,a):=by
 intro m
 induction m with
 |zero=>
  intro i hi r hr
  obtain⟨r,rfl⟩: ∃k,r=k+1:=⟨r-1,by omega⟩
  rw[au,bh]
  dsimp only
  rw[dF (by omega),cF,bnd]
 |succ m ih=>
  intro i hi r hr
  obtain⟨r,rfl⟩: ∃k,r=k+1:=⟨r-1,by omega⟩
  have hlt:i<x9.1.ac.length:=by omega
  have hg:aB x9.1.ac (i:Int)=some x9.1.ac[i]:=by simp[aB]
  have e1: (i:Int)+1=((i+1:Nat):Int):=by omega
  rw[au,bh]
  dsimp only
  rw[dT (by omega),cT,hg,bnd,nL hn (ht _ (List.getElem_mem hlt)),bnd,plc_doc3 hq (by omega),bnd,dP he,bnd,aI (by omega) (by omega),e1]
  cases kindV (decide (x2.1.aa=[78,117,109,98,101,114])) x9.1.ac[i]<;>exact ih (i+1) (by omega) r (by omega)
theorem param_sim {n:Nat} (hn:100000≤n) {num:Bool} {x7:TE0×Bs×Bool} {x2:TE0×Bool×Int×Bs} {x9:TE0×Bool} {q:Bs} (hq:q.length≤1000000) (h7:x7.1=x9.1) (h72:x7.2.1=q) (hnum:decide (x2.1.aa=[78,117,109,98,101,114])=num)
 (h8:x9.1.ac.length≤8) (ht: ∀x∈x9.1.ac,x.aa.length≤5000) (id:Bs) (r:Bool×Int×Bool×Int×Bs×List TE0×List Bs×List TE0) (at0:Bs):
 ∃b c,au (dZ n x7) n ((0:Int),id,num,r)=some b∧au (bh n x2 x9 q) n ((0:Int),(0:Int),at0)=some c∧(match b with|.inl p=>p.1≠0∧c=p|.inr y=>y=(id,num,r)∧c=(0,at0)):=by
 refine sim (s1:=dZ n x7) (s2:=bh n x2 x9 q) (n:=n) (λk x y=>x=((k:Int),id,num,r)∧y=((k:Int),0,at0)) (λk b y=>∃e a,b=.inl (e,a)∧e≠0∧y=((k:Int),e,a)) _ x9.1.ac.length ⟨rfl,rfl⟩ ?_ ?_ ?_ (by omega)
 ·rintro k _ _ hk ⟨rfl,rfl⟩
  have hg:aB x9.1.ac (k:Int)=some x9.1.ac[k]:=by simp[aB]
  have hxt:=ht _ (List.getElem_mem hk)
  have e1: (k:Int)+1=((k+1:Nat):Int):=by omega
  unfold dZ bh
  dsimp only
  rw[h7,h72,dT (by omega),cT,cT,hg,bnd,bnd,kind2_own hn hxt,bnd,ru hq (by omega),bnd,hnum,nL hn hxt,bnd,iO hq (by omega),bnd,bP,bnd]
  cases kindV num x9.1.ac[k] with
  |true=>
   left
   rw[cT,nT,cF,aI (by omega) (by omega),aI (by omega) (by omega),e1]
   exact⟨_,_,rfl,rfl,rfl,rfl⟩
  |false=>
   right
   rw[cF,nF,cT,aI (by omega) (by omega),e1]
   exact⟨_,rfl,.inr ⟨_,rfl,120,_,rfl,by decide,rfl⟩⟩
 ·rintro k _ _ hk ⟨e,a,rfl,he,rfl⟩
  unfold bh
  dsimp only
  by_cases hlt:k<x9.1.ac.length
  ·right
   have hg:aB x9.1.ac (k:Int)=some x9.1.ac[k]:=by simp[aB]
   have hxt:=ht _ (List.getElem_mem hlt)
   have e1: (k:Int)+1=((k+1:Nat):Int):=by omega
   rw[dT (by omega),cT,hg,bnd,hnum,nL hn hxt,bnd,iO hq (by omega),bnd,dP he,bnd,aI (by omega) (by omega),e1]
   refine⟨hlt,_,?_,e,a,rfl,he,rfl⟩
   cases kindV num x9.1.ac[k]<;>rfl
  left
  rw[dF (by omega),cF]
  exact⟨_,rfl,he,rfl⟩
 rintro _ _ ⟨rfl,rfl⟩
 unfold dZ bh
 dsimp only
 rw[h7,dF (by omega),cF,cF]
 exact⟨_,_,rfl,rfl,rfl,rfl⟩
theorem sD {d:Nat}:Small (d+1) oO:=⟨by simp,by simp,by simp,λk hk=>by simp at hk,λx hx=>by simp at hx⟩
theorem param_both {n d : Nat} (hn : 100000 ≤ n) {v : TE0} {p : List UInt8} (h : At d v p) (id at0 : List UInt8) : Agr at0 (km n id v p) (bZ n 0 at0 id v p) GPa := by
 have hpl := h.le
 have k1 : ([84, 121, 112, 101] : List UInt8).length ≤ 30 := by decide
 have k2 : ([68, 101, 102, 97, 117, 108, 116] : List UInt8).length ≤ 30 := by decide
 have k3 : ([65, 108, 108, 111, 119, 101, 100, 86, 97, 108, 117, 101, 115] : List UInt8).length ≤ 30 := by decide
 unfold km bZ
 refine Agr.fields hn h (by simp) (fun q => rfl) (fun e a => Kp.mk) (fun h5 _ => ?_)
 dsimp only
 refine Agr.want hn h k1 (fun x q => rfl) (fun x e a => Kp.mk) (fun e1 _ hat1 => ?_)
 have ho2 := ip hn h k2
 have ho3 := ip hn h k3
 have hd2 := hU (n := n) (by omega) h.wide [68, 101, 102, 97, 117, 108, 116]
 have hd3 := hU (n := n) (by omega) h.wide [65, 108, 108, 111, 119, 101, 100, 86, 97, 108, 117, 101, 115]
 have ht2 := rp h k2
 have hl3 := get_lst h k3
 have hx3 : ∀ x ∈ (getV v [65, 108, 108, 111, 119, 101, 100, 86, 97, 108, 117, 101, 115]).1.ac, x.aa.length ≤ 5000 := fun x hx => get_ltxt h k3 hx
 have hs2 : Small 30 (getV v [68, 101, 102, 97, 117, 108, 116]).1 := by
  cases hg : (getV v [68, 101, 102, 97, 117, 108, 116]).2 with
  | true => obtain ⟨e, _, hat⟩ := h.get k2 hg; exact Small.le hat.d30 hat.sm
  | false => rw [lA hg]; exact sD
 have hs3 : ∀ x ∈ (getV v [65, 108, 108, 111, 119, 101, 100, 86, 97, 108, 117, 101, 115]).1.ac, Small 30 x := fun x hx => by
  cases hg : (getV v [65, 108, 108, 111, 119, 101, 100, 86, 97, 108, 117, 101, 115]).2 with
  | true => obtain ⟨e, _, hat⟩ := h.get k3 hg; obtain ⟨e2, _, hat2⟩ := hat.part hx (q := []) (by simp); exact Small.le hat2.d30 hat2.sm
  | false => rw [lA hg] at hx; cases hx
 have hu1 := dw (n := n) (a := p) (k := [84, 121, 112, 101]) (by omega) (by decide)
 have hu2 := dw (n := n) (a := p) (k := [68, 101, 102, 97, 117, 108, 116]) (by omega) (by decide)
 have hu3 := dw (n := n) (a := p) (k := [65, 108, 108, 111, 119, 101, 100, 86, 97, 108, 117, 101, 115]) (by omega) (by decide)
 have hul := kZ p [65, 108, 108, 111, 119, 101, 100, 86, 97, 108, 117, 101, 115]
 simp only [List.length_cons, List.length_nil] at hul
 dsimp only
 rw [ho2, ho3, hd2, hd3, hu1, hu2, hu3, Bool.not_true, cF, cT]
 generalize getV v [84, 121, 112, 101] = t1
 generalize getV v [68, 101, 102, 97, 117, 108, 116] = t2 at ht2 hs2 ⊢
 generalize getV v [65, 108, 108, 111, 119, 101, 100, 86, 97, 108, 117, 101, 115] = t3 at hl3 hx3 hs3 ⊢
 generalize undS p [84, 121, 112, 101] = q1
 generalize undS p [68, 101, 102, 97, 117, 108, 116] = q2
 generalize undS p [65, 108, 108, 111, 119, 101, 100, 86, 97, 108, 117, 101, 115] = q3 at hul ⊢
 obtain ⟨t1, ok1⟩ := t1
 obtain ⟨t2, ok2⟩ := t2
 obtain ⟨t3, ok3⟩ := t3
 dsimp only at ht2 hl3 hx3 hs2 hs3 ⊢
 obtain ⟨num, hnum⟩ : ∃ num, decide (t1.aa = [78, 117, 109, 98, 101, 114]) = num := ⟨_, rfl⟩
 -- what is behind a fault keeps it
 have keep3 : ∀ (x2 : TE0 × Bool × Int × List UInt8) (e : Int) (a : List UInt8) (y : Bool × Int × Bool × Int × List UInt8 × List TE0 × List (List UInt8)) (nm : Bool), e ≠ 0 → Kp (bif !ok3 then some ((⟨id, nm, y.1, ⟨y.2.1, y.2.2.1, y.2.2.2.1, y.2.2.2.2.1, y.2.2.2.2.2.1, y.2.2.2.2.2.2⟩, []⟩ : TD0), e, a)
   else ((some q3).bind fun x_10 => (bif !decide (t3.ab = 4) then some true else some (decide (((t3.ac.length : Nat) : Int) = 0)) : Option Bool).bind fun y_4 => bif y_4 then ((aq n e a 120 x_10).bind fun x_11 => some ((⟨id, nm, y.1, ⟨y.2.1, y.2.2.1, y.2.2.2.1, y.2.2.2.2.1, y.2.2.2.2.2.1, y.2.2.2.2.2.2⟩, []⟩ : TD0), x_11.1, x_11.2))
    else ((bif decide ((8 : Int) < ((t3.ac.length : Nat) : Int)) then ((aq n e a 3 x_10).bind fun x_12 => some (x_12.1, x_12.2)) else some (e, a) : Option (Int × List UInt8))).bind fun y_5 => (au (bh n x2 (t3, ok3) x_10) n ((0 : Int), y_5.1, y_5.2)).bind fun y_6 => some ((⟨id, nm, y.1, ⟨y.2.1, y.2.2.1, y.2.2.2.1, y.2.2.2.2.1, y.2.2.2.2.2.1, y.2.2.2.2.2.2⟩, t3.ac⟩ : TD0), y_6.1, y_6.2))) e a := fun x2 e a y nm he => by
  refine Kp.cnd (fun _ => Kp.mk) fun _ => ?_
  rw [bnd]
  obtain ⟨b, hb⟩ := pA (c := !decide (t3.ab = 4)) (x := true) (y := decide (((t3.ac.length : Nat) : Int) = 0))
  rw [hb, bnd]
  refine Kp.cnd (fun _ => ?_) fun _ => ?_
  ·rw [dP he, bnd]
   exact Kp.mk
  rw [fault_st he, bnd]
  have := si hn (x2 := x2) (x9 := (t3, ok3)) (q := q3) (by omega) hl3 hx3 (e := e) (a := a) he t3.ac.length 0 (by simp) n (by omega)
  have e0 : ((0 : Nat) : Int) = 0 := rfl
  rw [e0] at this
  dsimp only
  rw [this, bnd]
  exact Kp.mk
 have last : ∀ (x2 : TE0 × Bool × Int × List UInt8) (y : Bool × Int × Bool × Int × List UInt8 × List TE0 × List (List UInt8)), decide (x2.1.aa = [78, 117, 109, 98, 101, 114]) = num → Small 30 ⟨y.2.1, y.2.2.1, y.2.2.2.1, y.2.2.2.2.1, y.2.2.2.2.2.1, y.2.2.2.2.2.2⟩ →
   Agr at0 (bif ok3 then ((bif decide (t3.ab = 4) then (bif decide ((0 : Int) < ((t3.ac.length : Nat) : Int)) then some (.nx ()) else ((some (.inl ((120 : Int), q3)) : Option (FX TD0))).map Lp.br) else ((some (.inl ((120 : Int), q3)) : Option (FX TD0))).map Lp.br : Option (Lp Unit (FX TD0)))).bind fun j => joinF j fun _ =>
     bif decide (((t3.ac.length : Nat) : Int) ≤ 8) then ((au (dZ n (t3, q3, ok3)) n ((0 : Int), id, num, y.1, y.2.1, y.2.2.1, y.2.2.2.1, y.2.2.2.2.1, y.2.2.2.2.2.1, y.2.2.2.2.2.2, [])).bind fun b_8 => match b_8 with
      | .inl y_4 => some (.inl y_4)
      | .inr y_5 => some (.inr (⟨y_5.1, y_5.2.1, y_5.2.2.1, ⟨y_5.2.2.2.1, y_5.2.2.2.2.1, y_5.2.2.2.2.2.1, y_5.2.2.2.2.2.2.1, y_5.2.2.2.2.2.2.2.1, y_5.2.2.2.2.2.2.2.2.1⟩, t3.ac⟩ : TD0)))
     else some (.inl ((3 : Int), q3))
    else some (.inr (⟨id, num, y.1, ⟨y.2.1, y.2.2.1, y.2.2.2.1, y.2.2.2.2.1, y.2.2.2.2.2.1, y.2.2.2.2.2.2⟩, []⟩ : TD0)))
   (bif !ok3 then some ((⟨id, num, y.1, ⟨y.2.1, y.2.2.1, y.2.2.2.1, y.2.2.2.2.1, y.2.2.2.2.2.1, y.2.2.2.2.2.2⟩, []⟩ : TD0), 0, at0)
   else ((some q3).bind fun x_10 => (bif !decide (t3.ab = 4) then some true else some (decide (((t3.ac.length : Nat) : Int) = 0)) : Option Bool).bind fun y_4 => bif y_4 then ((aq n 0 at0 120 x_10).bind fun x_11 => some ((⟨id, num, y.1, ⟨y.2.1, y.2.2.1, y.2.2.2.1, y.2.2.2.2.1, y.2.2.2.2.2.1, y.2.2.2.2.2.2⟩, []⟩ : TD0), x_11.1, x_11.2))
    else ((bif decide ((8 : Int) < ((t3.ac.length : Nat) : Int)) then ((aq n 0 at0 3 x_10).bind fun x_12 => some (x_12.1, x_12.2)) else some (0, at0) : Option (Int × List UInt8))).bind fun y_5 => (au (bh n x2 (t3, ok3) x_10) n ((0 : Int), y_5.1, y_5.2)).bind fun y_6 => some ((⟨id, num, y.1, ⟨y.2.1, y.2.2.1, y.2.2.2.1, y.2.2.2.2.1, y.2.2.2.2.2.1, y.2.2.2.2.2.2⟩, t3.ac⟩ : TD0), y_6.1, y_6.2))) GPa := fun x2 y hx2 hsm => by
  cases ok3 with
  | false => exact Agr.inr ⟨hsm, Nat.zero_le _, fun y hy => by cases hy⟩
  | true =>
   rw [cT, Bool.not_true, cF, bnd]
   by_cases h4 : t3.ab = 4
   ·rw [decide_eq_true h4, cT, Bool.not_true, cF, bnd]
    by_cases h0 : t3.ac.length = 0
    ·have a1 : decide ((0 : Int) < ((t3.ac.length : Nat) : Int)) = false := decide_eq_false (by omega)
     have a2 : decide (((t3.ac.length : Nat) : Int) = 0) = true := decide_eq_true (by omega)
     rw [a1, cF, a2, cT, bP, bnd]
     exact Agr.inl (e := 120) (by decide)
    have a1 : decide ((0 : Int) < ((t3.ac.length : Nat) : Int)) = true := decide_eq_true (by omega)
    have a2 : decide (((t3.ac.length : Nat) : Int) = 0) = false := decide_eq_false (by omega)
    rw [a1, cT, a2, cF, bnd, joinF]
    by_cases h8 : t3.ac.length ≤ 8
    ·have b1 : decide (((t3.ac.length : Nat) : Int) ≤ 8) = true := decide_eq_true (by omega)
     have b2 : decide ((8 : Int) < ((t3.ac.length : Nat) : Int)) = false := decide_eq_false (by omega)
     rw [b1, cT, b2, cF, bnd]
     obtain ⟨b, c, hb, hc, hp⟩ := param_sim hn (num := num) (x7 := (t3, q3, true)) (x2 := x2) (x9 := (t3, true)) (q := q3) (by omega) rfl rfl hx2 h8 hx3 id (y.1, y.2.1, y.2.2.1, y.2.2.2.1, y.2.2.2.2.1, y.2.2.2.2.2.1, y.2.2.2.2.2.2, []) at0
     dsimp only
     rw [hb, hc, bnd, bnd]
     cases b with
     | inl p =>
      obtain ⟨hp1, rfl⟩ := hp
      exact Agr.inl hp1
     | inr z =>
      obtain ⟨rfl, rfl⟩ := hp
      exact Agr.inr ⟨hsm, h8, hs3⟩
    have b1 : decide (((t3.ac.length : Nat) : Int) ≤ 8) = false := decide_eq_false (by omega)
    have b2 : decide ((8 : Int) < ((t3.ac.length : Nat) : Int)) = true := decide_eq_true (by omega)
    rw [b1, cF, b2, cT, bP, bnd, bnd]
    have := si hn (x2 := x2) (x9 := (t3, true)) (q := q3) (by omega) hl3 hx3 (e := 3) (a := q3) (by decide) t3.ac.length 0 (by simp) n (by omega)
    have e0 : ((0 : Nat) : Int) = 0 := rfl
    rw [e0] at this
    dsimp only
    rw [this, bnd]
    exact Agr.inl (e := 3) (by decide)
   rw [decide_eq_false h4, cF, Bool.not_false, cT, bnd, cT, bP, bnd]
   exact Agr.inl (by decide)
 by_cases hty : t1.ab = 3 ∧ (t1.aa = [83, 116, 114, 105, 110, 103] ∨ t1.aa = [78, 117, 109, 98, 101, 114])
 ·have o1 : ((bif decide (t1.ab = 3) then (bif decide (t1.aa = [83, 116, 114, 105, 110, 103]) then some (.nx ()) else bif decide (t1.aa = [78, 117, 109, 98, 101, 114]) then some (.nx ()) else ((some (.inl ((120 : Int), q1)) : Option (FX TD0))).map Lp.br) else ((some (.inl ((120 : Int), q1)) : Option (FX TD0))).map Lp.br : Option (Lp Unit (FX TD0)))) = some (.nx ()) := by
   rw [decide_eq_true hty.1, cT]
   rcases hty.2 with e | e
   ·rw [decide_eq_true e, cT]
   rw [decide_eq_true e, cT]
   cases decide (t1.aa = [83, 116, 114, 105, 110, 103]) <;> rfl
  have o2 : (bif !decide (t1.ab = 3) then some true else bif !decide (t1.aa = [83, 116, 114, 105, 110, 103]) then some (!decide (t1.aa = [78, 117, 109, 98, 101, 114])) else some false : Option Bool) = some false := by
   rw [decide_eq_true hty.1, Bool.not_true, cF]
   rcases hty.2 with e | e
   ·rw [decide_eq_true e, Bool.not_true, cF]
   rw [decide_eq_true e]
   cases decide (t1.aa = [83, 116, 114, 105, 110, 103]) <;> rfl
  rw [o1, o2, bnd, joinF]
  repeat rw [bnd]
  rw [cF]
  repeat rw [bnd]
  dsimp only
  cases ok2 with
  | false =>
   rw [cF, cF]
   repeat rw [bnd]
   rw [joinF]
   repeat rw [bnd]
   rw [hnum]
   exact last (t1, true, 0, at0) (false, 0, false, 0, [], [], []) hnum sD
  | true =>
   rw [cT, cT, tC hn ht2, nL hn ht2]
   repeat rw [bnd]
   rw [hnum]
   cases hkd : kindV num t2 with
   | true =>
    rw [cT, Bool.not_true, cF]
    repeat rw [bnd]
    rw [joinF]
    repeat rw [bnd]
    exact last (t1, true, 0, at0) (true, t2.ab, t2.an, t2.ak, t2.aa, t2.ac, t2.af) hnum (by rw [evV]; exact hs2)
   | false =>
    rw [cF, Bool.not_false, cT]
    repeat rw [bnd]
    rw [bP]
    repeat rw [bnd]
    exact Agr.kp (by decide) (keep3 (t1, true, 0, at0) 120 q2 (true, t2.ab, t2.an, t2.ak, t2.aa, t2.ac, t2.af) num (by decide))
 have o1 : ((bif decide (t1.ab = 3) then (bif decide (t1.aa = [83, 116, 114, 105, 110, 103]) then some (.nx ()) else bif decide (t1.aa = [78, 117, 109, 98, 101, 114]) then some (.nx ()) else ((some (.inl ((120 : Int), q1)) : Option (FX TD0))).map Lp.br) else ((some (.inl ((120 : Int), q1)) : Option (FX TD0))).map Lp.br : Option (Lp Unit (FX TD0)))) = some (.br (.inl (120, q1))) := by
  by_cases h3 : t1.ab = 3
  ·rw [decide_eq_true h3, cT, decide_eq_false (fun e => hty ⟨h3, .inl e⟩), cF, decide_eq_false (fun e => hty ⟨h3, .inr e⟩), cF]; rfl
  rw [decide_eq_false h3, cF]; rfl
 have o2 : (bif !decide (t1.ab = 3) then some true else bif !decide (t1.aa = [83, 116, 114, 105, 110, 103]) then some (!decide (t1.aa = [78, 117, 109, 98, 101, 114])) else some false : Option Bool) = some true := by
  by_cases h3 : t1.ab = 3
  ·rw [decide_eq_true h3, Bool.not_true, cF, decide_eq_false (fun e => hty ⟨h3, .inl e⟩), Bool.not_false, cT, decide_eq_false (fun e => hty ⟨h3, .inr e⟩)]; rfl
  rw [decide_eq_false h3]; rfl
 rw [o1, o2, bnd, joinF]
 repeat rw [bnd]
 rw [cT]
 repeat rw [bnd]
 rw [bP]
 repeat rw [bnd]
 dsimp only
 refine Agr.kp (e := 120) (by decide) ?_
 cases ok2 with
 | false =>
  rw [cF]
  repeat rw [bnd]
  exact keep3 (t1, true, 0, at0) 120 q1 (false, 0, false, 0, [], [], []) _ (by decide)
 | true =>
  rw [cT, nL hn ht2, bnd, hnum]
  cases hkd : kindV num t2 with
  | true =>
   rw [Bool.not_true, cF]
   repeat rw [bnd]
   exact keep3 (t1, true, 0, at0) 120 q1 (true, t2.ab, t2.an, t2.ak, t2.aa, t2.ac, t2.af) _ (by decide)
  | false =>
   rw [Bool.not_false, cT]
   repeat rw [bnd]
   rw [dP (by decide)]
   repeat rw [bnd]
   exact keep3 (t1, true, 0, at0) 120 q1 (true, t2.ab, t2.an, t2.ak, t2.aa, t2.ac, t2.af) _ (by decide)
def GC:Nat→TH0→Prop
 |0,_=>False
 |d+1,c=>c.fL.length≤8∧GX 31 c.fA∧GX 31 c.fB∧∀y∈c.fL,GC d y
theorem GX.z:GX 31 aQ:=GX.nil rfl
theorem two_both {n d:Nat} (hn:100000≤n) {v a b:TE0} {p:Bs} (h:At d v p) (hl:v.ac=[a,b]) (at0:Bs):
 ∃r,lm n v.ac 0 p=some r∧∃y1 y2,cf n 0 at0 a (plcS p 0)=some y1∧cf n y1.2.1 y1.2.2 b (plcS p 1)=some y2∧
  (match r with|.inl q=>q.1≠0∧y2.2.1=q.1∧y2.2.2=q.2|.inr xs=>xs=[y1.1,y2.1]∧y2.2.1=0∧y2.2.2=at0∧GX 31 y1.1∧GX 31 y2.1):=by
 have hle:=h.len
 have hd:=h.d30
 have hown:=mt hn (rc:=jj n) (E:=exprV d) (l:=v.ac) (at_:=p) (by have:=h.le;omega) (by rw[hl];simp) (λx hx i hi=>by
  have hpl:=lC (a:=p) hi
  exact pG hn n d x _ (by omega) (kE h.sm hx) (h.ok.part hx) (by omega)) 0 (by omega)
 have e1: ((0:Nat):Int)=0:=rfl
 rw[e1,List.drop_zero] at hown
 obtain⟨m,rfl⟩: ∃m,n=m+1:=⟨n-1,by omega⟩
 have hr:RecOk (cf (m+1)) (exprV d) v.ac p:=⟨λx hx i hi at0=>by
  have hpl:=lC (a:=p) hi
  exact rR hn (m+1) d x _ at0 (by omega) (kE h.sm hx) (h.ok.part hx) (by omega),λe at0 x p he=>qc m e at0 x p he⟩
 obtain⟨y1,y2,h1,h2,h3⟩:=sh (at0:=at0) hr (a:=a) (b:=b) (by simp[hl]) (by simp[hl]) (i:=0) (by omega)
 refine⟨_,hown,y1,y2,h1,h2,?_⟩
 rw[hl]
 cases hx:exL (exprV d) p 0 [a,b] with
 |inl q=>rw[hx] at h3;exact h3
 |inr xs=>
  rw[hx] at h3
  obtain⟨rfl,h4,h5⟩:=h3
  have hg: ∀y∈ [y1.1,y2.1],GX 31 y:=λy hy=>by
   obtain⟨x,_,q,hq⟩:=(exL_in hx).2 y hy
   exact GX.le (by omega) (oY d x q y hq)
  exact⟨rfl,h4,h5,hg _ (by simp),hg _ (by simp)⟩
abbrev CrT:=Int→Bs→TE0→Bs→Option (TH0×Int×Bs)
theorem conds_sim {n d:Nat} (hn:100000≤n) {r1:TE0→Bs→Option (FX TH0)} {r2:CrT} {x:TE0} {q:Bs} (h:At d x q) (h4:x.ac.length≤4) (G:TH0→Prop)
 (hr: ∀y∈x.ac,∀p,p.length≤q.length+5500→∀at0,Agr at0 (r1 y p) (r2 0 at0 y p) G) (at0:Bs):
 ∃b c,au (gv n r1 x q) n ((0:Int),([]:List TH0))=some b∧au (cp n r2 x q) n ((0:Int),(0:Int),at0,([]:List TH0))=some c∧(match b with|.inl p=>p.1≠0∧∃l,c=(l,p.1,p.2)|.inr l=>c=(l,0,at0)∧l.length≤8∧∀y∈l,G y):=by
 have hle:=h.le
 refine sim (s1:=gv n r1 x q) (s2:=cp n r2 x q) (n:=n) (λk s y=>s.1=(k:Int)∧s.2.length=k∧(∀z∈s.2,G z)∧y=((k:Int),0,at0,s.2)) (λk b y=>∃e a,b=.inl (e,a)∧e≠0∧∃j l,y=(j,e,a,l)) _ x.ac.length ⟨rfl,rfl,by simp,rfl⟩ ?_ ?_ ?_ (by omega)
 ·rintro k ⟨i,acc⟩ _ hk ⟨i1,i2,i3,rfl⟩
  have i1':i=(k:Int):=i1
  have i2':acc.length=k:=i2
  subst i1'
  have hg:aB x.ac (k:Int)=some x.ac[k]:=by simp[aB]
  have hpl:=lC (a:=q) (i:=k) (by omega)
  have e1: (k:Int)+1=((k+1:Nat):Int):=by omega
  obtain⟨r,ho,hd,hq⟩:=hr _ (List.getElem_mem hk) (plcS q k) (by omega) at0
  have hp1:=ru (n:=n) (a:=q) (i:=k) (by omega) (by omega)
  have hp2:=iO (n:=n) (a:=q) (i:=k) (by omega) (by omega)
  have hlt:decide ((k:Int)<((x.ac.length:Nat):Int))=true:=dT (by omega)
  unfold gv cp
  dsimp only
  rw[hlt,cT,cT,dT rfl,hg,hp1,hp2]
  repeat rw[bnd]
  rw[cT]
  repeat rw[bnd]
  rw[ho,bnd,aP (by omega),e1]
  cases r with
  |inl p=>
   right
   obtain⟨hp,j,hj⟩:=hd
   rw[hj]
   repeat rw[bnd]
   rw[aP (by omega)]
   repeat rw[bnd]
   rw[aI (by omega) (by omega)]
   exact⟨_,rfl,.inr ⟨_,rfl,p.1,p.2,rfl,hp,_,_,rfl⟩⟩
  |inr z=>
   left
   have hj:r2 0 at0 x.ac[k] (plcS q k)=some (z,0,at0):=hd
   rw[hj]
   repeat rw[bnd]
   rw[aP (by omega)]
   repeat rw[bnd]
   dsimp only
   repeat rw[bnd]
   rw[joinF,aI (by omega) (by omega),aI (by omega) (by omega)]
   refine⟨_,_,rfl,rfl,rfl,by simp;omega,λy hy=>?_,rfl⟩
   rcases List.mem_append.1 hy with hy|hy
   ·exact i3 y hy
   obtain rfl:=List.mem_singleton.1 hy
   exact hq _ rfl
 ·rintro k _ _ hk ⟨e,a,rfl,he,j,l,rfl⟩
  left
  unfold cp
  dsimp only
  rw[dF he]
  refine⟨_,?_,he,l,rfl⟩
  cases decide (j<((x.ac.length:Nat):Int))<;>rfl
 rintro⟨i,acc⟩ _ ⟨i1,i2,i3,rfl⟩
 have i1':i=(x.ac.length:Int):=i1
 have i2':acc.length=x.ac.length:=i2
 subst i1'
 have hlt:decide (((x.ac.length:Nat):Int)<((x.ac.length:Nat):Int))=false:=dF (by omega)
 unfold gv cp
 dsimp only
 rw[hlt,cF,cF,bnd,cF]
 exact⟨_,_,rfl,rfl,rfl,by omega,i3⟩
def bndV (key:Bs):Int×Int:=(ew (bJ (bJ (bJ (bJ ([]:List (Bs× (Int×Int))) [69,113,117,97,108,115] ((2:Int),(2:Int))) [65,110,100] ((1:Int),(4:Int))) [79,114] ((1:Int),(4:Int))) [78,111,116] ((1:Int),(1:Int))) key).getD ((0:Int),(0:Int))
def kndV (key:Bs):Int:=(ew (bJ (bJ (bJ ([]:List (Bs×Int)) [65,110,100] (1:Int)) [79,114] (2:Int)) [78,111,116] (3:Int)) key).getD (0:Int)
theorem GC.le: ∀ {d e:Nat} {x:TH0},d≤e→GC d x→GC e x
 |0,_,_,_,h=>h.elim
 |d+1,0,_,h,_=>absurd h (by omega)
 |d+1,e+1,x,h,hx=>⟨hx.1,hx.2.1,hx.2.2.1,λy hy=>GC.le (by omega) (hx.2.2.2 y hy)⟩
theorem chk_own {α:Type} {b1 b2 b3:Bool} {q:Bs}: (bif b1 then(bif b2 then(bif b3 then(some (.nx ())) else((some (.inl ((120:Int),q)):Option (FX α))).map Lp.br) else((some (.inl ((120:Int),q)):Option (FX α))).map Lp.br) else((some (.inl ((120:Int),q)):Option (FX α))).map Lp.br:Option (Lp Unit (FX α)))=bif(b1&& (b2&&b3)) then some (.nx ()) else some (.br (.inl (120,q))):=by
 cases b1<;>cases b2<;>cases b3<;>rfl
theorem chk_doc {b1 bE bN c2 c1 cl cg:Bool}: (bif !b1 then some true else bif bE then(bif !c2 then some true else bif bN then(bif !c1 then some true else bif cl then some true else some cg) else bif cl then some true else some cg) else bif bN then(bif !c1 then some true else bif cl then some true else some cg) else bif cl then some true else some cg:Option Bool)=some (!b1|| (bE&& !c2|| (bN&& !c1|| (cl||cg)))):=by
 cases b1<;>cases bE<;>cases bN<;>cases c2<;>cases c1<;>cases cl<;>cases cg<;>rfl
theorem tk {n:Nat} (hn:100000≤n): ∀ (k d:Nat) (v:TE0) (p at0:List UInt8),d≤k→At d v p→Agr at0 (gh n k v p) (cJ n k 0 at0 v p) (GC d)
 |_,0,v,p,at0,_,h=>h.sm.elim
 |0,d+1,v,p,at0,hk,_=>absurd hk (by omega)
 |k+1,d+1,v,p,at0,hk,h=>by
  show Agr at0 (jL n (gh n k) v p) (eU n (cJ n k) 0 at0 v p) _
  have hle:=h.le
  unfold jL eU
  refine Agr.fields hn h (by simp) (λq=>rfl) (λe a=>Kp.mk) (λh5 hkn=>?_)
  dsimp only
  rw[nT,cF]
  by_cases h1:v.af.length=1
  ·have d1:decide (((v.af.length:Nat):Int)=1)=true:=dT (by omega)
   obtain⟨key,x,hks,hls⟩:=one_key h.ok.plain h5 h1
   have g0:aB v.af 0=some key:=by rw[hks];rfl
   have g1:aB v.ac 0=some x:=by rw[hls];rfl
   have hkl:key.length≤5000:=h.wide.2.2.2 key (by rw[hks];simp)
   have hkin:=hkn key (by rw[hks];simp)
   have hul:=kZ p key
   obtain⟨e,he,hat⟩:=h.part (x:=x) (q:=undS p key) (by rw[hls];simp) (by omega)
   have hle2:=hat.le
   have hu1:=me (n:=n) (a:=p) (k:=key) (by omega) (by omega)
   have hu2:=dw (n:=n) (a:=p) (k:=key) (by omega) (by omega)
   rw[d1,cT,nT,cF,g0,g1,bnd,bnd,bnd,bnd,hu1,hu2,bnd,bnd]
   by_cases hc:key=[67,111,110,100,105,116,105,111,110]
   ·have d2:decide (key=[67,111,110,100,105,116,105,111,110])=true:=dT hc
    rw[d2,cT,cT,kP hn hat.txt,ke hn hat.txt,bnd,bnd]
    cases nameV x with
    |true=>rw[cT,nT,cF,bnd];exact Agr.inr ⟨Nat.zero_le _,GX.z,GX.z,λy hy=>by cases hy⟩
    |false=>rw[cF,nF,cT,bP,bnd,bnd];exact Agr.inl (e:=120) (by decide)
   have d2:decide (key=[67,111,110,100,105,116,105,111,110])=false:=dF hc
   rw[d2,cF,cF]
   have ih: ∀y∈x.ac,∀q,q.length≤(undS p key).length+5500→∀at0,Agr at0 (gh n k y q) (cJ n k 0 at0 y q) (GC d):=λy hy q hq at0=>by
    obtain⟨e2,he2,hat2⟩:=hat.part hy hq
    exact(tk hn k e2 y q at0 (by omega) hat2).imp λc hc=>GC.le (by omega) hc
   obtain⟨lo,hi,bE,bN,bO,f1,fE,fN,fO,f2,f3⟩: ∃ (lo hi:Int) (bE bN bO:Bool),bndV key=(lo,hi)∧decide (key=[69,113,117,97,108,115])=bE∧decide (key=[78,111,116])=bN∧decide (key=[79,114])=bO∧
    (∀m:Int,(bE&& !decide (m=2)|| (bN&& !decide (m=1)|| (decide (m<1)||decide (4<m))))= !(decide (lo≤m)&&decide (m≤hi)))∧((bE=true∧lo=2∧hi=2)∨(bE=false∧1≤lo∧hi≤4∧kndV key=(bif bN then 3 else bif bO then 2 else 1))):=by
    simp only[List.mem_cons,List.not_mem_nil,or_false] at hkin
    rcases hkin with rfl|rfl|rfl|rfl|rfl
    ·exact⟨2,2,true,false,false,by kernel_rfl,rfl,rfl,rfl,λm=>by rw[Bool.eq_iff_iff];simp;try omega,.inl ⟨rfl,rfl,rfl⟩⟩
    ·exact⟨1,4,false,false,false,by kernel_rfl,rfl,rfl,rfl,λm=>by rw[Bool.eq_iff_iff];simp;try omega,.inr ⟨rfl,by omega,by omega,by kernel_rfl⟩⟩
    ·exact⟨1,4,false,false,true,by kernel_rfl,rfl,rfl,rfl,λm=>by rw[Bool.eq_iff_iff];simp;try omega,.inr ⟨rfl,by omega,by omega,by kernel_rfl⟩⟩
    ·exact⟨1,1,false,true,false,by kernel_rfl,rfl,rfl,rfl,λm=>by rw[Bool.eq_iff_iff];simp;try omega,.inr ⟨rfl,by omega,by omega,by kernel_rfl⟩⟩
    exact absurd rfl hc
   unfold bndV at f1
   unfold kndV at f3
   rw[f1,chk_own,chk_doc,fE,fN,fO,f2,←Bool.not_and,bnd]
   dsimp only
   cases hok: (decide (x.ab=4)&& (decide (lo≤((x.ac.length:Nat):Int))&&decide (((x.ac.length:Nat):Int)≤hi))) with
   |false=>
    rw[cF,nF,cT,bnd,joinF,bP,bnd]
    exact Agr.inl (e:=120) (by decide)
   |true=>
    rw[cT,nT,cF,bnd,joinF]
    obtain⟨h4,hok⟩:=Bool.and_eq_true_iff.1 hok
    obtain⟨hlo,hhi⟩:=Bool.and_eq_true_iff.1 hok
    have hlo':=of_decide_eq_true hlo
    have hhi':=of_decide_eq_true hhi
    rcases f3 with⟨rfl,rfl,rfl⟩|⟨rfl,h1lo,h4hi,f3⟩
    ·have hl2:x.ac.length=2:=by omega
     obtain⟨a,b,hab⟩: ∃a b,x.ac=[a,b]:=by
      match x.ac,hl2 with
      |[a,b],_=>exact⟨a,b,rfl⟩
     obtain⟨r,ho,y1,y2,e1,e2,e3⟩:=two_both hn hat hab at0
     have ga:aB x.ac 0=some a:=by rw[hab];rfl
     have gb:aB x.ac 1=some b:=by rw[hab];rfl
     have p0:bx n (undS p key) 0=some (plcS (undS p key) 0):=iO (i:=0) (by omega) (by omega)
     have p1:bx n (undS p key) 1=some (plcS (undS p key) 1):=iO (i:=1) (by omega) (by omega)
     rw[cT,cT,ho,ga,gb,p0,p1]
     repeat rw[bnd]
     rw[e1]
     repeat rw[bnd]
     dsimp only
     rw[e2]
     repeat rw[bnd]
     cases r with
     |inl q=>
      dsimp only at e3
      rw[e3.2.1,e3.2.2]
      exact Agr.inl e3.1
     |inr xs=>
      obtain⟨rfl,e4,e5,e6,e7⟩:=e3
      have q0:aB [y1.1,y2.1] 0=some y1.1:=rfl
      have q1:aB [y1.1,y2.1] 1=some y2.1:=rfl
      dsimp only
      rw[q0,q1,bnd,bnd,e4,e5]
      exact Agr.inr ⟨Nat.zero_le _,e6,e7,λy hy=>by cases hy⟩
    obtain⟨b,c,hb,hc2,hp⟩:=conds_sim hn hat (by omega) (GC d) ih at0
    rw[cF,cF,f3,hb]
    have o1: (bif bO then some (2:Int) else some 1)=some (bif bO then 2 else 1):=by cases bO<;>rfl
    have o2: (bif bN then some (3:Int) else some (bif bO then 2 else 1))=some (bif bN then 3 else bif bO then 2 else 1):=by cases bN<;>rfl
    rw[o1]
    repeat rw[bnd]
    rw[o2]
    repeat rw[bnd]
    rw[hc2,bnd]
    cases b with
    |inl q=>
     obtain⟨hq,l,rfl⟩:=hp
     exact Agr.inl hq
    |inr l=>
     obtain⟨rfl,h8,hg⟩:=hp
     exact Agr.inr ⟨h8,GX.z,GX.z,hg⟩
  have d1:decide (((v.af.length:Nat):Int)=1)=false:=dF (by omega)
  rw[d1,cF,nF,cT,bP,bnd]
  exact Agr.inl (e:=120) (by decide)
theorem defined_both {n d:Nat} (hn:100000≤n) {v:TE0} {p:Bs} (h:At d v p) (id at0:Bs):Agr at0 (jh n id v p) (bK n 0 at0 id v p) (GC 31):=by
 have hle:=h.le
 unfold jh bK nY kj
 refine Agr.bind (tk hn n d v p at0 (by have:=h.d30;omega) h) (λq=>rfl) (λj e a he=>?_) (λx hx=>?_)
 ·refine Kp.cnd (λ_=>?_) (λ_=>Kp.mk)
  rw[dw (by omega) (by decide),bnd,dP he,bnd]
  exact Kp.mk
 dsimp only
 rw[me (by omega) (by decide),dw (by omega) (by decide),bnd]
 have hg:=GC.le (by have:=h.d30;omega:d≤31) hx
 cases decide (x.ab=4) with
 |true=>rw[nT,cF,cT,bnd,bP,bnd];exact Agr.inl (e:=120) (by decide)
 |false=>rw[nF,cT,cF];exact Agr.inr hg
theorem output_both {n d:Nat} (hn:100000≤n) {v:TE0} {p:Bs} (h:At d v p) (id at0:Bs):Agr at0 (jO n id v p) (bX n 0 at0 id v p) (λx=>GX 31 x.fE):=by
 have hle:=h.le
 have k1: ([86,97,108,117,101]:Bs).length≤30:=by decide
 have k2: ([67,111,110,100,105,116,105,111,110]:Bs).length≤30:=by decide
 unfold jO bX
 refine Agr.fields hn h (by simp) (λq=>rfl) (λe a=>Kp.mk) (λh5 _=>?_)
 dsimp only
 refine Agr.want hn h k1 (λx q=>rfl) (λx e a=>Kp.mk) (λe1 _ hat=>?_)
 dsimp only
 rw[nT,cF,cT,dw (by omega) (by decide),bnd]
 refine Agr.bind (exp_both hn hat at0) (λq=>rfl) (λj e a he=>?_) (λx hx=>?_)
 ·exact Kp.bind (se hn he h k2) (λj=>Kp.mk)
 dsimp only
 rw[ip hn h k2,bnd]
 exact Agr.bind (sd hn h k2 at0) (λq=>rfl) (λj e a he=>Kp.mk) (λy _=>Agr.inr hx)
theorem Kp.ob {β γ:Type} {e:Int} {a:Bs} {o:Option γ} {g:γ→Option (β×Int×Bs)} (h: ∃z,o=some z) (h2: ∀z,Kp (g z) e a):Kp (o.bind g) e a:=by
 obtain⟨z,rfl⟩:=h
 exact h2 z
theorem sj {b k d r:Bool}: ∃z,(bif b then(bif !k then some true else bif !d then some (!r) else some false) else some false:Option Bool)=some z:=by
 cases b<;>cases k<;>cases d<;>exact⟨_,rfl⟩
theorem pol_doc {b k d r:Bool}: (bif b then(bif !k then some true else bif !d then some (!r) else some false) else some false:Option Bool)=some (b&& !(k&& (d||r))):=by
 cases b<;>cases k<;>cases d<;>cases r<;>rfl
theorem pol_own {α:Type} {b k d r:Bool} {q:Bs}: (bif !b then some (.nx ()) else bif k then(bif d then some (.nx ()) else bif r then some (.nx ()) else((some (.inl ((120:Int),q)):Option (FX α))).map Lp.br) else((some (.inl ((120:Int),q)):Option (FX α))).map Lp.br:Option (Lp Unit (FX α)))=
 bif(b&& !(k&& (d||r))) then some (.br (.inl (120,q))) else some (.nx ()):=by
 cases b<;>cases k<;>cases d<;>cases r<;>rfl
abbrev R1T:=TE0→Bs→Int→Option (FX TB0)
abbrev R2T:=Int→Bs→TE0→Bs→Int→Option (TB0×Int×Bs)
def GRs (G:TB0→Prop) (x:TA0):Prop:=x.df.length≤8∧GP x.kb∧x.gq.length≤1∧∀u∈x.gq,G u
theorem GP.nil:GP []:=⟨Nat.zero_le _,λx hx=>by cases hx⟩
theorem lS {n:Nat} {rc2:R2T} {e:Int} {a:Bs} (he:e≠0) {a0 a1 a2:Bs} {a3:List TF0} {a4:List Bs} {a5:Bool} {a6:List TB0} {v:TE0} {p:Bs} {deep:Int}:
 dn n rc2 e a a0 a1 a2 a3 a4 a5 a6 v p deep=some (e,a,a0,a1,a2,a3,a4,a5,a6):=by
 unfold dn
 rw[fields_keep he,bnd]
 rfl
theorem named_t {n:Nat} (hn:100000≤n) {v:TE0} {q:Bs} (h:v.aa.length≤5000):eZ n v q true=some (bif nameV v then .inr v.aa else .inl (120,q)):=by
 unfold eZ
 rw[nT,cF,kP hn h,bnd]
 cases nameV v<;>rfl
theorem sZ {n d:Nat} (hn:100000≤n) {deep:Int} (h0:0≤deep) (h9:deep≤9) {rc1:R1T} {rc2:R2T} {G:TB0→Prop} {v:TE0} {p:Bs} (h:At d v p)
 (hrc:deep<2→∀e y q,e<d→At e y q→∀at0,Agr at0 (rc1 y q (deep+1)) (rc2 0 at0 y q (deep+1)) G) (id at0:Bs):
 Agr at0 (gI n rc1 id v p deep) (bm n rc2 0 at0 id v p deep) (GRs G):=by
 have hle:=h.le
 have k1: ([84,121,112,101]:Bs).length≤30:=by decide
 have k2: ([67,111,110,100,105,116,105,111,110]:Bs).length≤30:=by decide
 have k3: ([68,101,112,101,110,100,115,79,110]:Bs).length≤30:=by decide
 have k4: ([68,101,108,101,116,105,111,110,80,111,108,105,99,121]:Bs).length≤30:=by decide
 have k5: ([80,114,111,112,101,114,116,105,101,115]:Bs).length≤30:=by decide
 have k6: ([84,101,109,112,108,97,116,101]:Bs).length≤30:=by decide
 have k7: ([80,97,114,97,109,101,116,101,114,115]:Bs).length≤30:=by decide
 have hu4:=dw (n:=n) (a:=p) (k:=[68,101,108,101,116,105,111,110,80,111,108,105,99,121]) (by omega) (by decide)
 have hu5:=dw (n:=n) (a:=p) (k:=[80,114,111,112,101,114,116,105,101,115]) (by omega) (by decide)
 have hg4:=hU (n:=n) (by omega) h.wide [68,101,108,101,116,105,111,110,80,111,108,105,99,121]
 have hg5:=hU (n:=n) (by omega) h.wide [80,114,111,112,101,114,116,105,101,115]
 unfold gI bm
 refine Agr.fields hn h (by simp) (λq=>rfl) (λe a=>Kp.mk) (λh5 _=>?_)
 dsimp only
 refine Agr.want hn h k1 (λx q=>rfl) (λx e a=>Kp.mk) (λe1 _ hat1=>?_)
 have ht1:=hat1.txt
 generalize (getV v [84,121,112,101]).1=t at ht1 hat1 ⊢
 dsimp only
 rw[nT,cF,cT,named_t hn ht1,ke hn ht1,bnd,bnd,dw (by omega) (by decide)]
 cases nameV t with
 |false=>
  rw[cF,nF,cT,bnd,bP]
  repeat rw[bnd]
  dsimp only
  have he: (120:Int)≠0:=by decide
  refine Agr.kp he (Kp.bind (se hn he h k2) λj6=>Kp.bind (pB hn he h) λj7=>?_)
  refine Kp.tot hg4 (Kp.ob sj λy2=>Kp.tot (rT hu4 he) (Kp.ob pA λy4=>Kp.tot hg5 (Kp.cnd (λ_=>Kp.cnd (λ_=>?_) λ_=>Kp.tot hu5 (Kp.tot (lS he) Kp.mk)) λ_=>Kp.cnd (λ_=>Kp.tot hu5 (Kp.bind (lD he) λj=>Kp.mk)) λ_=>Kp.mk)))
  dsimp only
  rw[dP he,bnd]
  exact Kp.mk
 |true=>
  rw[cT,nT,cF]
  repeat rw[bnd]
  dsimp only
  rw[ip hn h k2,bnd]
  refine Agr.bind (sd hn h k2 at0) (λq=>rfl) (λj6 e a he=>Kp.bind (pB hn he h) λj7=>?_) (λco _=>?_)
  ·refine Kp.tot hg4 (Kp.ob sj λy2=>Kp.tot (rT hu4 he) (Kp.ob pA λy4=>Kp.tot hg5 (Kp.cnd (λ_=>Kp.cnd (λ_=>?_) λ_=>Kp.tot hu5 (Kp.tot (lS he) Kp.mk)) λ_=>Kp.cnd (λ_=>Kp.tot hu5 (Kp.bind (lD he) λj=>Kp.mk)) λ_=>Kp.mk)))
   rw[dP he,bnd]
   exact Kp.mk
  dsimp only
  rw[ip hn h k3,bnd]
  refine Agr.bind (depends_both hn h at0) (λq=>rfl) (λj7 e a he=>?_) (λde hde=>?_)
  ·refine Kp.tot hg4 (Kp.ob sj λy2=>Kp.tot (rT hu4 he) (Kp.ob pA λy4=>Kp.tot hg5 (Kp.cnd (λ_=>Kp.cnd (λ_=>?_) λ_=>Kp.tot hu5 (Kp.tot (lS he) Kp.mk)) λ_=>Kp.cnd (λ_=>Kp.tot hu5 (Kp.bind (lD he) λj=>Kp.mk)) λ_=>Kp.mk)))
   rw[dP he,bnd]
   exact Kp.mk
  dsimp only
  rw[ip hn h k4,ip hn h k5,hg4,hg5,hu4,hu5]
  repeat rw[bnd]
  dsimp only
  rw[pol_own,pol_doc,bnd]
  obtain⟨pv,hpv⟩: ∃pv,getV v [68,101,108,101,116,105,111,110,80,111,108,105,99,121]=pv:=⟨_,rfl⟩
  have hret: (bif pv.2 then some (decide (pv.1.aa=[82,101,116,97,105,110])) else some false:Option Bool)=some (decide (pv.1.aa=[82,101,116,97,105,110])):=by
   cases hb:pv.2 with
   |true=>rfl
   |false=>
    have:pv.1=oO:=by rw[←hpv] at hb ⊢;exact lA hb
    rw[this]
    rfl
  rw[hpv,hret]
  have hat5: ∀hb: (getV v [80,114,111,112,101,114,116,105,101,115]).2=true,∃e,e<d∧At e (getV v [80,114,111,112,101,114,116,105,101,115]).1 (undS p [80,114,111,112,101,114,116,105,101,115]):=λhb=>h.get k5 hb
  generalize getV v [80,114,111,112,101,114,116,105,101,115]=t5 at hat5 ⊢
  generalize undS p [80,114,111,112,101,114,116,105,101,115]=q5 at hat5 ⊢
  generalize undS p [68,101,108,101,116,105,111,110,80,111,108,105,99,121]=q4
  generalize decide (pv.1.aa=[82,101,116,97,105,110])=rt
  cases (pv.2&& !(decide (pv.1.ab=3)&& (decide (pv.1.aa=[68,101,108,101,116,101])||rt))) with
  |true=>
   rw[cT,cT]
   repeat rw[bnd]
   rw[joinF,bP]
   repeat rw[bnd]
   dsimp only
   have he: (120:Int)≠0:=by decide
   refine Agr.kp he (Kp.cnd (λ_=>Kp.cnd (λ_=>?_) λ_=>?_) λ_=>Kp.cnd (λ_=>?_) λ_=>Kp.mk)
   ·rw[dP he,bnd]
    exact Kp.mk
   ·rw[lS he,bnd]
    exact Kp.mk
   exact Kp.bind (lD he) λj=>Kp.mk
  |false=>
   rw[cF,cF]
   repeat rw[bnd]
   rw[joinF]
   repeat rw[bnd]
   dsimp only
   by_cases hst:t.aa=[83,116,97,99,107]
   ·rw[dT hst,nT,cF,cT]
    cases hb:t5.2 with
    |false=>rw[cF,nF,cT,bP,bnd];exact Agr.inl (e:=120) (by decide)
    |true=>
     obtain⟨e5,he5,h55⟩:=hat5 hb
     have hle5:=h55.le
     rw[cT,nT,cF]
     unfold dn
     rw[Option.bind_assoc]
     refine Agr.fields hn h55 (by simp) (λq=>rfl) (λe a=>Kp.mk) (λ_ _=>?_)
     dsimp only
     rw[nT,cF,Option.bind_assoc]
     refine Agr.want hn h55 k6 (λx q=>rfl) (λx e a=>Kp.mk) (λe6 he6 hat6=>?_)
     dsimp only
     rw[cT,nT,cF,dw (by omega) (by decide)]
     by_cases hd:deep<2
     ·have d1:decide (deep<2)=true:=dT hd
      have d2:decide ((2:Int)≤deep)=false:=dF (by omega)
      rw[d1,cT,d2,cF,bnd,aP (qu (by omega) (by omega)),aP (qu (by omega) (by omega)),Option.bind_assoc]
      have hg7:=hU (n:=n) (by omega) h55.wide [80,97,114,97,109,101,116,101,114,115]
      have hu7:=dw (n:=n) (a:=q5) (k:=[80,97,114,97,109,101,116,101,114,115]) (by omega) (by decide)
      refine Agr.bind (hrc hd e6 _ _ (by omega) hat6 at0) (λq=>rfl) (λj e a he=>?_) (λu hu=>?_)
      ·dsimp only
       rw[hg7,bnd]
       cases (getV t5.1 [80,97,114,97,109,101,116,101,114,115]).2 with
       |false=>exact Kp.mk
       |true=>
        rw[cT,hu7,bnd]
        obtain⟨l,hl⟩:=lD (n:=n) (v:=(getV t5.1 [80,97,114,97,109,101,116,101,114,115]).1) (p:=undS q5 [80,97,114,97,109,101,116,101,114,115]) he
        rw[hl]
        exact Kp.mk
      dsimp only
      have hin: ∀w∈ [u],G w:=λw hw=>by
       obtain rfl:=List.mem_singleton.1 hw
       exact hu
      rw[ip hn h55 k7,hg7,bnd,bnd]
      dsimp only
      cases hb7: (getV t5.1 [80,97,114,97,109,101,116,101,114,115]).2 with
      |false=>exact Agr.inr ⟨hde,GP.nil,Nat.le_refl _,hin⟩
      |true=>
       obtain⟨e7,_,hat7⟩:=h55.get k7 hb7
       rw[cT,cT,hu7,bnd,Option.bind_assoc]
       exact Agr.bind (sk hn hat7 at0) (λq=>rfl) (λj e a he=>Kp.mk) (λl hl=>Agr.inr ⟨hde,hl,Nat.le_refl _,hin⟩)
     have d1:decide (deep<2)=false:=dF hd
     have d2:decide ((2:Int)≤deep)=true:=dT (by omega)
     rw[d1,cF,d2,cT,bnd,bP]
     repeat rw[bnd]
     exact Agr.inl (e:=170) (by decide)
   rw[dF hst,nF,cT,cF]
   cases hb:t5.2 with
   |false=>exact Agr.inr ⟨hde,GP.nil,Nat.zero_le _,λu hu=>by cases hu⟩
   |true=>
    obtain⟨e5,he5,h55⟩:=hat5 hb
    rw[cT,cT]
    exact Agr.bindJ (sk hn h55 at0) (λq=>rfl) (λj e a he=>Kp.mk) (λl hl=>Agr.inr ⟨hde,hl,Nat.zero_le _,λu hu=>by cases hu⟩)
abbrev TS:=List TD0×List TH0×List TA0×List TC0
def secStep (n:Nat) (cl:Bs→TE0→Bs→TS→Option (FX TS)) (x_1:TE0×Bs×Bool) (x_2:List aD) (s_1:Int×TS):Option (Lp (Int×TS) (FX TS)):=
    bif(decide (s_1.1<((x_2.length:Nat):Int))) then
     ((aB x_2 s_1.1).bind λx_3=>
     (dz n x_3.key).bind λx_4=>
     (aT n x_1.2.1 x_3.key).bind λx_5=>
     bif x_4 then
      ((aT n x_1.2.1 x_3.key).bind λx_6=>
      (cl x_3.key x_3.v x_6 (s_1.2.1,s_1.2.2.1,s_1.2.2.2.1,s_1.2.2.2.2)).bind λx_7=>
      (match x_7 with
      |.inl x_8=>some (.br (.inl x_8))
      |.inr x_9=>aL (inR .i64 (s_1.1+1))<|
       some (.nx (s_1.1+1,x_9.1,x_9.2.1,x_9.2.2.1,x_9.2.2.2))))
     else
      some (.br (.inl ((120:Int),x_5))))
    else
     some (.br (.inr (s_1.2.1,s_1.2.2.1,s_1.2.2.2.1,s_1.2.2.2.2)))
def secS (n:Nat) (cl:Bs→TE0→Bs→TS→Option (FX TS)) (key:Bs) (most:Int) (ts:TS) (v:TE0) (p:Bs):Option (FX TS):=
 (aX n key v p).bind λx_1=>
 bif !x_1.2.2 then
  (some (.inr (ts.1,ts.2.1,ts.2.2.1,ts.2.2.2)))
 else
  bif(decide (x_1.1.ab=5)) then
   (bif(decide (((x_1.1.af.length:Nat):Int)≤most)) then
    ((cW n x_1.1).bind λx_2=>
    (au (secStep n cl x_1 x_2) n ((0:Int),ts.1,ts.2.1,ts.2.2.1,ts.2.2.2)).bind λb_2=>
    (match b_2 with
    |.inl y_1=>some (.inl y_1)
    |.inr y_2=>some (.inr (y_2.1,y_2.2.1,y_2.2.2.1,y_2.2.2.2))))
   else
    some (.inl ((3:Int),x_1.2.1)))
  else
   some (.inl ((120:Int),x_1.2.1))
theorem sec1_eq (n:Nat) (key:Bs) (most:Int) (a:List TD0) (b:List TH0) (c:List TA0) (d:List TC0) (v:TE0) (p:Bs):
 iR n key most a b c d v p=secS n (λk y q ts=>dk n k y q ts.1 ts.2.1 ts.2.2.1 ts.2.2.2) key most (a,b,c,d) v p:=rfl
theorem sec2_eq (n:Nat) (key:Bs) (most:Int) (a:List TD0) (b:List TH0) (c:List TA0) (d:List TC0) (v:TE0) (p:Bs):
 gQ n key most a b c d v p=secS n (λk y q ts=>dl n k y q ts.1 ts.2.1 ts.2.2.1 ts.2.2.2) key most (a,b,c,d) v p:=rfl
theorem sec3_eq (n:Nat) (rc:R1T) (key:Bs) (most:Int) (a:List TD0) (b:List TH0) (c:List TA0) (d:List TC0) (deep:Int) (v:TE0) (p:Bs):
 gS n rc key most a b c d deep v p=secS n (λk y q ts=>cK n rc k y q ts.1 ts.2.1 ts.2.2.1 ts.2.2.2 deep) key most (a,b,c,d) v p:=rfl
theorem sec4_eq (n:Nat) (key:Bs) (most:Int) (a:List TD0) (b:List TH0) (c:List TA0) (d:List TC0) (v:TE0) (p:Bs):
 gR n key most a b c d v p=secS n (λk y q ts=>dm n k y q ts.1 ts.2.1 ts.2.2.1 ts.2.2.2) key most (a,b,c,d) v p:=rfl
def AgrS (at0:Bs) (o:Option (FX TS)) (o':Option (Int×Bs×TS)) (Q:TS→Prop):Prop:=∃r,o=some r∧(match r with|.inl p=>p.1≠0∧∃ts,o'=some (p.1,p.2,ts)|.inr ts=>o'=some (0,at0,ts)∧Q ts)
abbrev G4:=List TD0×List TH0×List TA0×List TC0
abbrev S2:=Int×Int×Bs×List TD0×List TH0×List TA0×List TC0×TS
abbrev B2:=Int×Bs×List TD0×List TH0×List TA0×List TC0×G4
def endI (e:Int) (a:Bs) (ts:TS):B2:=(e,a,ts.1,ts.2.1,ts.2.2.1,ts.2.2.2,ts)
def endB (e:Int) (a:Bs) (ts:TS):B2:=(e,a,ts.1,ts.2.1,ts.2.2.1,ts.2.2.2,[],[],[],[])
abbrev ClT:=Bs→TE0→Bs→TS→Option (FX TS)
abbrev Cl2T:=Bs→TE0→Bs→TS→Option (Int×Bs×TS)
structure DocStep (n:Nat) (v:TE0) (q at0:Bs) (step2:S2→Option (Lp S2 (Sum B2 B2))) (cl2:Cl2T):Prop where
 stop: ∀ (k e:Int) a ts,e≠0→step2 (k,e,a,[],[],[],[],ts)=some (.br (.inr (endB e a ts)))
 fin: ∀ts,step2 (((keysV v).length:Nat),0,at0,[],[],[],[],ts)=some (.br (.inr (endB 0 at0 ts)))
 bad: ∀ (k:Nat) (hk:k<(keysV v).length) ts,nameS (keysV v)[k]=false→step2 ((k:Int),0,at0,[],[],[],[],ts)=some (.br (.inl (endI 120 (undS q (keysV v)[k]) ts)))
 go: ∀ (k:Nat) (hk:k<(keysV v).length) ts,nameS (keysV v)[k]=true→step2 ((k:Int),0,at0,[],[],[],[],ts)=(cl2 (keysV v)[k] (getV v (keysV v)[k]).1 (undS q (keysV v)[k]) ts).bind λy=>aL (inR .i64 ((k:Int)+1)) (some (.nx ((k:Int)+1,y.1,y.2.1,[],[],[],[],y.2.2)))
theorem sec_sim {n d:Nat} (hn:100000≤n) {v:TE0} {q at0:Bs} (h:At d v q) (h5:v.ab=5) (h10: (keysV v).length≤10) {ok:Bool} {cl:ClT} {cl2:Cl2T} {step2:S2→Option (Lp S2 (Sum B2 B2))} (hst:DocStep n v q at0 step2 cl2) (I:Nat→TS→Prop) {ts0:TS} (h0:I 0 ts0)
 (hcl: ∀k ts key y p e,k<10→I k ts→e<d→At e y p→AgrS at0 (cl key y p ts) (cl2 key y p ts) (I (k+1))):
 ∃b c,au (secStep n cl (v,q,ok) (entV v)) n ((0:Int),ts0)=some b∧au step2 n ((0:Int),0,at0,[],[],[],[],ts0)=some c∧
  (match b with|.inl p=>p.1≠0∧∃ts,c=.inl (endI p.1 p.2 ts)∨c=.inr (endB p.1 p.2 ts)|.inr ts=>c=.inr (endB 0 at0 ts)∧I (keysV v).length ts):=by
 have hle:=h.le
 refine sim (s1:=secStep n cl (v,q,ok) (entV v)) (s2:=step2) (n:=n) (λk x y=>x.1=(k:Int)∧I k x.2∧y=((k:Int),0,at0,[],[],[],[],x.2)) (λk b y=>∃e a,b=.inl (e,a)∧e≠0∧∃j ts,y=(j,e,a,[],[],[],[],ts)) _ (keysV v).length ⟨rfl,h0,rfl⟩ ?_ ?_ ?_ (by omega)
 ·rintro k ⟨i,ts⟩ _ hk ⟨i1,i2,rfl⟩
  have i1':i=(k:Int):=i1
  subst i1'
  have hg:aB (entV v) (k:Int)=some ⟨(keysV v)[k],(getV v (keysV v)[k]).1⟩:=by simp[aB,entV,hk]
  have hkl:=mN h (List.getElem_mem hk)
  obtain⟨e,he,hat⟩:=ent_at h h5 (List.getElem_mem hk)
  have hu:=me (n:=n) (a:=q) (k:=(keysV v)[k]) (by omega) (by omega)
  have hlt:decide ((k:Int)<(((entV v).length:Nat):Int))=true:=dT (by simp[entV];omega)
  unfold secStep
  dsimp only
  rw[hlt,cT,hg,bnd]
  dsimp only
  rw[lB (by omega) (by omega),bnd,hu,bnd,bnd]
  cases hb:nameS (keysV v)[k] with
  |false=>
   right
   rw[cF,hst.bad k hk ts hb]
   exact⟨_,rfl,.inl ⟨_,rfl,(by decide: (120:Int)≠0),ts,.inl rfl⟩⟩
  |true=>
   rw[cT,hst.go k hk ts hb]
   obtain⟨r,hr,hp⟩:=hcl k ts (keysV v)[k] (getV v (keysV v)[k]).1 (undS q (keysV v)[k]) e (by omega) i2 he hat
   have ets: (ts.1,ts.2.1,ts.2.2.1,ts.2.2.2)=ts:=rfl
   rw[ets,hr,bnd]
   cases r with
   |inl p=>
    obtain⟨hp1,ts',h2⟩:=hp
    right
    rw[h2,bnd,aI (by omega) (by omega)]
    exact⟨_,rfl,.inr ⟨_,rfl,p.1,p.2,rfl,hp1,_,_,rfl⟩⟩
   |inr ts'=>
    obtain⟨h2,h3⟩:=hp
    left
    dsimp only
    rw[h2,bnd,aI (by omega) (by omega),aI (by omega) (by omega)]
    exact⟨_,_,rfl,rfl,by dsimp only;omega,h3,by rw[show(k:Int)+1=((k+1:Nat):Int) by omega]⟩
 ·rintro k _ _ hk ⟨e,a,rfl,he,j,ts,rfl⟩
  left
  exact⟨_,hst.stop j e a ts he,he,ts,.inr rfl⟩
 rintro⟨i,ts⟩ _ ⟨i1,i2,rfl⟩
 have i1':i=((keysV v).length:Int):=i1
 subst i1'
 have hlt:decide ((((keysV v).length:Nat):Int)<(((entV v).length:Nat):Int))=false:=dF (by simp[entV])
 unfold secStep
 dsimp only
 rw[hlt,cF,hst.fin]
 exact⟨_,_,rfl,rfl,rfl,i2⟩
abbrev secsK:List Bs:=[[80,97,114,97,109,101,116,101,114,115],[67,111,110,100,105,116,105,111,110,115],[82,101,115,111,117,114,99,101,115],[79,117,116,112,117,116,115]]
abbrev mostK:List Int:=[6,6,8,6]
abbrev S1:=List Bs×List Int×Int×Int×Bs×List TD0×List TH0×List TA0×List TC0×TS
def stT (i e:Int) (a:Bs) (ts:TS):S1:=(secsK,mostK,i,e,a,[],[],[],[],ts)
theorem tm_skip {n d:Nat} (hn:100000≤n) {rc2:R2T} {deep:Int} {v:TE0} {p:Bs} (h:At d v p) {e:Int} {a:Bs} (he:e≠0) (ts:TS): ∀m i,i+m=4→∀q,m<q→au (aJ n rc2 v p deep) q (stT (i:Nat) e a ts)=some (.inr (endB e a ts)):=by
 intro m
 induction m with
 |zero=>
  intro i hi q hq
  obtain⟨q,rfl⟩: ∃r,q=r+1:=⟨q-1,by omega⟩
  have:i=4:=by omega
  subst this
  rw[au,aJ]
  rfl
 |succ m ih=>
  intro i hi q hq
  obtain⟨q,rfl⟩: ∃r,q=r+1:=⟨q-1,by omega⟩
  obtain⟨key,hk⟩: ∃key,aB secsK (i:Int)=some key:=⟨_,dQ [] (by simp;omega)⟩
  have hlt:decide ((i:Int)<((secsK.length:Nat):Int))=true:=dT (by simp;omega)
  have hb: (bif !(getV v key).2 then some true else some (!decide (e=0)):Option Bool)=some true:=by
   rw[dF he]
   cases (getV v key).2<;>rfl
  rw[au,aJ,stT]
  dsimp only
  rw[hlt,cT,hk,bnd,hU (by omega) h.wide,bnd,hb,bnd,cT,aI (by omega) (by omega),bnd]
  exact ih (i+1) (by omega) q (by omega)
theorem qb {n d:Nat} (hn:100000≤n) {rc2:R2T} {deep:Int} {v:TE0} {p at0:Bs} (h:At d v p) {cl:ClT} {cl2:Cl2T} (i:Nat) (hi:i<4) (I:Nat→TS→Prop) {ts0:TS} (h0:I 0 ts0)
 (hst: ∀x3 q e,At e x3.1 q→x3.1.ab=5→DocStep n x3.1 q at0 (aS n rc2 deep (stT (i:Nat) 0 at0 ts0) x3 q (keysV x3.1)) cl2)
 (hst3: ∀x3 q e k ts,At e x3.1 q→aS n rc2 deep (stT (i:Nat) 0 at0 ts0) x3 q (keysV x3.1) (k,3,q,[],[],[],[],ts)=some (.br (.inr (endB 3 q ts))))
 (hcl: ∀k ts key y q e,k<10→I k ts→e<d→At e y q→AgrS at0 (cl key y q ts) (cl2 key y q ts) (I (k+1))):
 ∃r,secS n cl (secsK.getD i []) (mostK.getD i 0) ts0 v p=some r∧(match r with
  |.inl x=>x.1≠0∧∃ts,aJ n rc2 v p deep (stT (i:Nat) 0 at0 ts0)=some (.br (.inl (endI x.1 x.2 ts)))∨aJ n rc2 v p deep (stT (i:Nat) 0 at0 ts0)=some (.nx (stT ((i+1:Nat):Int) x.1 x.2 ts))
  |.inr ts=>aJ n rc2 v p deep (stT (i:Nat) 0 at0 ts0)=some (.nx (stT ((i+1:Nat):Int) 0 at0 ts))∧∃k,k≤10∧I k ts):=by
 have hle:=h.le
 have hkl: (secsK.getD i []).length≤30:=by
  match i,hi with
  |0,_=>decide
  |1,_=>decide
  |2,_=>decide
  |3,_=>decide
 have hm:mostK.getD i 0≤10:=by
  match i,hi with
  |0,_=>decide
  |1,_=>decide
  |2,_=>decide
  |3,_=>decide
 have hk:aB secsK (i:Int)=some (secsK.getD i []):=dQ [] (by simp;omega)
 have hmk:aB mostK (i:Int)=some (mostK.getD i 0):=dQ 0 (by simp;omega)
 have hlt:decide ((i:Int)<((secsK.length:Nat):Int))=true:=dT (by simp;omega)
 have e1: (i:Int)+1=((i+1:Nat):Int):=by omega
 unfold secS
 rw[ip hn h hkl,bnd]
 have hs1:aJ n rc2 v p deep (stT (i:Nat) 0 at0 ts0)=aJ n rc2 v p deep (secsK,mostK,(i:Int),0,at0,[],[],[],[],ts0):=rfl
 have hat:=λhb=>h.get (key:=secsK.getD i []) hkl hb
 have hu:=dw (n:=n) (a:=p) (k:=secsK.getD i []) (by omega) (by omega)
 rw[hs1]
 unfold aJ
 dsimp only
 rw[hlt,cT,hk,bnd,hU (by omega) h.wide,bnd,dT rfl,hu,hmk]
 generalize hx:getV v (secsK.getD i [])=x3 at hat ⊢
 generalize undS p (secsK.getD i [])=q at hat ⊢
 generalize mostK.getD i 0=mo at hm ⊢
 obtain⟨t,ok⟩:=x3
 cases ok with
 |false=>
  rw[nF,cT,cT,bnd,cT,aI (by omega) (by omega)]
  exact⟨_,rfl,rfl,0,by omega,h0⟩
 |true=>
  obtain⟨e,he,hat⟩:=hat rfl
  dsimp only at hat ⊢
  rw[nT,cF,cF,bnd,cF,bnd,bnd]
  by_cases h5:t.ab=5
  ·rw[dT h5,cT,nT,cF,rZ hn hat h5]
   have hkl2:=mw t
   by_cases hmo: ((t.af.length:Nat):Int)≤mo
   ·have d1:decide (((t.af.length:Nat):Int)≤mo)=true:=dT hmo
    have d2:decide (mo<((t.af.length:Nat):Int))=false:=dF (by omega)
    rw[d1,cT,d2,cF,bnd,bnd,nG hn hat,bnd]
    obtain⟨b,c,hb,hc,hp⟩:=sec_sim hn hat h5 (by omega) (ok:=true) (hst (t,true) q e hat h5) I h0 (λk ts key y p' e2 a1 a2 a3 a4=>hcl k ts key y p' e2 a1 a2 (by omega) a4)
    have hb':au (secStep n cl (t,q,true) (entV t)) n ((0:Int),ts0.1,ts0.2.1,ts0.2.2.1,ts0.2.2.2)=some b:=hb
    rw[hb',bnd]
    have hc':au (aS n rc2 deep (secsK,mostK,(i:Int),0,at0,[],[],[],[],ts0) (t,true) q (keysV t)) n ((0:Int),(0:Int),at0,[],[],[],[],ts0.1,ts0.2.1,ts0.2.2.1,ts0.2.2.2)=some c:=hc
    dsimp only
    rw[hc',bnd]
    cases b with
    |inl x=>
     obtain⟨hx1,ts,h1|h1⟩:=hp
     ·subst h1
      exact⟨_,rfl,hx1,ts,.inl rfl⟩
     subst h1
     dsimp only[endB]
     rw[aI (by omega) (by omega),e1]
     exact⟨_,rfl,hx1,ts,.inr rfl⟩
    |inr ts=>
     obtain⟨rfl,h1⟩:=hp
     dsimp only[endB]
     rw[aI (by omega) (by omega),e1]
     exact⟨_,rfl,rfl,_,by omega,h1⟩
   have d1:decide (((t.af.length:Nat):Int)≤mo)=false:=dF hmo
   have d2:decide (mo<((t.af.length:Nat):Int))=true:=dT (by omega)
   rw[d1,cF,d2,cT,bP,bnd,bnd,bnd]
   obtain⟨m,rfl⟩: ∃m,n=m+1:=⟨n-1,by omega⟩
   have hc':au (aS (m+1) rc2 deep (secsK,mostK,(i:Int),0,at0,[],[],[],[],ts0) (t,true) q (keysV t)) (m+1) ((0:Int),(3:Int),q,[],[],[],[],ts0.1,ts0.2.1,ts0.2.2.1,ts0.2.2.2)=some (.inr (endB 3 q ts0)):=by
    rw[au]
    have:=hst3 (t,true) q e 0 ts0 hat
    have h':aS (m+1) rc2 deep (secsK,mostK,(i:Int),0,at0,[],[],[],[],ts0) (t,true) q (keysV t) ((0:Int),(3:Int),q,[],[],[],[],ts0.1,ts0.2.1,ts0.2.2.1,ts0.2.2.2)=some (.br (.inr (endB 3 q ts0))):=this
    rw[h',bnd]
   dsimp only
   rw[hc',bnd]
   dsimp only[endB]
   rw[aI (by omega) (by omega),e1]
   exact⟨_,rfl,(by decide: (3:Int)≠0),ts0,.inr rfl⟩
  rw[dF h5,cF,nF,cT,bP,bnd]
  exact⟨_,rfl,(by decide: (120:Int)≠0),ts0,.inl rfl⟩
end Go.Proofs.YtkopljikappieaaGreatDoor
