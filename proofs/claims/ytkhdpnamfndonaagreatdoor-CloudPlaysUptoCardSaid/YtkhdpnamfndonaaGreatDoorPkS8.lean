/-
  Texts of this claim, packed (what nothing names is left out): LPlaysa, CloudP2, CloudLPlays. Own work, partly printed by own programs. No condition.
-/
import Derived.Test.YtkhdpnamfndonaaGreatDoorPkS7
import Derived.Test.YtkhdpnamfndonaaGreatDoorPkS6
set_option linter.unusedVariables false
set_option linter.unusedSimpArgs false
set_option maxHeartbeats 2000000
namespace Go.Proofs.YtkhdpnamfndonaaGreatDoor
open Go Go.Vc Go.RowKit
def nG (n:Nat):Option Unit:=
 some (())
theorem ref11_New_ok (n:Nat) (M:Mem) (hG:GL M) (r:Unit) (hF:nG n=some r):OkH Tryz.prog M [] 7 [] (λM' E' v=>∃ (b0:Nat),v=pP b0∧E'=[oC b0 #[Sn,iL 0,Sn,Sn,Sn,iL 0] 66]):=by
 unfold nG at hF
 intro M1 hM0 w0 H w p0
 replace hG:=GL.mono hM0 hG
 refine Re 3 Tryz.func7 rfl λa0 f0=>RR (Ye f0 1 λ_ f=>RR (Y f 1 λ_ f=>Y12 f p0 (.cells #[Sn,iL 0,Sn,Sn,Sn,iL 0] 66 (0,0)) λQ1 W1 N1 _ f=>Ye f 1 λ_ f=>wp_ret (ao f rfl (Lk 0 (pP Q1)) ?_)))
 cases sI hF
 exact⟨_,rfl,M1,_,(mR _),N1,⟨Q1,rfl,rfl⟩⟩
def eI (n:Nat) (d0:TI0) (K1:Int):Option (Lp Int (Sum Unit Unit)):=
    bif(decide (K1<((d0.ai.length:Nat):Int))) then
     ((aR d0.ai K1).bind λX1=>
     bif X1.az then
      (some (.br (.inl ())))
     else
      aZ (inR .i64 (K1+1))<|
      some (.nx (K1+1)))
    else
     some (.br (.inr ()))
def jK (n:Nat) (d0:TI0):Option Int:=
 ((bif(decide (d0.ax<1)) then
  (some ((true)))
   else
    bif(decide (d0.ab<0)) then
     (some ((true)))
    else
     bif(decide ((2:Int)<d0.ab)) then
      (some ((true)))
     else
      some ((!((decide (d0.ab=0))== (decide (d0.af=[]))))):Option Bool)).bind λG1=>
 bif G1 then
  (some ((2:Int)))
 else
  bif(decide (d0.ab=2)) then
   (bif(decide ((0:Int)<((d0.ai.length:Nat):Int))) then
    (some ((2:Int)))
   else
    some ((0:Int)))
  else
   ((bif(decide (d0.am=[])) then
    (some ((decide (d0.ab=1))))
     else
      some ((false)):Option Bool)).bind λG2=>
   bif G2 then
    (some ((2:Int)))
   else
    (aN (eI n d0) n (0:Int)).bind λQ2=>
    (match Q2 with
    |.inl G3=>some ((2:Int))
    |.inr G4=>(dp n d0.am d0.ai).bind λX2=>
     some (X2))
set_option maxRecDepth 20000 in
theorem sc (n:Nat) (M:Mem) (hG:GL M) (c0:Lv) (d0:TI0) (h0:Rep M (aJ d0) c0) (r:Int) (hF:jK n d0=some r):Ok Tryz.prog M 30 [.agg c0.toArray] (λ_ v=>v=iL r):=by
 unfold jK at hF
 intro M1 hM0 w0 H w p0
 replace hG:=GL.mono hM0 hG
 replace h0:=Rep.mono hM0 _ _ h0
 obtain⟨Z1,P1,rfl,B1⟩:=TI0.opn h0
 refine Re 59 Tryz.func30 rfl λa0 f0=>RR (Y13 (cs:=(aTI0 d0 Z1 P1)) (T:=32) f0 p0 λQ1 V1 W1 J1 R1 N1 _ f=>?_)
 have R2:=bR R1
 refine Ye f 1 λ_ f=>ag (ag ?_)
 obtain⟨cX,bX,F1⟩:=bS hF
 refine bj (λa_21 W2=>∃G1:Bool,cX=G1∧∃V2:Mem,V1.le V2∧Frm 59 [(1,pP Q1),(25,bO G1)] a_21∧Hp w0 V2 (H) W2) ?_ ?_
 ·refine aI (Y f 1 λ_ f=>Y15 f N1 R2 0 rfl λ_ f=>Y f 2 λ_ f=>?_)
  rcases cE bX with⟨B2,F2⟩|⟨B2,F3⟩
  ·have U1:=dI.1 B2
   have f:=f.st 7 (cB B2)
   refine Ye f 18 λ_ f=>?_
   exact⟨(true),(sI F2).symm,V1,(mR _),f.kp,N1⟩
  ·have U2:=ap dI B2
   have f:=f.st 7 (cB B2)
   refine Y f 1 λ_ f=>Y15 f N1 R2 1 rfl λ_ f=>Y f 3 λ_ f=>?_
   rcases cE F3 with⟨B3,F4⟩|⟨B3,F5⟩
   ·have U3:=dI.1 B3
    have f:=f.st 12 (cB B3)
    refine Ye f 13 λ_ f=>?_
    exact⟨(true),(sI F4).symm,V1,(mR _),f.kp,N1⟩
   ·have U4:=ap dI B3
    have f:=f.st 12 (cB B3)
    refine Y f 1 λ_ f=>Y15 f N1 R2 1 rfl λ_ f=>Y f 3 λ_ f=>?_
    rcases cE F5 with⟨B4,F6⟩|⟨B4,F7⟩
    ·have U5:=dI.1 B4
     have f:=f.st 17 (cB B4)
     refine Ye f 8 λ_ f=>?_
     exact⟨(true),(sI F6).symm,V1,(mR _),f.kp,N1⟩
    ·have U6:=ap dI B4
     have f:=f.st 17 (cB B4)
     refine Y f 1 λ_ f=>Y15 f N1 R2 1 rfl λ_ f=>Y f 2 λ_ f=>Y15 f N1 R2 2 rfl λ_ f=>Z f (Y42 rfl (l:=d0.af) (m:=[])) λ_ f=>Ye f 2 λ_ f=>?_
     exact⟨(!((decide (d0.ab=0))== (decide (d0.af=[])))),(sI F7).symm,V1,(mR _),f.kp,N1⟩
 ·rintro a_21 W2 ⟨G1,dg,V2,J2,f,N2⟩
  subst cX
  refine aH (RcF f F1 (λB5 F8=>?_) λB5 F9=>?_)
  ·refine RR (Ye f 1 λ_ f=>wp_ret (aS (ao f rfl (Lk 2 (iL 2)) ?_)))
   cases sI F8
   exact⟨_,rfl,V2,(J1.trans J2),N2,rfl⟩
  ·refine St (ag (RR (Y f 1 λ_ f=>Y15 f N2 (fzu J2 R2) 1 rfl λ_ f=>Ye f 1 λ_ f=>RcF f F9 (λB6 F10=>?_) λB6 F13=>?_)))
   ·have U9:=dI.1 B6
    refine ag (RR (Y f 1 λ_ f=>Y15 f N2 (fzu J2 R2) 4 rfl λ_ f=>Ye f 2 λ_ f=>RcF f F10 (λB7 F11=>?_) λB7 F12=>?_))
    ·have U10:=dI.1 B7
     refine RR (Ye f 1 λ_ f=>wp_ret (aS (aS (ao f rfl (Lk 2 (iL 2)) ?_))))
     cases sI F11
     exact⟨_,rfl,V2,(J1.trans J2),N2,rfl⟩
    ·have U11:=ap dI B7
     refine St (RR (Ye f 1 λ_ f=>wp_ret (aS (ao f rfl (Lk 2 (iL 0)) ?_))))
     cases sI F12
     exact⟨_,rfl,V2,(J1.trans J2),N2,rfl⟩
   ·have U12:=ap dI B6
    refine St (ag (ag ?_))
    obtain⟨jd,eW,F14⟩:=bS F13
    refine bj (λa_39 W3=>∃G2:Bool,jd=G2∧∃V3:Mem,V2.le V3∧Frm 59 [(1,pP Q1),(40,bO G2)] a_39∧Hp w0 V3 (H) W3) ?_ ?_
    ·refine aI (Y f 1 λ_ f=>Y15 f N2 (fzu J2 R2) 3 rfl λ_ f=>Z f (Y42 rfl (l:=d0.am) (m:=[])) λ_ f=>Y f 1 λ_ f=>?_)
     rcases cE eW with⟨B8,F15⟩|⟨B8,F16⟩
     ·have U13:=dI.1 B8
      have f:=f.st 36 (cB B8)
      refine Y f 1 λ_ f=>Y15 f N2 (fzu J2 R2) 1 rfl λ_ f=>Ye f 2 λ_ f=>?_
      exact⟨(decide (d0.ab=1)),(sI F15).symm,V2,(mR _),f.kp,N2⟩
     ·have U14:=ap dI B8
      have f:=f.st 36 (cB B8)
      refine Ye f 4 λ_ f=>?_
      exact⟨(false),(sI F16).symm,V2,(mR _),f.kp,N2⟩
    ·rintro a_39 W3 ⟨G2,hZ,V3,J3,f,N3⟩
     subst jd
     refine aH (RcF f F14 (λB9 F17=>?_) λB9 F18=>?_)
     ·refine RR (Ye f 1 λ_ f=>wp_ret (aS (ao f rfl (Lk 2 (iL 2)) ?_)))
      cases sI F17
      exact⟨_,rfl,V3,((J1.trans J2).trans J3),N3,rfl⟩
     ·refine St (ag (RR (Ye f 1 λ_ f=>wp_block ?_)))
      obtain⟨Q2,bH,F19⟩:=bS F18
      refine wp_mono (Q:=λe a w=>(e=.ret∧(∃G3:Unit,Q2=.inl G3∧∃V5:Mem,V3.le V5∧Frm 59 [(2,iL 2)] a∧Hp w0 V5 (H) w))∨(e=.exit 0∧(∃G4:Unit,Q2=.inr G4∧∃V6:Mem,V3.le V6∧Frm 59 [(1,pP Q1)] a∧Hp w0 V6 (H) w))) (bu (n:=59) (w0:=w0) (M:=V3) (λ (I1,K1)=>[(1,pP Q1),(3,iL K1)]) (λ (I1,K1)=>(H)) (λ (I1,K1) MM=>aN (eI n d0) I1 K1=some Q2) (λ (I1,K1)=>I1) (n,(0:Int)) (f.kp) N3 bH ?_) ?_
      ·rintro⟨I1,K1⟩ V4 _ W4 J4 dc f N4
       have bI:=dc
       obtain⟨I2,jP,rfl,be,T1⟩:=aT bI
       unfold eI at be
       refine ag (RR (Y f 2 λ_ f=>Y15 f N4 (fzu ((J2.trans J3).trans J4) R2) 4 rfl λ_ f=>Ye f 2 λ_ f=>RcF f be (λB10 F20=>?_) λB10 F25=>?_))
       ·have U17:=dI.1 B10
        refine St (ag (wp_block (RR (Y f 1 λ_ f=>Y15 f N4 (fzu ((J2.trans J3).trans J4) R2) 4 rfl λ_ f=>Y f 1 λ_ f=>?_))))
        obtain⟨X1,S1,F21⟩:=bS F20
        obtain⟨C1,cP,dS,-,D1,R3⟩:=Sli.at_ (B1.mono (((J1.trans J2).trans J3).trans J4)) S1
        obtain⟨Z2,P2,Z3,P3,rfl,B11,B12⟩:=TE0.opn D1
        refine Z f (Y34 dS rfl (len:=d0.ai.length) (cap:=P1) (k:=.i64) (i:=K1) (e:=75) (sz:=8) (aF S1) (aE S1)) λ_ f=>Y f 1 λ_ f=>Y15 f N4 R3 1 rfl λ_ f=>eT (RcF f F21 (λB13 F22=>?_) λB13 F23=>?_)
        ·refine RR (Ye f 1 λ_ f=>wp_ret (bV (aS (aS ?_))))
         cases sI F22
         exact .inl ⟨rfl,(),(sI T1).symm,V4,J4,f.kp,N4⟩
        ·refine wp_skip (cG (aH (aI (Y f 1 λ_ f=>?_))))
         obtain⟨O1,F24⟩:=nS F23
         refine Y f 1 λ_ f=>?_
         have f:=f.st 47 (iW O1)
         refine Ye f 1 λ_ f=>?_
         cases sI F24
         exact⟨⟨I2,K1+1⟩,Nat.lt_succ_self _,V4,J4,T1,f.kp,N4⟩
       ·have U20:=ap dI B10
        refine wp_exit (co (co ?_))
        cases sI F25
        exact .inr ⟨rfl,(),(sI T1).symm,V4,J4,f.kp,N4⟩
      ·rintro _ _ W7 (⟨rfl,G3,rfl,V5,J5,f,N5⟩|⟨rfl,G4,rfl,V6,J6,f,N6⟩)
       ·refine bV (aS (ao f rfl (Lk 2 (iL 2)) ?_))
        cases sI F19
        exact⟨_,rfl,V5,(((J1.trans J2).trans J3).trans J5),N5,rfl⟩
       ·refine iq (aH (RR (Y f 1 λ_ f=>Y15 f N6 (fzu ((J2.trans J3).trans J6) R2) 3 rfl λ_ f=>Y f 1 λ_ f=>Y15 f N6 (fzu ((J2.trans J3).trans J6) R2) 4 rfl λ_ f=>?_)))
        obtain⟨X2,S2,F26⟩:=bS F19
        refine Y18 f N6 (eC n _ (GL.mono (((J1.trans J2).trans J3).trans J6) hG) d0.am Z1 P1 d0.ai (B1.mono (((J1.trans J2).trans J3).trans J6)) X2 S2) λW8 N7 _ f=>Ye f 1 λ_ f=>wp_ret (ao f rfl (Lk 2 (iL X2)) ?_)
        cases sI F26
        exact⟨_,rfl,V6,(((J1.trans J2).trans J3).trans J6),N7,rfl⟩
def cp (n:Nat) (ar:List TI0) (d1:Int) (K1:Int):Option (Lp Int (Sum Int Unit)):=
    bif(decide (K1<((ar.length:Nat):Int))) then
     ((aR ar K1).bind λX1=>
     bif(decide (X1.ax=d1)) then
      (some (.br (.inl K1)))
     else
      aZ (inR .i64 (K1+1))<|
      some (.nx (K1+1)))
    else
     some (.br (.inr ()))
def cW (n:Nat) (aL:List TG0) (aM:Int) (ar:List TI0) (aw:List TD0) (aj:List Int) (aO:Int) (d1:Int):Option (Int×List TG0×Int×List TI0×List TD0×List Int×Int):=
 (aN (cp n ar d1) n (0:Int)).bind λQ1=>
 (match Q1 with
 |.inl G1=>some ((G1,aL,aM,ar,aw,aj,aO))
 |.inr G2=>some (((-1:Int),aL,aM,ar,aw,aj,aO)))
theorem jL (n:Nat) (M:Mem) (hG:GL M) (b0:Nat) (aL:List TG0) (Z1:Oa) (P1:Nat) (B1:Sli M 3 aK Z1 P1 aL) (aM:Int) (ar:List TI0) (Z2:Oa) (P2:Nat) (L1:Lv) (D1:aa M (ar.map aJ) L1) (aw:List TD0) (Z3:Oa) (P3:Nat) (L2:Lv) (D2:aa M (aw.map bK) L2) (aj:List Int) (Z4:Oa) (P4:Nat) (L3:Lv) (D3:aa M (aj.map (Dat.int .i64)) L3) (aO:Int) (d1:Int) (r:Int×List TG0×Int×List TI0×List TD0×List Int×Int) (hF:cW n aL aM ar aw aj aO d1=some r):OkH Tryz.prog M [oC b0 #[sL Z1 aL P1,iL aM,sL Z2 ar P2,sL Z3 aw P3,sL Z4 aj P4,iL aO] 66,rO 32 5 Z2 ar P2 L1,rO 38 3 Z3 aw P3 L2,rO 3 1 Z4 aj P4 L3] 31 [pP b0,iL d1] (λM' E' v=>∃ (Z6:Oa) (P7:Nat) (Z7:Oa) (P8:Nat) (L4:Lv) (Z8:Oa) (P9:Nat) (L5:Lv) (Z9:Oa) (P10:Nat) (L6:Lv),v=iL r.1∧E'=[oC b0 #[sL Z6 r.2.1 P7,iL r.2.2.1,sL Z7 r.t3.1 P8,sL Z8 r.t4.1 P9,sL Z9 r.t5.1 P10,iL r.t6] 66,rO 32 5 Z7 r.t3.1 P8 L4,rO 38 3 Z8 r.t4.1 P9 L5,rO 3 1 Z9 r.t5.1 P10 L6]∧Sli M' 3 aK Z6 P7 r.2.1∧aa M' (r.t3.1.map aJ) L4∧aa M' (r.t4.1.map bK) L5∧aa M' (r.t5.1.map (Dat.int .i64)) L6):=by
 unfold cW at hF
 intro M1 hM0 w0 H w p0
 replace hG:=GL.mono hM0 hG
 replace B1:=B1.mono hM0
 replace D1:=aa.mono hM0 _ _ D1
 replace D2:=aa.mono hM0 _ _ D2
 replace D3:=aa.mono hM0 _ _ D3
 refine Re 26 Tryz.func31 rfl λa0 f0=>RR (Ye f0 1 λ_ f=>ag (RR (Ye f 1 λ_ f=>wp_block ?_)))
 obtain⟨Q1,bH,F1⟩:=bS hF
 refine wp_mono (Q:=λe a w=>(e=.ret∧(∃G1:Int,Q1=.inl G1∧∃V2:Mem,M1.le V2∧Frm 26 [(4,iL G1)] a∧Hp w0 V2 ((oC b0 #[sL Z1 aL P1,iL aM,sL Z2 ar P2,sL Z3 aw P3,sL Z4 aj P4,iL aO] 66)::(rO 32 5 Z2 ar P2 L1)::(rO 38 3 Z3 aw P3 L2)::(rO 3 1 Z4 aj P4 L3)::H) w))∨(e=.exit 0∧(∃G2:Unit,Q1=.inr G2∧∃V3:Mem,M1.le V3∧Frm 26 [] a∧Hp w0 V3 ((oC b0 #[sL Z1 aL P1,iL aM,sL Z2 ar P2,sL Z3 aw P3,sL Z4 aj P4,iL aO] 66)::(rO 32 5 Z2 ar P2 L1)::(rO 38 3 Z3 aw P3 L2)::(rO 3 1 Z4 aj P4 L3)::H) w))) (bu (n:=26) (w0:=w0) (M:=M1) (λ (I1,K1)=>[(0,pP b0),(1,iL d1),(5,iL K1)]) (λ (I1,K1)=>((oC b0 #[sL Z1 aL P1,iL aM,sL Z2 ar P2,sL Z3 aw P3,sL Z4 aj P4,iL aO] 66)::(rO 32 5 Z2 ar P2 L1)::(rO 38 3 Z3 aw P3 L2)::(rO 3 1 Z4 aj P4 L3)::H)) (λ (I1,K1) MM=>aN (cp n ar d1) I1 K1=some Q1) (λ (I1,K1)=>I1) (n,(0:Int)) (f.kp) p0 bH ?_) ?_
 ·rintro⟨I1,K1⟩ V1 _ W1 J1 dc f N1
  have bI:=dc
  obtain⟨I2,jP,rfl,be,T1⟩:=aT bI
  unfold cp at be
  refine ag (RR (Y f 4 λ_ f=>Z f (Y35 (v:=sL Z2 ar P2) rfl (ad:=⟨b0,2,none⟩) (N1.ownCell 0 rfl 2)) λ_ f=>Ye f 2 λ_ f=>RcF f be (λB2 F2=>?_) λB2 F7=>?_))
  ·have U1:=dI.1 B2
   refine St (ag (wp_block (RR (Y f 3 λ_ f=>Z f (Y35 (v:=sL Z2 ar P2) rfl (ad:=⟨b0,2,none⟩) (N1.ownCell 0 rfl 2)) λ_ f=>Y f 1 λ_ f=>?_))))
   obtain⟨X1,S1,F3⟩:=bS F2
   obtain⟨Q2,P5,H1,mh⟩:=N1.rowAddr 1 rfl (eX S1)
   have f:=f.st 18 (H1)
   refine Z f (Y33 rfl (ad:=⟨Q2,0,none⟩) (len:=ar.length) (cap:=P5) (k:=.i64) (i:=K1) (e:=32) (sz:=5) (aF S1) (aE S1)) λ_ f=>?_
   have f:=f.st 18 (H1.symm)
   refine Y f 1 λ_ f=>?_
   obtain⟨cP,-,D4,R1⟩:=aa.get K1.toNat (bY dZ) (aa.mono J1 _ _ D1) (ij S1)
   obtain⟨Z5,P6,rfl,B3⟩:=TI0.opn D4
   refine Z f (Y35 (v:=iL X1.ax) rfl (ad:=((⟨Q2,0,none⟩:Addr).add (K1.toNat*5)).add 0) ((λj v h=>lj (N1.rowCell 1 rfl H1) R1 j v h) 0 _ rfl)) λ_ f=>Ye f 2 λ_ f=>RcF f F3 (λB4 F4=>?_) λB4 F5=>?_
   ·have U2:=dI.1 B4
    refine RR (Ye f 2 λ_ f=>wp_ret (bV (aS (aS ?_))))
    cases sI F4
    exact .inl ⟨rfl,K1,(sI T1).symm,V1,J1,f.kp,N1⟩
   ·have U3:=ap dI B4
    refine wp_skip (cG (aH (aI (Y f 1 λ_ f=>?_))))
    obtain⟨O1,F6⟩:=nS F5
    refine Y f 1 λ_ f=>?_
    have f:=f.st 14 (iW O1)
    refine Ye f 1 λ_ f=>?_
    cases sI F6
    exact⟨⟨I2,K1+1⟩,Nat.lt_succ_self _,V1,J1,T1,f.kp,N1⟩
  ·have U4:=ap dI B2
   refine wp_exit (co (co ?_))
   cases sI F7
   exact .inr ⟨rfl,(),(sI T1).symm,V1,J1,f.kp,N1⟩
 ·rintro _ _ W4 (⟨rfl,G1,rfl,V2,J2,f,N2⟩|⟨rfl,G2,rfl,V3,J3,f,N3⟩)
  ·refine bV (aS (ao f rfl (Lk 4 (iL G1)) ?_))
   cases sI F1
   exact⟨_,rfl,V2,_,J2,N2,⟨Z1,P1,Z2,P2,L1,Z3,P3,L2,Z4,P4,L3,rfl,rfl,(B1.mono J2),(aa.mono J2 _ _ D1),(aa.mono J2 _ _ D2),(aa.mono J2 _ _ D3)⟩⟩
  ·refine iq (aH (RR (Ye f 1 λ_ f=>wp_ret (ao f rfl (Lk 4 (iL (-1))) ?_))))
   cases sI F1
   exact⟨_,rfl,V3,_,J3,N3,⟨Z1,P1,Z2,P2,L1,Z3,P3,L2,Z4,P4,L3,rfl,rfl,(B1.mono J3),(aa.mono J3 _ _ D1),(aa.mono J3 _ _ D2),(aa.mono J3 _ _ D3)⟩⟩
def dx (n:Nat) (aL:List TG0) (aM:Int) (ar:List TI0) (aw:List TD0) (aj:List Int) (aO:Int) (d1:TI0):Option (Int×List TG0×Int×List TI0×List TD0×List Int×Int):=
 (jK n d1).bind λX1=>
 bif(!(decide (X1=0))) then
  (some ((X1,aL,aM,ar,aw,aj,aO)))
 else
  (cW n aL aM ar aw aj aO d1.ax).bind λX2=>
  bif(decide ((0:Int)≤X2.1)) then
   (some (((0:Int),X2.2.1,X2.2.2.1,X2.2.2.2.1,X2.2.2.2.2.1,X2.2.2.2.2.2.1,X2.2.2.2.2.2.2)))
  else
   ((aZ ((X2.2.2.2.2.2.1.length+1)*8≤140737488355328)<|
     some (X2.2.2.2.2.2.1++[((X2.2.2.2.1.length:Nat):Int)]):Option (List Int))).bind λG1=>
   ((aZ ((X2.2.2.2.1.length+1)*72≤140737488355328)<|
     some (X2.2.2.2.1++[(⟨d1.ax,d1.ab,d1.af,d1.am,d1.ai⟩:TI0)]):Option (List TI0))).bind λG2=>
   aZ ((X2.2.2.2.2.1.length+1)*24≤140737488355328)<|
   some (((0:Int),X2.2.1,X2.2.2.1,G2,X2.2.2.2.2.1++[aX],G1,X2.2.2.2.2.2.2))
set_option maxRecDepth 20000 in
theorem mr (n:Nat) (M:Mem) (hG:GL M) (b0:Nat) (aL:List TG0) (Z1:Option Addr) (P1:Nat) (B1:Sli M 3 aK Z1 P1 aL) (aM:Int) (ar:List TI0) (Z2:Option Addr) (P2:Nat) (L1:List Value) (D1:aa M (ar.map aJ) L1) (aw:List TD0) (Z3:Option Addr) (P3:Nat) (L2:List Value) (D2:aa M (aw.map bK) L2) (aj:List Int) (Z4:Option Addr) (P4:Nat) (L3:List Value) (D3:aa M (aj.map (Dat.int .i64)) L3) (aO:Int) (c1:List Value) (d1:TI0) (h1:Rep M (aJ d1) c1) (r:Int×List TG0×Int×List TI0×List TD0×List Int×Int) (hF:dx n aL aM ar aw aj aO d1=some r):OkH Tryz.prog M [Ent.obj b0 (.cells #[.slice Z1 aL.length P1,.int .i64 aM,.slice Z2 ar.length P2,.slice Z3 aw.length P3,.slice Z4 aj.length P4,.int .i64 aO] 66 (0,0)),Ent.row 32 5 (.slice Z2 ar.length P2) ar.length L1,Ent.row 38 3 (.slice Z3 aw.length P3) aw.length L2,Ent.row 3 1 (.slice Z4 aj.length P4) aj.length L3] 9 [.pointer (some (⟨b0,0,none⟩)),.agg c1.toArray] (λM' E' v=>∃ (Z20:Option Addr) (P20:Nat) (Z21:Option Addr) (P21:Nat) (L17:List Value) (Z22:Option Addr) (P22:Nat) (L18:List Value) (Z23:Option Addr) (P23:Nat) (L19:List Value),v=.int .i64 r.1∧E'=[Ent.obj b0 (.cells #[.slice Z20 r.2.1.length P20,.int .i64 r.2.2.1,.slice Z21 r.2.2.2.1.length P21,.slice Z22 r.2.2.2.2.1.length P22,.slice Z23 r.2.2.2.2.2.1.length P23,.int .i64 r.2.2.2.2.2.2] 66 (0,0)),Ent.row 32 5 (.slice Z21 r.2.2.2.1.length P21) r.2.2.2.1.length L17,Ent.row 38 3 (.slice Z22 r.2.2.2.2.1.length P22) r.2.2.2.2.1.length L18,Ent.row 3 1 (.slice Z23 r.2.2.2.2.2.1.length P23) r.2.2.2.2.2.1.length L19]∧Sli M' 3 aK Z20 P20 r.2.1∧aa M' (r.2.2.2.1.map aJ) L17∧aa M' (r.2.2.2.2.1.map bK) L18∧aa M' (r.2.2.2.2.2.1.map (Dat.int .i64)) L19):=by
 unfold dx at hF
 intro M1 hM0 w0 H w p0
 replace hG:=GL.mono hM0 hG
 replace B1:=B1.mono hM0
 replace D1:=aa.mono hM0 _ _ D1
 replace D2:=aa.mono hM0 _ _ D2
 replace D3:=aa.mono hM0 _ _ D3
 replace h1:=Rep.mono hM0 _ _ h1
 obtain⟨Z5,P5,rfl,B2⟩:=TI0.opn h1
 refine aD 52 Tryz.func9 rfl rfl (by simp) λa0 f0=>RR (Y13 (cs:=#[.int .i64 d1.ax,.int .i8 d1.ab,S d1.af,S d1.am,.slice Z5 d1.ai.length P5]) (T:=32) f0 p0 λQ1 V1 W1 J1 R1 N1 _ f=>?_)
 have R2:=bR R1
 refine Y f 1 λ_ f=>eT (ag (RR (Y f 1 λ_ f=>Z (v:=.bool false) f (df (q:=some (⟨b0,0,none⟩)) (e:=66) rfl (by kernel_rfl) (by kernel_rfl) (by kernel_rfl) _) λ_ f=>eT (Y7 f (wp_skip (aH (RR (Z (v:=.agg #[.int .i64 d1.ax,.int .i8 d1.ab,S d1.af,S d1.am,.slice Z5 d1.ai.length P5]) f (Y36 (cs:=[.int .i64 d1.ax,.int .i8 d1.ab,S d1.af,S d1.am,.slice Z5 d1.ai.length P5]) rfl (ad:=⟨Q1,0,none⟩) (λj v h=>N1.cell (R2 j v h))) λ_ f=>?_))))))))
 obtain⟨X1,S1,F1⟩:=bS hF
 refine Y18 f N1 (sc n _ (GL.mono J1 hG) _ d1 (TI0.shutx (x:=d1) (B2.mono J1)) X1 S1) λW2 N2 _ f=>Y f 1 λ_ f=>eT (ag (RR (Y f 2 λ_ f=>eT (RcF f F1 (λB3 F2=>?_) λB3 F3=>?_))))
 ·have U1: ¬ (X1=0):=(av dI).1 B3
  refine RR (Y f 2 λ_ f=>eT (wp_ret (aS (ao f rfl (by kernel_rfl:Vc.look _ 4=some (.int .i64 X1)) ?_))))
  obtain rfl:=sI F2
  exact⟨_,rfl,V1,_,J1,N2,⟨Z1,P1,Z2,P2,L1,Z3,P3,L2,Z4,P4,L3,rfl,rfl,(B1.mono J1),(aa.mono J1 _ _ D1),(aa.mono J1 _ _ D2),(aa.mono J1 _ _ D3)⟩⟩
 ·have U2: ¬ (¬ (X1=0)):=ap (av dI) B3
  refine wp_skip (aH (ag (RR (Y f 2 λ_ f=>Y15 f N2 R2 0 rfl λ_ f=>?_))))
  obtain⟨X2,S2,F4⟩:=bS F3
  refine Y17 (E:=[Ent.obj b0 (.cells #[.slice Z1 aL.length P1,.int .i64 aM,.slice Z2 ar.length P2,.slice Z3 aw.length P3,.slice Z4 aj.length P4,.int .i64 aO] 66 (0,0)),Ent.row 32 5 (.slice Z2 ar.length P2) ar.length L1,Ent.row 38 3 (.slice Z3 aw.length P3) aw.length L2,Ent.row 3 1 (.slice Z4 aj.length P4) aj.length L3]) (H:=(H)) f N2 (jL n _ (GL.mono J1 hG) b0 aL Z1 P1 (B1.mono J1) aM ar Z2 P2 L1 (aa.mono J1 _ _ D1) aw Z3 P3 L2 (aa.mono J1 _ _ D2) aj Z4 P4 L3 (aa.mono J1 _ _ D3) aO d1.ax X2 S2) λ_ V2 E_1 W3 J2 N3 jO _ f=>?_
  obtain⟨Z6,P6,Z7,P7,L4,Z8,P8,L5,Z9,P9,L6,rfl,rfl,B4,D4,D5,D6⟩:=jO
  refine Y f 1 λ_ f=>eT (RcF f F4 (λB5 F5=>?_) λB5 F6=>?_)
  ·have U3:=dI.1 B5
   refine RR (Y f 1 λ_ f=>eT (wp_ret (aS (ao f rfl (by kernel_rfl:Vc.look _ 4=some (.int .i64 0)) ?_))))
   obtain rfl:=sI F5
   exact⟨_,rfl,V2,_,(J1.trans J2),N3,⟨Z6,P6,Z7,P7,L4,Z8,P8,L5,Z9,P9,L6,rfl,rfl,B4,D4,D5,D6⟩⟩
  ·have U4:=ap dI B5
   refine wp_skip (aH (ag ?_))
   obtain⟨cX,bX,F7⟩:=bS F6
   refine bj (λa_52 W33=>∃G1:List Int,cX=G1∧∃V3:Mem,V2.le V3∧∃ (Z14:Option Addr),∃ (P14:Nat),∃ (L11:List Value),aa V3 (G1.map (Dat.int .i64)) L11∧Frm 52 [(0,.pointer (some (⟨b0,0,none⟩))),(3,.pointer (some (⟨Q1,0,none⟩)))] a_52∧Hp w0 V3 ((Ent.row 3 1 (.slice Z14 G1.length P14) G1.length L11)::(Ent.obj b0 (.cells #[.slice Z6 X2.2.1.length P6,.int .i64 X2.2.2.1,.slice Z7 X2.2.2.2.1.length P7,.slice Z8 X2.2.2.2.2.1.length P8,.slice Z14 G1.length P14,.int .i64 X2.2.2.2.2.2.2] 66 (0,0)))::(Ent.row 32 5 (.slice Z7 X2.2.2.2.1.length P7) X2.2.2.2.1.length L4)::(Ent.row 38 3 (.slice Z8 X2.2.2.2.2.1.length P8) X2.2.2.2.2.1.length L5)::H) W33) ?_ ?_
   ·have N13:=N3.pl [2,2,3,3]
    obtain⟨O1,F8⟩:=nS bX
    refine iz (ks:=[]) (E:=[Ent.obj b0 (.cells #[.slice Z6 X2.2.1.length P6,.int .i64 X2.2.2.1,.slice Z7 X2.2.2.2.1.length P7,.slice Z8 X2.2.2.2.2.1.length P8,.slice Z9 X2.2.2.2.2.2.1.length P9,.int .i64 X2.2.2.2.2.2.2] 66 (0,0)),Ent.row 3 1 (.slice Z9 X2.2.2.2.2.2.1.length P9) X2.2.2.2.2.2.1.length L6]) (Hr:=((Ent.row 32 5 (.slice Z7 X2.2.2.2.1.length P7) X2.2.2.2.1.length L4)::(Ent.row 38 3 (.slice Z8 X2.2.2.2.2.1.length P8) X2.2.2.2.2.1.length L5)::H)) (.quiet 0 (.quiet 1 (.quiet 2 (.quiet 3 (.quiet 5 (.quiet 6 (.quiet 7 (.alt 4 (.alt 8 (.quiet 9 (.alt 10 (.alt 11 (.quiet 12 (.quiet 13 (.alt 14 .done .none))) .none) .none)) .none) (.alt 8 (.quiet 9 (.alt 4 (.alt 10 (.alt 11 (.quiet 12 (.quiet 13 (.alt 14 .done .none))) .none) .none) (.alt 10 (.alt 4 (.alt 11 (.quiet 12 (.quiet 13 (.alt 14 .done .none))) .none) .none) .none))) .none))))))))) N13 (by kernel_rfl) (by kernel_rfl) (by kernel_rfl) (Y1 (v:=.pointer (some (⟨b0,0,none⟩))) rfl f rfl rfl (λ_ _=>by kernel_rfl) λ_ f=>Y1 (v:=.pointer (some (⟨b0,0,none⟩))) rfl f rfl rfl (λ_ _=>by kernel_rfl) λ_ f=>Y1 (v:=.pointer (some (⟨b0,0,none⟩))) rfl f rfl rfl (λ_ _=>by kernel_rfl) λ_ f=>Y1 (v:=.pointer (some (⟨b0,4,none⟩))) rfl f rfl rfl (λ_ _=>by kernel_rfl) λ_ f=>Y1 (v:=.pointer (some (⟨b0,0,none⟩))) rfl f rfl rfl (λ_ _=>by kernel_rfl) λ_ f=>Y1 (v:=.pointer (some (⟨b0,0,none⟩))) rfl f rfl rfl (λ_ _=>by kernel_rfl) λ_ f=>Y1 (v:=.pointer (some (⟨b0,2,none⟩))) rfl f rfl rfl (λ_ _=>by kernel_rfl) λ_ f=>aV rfl (λW7 N14=>?_) ?_)
    ·refine Z f (Y35 (v:=.slice Z9 X2.2.2.2.2.2.1.length P9) rfl (ad:=⟨b0,4,none⟩) (N14.ownCell 0 rfl 4)) λ_ f=>aA rfl (aW 2 (mR _) N14 rfl (aV rfl (λW8 N15=>?_) ?_))
     ·refine Z f (Y35 (v:=.slice Z7 X2.2.2.2.1.length P7) rfl (ad:=⟨b0,2,none⟩) (N15.ownCell 0 rfl 2)) λ_ f=>aA rfl (aW 2 (mR _) N15 rfl (Y1 (v:=.int .i64 ((X2.2.2.2.1.length:Nat):Int)) rfl f rfl rfl (λ_ _=>by kernel_rfl) λ_ f=>aV rfl (λW9 N16=>?_) ?_))
      ·refine bg (k:=1) (c:=1) f N16 (.cells #[.int .i64 ((X2.2.2.2.1.length:Nat):Int)] 3 (0,0)) (by kernel_rfl) (λ_=>by kernel_rfl) λQ3 W10 N17 _ f=>aA rfl (aW 3 (mR _) N17 rfl (aV rfl (λW11 N18=>?_) ?_))
       ·have N19:=N18.pl [2]
        refine Y22 (z:=.int .i64 0) (f:=(Dat.int .i64)) (xs:=X2.2.2.2.2.2.1) (ys:=[((X2.2.2.2.1.length:Nat):Int)]) (news:=[.int .i64 ((X2.2.2.2.1.length:Nat):Int)]) (ad:=⟨Q3,0,none⟩) (m:=1) (c:=1) f N19 D6 (by exact⟨_,_,rfl,rfl,rfl⟩) rfl rfl rfl rfl (al (N19.ownCell 1 rfl) 0 rfl) (by exact O1) (by have hg_:=O1;first|omega|(simp only[List.length_cons,List.length_nil] at*;omega)) λZ11 P11 L8 W12 N20 D8 _ f=>?_
        have N21:=N20.pl [1]
        have N22:=N21.drop
        refine aA rfl (aW 2 (mR _) N22 rfl (Y1 (v:=.pointer (some (⟨b0,0,none⟩))) rfl f rfl rfl (λ_ _=>by kernel_rfl) λ_ f=>Y1 (v:=.pointer (some (⟨b0,4,none⟩))) rfl f rfl rfl (λ_ _=>by kernel_rfl) λ_ f=>aV rfl (λW13 N23=>?_) ?_))
        ·refine Y28 f N23 1 rfl rfl (b:=b0) (j:=4) (v:=.slice Z11 (X2.2.2.2.2.2.1++[((X2.2.2.2.1.length:Nat):Int)]).length P11) rfl (by exact rfl) (by simp) (by simp) ((Ent.row 3 1 (.slice Z11 (X2.2.2.2.2.2.1++[((X2.2.2.2.1.length:Nat):Int)]).length P11) (X2.2.2.2.2.2.1++[((X2.2.2.2.1.length:Nat):Int)]).length L8)::(Ent.obj b0 (.cells #[.slice Z6 X2.2.1.length P6,.int .i64 X2.2.2.1,.slice Z7 X2.2.2.2.1.length P7,.slice Z8 X2.2.2.2.2.1.length P8,.slice Z11 (X2.2.2.2.2.2.1++[((X2.2.2.2.1.length:Nat):Int)]).length P11,.int .i64 X2.2.2.2.2.2.2] 66 (0,0)))::(Ent.row 32 5 (.slice Z7 X2.2.2.2.1.length P7) X2.2.2.2.1.length L4)::(Ent.row 38 3 (.slice Z8 X2.2.2.2.2.1.length P8) X2.2.2.2.2.1.length L5)::H) rfl λW14 N24 _ f=>aA rfl (aW 2 (mR _) N24 rfl (jT λW15 N25=>aH ?_))
         exact⟨X2.2.2.2.2.2.1++[((X2.2.2.2.1.length:Nat):Int)],(sI F8).symm,V2,(mR _),Z11,P11,L8,D8,f.kp,N25⟩
        exact aQ
       exact aQ
      exact aQ
     exact aQ
    refine aV rfl (λW16 N26=>?_) ?_
    ·refine Z f (Y35 (v:=.slice Z7 X2.2.2.2.1.length P7) rfl (ad:=⟨b0,2,none⟩) (N26.ownCell 0 rfl 2)) λ_ f=>aA rfl (aW 2 (mR _) N26 rfl (Y1 (v:=.int .i64 ((X2.2.2.2.1.length:Nat):Int)) rfl f rfl rfl (λ_ _=>by kernel_rfl) λ_ f=>aV rfl (λW17 N27=>?_) ?_))
     ·refine Z f (Y35 (v:=.slice Z9 X2.2.2.2.2.2.1.length P9) rfl (ad:=⟨b0,4,none⟩) (N27.ownCell 0 rfl 4)) λ_ f=>aA rfl (aW 2 (mR _) N27 rfl (aV rfl (λW18 N28=>?_) ?_))
      ·refine bg (k:=1) (c:=1) f N28 (.cells #[.int .i64 ((X2.2.2.2.1.length:Nat):Int)] 3 (0,0)) (by kernel_rfl) (λ_=>by kernel_rfl) λQ4 W19 N29 _ f=>aA rfl (aW 3 (mR _) N29 rfl (aV rfl (λW20 N30=>?_) ?_))
       ·have N31:=N30.pl [2]
        refine Y22 (z:=.int .i64 0) (f:=(Dat.int .i64)) (xs:=X2.2.2.2.2.2.1) (ys:=[((X2.2.2.2.1.length:Nat):Int)]) (news:=[.int .i64 ((X2.2.2.2.1.length:Nat):Int)]) (ad:=⟨Q4,0,none⟩) (m:=1) (c:=1) f N31 D6 (by exact⟨_,_,rfl,rfl,rfl⟩) rfl rfl rfl rfl (al (N31.ownCell 1 rfl) 0 rfl) (by exact O1) (by have hg_:=O1;first|omega|(simp only[List.length_cons,List.length_nil] at*;omega)) λZ12 P12 L9 W21 N32 D9 _ f=>?_
        have N33:=N32.pl [1]
        have N34:=N33.drop
        refine aA rfl (aW 2 (mR _) N34 rfl (Y1 (v:=.pointer (some (⟨b0,0,none⟩))) rfl f rfl rfl (λ_ _=>by kernel_rfl) λ_ f=>Y1 (v:=.pointer (some (⟨b0,4,none⟩))) rfl f rfl rfl (λ_ _=>by kernel_rfl) λ_ f=>aV rfl (λW22 N35=>?_) ?_))
        ·refine Y28 f N35 1 rfl rfl (b:=b0) (j:=4) (v:=.slice Z12 (X2.2.2.2.2.2.1++[((X2.2.2.2.1.length:Nat):Int)]).length P12) rfl (by exact rfl) (by simp) (by simp) ((Ent.row 3 1 (.slice Z12 (X2.2.2.2.2.2.1++[((X2.2.2.2.1.length:Nat):Int)]).length P12) (X2.2.2.2.2.2.1++[((X2.2.2.2.1.length:Nat):Int)]).length L9)::(Ent.obj b0 (.cells #[.slice Z6 X2.2.1.length P6,.int .i64 X2.2.2.1,.slice Z7 X2.2.2.2.1.length P7,.slice Z8 X2.2.2.2.2.1.length P8,.slice Z12 (X2.2.2.2.2.2.1++[((X2.2.2.2.1.length:Nat):Int)]).length P12,.int .i64 X2.2.2.2.2.2.2] 66 (0,0)))::(Ent.row 32 5 (.slice Z7 X2.2.2.2.1.length P7) X2.2.2.2.1.length L4)::(Ent.row 38 3 (.slice Z8 X2.2.2.2.2.1.length P8) X2.2.2.2.2.1.length L5)::H) rfl λW23 N36 _ f=>aA rfl (aW 2 (mR _) N36 rfl (jT λW24 N37=>aH ?_))
         exact⟨X2.2.2.2.2.2.1++[((X2.2.2.2.1.length:Nat):Int)],(sI F8).symm,V2,(mR _),Z12,P12,L9,D9,f.kp,N37⟩
        exact aQ
       exact aQ
      exact aQ
     refine aV rfl (λW25 N38=>?_) ?_
     ·refine bg (k:=1) (c:=1) f N38 (.cells #[.int .i64 ((X2.2.2.2.1.length:Nat):Int)] 3 (0,0)) (by kernel_rfl) (λ_=>by kernel_rfl) λQ5 W26 N39 _ f=>aA rfl (aW 3 (mR _) N39 rfl (aV rfl (λW27 N40=>?_) ?_))
      ·refine Z f (Y35 (v:=.slice Z9 X2.2.2.2.2.2.1.length P9) rfl (ad:=⟨b0,4,none⟩) (N40.ownCell 1 rfl 4)) λ_ f=>aA rfl (aW 3 (mR _) N40 rfl (aV rfl (λW28 N41=>?_) ?_))
       ·have N42:=N41.pl [2]
        refine Y22 (z:=.int .i64 0) (f:=(Dat.int .i64)) (xs:=X2.2.2.2.2.2.1) (ys:=[((X2.2.2.2.1.length:Nat):Int)]) (news:=[.int .i64 ((X2.2.2.2.1.length:Nat):Int)]) (ad:=⟨Q5,0,none⟩) (m:=1) (c:=1) f N42 D6 (by exact⟨_,_,rfl,rfl,rfl⟩) rfl rfl rfl rfl (al (N42.ownCell 1 rfl) 0 rfl) (by exact O1) (by have hg_:=O1;first|omega|(simp only[List.length_cons,List.length_nil] at*;omega)) λZ13 P13 L10 W29 N43 D10 _ f=>?_
        have N44:=N43.pl [1]
        have N45:=N44.drop
        refine aA rfl (aW 2 (mR _) N45 rfl (Y1 (v:=.pointer (some (⟨b0,0,none⟩))) rfl f rfl rfl (λ_ _=>by kernel_rfl) λ_ f=>Y1 (v:=.pointer (some (⟨b0,4,none⟩))) rfl f rfl rfl (λ_ _=>by kernel_rfl) λ_ f=>aV rfl (λW30 N46=>?_) ?_))
        ·refine Y28 f N46 1 rfl rfl (b:=b0) (j:=4) (v:=.slice Z13 (X2.2.2.2.2.2.1++[((X2.2.2.2.1.length:Nat):Int)]).length P13) rfl (by exact rfl) (by simp) (by simp) ((Ent.row 3 1 (.slice Z13 (X2.2.2.2.2.2.1++[((X2.2.2.2.1.length:Nat):Int)]).length P13) (X2.2.2.2.2.2.1++[((X2.2.2.2.1.length:Nat):Int)]).length L10)::(Ent.obj b0 (.cells #[.slice Z6 X2.2.1.length P6,.int .i64 X2.2.2.1,.slice Z7 X2.2.2.2.1.length P7,.slice Z8 X2.2.2.2.2.1.length P8,.slice Z13 (X2.2.2.2.2.2.1++[((X2.2.2.2.1.length:Nat):Int)]).length P13,.int .i64 X2.2.2.2.2.2.2] 66 (0,0)))::(Ent.row 32 5 (.slice Z7 X2.2.2.2.1.length P7) X2.2.2.2.1.length L4)::(Ent.row 38 3 (.slice Z8 X2.2.2.2.2.1.length P8) X2.2.2.2.2.1.length L5)::H) rfl λW31 N47 _ f=>aA rfl (aW 2 (mR _) N47 rfl (jT λW32 N48=>aH ?_))
         exact⟨X2.2.2.2.2.2.1++[((X2.2.2.2.1.length:Nat):Int)],(sI F8).symm,V2,(mR _),Z13,P13,L10,D10,f.kp,N48⟩
        exact aQ
       exact aQ
      exact aQ
     exact aQ
    exact aQ
   ·rintro a_52 W33 ⟨G1,dg,V3,J3,Z14,P14,L11,D11,f,N49⟩
    subst cX
    refine aH (ag ?_)
    obtain⟨jd,eW,F9⟩:=bS F7
    refine bj (λa_77 W53=>∃G2:List TI0,jd=G2∧∃V4:Mem,V3.le V4∧∃ (Z18:Option Addr),∃ (P18:Nat),∃ (L15:List Value),aa V4 (G2.map aJ) L15∧Frm 52 [(0,.pointer (some (⟨b0,0,none⟩)))] a_77∧Hp w0 V4 ((Ent.row 32 5 (.slice Z18 G2.length P18) G2.length L15)::(Ent.obj b0 (.cells #[.slice Z6 X2.2.1.length P6,.int .i64 X2.2.2.1,.slice Z18 G2.length P18,.slice Z8 X2.2.2.2.2.1.length P8,.slice Z14 G1.length P14,.int .i64 X2.2.2.2.2.2.2] 66 (0,0)))::(Ent.row 3 1 (.slice Z14 G1.length P14) G1.length L11)::(Ent.row 38 3 (.slice Z8 X2.2.2.2.2.1.length P8) X2.2.2.2.2.1.length L5)::H) W53) ?_ ?_
    ·have N59:=N49.pl [3,1,3,3]
     obtain⟨O2,F10⟩:=nS eW
     refine iz (ks:=[]) (E:=[Ent.obj b0 (.cells #[.slice Z6 X2.2.1.length P6,.int .i64 X2.2.2.1,.slice Z7 X2.2.2.2.1.length P7,.slice Z8 X2.2.2.2.2.1.length P8,.slice Z14 G1.length P14,.int .i64 X2.2.2.2.2.2.2] 66 (0,0)),Ent.row 32 5 (.slice Z7 X2.2.2.2.1.length P7) X2.2.2.2.1.length L4]) (Hr:=((Ent.row 3 1 (.slice Z14 G1.length P14) G1.length L11)::(Ent.row 38 3 (.slice Z8 X2.2.2.2.2.1.length P8) X2.2.2.2.2.1.length L5)::H)) (.quiet 0 (.quiet 1 (.quiet 2 (.quiet 3 (.quiet 5 (.alt 4 (.alt 6 (.alt 7 (.quiet 8 (.quiet 9 (.alt 10 .done .none))) .none) .none) (.alt 6 (.alt 4 (.alt 7 (.quiet 8 (.quiet 9 (.alt 10 .done .none))) .none) .none) .none))))))) N59 (by kernel_rfl) (by kernel_rfl) (by kernel_rfl) (Y1 (v:=.pointer (some (⟨b0,0,none⟩))) rfl f rfl rfl (λ_ _=>by kernel_rfl) λ_ f=>Y1 (v:=.pointer (some (⟨b0,0,none⟩))) rfl f rfl rfl (λ_ _=>by kernel_rfl) λ_ f=>Y1 (v:=.pointer (some (⟨b0,0,none⟩))) rfl f rfl rfl (λ_ _=>by kernel_rfl) λ_ f=>Y1 (v:=.pointer (some (⟨b0,2,none⟩))) rfl f rfl rfl (λ_ _=>by kernel_rfl) λ_ f=>Y1 (v:=.agg #[.int .i64 d1.ax,.int .i8 d1.ab,S d1.af,S d1.am,.slice Z5 d1.ai.length P5]) rfl f rfl rfl (λ_ pq=>Y36 (cs:=[.int .i64 d1.ax,.int .i8 d1.ab,S d1.af,S d1.am,.slice Z5 d1.ai.length P5]) rfl (ad:=⟨Q1,0,none⟩) (λj v h=>pq.cell ((fzu (J2.trans J3) R2) j v h))) λ_ f=>aV rfl (λW37 N60=>?_) ?_)
     ·refine Z f (Y35 (v:=.slice Z7 X2.2.2.2.1.length P7) rfl (ad:=⟨b0,2,none⟩) (N60.ownCell 0 rfl 2)) λ_ f=>aA rfl (aW 2 (mR _) N60 rfl (aV rfl (λW38 N61=>?_) ?_))
      ·refine bg (k:=1) (c:=1) f N61 (.cells #[.int .i64 d1.ax,.int .i8 d1.ab,S d1.af,S d1.am,.slice Z5 d1.ai.length P5] 32 (0,0)) (by kernel_rfl) (λ_=>by kernel_rfl) λQ7 W39 N62 _ f=>aA rfl (aW 3 (mR _) N62 rfl (aV rfl (λW40 N63=>?_) ?_))
       ·have N64:=N63.pl [2]
        refine Y22 (z:=.agg #[.int .i64 0,.int .i8 0,S [],S [],.slice none 0 0]) (f:=aJ) (xs:=X2.2.2.2.1) (ys:=[(⟨d1.ax,d1.ab,d1.af,d1.am,d1.ai⟩:TI0)]) (news:=[.int .i64 d1.ax,.int .i8 d1.ab,S d1.af,S d1.am,.slice Z5 d1.ai.length P5]) (ad:=⟨Q7,0,none⟩) (m:=1) (c:=1) f N64 (aa.mono J3 _ _ D4) (by exact⟨_,_,rfl,TI0.shut (B2.mono ((J1.trans J2).trans J3)),rfl⟩) rfl rfl rfl rfl (al (N64.ownCell 1 rfl) 0 rfl) (by exact O2) (by have hg_:=O2;first|omega|(simp only[List.length_cons,List.length_nil] at*;omega)) λZ16 P16 L13 W41 N65 D13 _ f=>?_
        have N66:=N65.pl [1]
        have N67:=N66.drop
        refine aA rfl (aW 2 (mR _) N67 rfl (Y1 (v:=.pointer (some (⟨b0,0,none⟩))) rfl f rfl rfl (λ_ _=>by kernel_rfl) λ_ f=>Y1 (v:=.pointer (some (⟨b0,2,none⟩))) rfl f rfl rfl (λ_ _=>by kernel_rfl) λ_ f=>aV rfl (λW42 N68=>?_) ?_))
        ·refine Y28 f N68 1 rfl rfl (b:=b0) (j:=2) (v:=.slice Z16 (X2.2.2.2.1++[(⟨d1.ax,d1.ab,d1.af,d1.am,d1.ai⟩:TI0)]).length P16) rfl (by exact rfl) (by simp) (by simp) ((Ent.row 32 5 (.slice Z16 (X2.2.2.2.1++[(⟨d1.ax,d1.ab,d1.af,d1.am,d1.ai⟩:TI0)]).length P16) (X2.2.2.2.1++[(⟨d1.ax,d1.ab,d1.af,d1.am,d1.ai⟩:TI0)]).length L13)::(Ent.obj b0 (.cells #[.slice Z6 X2.2.1.length P6,.int .i64 X2.2.2.1,.slice Z16 (X2.2.2.2.1++[(⟨d1.ax,d1.ab,d1.af,d1.am,d1.ai⟩:TI0)]).length P16,.slice Z8 X2.2.2.2.2.1.length P8,.slice Z14 G1.length P14,.int .i64 X2.2.2.2.2.2.2] 66 (0,0)))::(Ent.row 3 1 (.slice Z14 G1.length P14) G1.length L11)::(Ent.row 38 3 (.slice Z8 X2.2.2.2.2.1.length P8) X2.2.2.2.2.1.length L5)::H) rfl λW43 N69 _ f=>aA rfl (aW 2 (mR _) N69 rfl (jT λW44 N70=>aH ?_))
         exact⟨X2.2.2.2.1++[(⟨d1.ax,d1.ab,d1.af,d1.am,d1.ai⟩:TI0)],(sI F10).symm,V3,(mR _),Z16,P16,L13,D13,f.kp,N70⟩
        exact aQ
       exact aQ
      exact aQ
     refine aV rfl (λW45 N71=>?_) ?_
     ·refine bg (k:=1) (c:=1) f N71 (.cells #[.int .i64 d1.ax,.int .i8 d1.ab,S d1.af,S d1.am,.slice Z5 d1.ai.length P5] 32 (0,0)) (by kernel_rfl) (λ_=>by kernel_rfl) λQ8 W46 N72 _ f=>aA rfl (aW 3 (mR _) N72 rfl (aV rfl (λW47 N73=>?_) ?_))
      ·refine Z f (Y35 (v:=.slice Z7 X2.2.2.2.1.length P7) rfl (ad:=⟨b0,2,none⟩) (N73.ownCell 1 rfl 2)) λ_ f=>aA rfl (aW 3 (mR _) N73 rfl (aV rfl (λW48 N74=>?_) ?_))
       ·have N75:=N74.pl [2]
        refine Y22 (z:=.agg #[.int .i64 0,.int .i8 0,S [],S [],.slice none 0 0]) (f:=aJ) (xs:=X2.2.2.2.1) (ys:=[(⟨d1.ax,d1.ab,d1.af,d1.am,d1.ai⟩:TI0)]) (news:=[.int .i64 d1.ax,.int .i8 d1.ab,S d1.af,S d1.am,.slice Z5 d1.ai.length P5]) (ad:=⟨Q8,0,none⟩) (m:=1) (c:=1) f N75 (aa.mono J3 _ _ D4) (by exact⟨_,_,rfl,TI0.shut (B2.mono ((J1.trans J2).trans J3)),rfl⟩) rfl rfl rfl rfl (al (N75.ownCell 1 rfl) 0 rfl) (by exact O2) (by have hg_:=O2;first|omega|(simp only[List.length_cons,List.length_nil] at*;omega)) λZ17 P17 L14 W49 N76 D14 _ f=>?_
        have N77:=N76.pl [1]
        have N78:=N77.drop
        refine aA rfl (aW 2 (mR _) N78 rfl (Y1 (v:=.pointer (some (⟨b0,0,none⟩))) rfl f rfl rfl (λ_ _=>by kernel_rfl) λ_ f=>Y1 (v:=.pointer (some (⟨b0,2,none⟩))) rfl f rfl rfl (λ_ _=>by kernel_rfl) λ_ f=>aV rfl (λW50 N79=>?_) ?_))
        ·refine Y28 f N79 1 rfl rfl (b:=b0) (j:=2) (v:=.slice Z17 (X2.2.2.2.1++[(⟨d1.ax,d1.ab,d1.af,d1.am,d1.ai⟩:TI0)]).length P17) rfl (by exact rfl) (by simp) (by simp) ((Ent.row 32 5 (.slice Z17 (X2.2.2.2.1++[(⟨d1.ax,d1.ab,d1.af,d1.am,d1.ai⟩:TI0)]).length P17) (X2.2.2.2.1++[(⟨d1.ax,d1.ab,d1.af,d1.am,d1.ai⟩:TI0)]).length L14)::(Ent.obj b0 (.cells #[.slice Z6 X2.2.1.length P6,.int .i64 X2.2.2.1,.slice Z17 (X2.2.2.2.1++[(⟨d1.ax,d1.ab,d1.af,d1.am,d1.ai⟩:TI0)]).length P17,.slice Z8 X2.2.2.2.2.1.length P8,.slice Z14 G1.length P14,.int .i64 X2.2.2.2.2.2.2] 66 (0,0)))::(Ent.row 3 1 (.slice Z14 G1.length P14) G1.length L11)::(Ent.row 38 3 (.slice Z8 X2.2.2.2.2.1.length P8) X2.2.2.2.2.1.length L5)::H) rfl λW51 N80 _ f=>aA rfl (aW 2 (mR _) N80 rfl (jT λW52 N81=>aH ?_))
         exact⟨X2.2.2.2.1++[(⟨d1.ax,d1.ab,d1.af,d1.am,d1.ai⟩:TI0)],(sI F10).symm,V3,(mR _),Z17,P17,L14,D14,f.kp,N81⟩
        exact aQ
       exact aQ
      exact aQ
     exact aQ
    ·rintro a_77 W53 ⟨G2,hZ,V4,J4,Z18,P18,L15,D15,f,N82⟩
     subst jd
     refine aH (RR (Y f 4 λ_ f=>Z f (Y35 (v:=.slice Z8 X2.2.2.2.2.1.length P8) rfl (ad:=⟨b0,3,none⟩) (N82.ownCell 1 rfl 3)) λ_ f=>Y f 1 λ_ f=>bg (k:=1) (c:=1) f N82 (.cells #[.bool false,.bool false,S []] 38 (0,0)) (by kernel_rfl) (λ_=>by kernel_rfl) λQ9 W54 N83 _ f=>?_))
     have N84:=N83.pl [4]
     obtain⟨O3,F11⟩:=nS F9
     refine Y22 (z:=.agg #[.bool false,.bool false,S []]) (f:=bK) (xs:=X2.2.2.2.2.1) (ys:=[aX]) (news:=[.bool false,.bool false,S []]) (ad:=⟨Q9,0,none⟩) (m:=1) (c:=1) f N84 (aa.mono (J3.trans J4) _ _ D5) (by exact⟨_,_,rfl,TD0.shut,rfl⟩) rfl rfl rfl rfl (al (N84.ownCell 1 rfl) 0 rfl) (by exact O3) (by have hg_:=O3;first|omega|(simp only[List.length_cons,List.length_nil] at*;omega)) λZ19 P19 L16 W55 N85 D16 _ f=>?_
     have N86:=N85.pl [1]
     have N87:=N86.drop
     refine Y f 2 λ_ f=>Y28 f N87 2 rfl rfl (b:=b0) (j:=3) (v:=.slice Z19 (X2.2.2.2.2.1++[aX]).length P19) rfl (by exact rfl) (by simp) (by simp) ((Ent.row 38 3 (.slice Z19 (X2.2.2.2.2.1++[aX]).length P19) (X2.2.2.2.2.1++[aX]).length L16)::(Ent.row 32 5 (.slice Z18 G2.length P18) G2.length L15)::(Ent.obj b0 (.cells #[.slice Z6 X2.2.1.length P6,.int .i64 X2.2.2.1,.slice Z18 G2.length P18,.slice Z19 (X2.2.2.2.2.1++[aX]).length P19,.slice Z14 G1.length P14,.int .i64 X2.2.2.2.2.2.2] 66 (0,0)))::(Ent.row 3 1 (.slice Z14 G1.length P14) G1.length L11)::H) rfl λW56 N88 _ f=>eT (RR (Y f 1 λ_ f=>eT (wp_ret (ao f rfl (by kernel_rfl:Vc.look _ 4=some (.int .i64 0)) ?_))))
     obtain rfl:=sI F11
     have N92:=N88.pl [3,1,2,3]
     exact⟨_,rfl,V4,_,(((J1.trans J2).trans J3).trans J4),N92,⟨Z6,P6,Z18,P18,L15,Z19,P19,L16,Z14,P14,L11,rfl,rfl,(B4.mono (J3.trans J4)),D15,D16,(aa.mono J4 _ _ D11)⟩⟩
def gb (n:Nat) (aL:List TG0) (aM:Int) (ar:List TI0) (aw:List TD0) (aj:List Int) (aO:Int) (d1:Int) (d2:Bool):Option (Int×TD0×Int×List TG0×Int×List TI0×List TD0×List Int×Int):=
 ((bif(decide (d1<0)) then
  (some ((true)))
   else
    some ((decide (((aj.length:Nat):Int)≤d1))):Option Bool)).bind λG1=>
 bif G1 then
  (some (((0:Int),aX,(4:Int),aL,aM,ar,aw,aj,aO)))
 else
  (aR aj d1).bind λX1=>
  aZ (0≤d1∧d1≤(aj.length:Int))<|
  aZ ((([]:List Int).length+ (d1.toNat-0))*8≤140737488355328)<|
  aZ (inR .i64 (d1+1))<|
  aZ (0≤(d1+1)∧(d1+1)≤(aj.length:Int))<|
  aZ (((([]:List Int)++(aj.take d1.toNat).drop 0).length+ (aj.length- (d1+1).toNat))*8≤140737488355328)<|
  (aR ar X1).bind λX2=>
  ((bif d2 then
   (bif(decide (X2.ab=0)) then
    ((((iZ n (⟨aL,aM⟩:TA0) X2.am X2.ai).bind λX3=>
      some ((X3.1,X3.2.1,X3.2.2)):Option (TA0×Bs×Int))).bind λG2=>
    bif(decide (G2.2.2=0)) then
     (aZ (inR .i64 (aO+1))<|
     some ((G2.1.fL,G2.1.au,aO+1,(true),G2.2.1)))
    else
     some ((aL,aM,aO,(false),([]:Bs))))
   else
    bif(decide (X2.ab=1)) then
     ((((ja n (⟨aL,aM⟩:TA0) X2.af X2.ai).bind λX6=>
       some ((X6.1,X6.2)):Option (TA0×Int))).bind λG3=>
     bif(decide (G3.2=0)) then
      (some ((G3.1.fL,G3.1.au,aO,(true),([]:Bs))))
     else
      some ((aL,aM,aO,(false),([]:Bs))))
    else
     bif(decide (X2.ab=2)) then
      ((((jb n (⟨aL,aM⟩:TA0) X2.af).bind λX9=>
        some ((X9.1,X9.2)):Option (TA0×Int))).bind λG4=>
      bif(decide (G4.2=0)) then
       (some ((G4.1.fL,G4.1.au,aO,(true),([]:Bs))))
      else
       some ((aL,aM,aO,(false),([]:Bs))))
     else
      some ((aL,aM,aO,(false),([]:Bs))))
    else
     some ((aL,aM,aO,(false),([]:Bs))):Option (List TG0×Int×Int×Bool×Bs))).bind λG5=>
  (aR aw X1).bind λX12=>
  some ((X2.ax,(⟨(true),(G5.2.2.2.1),G5.2.2.2.2⟩:TD0),(0:Int),G5.1,G5.2.1,ar,aw.set X1.toNat (⟨(true),(G5.2.2.2.1),G5.2.2.2.2⟩:TD0),(([]:List Int)++(aj.take d1.toNat).drop 0)++(aj.take aj.length).drop (d1+1).toNat,G5.2.2.1))
set_option maxRecDepth 20000 in
theorem oy (n:Nat) (M:Mem) (hG:GL M) (b0:Nat) (aL:List TG0) (Z1:Option Addr) (P1:Nat) (B1:Sli M 3 aK Z1 P1 aL) (aM:Int) (ar:List TI0) (Z2:Option Addr) (P2:Nat) (L1:List Value) (D1:aa M (ar.map aJ) L1) (aw:List TD0) (Z3:Option Addr) (P3:Nat) (L2:List Value) (D2:aa M (aw.map bK) L2) (aj:List Int) (Z4:Option Addr) (P4:Nat) (L3:List Value) (D3:aa M (aj.map (Dat.int .i64)) L3) (aO:Int) (d1:Int) (d2:Bool) (r:Int×TD0×Int×List TG0×Int×List TI0×List TD0×List Int×Int) (hF:gb n aL aM ar aw aj aO d1 d2=some r):OkH Tryz.prog M [Ent.obj b0 (.cells #[.slice Z1 aL.length P1,.int .i64 aM,.slice Z2 ar.length P2,.slice Z3 aw.length P3,.slice Z4 aj.length P4,.int .i64 aO] 66 (0,0)),Ent.row 32 5 (.slice Z2 ar.length P2) ar.length L1,Ent.row 38 3 (.slice Z3 aw.length P3) aw.length L2,Ent.row 3 1 (.slice Z4 aj.length P4) aj.length L3] 11 [.pointer (some (⟨b0,0,none⟩)),.int .i64 d1,.bool d2] (λM' E' v=>∃ (c1:List Value) (Z24:Option Addr) (P27:Nat) (Z25:Option Addr) (P28:Nat) (L7:List Value) (Z26:Option Addr) (P29:Nat) (L8:List Value) (Z27:Option Addr) (P30:Nat) (L9:List Value),v=.tuple #[.int .i64 r.1,.agg c1.toArray,.int .i64 r.2.2.1]∧E'=[Ent.obj b0 (.cells #[.slice Z24 r.2.2.2.1.length P27,.int .i64 r.2.2.2.2.1,.slice Z25 r.2.2.2.2.2.1.length P28,.slice Z26 r.2.2.2.2.2.2.1.length P29,.slice Z27 r.2.2.2.2.2.2.2.1.length P30,.int .i64 r.2.2.2.2.2.2.2.2] 66 (0,0)),Ent.row 32 5 (.slice Z25 r.2.2.2.2.2.1.length P28) r.2.2.2.2.2.1.length L7,Ent.row 38 3 (.slice Z26 r.2.2.2.2.2.2.1.length P29) r.2.2.2.2.2.2.1.length L8,Ent.row 3 1 (.slice Z27 r.2.2.2.2.2.2.2.1.length P30) r.2.2.2.2.2.2.2.1.length L9]∧Rep M' (bK r.2.1) c1∧Sli M' 3 aK Z24 P27 r.2.2.2.1∧aa M' (r.2.2.2.2.2.1.map aJ) L7∧aa M' (r.2.2.2.2.2.2.1.map bK) L8∧aa M' (r.2.2.2.2.2.2.2.1.map (Dat.int .i64)) L9):=by
 unfold gb at hF
 intro M1 hM0 w0 H w p0
 replace hG:=GL.mono hM0 hG
 replace B1:=B1.mono hM0
 replace D1:=aa.mono hM0 _ _ D1
 replace D2:=aa.mono hM0 _ _ D2
 replace D3:=aa.mono hM0 _ _ D3
 refine aD 155 Tryz.func11 rfl rfl (by simp) λa0 f0=>RR (Y f0 1 λ_ f=>Y12 f p0 (.cells #[.bool false,.bool false,S []] 38 (0,0)) λQ1 W1 N1 _ f=>Y f 1 λ_ f=>eT (ag (RR (Y f 1 λ_ f=>Z (v:=.bool false) f (df (q:=some (⟨b0,0,none⟩)) (e:=66) rfl (by kernel_rfl) (by kernel_rfl) (by kernel_rfl) _) λ_ f=>eT (Y7 f (wp_skip (aH (ag (ag ?_)))))))))
 obtain⟨cX,bX,F1⟩:=bS hF
 refine bj (λpm W2=>∃G1:Bool,cX=G1∧∃V1:Mem,M1.le V1∧Frm 155 [(0,.pointer (some (⟨b0,0,none⟩))),(1,.int .i64 d1),(2,.bool d2),(7,.pointer (some (⟨Q1,0,none⟩))),(33,.bool G1)] pm∧Hp w0 V1 ((Ent.obj Q1 (.cells #[.bool false,.bool false,S []] 38 (0,0)))::(Ent.obj b0 (.cells #[.slice Z1 aL.length P1,.int .i64 aM,.slice Z2 ar.length P2,.slice Z3 aw.length P3,.slice Z4 aj.length P4,.int .i64 aO] 66 (0,0)))::(Ent.row 32 5 (.slice Z2 ar.length P2) ar.length L1)::(Ent.row 38 3 (.slice Z3 aw.length P3) aw.length L2)::(Ent.row 3 1 (.slice Z4 aj.length P4) aj.length L3)::H) W2) ?_ ?_
 ·refine aI (Y f 3 λ_ f=>?_)
  rcases cE bX with⟨B2,F2⟩|⟨B2,F3⟩
  ·have U1:=dI.1 B2
   have f:=f.st 25 (cB B2)
   refine Y f 8 λ_ f=>eT ?_
   exact⟨(true),(sI F2).symm,M1,(mR _),f.kp,N1⟩
  ·have U2:=ap dI B2
   have f:=f.st 25 (cB B2)
   refine Y f 4 λ_ f=>Z f (Y35 (v:=.slice Z4 aj.length P4) rfl (ad:=⟨b0,4,none⟩) (N1.ownCell 1 rfl 4)) λ_ f=>Y f 3 λ_ f=>eT ?_
   exact⟨(decide (((aj.length:Nat):Int)≤d1)),(sI F3).symm,M1,(mR _),f.kp,N1⟩
 ·rintro pm W2 ⟨G1,dg,V1,J1,f,N2⟩
  subst cX
  refine aH (RcF f F1 (λB3 F4=>?_) λB3 F5=>?_)
  ·refine RR (Y f 2 λ_ f=>Y29 (vs:=[.bool false,.bool false,S []]) (j:=0) f N2 rfl rfl (by simp[Value.oneCell',S]) (by simp) (by decide) (cs':=#[.bool false,.bool false,S []]) (by kernel_rfl) λW3 N3 _ f=>Y f 1 λ_ f=>eT (wp_ret (aS (lw f rfl (Y11 (v:=.int .i64 0) f) (Y10 (cs:=[.bool false,.bool false,S []]) (ad:=⟨Q1,0,none⟩) f (al (N3.ownCell 0 rfl) 0 rfl)) (Y11 (v:=.int .i64 4) f) ?_))))
   obtain rfl:=sI F4
   exact⟨_,rfl,V1,_,J1,(N3.dropN 1),⟨[.bool false,.bool false,S []],Z1,P1,Z2,P2,L1,Z3,P3,L2,Z4,P4,L3,rfl,rfl,(TD0.shut),(B1.mono J1),(aa.mono J1 _ _ D1),(aa.mono J1 _ _ D2),(aa.mono J1 _ _ D3)⟩⟩
  ·refine wp_skip (aH (RR (Y f 3 λ_ f=>Z f (Y35 (v:=.slice Z4 aj.length P4) rfl (ad:=⟨b0,4,none⟩) (N2.ownCell 1 rfl 4)) λ_ f=>Y f 1 λ_ f=>?_)))
   obtain⟨X1,S1,F6⟩:=bS F5
   obtain⟨Q2,P5,H1,mh⟩:=N2.rowAddr 4 rfl (eX S1)
   have f:=f.st 38 (H1)
   refine Z f (Y33 rfl (ad:=⟨Q2,0,none⟩) (len:=aj.length) (cap:=P5) (k:=.i64) (i:=d1) (e:=3) (sz:=1) (aF S1) (aE S1)) λ_ f=>?_
   have f:=f.st 38 (H1.symm)
   obtain⟨cP,-,D4,R1⟩:=aa.get d1.toNat (bY (dX .i64)) (aa.mono J1 _ _ D3) (ij S1)
   obtain rfl:cP=[.int .i64 X1]:=D4
   refine Z f (Y35 (v:=.int .i64 X1) rfl (ad:=(⟨Q2,0,none⟩:Addr).add (d1.toNat*1)) (by simpa [Addr.add] using (λj v h=>lj (N2.rowCell 4 rfl H1) R1 j v h) 0 _ rfl)) λ_ f=>Y f 1 λ_ f=>eT (RR (Y f 1 λ_ f=>eT (RR (Y f 4 λ_ f=>Z f (Y35 (v:=.slice Z4 aj.length P4) rfl (ad:=⟨b0,4,none⟩) (N2.ownCell 1 rfl 4)) λ_ f=>Y f 1 λ_ f=>?_))))
   obtain⟨O1,F7⟩:=nS F6
   obtain⟨Z5,P6,H2,hcap_2,hcn_1⟩:=N2.rowShape 4 rfl
   have f:=f.st 46 (H2)
   refine Z f (Y40 rfl (A:=Z5) (len:=aj.length) (cap:=P6) (k':=.i64) (b:=d1) (e:=3) (sz:=1) (by omega) (by omega)) λ_ f=>?_
   have f:=f.st 46 (H2.symm)
   obtain⟨Z6,P7,H3⟩: ∃A cap,Value.slice none 0 0=.slice A ([]:List Int).length cap:=⟨none,0,rfl⟩
   have N4:Hp w0 V1 ((Ent.row 3 1 (.slice Z6 ([]:List Int).length P7) ([]:List Int).length [])::(Ent.obj Q1 (.cells #[.bool false,.bool false,S []] 38 (0,0)))::(Ent.obj b0 (.cells #[.slice Z1 aL.length P1,.int .i64 aM,.slice Z2 ar.length P2,.slice Z3 aw.length P3,.slice Z4 aj.length P4,.int .i64 aO] 66 (0,0)))::(Ent.row 32 5 (.slice Z2 ar.length P2) ar.length L1)::(Ent.row 38 3 (.slice Z3 aw.length P3) aw.length L2)::(Ent.row 3 1 (.slice Z4 aj.length P4) aj.length L3)::H) W2:=by rw[←H3];exact N2.nilRow 3 1
   have f:=f.st 42 (H3)
   have D5:aa V1 (([]:List Int).map (Dat.int .i64)) []:=rfl
   obtain⟨O2,F8⟩:=nS F7
   refine Y23 (z:=.int .i64 0) (f:=(Dat.int .i64)) (xs:=([]:List Int)) (ys:=aj) (lo:=0) (hi:=d1.toNat) f N4 (dX .i64) D5 (aa.mono J1 _ _ D3) 5 rfl H2 (by omega) (by omega) rfl rfl rfl O2 (by omega) λZ7 P8 L4 W4 N5 D6 _ f=>Y f 1 λ_ f=>eT (RR (Y f 4 λ_ f=>Z f (Y35 (v:=.slice Z4 aj.length P4) rfl (ad:=⟨b0,4,none⟩) (N5.ownCell 2 rfl 4)) λ_ f=>Y f 1 λ_ f=>?_))
   obtain⟨O3,F9⟩:=nS F8
   refine Y f 1 λ_ f=>?_
   have f:=f.st 56 (iW O3)
   obtain⟨O4,F10⟩:=nS F9
   obtain⟨Z8,P9,H4,hcap_3,hcn_2⟩:=N5.rowShape 5 rfl
   have f:=f.st 54 (H4)
   refine Z f (Y39 rfl (A:=Z8) (len:=aj.length) (cap:=P9) (k:=.i64) (a:=d1+1) (e:=3) (sz:=1) (by omega) (by omega)) λ_ f=>?_
   have f:=f.st 54 (H4.symm)
   obtain⟨O5,F11⟩:=nS F10
   refine Y23 (z:=.int .i64 0) (f:=(Dat.int .i64)) (xs:=([]:List Int)++(aj.take d1.toNat).drop 0) (ys:=aj) (lo:=(d1+1).toNat) (hi:=aj.length) f N5 (dX .i64) D6 (aa.mono J1 _ _ D3) 5 rfl H4 (by omega) (by omega) rfl rfl rfl O5 (by omega) λZ9 P10 L5 W5 N6 D7 _ f=>Y f 1 λ_ f=>eT (RR (Y f 4 λ_ f=>Y28 f N6 2 rfl rfl (b:=b0) (j:=4) (v:=.slice Z9 ((([]:List Int)++(aj.take d1.toNat).drop 0)++(aj.take aj.length).drop (d1+1).toNat).length P10) rfl (by exact rfl) (by simp) (by simp) ((Ent.row 3 1 (.slice Z9 ((([]:List Int)++(aj.take d1.toNat).drop 0)++(aj.take aj.length).drop (d1+1).toNat).length P10) ((([]:List Int)++(aj.take d1.toNat).drop 0)++(aj.take aj.length).drop (d1+1).toNat).length L5)::(Ent.obj Q1 (.cells #[.bool false,.bool false,S []] 38 (0,0)))::(Ent.obj b0 (.cells #[.slice Z1 aL.length P1,.int .i64 aM,.slice Z2 ar.length P2,.slice Z3 aw.length P3,.slice Z9 ((([]:List Int)++(aj.take d1.toNat).drop 0)++(aj.take aj.length).drop (d1+1).toNat).length P10,.int .i64 aO] 66 (0,0)))::(Ent.row 32 5 (.slice Z2 ar.length P2) ar.length L1)::(Ent.row 38 3 (.slice Z3 aw.length P3) aw.length L2)::(Ent.row 3 1 (.slice Z4 aj.length P4) aj.length L3)::H) rfl λW6 N7 _ f=>eT (RR (Y f 3 λ_ f=>Z f (Y35 (v:=.slice Z2 ar.length P2) rfl (ad:=⟨b0,2,none⟩) (N7.ownCell 2 rfl 2)) λ_ f=>Y f 1 λ_ f=>?_))))
   obtain⟨X2,S2,F12⟩:=bS F11
   obtain⟨Q3,P11,H5,hcap_4⟩:=N7.rowAddr 3 rfl (eX S2)
   have f:=f.st 66 (H5)
   refine Z f (Y33 rfl (ad:=⟨Q3,0,none⟩) (len:=ar.length) (cap:=P11) (k:=.i64) (i:=X1) (e:=32) (sz:=5) (aF S2) (aE S2)) λ_ f=>?_
   have f:=f.st 66 (H5.symm)
   obtain⟨jX,-,D8,R2⟩:=aa.get X1.toNat (bY dZ) (aa.mono J1 _ _ D1) (ij S2)
   obtain⟨Z10,P12,rfl,B4⟩:=TI0.opn D8
   refine Z (v:=.agg #[.int .i64 X2.ax,.int .i8 X2.ab,S X2.af,S X2.am,.slice Z10 X2.ai.length P12]) f (Y36 (cs:=[.int .i64 X2.ax,.int .i8 X2.ab,S X2.af,S X2.am,.slice Z10 X2.ai.length P12]) rfl (ad:=(⟨Q3,0,none⟩:Addr).add (X1.toNat*5)) (λj v h=>lj (N7.rowCell 3 rfl H5) R2 j v h)) λ_ f=>Y12 f N7 (.cells #[.int .i64 0,.int .i8 0,S [],S [],.slice none 0 0] 32 (0,0)) λQ4 W7 N8 _ f=>Y29 (vs:=[.int .i64 X2.ax,.int .i8 X2.ab,S X2.af,S X2.am,.slice Z10 X2.ai.length P12]) (j:=0) f N8 rfl rfl (by simp[Value.oneCell',S]) (by simp) (by decide) (cs':=#[.int .i64 X2.ax,.int .i8 X2.ab,S X2.af,S X2.am,.slice Z10 X2.ai.length P12]) (by kernel_rfl) λW8 N9 _ f=>eT (RR (Y f 1 λ_ f=>Y12 f N9 (.cells #[.bool false,.bool false,S []] 38 (0,0)) λQ5 W9 N10 _ f=>Y29 (vs:=[.bool true,.bool false,S []]) (j:=0) f N10 rfl rfl (by simp[Value.oneCell',S]) (by simp) (by decide) (cs':=#[.bool true,.bool false,S []]) (by kernel_rfl) λW10 N11 _ f=>eT (ag (RR (Y f 1 λ_ f=>eT ?_)))))
   obtain⟨jd,eW,F13⟩:=bS F12
   refine bj (λa_181 W73=>∃G5:List TG0×Int×Int×Bool×List UInt8,jd=G5∧∃V20:Mem,V1.le V20∧∃ (Z23:Option Addr),∃ (P25:Nat),Sli V20 3 aK Z23 P25 G5.1∧Frm 155 [(0,.pointer (some (⟨b0,0,none⟩))),(7,.pointer (some (⟨Q1,0,none⟩))),(9,.int .i64 X1),(11,.pointer (some (⟨Q4,0,none⟩))),(12,.pointer (some (⟨Q5,0,none⟩)))] a_181∧Hp w0 V20 ((Ent.obj b0 (.cells #[.slice Z23 G5.1.length P25,.int .i64 G5.2.1,.slice Z2 ar.length P2,.slice Z3 aw.length P3,.slice Z9 ((([]:List Int)++(aj.take d1.toNat).drop 0)++(aj.take aj.length).drop (d1+1).toNat).length P10,.int .i64 G5.2.2.1] 66 (0,0)))::(Ent.obj Q5 (.cells #[.bool true,.bool G5.2.2.2.1,S G5.2.2.2.2] 38 (0,0)))::(Ent.obj Q4 (.cells #[.int .i64 X2.ax,.int .i8 X2.ab,S X2.af,S X2.am,.slice Z10 X2.ai.length P12] 32 (0,0)))::(Ent.row 3 1 (.slice Z9 ((([]:List Int)++(aj.take d1.toNat).drop 0)++(aj.take aj.length).drop (d1+1).toNat).length P10) ((([]:List Int)++(aj.take d1.toNat).drop 0)++(aj.take aj.length).drop (d1+1).toNat).length L5)::(Ent.obj Q1 (.cells #[.bool false,.bool false,S []] 38 (0,0)))::(Ent.row 32 5 (.slice Z2 ar.length P2) ar.length L1)::(Ent.row 38 3 (.slice Z3 aw.length P3) aw.length L2)::(Ent.row 3 1 (.slice Z4 aj.length P4) aj.length L3)::H) W73) ?_ ?_
   ·refine RcF f eW (λB5 F14=>?_) λB5 F34=>?_
    ·refine RR (Y f 1 λ_ f=>Z f (Y35 (v:=.int .i8 X2.ab) rfl (ad:=⟨Q4,1,none⟩) (N11.ownCell 1 rfl 1)) λ_ f=>eT (wp_block (RR (Y f 2 λ_ f=>eT (RcF f F14 (λB6 F15=>?_) λB6 F21=>?_)))))
     ·have U6:=dI.1 B6
      refine ag ?_
      obtain⟨tt,pZ,F16⟩:=bS F15
      refine bj (λa_88 W28=>∃G2:TA0×List UInt8×Int,tt=G2∧∃V5:Mem,V1.le V5∧∃ (C1:Addr),∃ (c_6:List Value),Rep V5 (eb G2.1) c_6∧(∀j u,c_6[j]? =some u→V5.cell? (C1.add j)=some u)∧Frm 155 [(0,.pointer (some (⟨b0,0,none⟩))),(7,.pointer (some (⟨Q1,0,none⟩))),(9,.int .i64 X1),(11,.pointer (some (⟨Q4,0,none⟩))),(12,.pointer (some (⟨Q5,0,none⟩))),(13,.pointer (some C1)),(14,S G2.2.1),(15,.int .i64 G2.2.2)] a_88∧Hp w0 V5 ((Ent.obj Q5 (.cells #[.bool true,.bool false,S []] 38 (0,0)))::(Ent.obj Q4 (.cells #[.int .i64 X2.ax,.int .i8 X2.ab,S X2.af,S X2.am,.slice Z10 X2.ai.length P12] 32 (0,0)))::(Ent.row 3 1 (.slice Z9 ((([]:List Int)++(aj.take d1.toNat).drop 0)++(aj.take aj.length).drop (d1+1).toNat).length P10) ((([]:List Int)++(aj.take d1.toNat).drop 0)++(aj.take aj.length).drop (d1+1).toNat).length L5)::(Ent.obj Q1 (.cells #[.bool false,.bool false,S []] 38 (0,0)))::(Ent.obj b0 (.cells #[.slice Z1 aL.length P1,.int .i64 aM,.slice Z2 ar.length P2,.slice Z3 aw.length P3,.slice Z9 ((([]:List Int)++(aj.take d1.toNat).drop 0)++(aj.take aj.length).drop (d1+1).toNat).length P10,.int .i64 aO] 66 (0,0)))::(Ent.row 32 5 (.slice Z2 ar.length P2) ar.length L1)::(Ent.row 38 3 (.slice Z3 aw.length P3) aw.length L2)::(Ent.row 3 1 (.slice Z4 aj.length P4) aj.length L3)::H) W28) ?_ ?_
      ·obtain⟨X3,S3,F17⟩:=bS pZ
       refine iz (ks:=[16]) (E:=[]) (Hr:=((Ent.obj Q5 (.cells #[.bool true,.bool false,S []] 38 (0,0)))::(Ent.obj Q4 (.cells #[.int .i64 X2.ax,.int .i8 X2.ab,S X2.af,S X2.am,.slice Z10 X2.ai.length P12] 32 (0,0)))::(Ent.row 3 1 (.slice Z9 ((([]:List Int)++(aj.take d1.toNat).drop 0)++(aj.take aj.length).drop (d1+1).toNat).length P10) ((([]:List Int)++(aj.take d1.toNat).drop 0)++(aj.take aj.length).drop (d1+1).toNat).length L5)::(Ent.obj Q1 (.cells #[.bool false,.bool false,S []] 38 (0,0)))::(Ent.obj b0 (.cells #[.slice Z1 aL.length P1,.int .i64 aM,.slice Z2 ar.length P2,.slice Z3 aw.length P3,.slice Z9 ((([]:List Int)++(aj.take d1.toNat).drop 0)++(aj.take aj.length).drop (d1+1).toNat).length P10,.int .i64 aO] 66 (0,0)))::(Ent.row 32 5 (.slice Z2 ar.length P2) ar.length L1)::(Ent.row 38 3 (.slice Z3 aw.length P3) aw.length L2)::(Ent.row 3 1 (.slice Z4 aj.length P4) aj.length L3)::H)) (.quiet 0 (.quiet 1 (.quiet 2 (.quiet 3 (.quiet 4 (.quiet 5 (.quiet 6 (.quiet 7 (.alt 8 (.quiet 9 (.quiet 10 (.quiet 11 (.quiet 12 (.alt 13 (.alt 14 (.quiet 15 .done) .none) .none))))) (.alt 13 (.alt 8 (.quiet 9 (.quiet 10 (.quiet 11 (.quiet 12 (.alt 14 (.quiet 15 .done) .none))))) .none) .none)))))))))) N11 (by kernel_rfl) (by kernel_rfl) (by kernel_rfl) (Y1 (v:=.pointer (some (⟨b0,0,none⟩))) rfl f rfl rfl (λ_ _=>by kernel_rfl) λ_ f=>Y1 (v:=.pointer (some (⟨b0,0,none⟩))) rfl f rfl rfl (λ_ _=>by kernel_rfl) λ_ f=>Y1 (v:=.pointer (some (⟨b0,0,none⟩))) rfl f rfl rfl (λ_ _=>by kernel_rfl) λ_ f=>Y1 (v:=.agg #[.slice Z1 aL.length P1,.int .i64 aM]) rfl f rfl rfl (λ_ pq=>Y36 (cs:=[.slice Z1 aL.length P1,.int .i64 aM]) rfl (ad:=⟨b0,0,none⟩) (al (pq.ownCell 4 rfl) 0 rfl)) λ_ f=>Y1 (v:=.pointer (some (⟨Q4,3,none⟩))) rfl f rfl rfl (λ_ _=>by kernel_rfl) λ_ f=>Y1 (v:=S X2.am) rfl f rfl rfl (λ_ pq=>Y35 (v:=S X2.am) rfl (ad:=⟨Q4,3,none⟩) (pq.ownCell 1 rfl 3)) λ_ f=>Y1 (v:=.pointer (some (⟨Q4,4,none⟩))) rfl f rfl rfl (λ_ _=>by kernel_rfl) λ_ f=>Y1 (v:=.slice Z10 X2.ai.length P12) rfl f rfl rfl (λ_ pq=>Y35 (v:=.slice Z10 X2.ai.length P12) rfl (ad:=⟨Q4,4,none⟩) (pq.ownCell 1 rfl 4)) λ_ f=>aV rfl (λW14 N15=>?_) ?_)
       ·refine Y16 f N15 (ml n _ (GL.mono J1 hG) _ (⟨aL,aM⟩:TA0) (TA0.shut (B1.mono J1)) X2.am Z10 P12 X2.ai B4 X3 S3) λ_ V3 W15 J3 N16 sj _ f=>?_
        obtain⟨c_4,rfl,D10⟩:=sj
        obtain⟨Z12,P14,rfl,B8⟩:=TA0.opn D10
        refine aA rfl (aW 0 J3 N16 rfl (Y1 (v:=.tuple #[.agg #[.slice Z12 X3.1.fL.length P14,.int .i64 X3.1.au],S X3.2.1,.int .i64 X3.2.2]) rfl f rfl rfl (λ_ _=>by kernel_rfl) λ_ f=>Y1 (v:=.agg #[.slice Z12 X3.1.fL.length P14,.int .i64 X3.1.au]) rfl f rfl rfl (λ_ _=>by kernel_rfl) λ_ f=>Y1 (v:=S X3.2.1) rfl f rfl rfl (λ_ _=>by kernel_rfl) λ_ f=>Y1 (v:=.int .i64 X3.2.2) rfl f rfl rfl (λ_ _=>by kernel_rfl) λ_ f=>aV rfl (λW16 N17=>?_) ?_))
        ·refine Y12 f N17 (.cells #[.slice none 0 0,.int .i64 0] 63 (0,0)) λQ7 W17 N18 _ f=>aA rfl (aW 1 J3 N18 rfl (aV rfl (λW18 N19=>?_) ?_))
         ·refine Y29 (vs:=[.slice Z12 X3.1.fL.length P14,.int .i64 X3.1.au]) (j:=0) f N19 rfl rfl (by simp[Value.oneCell',S]) (by simp) (by decide) (cs':=#[.slice Z12 X3.1.fL.length P14,.int .i64 X3.1.au]) (by kernel_rfl) λW19 N20 _ f=>aA rfl (aW 1 J3 N20 rfl (Y1 (v:=S X3.2.1) rfl f rfl rfl (λ_ _=>by kernel_rfl) λ_ f=>iA λW20 N21=>Y f 1 λ_ f=>aA rfl (nW ?_)))
          obtain⟨V6,J6,N30,R3⟩:=N21.fzOwn
          refine aH ?_
          exact⟨(X3.1,X3.2.1,X3.2.2),(sI F17).symm,V6,(J3.trans J6),⟨Q7,0,none⟩,[.slice Z12 X3.1.fL.length P14,.int .i64 X3.1.au],(TA0.shutx (x:=X3.1) (B8.mono J6)),(gE (R3) 0 rfl),f.kp,N30⟩
         exact aQ
        exact aQ
       refine aV rfl (λW21 N22=>?_) ?_
       ·refine Y12 f N22 (.cells #[.slice none 0 0,.int .i64 0] 63 (0,0)) λQ8 W22 N23 _ f=>aA rfl (aW 1 (mR _) N23 rfl (aV rfl (λW23 N24=>?_) ?_))
        ·refine Y16 f N24 (ml n _ (GL.mono J1 hG) _ (⟨aL,aM⟩:TA0) (TA0.shut (B1.mono J1)) X2.am Z10 P12 X2.ai B4 X3 S3) λ_ V4 W24 J4 N25 q_3 _ f=>?_
         obtain⟨c_5,rfl,D11⟩:=q_3
         obtain⟨Z13,P15,rfl,B9⟩:=TA0.opn D11
         refine aA rfl (aW 1 J4 N25 rfl (Y1 (v:=.tuple #[.agg #[.slice Z13 X3.1.fL.length P15,.int .i64 X3.1.au],S X3.2.1,.int .i64 X3.2.2]) rfl f rfl rfl (λ_ _=>by kernel_rfl) λ_ f=>Y1 (v:=.agg #[.slice Z13 X3.1.fL.length P15,.int .i64 X3.1.au]) rfl f rfl rfl (λ_ _=>by kernel_rfl) λ_ f=>Y1 (v:=S X3.2.1) rfl f rfl rfl (λ_ _=>by kernel_rfl) λ_ f=>Y1 (v:=.int .i64 X3.2.2) rfl f rfl rfl (λ_ _=>by kernel_rfl) λ_ f=>aV rfl (λW25 N26=>?_) ?_))
         ·refine Y29 (vs:=[.slice Z13 X3.1.fL.length P15,.int .i64 X3.1.au]) (j:=0) f N26 rfl rfl (by simp[Value.oneCell',S]) (by simp) (by decide) (cs':=#[.slice Z13 X3.1.fL.length P15,.int .i64 X3.1.au]) (by kernel_rfl) λW26 N27 _ f=>aA rfl (aW 1 J4 N27 rfl (Y1 (v:=S X3.2.1) rfl f rfl rfl (λ_ _=>by kernel_rfl) λ_ f=>iA λW27 N28=>Y f 1 λ_ f=>aA rfl (nW ?_)))
          obtain⟨V7,J7,N31,R4⟩:=N28.fzOwn
          refine aH ?_
          exact⟨(X3.1,X3.2.1,X3.2.2),(sI F17).symm,V7,(J4.trans J7),⟨Q8,0,none⟩,[.slice Z13 X3.1.fL.length P15,.int .i64 X3.1.au],(TA0.shutx (x:=X3.1) (B9.mono J7)),(gE (R4) 0 rfl),f.kp,N31⟩
         exact aQ
        exact aQ
       exact aQ
      ·rintro a_88 W28 ⟨G2,sH,V5,J5,C1,c_6,D12,hZ,f,N29⟩
       subst tt
       obtain⟨Z14,P16,rfl,B10⟩:=TA0.opn D12
       refine aH (RR (Y f 2 λ_ f=>eT (RcF f F16 (λB11 F18=>?_) λB11 F20=>?_)))
       ·have U7:=dI.1 B11
        refine RR (Y f 1 λ_ f=>Z (v:=.agg #[.slice Z14 G2.1.fL.length P16,.int .i64 G2.1.au]) f (Y36 (cs:=[.slice Z14 G2.1.fL.length P16,.int .i64 G2.1.au]) rfl (ad:=C1) (λj v h=>N29.cell (hZ j v h))) λ_ f=>Y f 2 λ_ f=>?_)
        have N32:=N29.pl [4]
        refine Y29 (vs:=[.slice Z14 G2.1.fL.length P16,.int .i64 G2.1.au]) (j:=0) f N32 rfl rfl (by simp[Value.oneCell',S]) (by simp) (by decide) (cs':=#[.slice Z14 G2.1.fL.length P16,.int .i64 G2.1.au,.slice Z2 ar.length P2,.slice Z3 aw.length P3,.slice Z9 ((([]:List Int)++(aj.take d1.toNat).drop 0)++(aj.take aj.length).drop (d1+1).toNat).length P10,.int .i64 aO]) (by kernel_rfl) λW29 N33 _ f=>eT (RR (Y f 1 λ_ f=>Y28 f N33 1 rfl rfl (b:=Q5) (j:=1) (v:=.bool true) rfl (by exact rfl) (by simp) (by simp) ((Ent.obj b0 (.cells #[.slice Z14 G2.1.fL.length P16,.int .i64 G2.1.au,.slice Z2 ar.length P2,.slice Z3 aw.length P3,.slice Z9 ((([]:List Int)++(aj.take d1.toNat).drop 0)++(aj.take aj.length).drop (d1+1).toNat).length P10,.int .i64 aO] 66 (0,0)))::(Ent.obj Q5 (.cells #[.bool true,.bool true,S []] 38 (0,0)))::(Ent.obj Q4 (.cells #[.int .i64 X2.ax,.int .i8 X2.ab,S X2.af,S X2.am,.slice Z10 X2.ai.length P12] 32 (0,0)))::(Ent.row 3 1 (.slice Z9 ((([]:List Int)++(aj.take d1.toNat).drop 0)++(aj.take aj.length).drop (d1+1).toNat).length P10) ((([]:List Int)++(aj.take d1.toNat).drop 0)++(aj.take aj.length).drop (d1+1).toNat).length L5)::(Ent.obj Q1 (.cells #[.bool false,.bool false,S []] 38 (0,0)))::(Ent.row 32 5 (.slice Z2 ar.length P2) ar.length L1)::(Ent.row 38 3 (.slice Z3 aw.length P3) aw.length L2)::(Ent.row 3 1 (.slice Z4 aj.length P4) aj.length L3)::H) rfl λW30 N34 _ f=>eT (RR (Y f 2 λ_ f=>Y28 f N34 1 rfl rfl (b:=Q5) (j:=2) (v:=S G2.2.1) rfl (by exact rfl) (by simp) (by simp) ((Ent.obj b0 (.cells #[.slice Z14 G2.1.fL.length P16,.int .i64 G2.1.au,.slice Z2 ar.length P2,.slice Z3 aw.length P3,.slice Z9 ((([]:List Int)++(aj.take d1.toNat).drop 0)++(aj.take aj.length).drop (d1+1).toNat).length P10,.int .i64 aO] 66 (0,0)))::(Ent.obj Q5 (.cells #[.bool true,.bool true,S G2.2.1] 38 (0,0)))::(Ent.obj Q4 (.cells #[.int .i64 X2.ax,.int .i8 X2.ab,S X2.af,S X2.am,.slice Z10 X2.ai.length P12] 32 (0,0)))::(Ent.row 3 1 (.slice Z9 ((([]:List Int)++(aj.take d1.toNat).drop 0)++(aj.take aj.length).drop (d1+1).toNat).length P10) ((([]:List Int)++(aj.take d1.toNat).drop 0)++(aj.take aj.length).drop (d1+1).toNat).length L5)::(Ent.obj Q1 (.cells #[.bool false,.bool false,S []] 38 (0,0)))::(Ent.row 32 5 (.slice Z2 ar.length P2) ar.length L1)::(Ent.row 38 3 (.slice Z3 aw.length P3) aw.length L2)::(Ent.row 3 1 (.slice Z4 aj.length P4) aj.length L3)::H) rfl λW31 N35 _ f=>eT (aI (Y f 3 λ_ f=>Z f (Y35 (v:=.int .i64 aO) rfl (ad:=⟨b0,5,none⟩) (N35.ownCell 0 rfl 5)) λ_ f=>?_))))))
        obtain⟨O6,F19⟩:=nS F18
        refine Y f 1 λ_ f=>?_
        have f:=f.st 102 (iW O6)
        refine Y f 2 λ_ f=>Y28 f N35 0 rfl rfl (b:=b0) (j:=5) (v:=.int .i64 (aO+1)) rfl (by exact rfl) (by simp) (by simp) ((Ent.obj b0 (.cells #[.slice Z14 G2.1.fL.length P16,.int .i64 G2.1.au,.slice Z2 ar.length P2,.slice Z3 aw.length P3,.slice Z9 ((([]:List Int)++(aj.take d1.toNat).drop 0)++(aj.take aj.length).drop (d1+1).toNat).length P10,.int .i64 (aO+1)] 66 (0,0)))::(Ent.obj Q5 (.cells #[.bool true,.bool true,S G2.2.1] 38 (0,0)))::(Ent.obj Q4 (.cells #[.int .i64 X2.ax,.int .i8 X2.ab,S X2.af,S X2.am,.slice Z10 X2.ai.length P12] 32 (0,0)))::(Ent.row 3 1 (.slice Z9 ((([]:List Int)++(aj.take d1.toNat).drop 0)++(aj.take aj.length).drop (d1+1).toNat).length P10) ((([]:List Int)++(aj.take d1.toNat).drop 0)++(aj.take aj.length).drop (d1+1).toNat).length L5)::(Ent.obj Q1 (.cells #[.bool false,.bool false,S []] 38 (0,0)))::(Ent.row 32 5 (.slice Z2 ar.length P2) ar.length L1)::(Ent.row 38 3 (.slice Z3 aw.length P3) aw.length L2)::(Ent.row 3 1 (.slice Z4 aj.length P4) aj.length L3)::H) rfl λW32 N36 _ f=>aA rfl (cG (aH ?_))
        exact⟨(G2.1.fL,G2.1.au,aO+1,(true),G2.2.1),(sI F19).symm,V5,J5,Z14,P16,B10,f.kp,N36⟩
       ·have U8:=ap dI B11
        refine wp_skip (cG ?_)
        have N91:=N29.pl [7,7,7,6,6,6,6,7]
        refine aH ?_
        exact⟨(aL,aM,aO,(false),([]:List UInt8)),(sI F20).symm,V5,J5,Z1,P1,(B1.mono (J1.trans J5)),f.kp,N91⟩
     ·have U9:=ap dI B6
      refine RR (Y f 2 λ_ f=>eT (RcF f F21 (λB12 F22=>?_) λB12 F27=>?_))
      ·have U10:=dI.1 B12
       refine ag ?_
       obtain⟨j_4,hj_4,F23⟩:=bS F22
       refine bj (λa_136 W50=>∃G3:TA0×Int,j_4=G3∧∃V11:Mem,V1.le V11∧∃ (C2:Addr),∃ (c_10:List Value),Rep V11 (eb G3.1) c_10∧(∀j u,c_10[j]? =some u→V11.cell? (C2.add j)=some u)∧Frm 155 [(0,.pointer (some (⟨b0,0,none⟩))),(7,.pointer (some (⟨Q1,0,none⟩))),(9,.int .i64 X1),(11,.pointer (some (⟨Q4,0,none⟩))),(12,.pointer (some (⟨Q5,0,none⟩))),(16,.pointer (some C2)),(17,.int .i64 G3.2)] a_136∧Hp w0 V11 ((Ent.obj Q5 (.cells #[.bool true,.bool false,S []] 38 (0,0)))::(Ent.obj Q4 (.cells #[.int .i64 X2.ax,.int .i8 X2.ab,S X2.af,S X2.am,.slice Z10 X2.ai.length P12] 32 (0,0)))::(Ent.row 3 1 (.slice Z9 ((([]:List Int)++(aj.take d1.toNat).drop 0)++(aj.take aj.length).drop (d1+1).toNat).length P10) ((([]:List Int)++(aj.take d1.toNat).drop 0)++(aj.take aj.length).drop (d1+1).toNat).length L5)::(Ent.obj Q1 (.cells #[.bool false,.bool false,S []] 38 (0,0)))::(Ent.obj b0 (.cells #[.slice Z1 aL.length P1,.int .i64 aM,.slice Z2 ar.length P2,.slice Z3 aw.length P3,.slice Z9 ((([]:List Int)++(aj.take d1.toNat).drop 0)++(aj.take aj.length).drop (d1+1).toNat).length P10,.int .i64 aO] 66 (0,0)))::(Ent.row 32 5 (.slice Z2 ar.length P2) ar.length L1)::(Ent.row 38 3 (.slice Z3 aw.length P3) aw.length L2)::(Ent.row 3 1 (.slice Z4 aj.length P4) aj.length L3)::H) W50) ?_ ?_
       ·obtain⟨X6,S4,F24⟩:=bS hj_4
        refine iz (ks:=[14]) (E:=[]) (Hr:=((Ent.obj Q5 (.cells #[.bool true,.bool false,S []] 38 (0,0)))::(Ent.obj Q4 (.cells #[.int .i64 X2.ax,.int .i8 X2.ab,S X2.af,S X2.am,.slice Z10 X2.ai.length P12] 32 (0,0)))::(Ent.row 3 1 (.slice Z9 ((([]:List Int)++(aj.take d1.toNat).drop 0)++(aj.take aj.length).drop (d1+1).toNat).length P10) ((([]:List Int)++(aj.take d1.toNat).drop 0)++(aj.take aj.length).drop (d1+1).toNat).length L5)::(Ent.obj Q1 (.cells #[.bool false,.bool false,S []] 38 (0,0)))::(Ent.obj b0 (.cells #[.slice Z1 aL.length P1,.int .i64 aM,.slice Z2 ar.length P2,.slice Z3 aw.length P3,.slice Z9 ((([]:List Int)++(aj.take d1.toNat).drop 0)++(aj.take aj.length).drop (d1+1).toNat).length P10,.int .i64 aO] 66 (0,0)))::(Ent.row 32 5 (.slice Z2 ar.length P2) ar.length L1)::(Ent.row 38 3 (.slice Z3 aw.length P3) aw.length L2)::(Ent.row 3 1 (.slice Z4 aj.length P4) aj.length L3)::H)) (.quiet 0 (.quiet 1 (.quiet 2 (.quiet 3 (.quiet 4 (.quiet 5 (.quiet 6 (.quiet 7 (.alt 8 (.quiet 9 (.quiet 10 (.quiet 11 (.alt 12 (.alt 13 .done .none) .none)))) (.alt 12 (.alt 8 (.quiet 9 (.quiet 10 (.quiet 11 (.alt 13 .done .none)))) .none) .none)))))))))) N11 (by kernel_rfl) (by kernel_rfl) (by kernel_rfl) (Y1 (v:=.pointer (some (⟨b0,0,none⟩))) rfl f rfl rfl (λ_ _=>by kernel_rfl) λ_ f=>Y1 (v:=.pointer (some (⟨b0,0,none⟩))) rfl f rfl rfl (λ_ _=>by kernel_rfl) λ_ f=>Y1 (v:=.pointer (some (⟨b0,0,none⟩))) rfl f rfl rfl (λ_ _=>by kernel_rfl) λ_ f=>Y1 (v:=.agg #[.slice Z1 aL.length P1,.int .i64 aM]) rfl f rfl rfl (λ_ pq=>Y36 (cs:=[.slice Z1 aL.length P1,.int .i64 aM]) rfl (ad:=⟨b0,0,none⟩) (al (pq.ownCell 4 rfl) 0 rfl)) λ_ f=>Y1 (v:=.pointer (some (⟨Q4,2,none⟩))) rfl f rfl rfl (λ_ _=>by kernel_rfl) λ_ f=>Y1 (v:=S X2.af) rfl f rfl rfl (λ_ pq=>Y35 (v:=S X2.af) rfl (ad:=⟨Q4,2,none⟩) (pq.ownCell 1 rfl 2)) λ_ f=>Y1 (v:=.pointer (some (⟨Q4,4,none⟩))) rfl f rfl rfl (λ_ _=>by kernel_rfl) λ_ f=>Y1 (v:=.slice Z10 X2.ai.length P12) rfl f rfl rfl (λ_ pq=>Y35 (v:=.slice Z10 X2.ai.length P12) rfl (ad:=⟨Q4,4,none⟩) (pq.ownCell 1 rfl 4)) λ_ f=>aV rfl (λW36 N40=>?_) ?_)
        ·refine Y16 f N40 (mm n _ (GL.mono J1 hG) _ (⟨aL,aM⟩:TA0) (TA0.shut (B1.mono J1)) X2.af Z10 P12 X2.ai B4 X6 S4) λ_ V9 W37 J9 N41 q_5 _ f=>?_
         obtain⟨c_8,rfl,D14⟩:=q_5
         obtain⟨Z16,P18,rfl,B14⟩:=TA0.opn D14
         refine aA rfl (aW 0 J9 N41 rfl (Y1 (v:=.tuple #[.agg #[.slice Z16 X6.1.fL.length P18,.int .i64 X6.1.au],.int .i64 X6.2]) rfl f rfl rfl (λ_ _=>by kernel_rfl) λ_ f=>Y1 (v:=.agg #[.slice Z16 X6.1.fL.length P18,.int .i64 X6.1.au]) rfl f rfl rfl (λ_ _=>by kernel_rfl) λ_ f=>Y1 (v:=.int .i64 X6.2) rfl f rfl rfl (λ_ _=>by kernel_rfl) λ_ f=>aV rfl (λW38 N42=>?_) ?_))
         ·refine Y12 f N42 (.cells #[.slice none 0 0,.int .i64 0] 63 (0,0)) λQ10 W39 N43 _ f=>aA rfl (aW 1 J9 N43 rfl (aV rfl (λW40 N44=>?_) ?_))
          ·refine Y29 (vs:=[.slice Z16 X6.1.fL.length P18,.int .i64 X6.1.au]) (j:=0) f N44 rfl rfl (by simp[Value.oneCell',S]) (by simp) (by decide) (cs':=#[.slice Z16 X6.1.fL.length P18,.int .i64 X6.1.au]) (by kernel_rfl) λW41 N45 _ f=>aA rfl (aW 1 J9 N45 rfl (iA λW42 N46=>Y f 1 λ_ f=>aA rfl (nW ?_)))
           obtain⟨V12,J12,N55,R5⟩:=N46.fzOwn
           refine aH ?_
           exact⟨(X6.1,X6.2),(sI F24).symm,V12,(J9.trans J12),⟨Q10,0,none⟩,[.slice Z16 X6.1.fL.length P18,.int .i64 X6.1.au],(TA0.shutx (x:=X6.1) (B14.mono J12)),(gE (R5) 0 rfl),f.kp,N55⟩
          exact aQ
         exact aQ
        refine aV rfl (λW43 N47=>?_) ?_
        ·refine Y12 f N47 (.cells #[.slice none 0 0,.int .i64 0] 63 (0,0)) λQ11 W44 N48 _ f=>aA rfl (aW 1 (mR _) N48 rfl (aV rfl (λW45 N49=>?_) ?_))
         ·refine Y16 f N49 (mm n _ (GL.mono J1 hG) _ (⟨aL,aM⟩:TA0) (TA0.shut (B1.mono J1)) X2.af Z10 P12 X2.ai B4 X6 S4) λ_ V10 W46 J10 N50 q_6 _ f=>?_
          obtain⟨c_9,rfl,D15⟩:=q_6
          obtain⟨Z17,P19,rfl,B15⟩:=TA0.opn D15
          refine aA rfl (aW 1 J10 N50 rfl (Y1 (v:=.tuple #[.agg #[.slice Z17 X6.1.fL.length P19,.int .i64 X6.1.au],.int .i64 X6.2]) rfl f rfl rfl (λ_ _=>by kernel_rfl) λ_ f=>Y1 (v:=.agg #[.slice Z17 X6.1.fL.length P19,.int .i64 X6.1.au]) rfl f rfl rfl (λ_ _=>by kernel_rfl) λ_ f=>Y1 (v:=.int .i64 X6.2) rfl f rfl rfl (λ_ _=>by kernel_rfl) λ_ f=>aV rfl (λW47 N51=>?_) ?_))
          ·refine Y29 (vs:=[.slice Z17 X6.1.fL.length P19,.int .i64 X6.1.au]) (j:=0) f N51 rfl rfl (by simp[Value.oneCell',S]) (by simp) (by decide) (cs':=#[.slice Z17 X6.1.fL.length P19,.int .i64 X6.1.au]) (by kernel_rfl) λW48 N52 _ f=>aA rfl (aW 1 J10 N52 rfl (iA λW49 N53=>Y f 1 λ_ f=>aA rfl (nW ?_)))
           obtain⟨V13,J13,N56,R6⟩:=N53.fzOwn
           refine aH ?_
           exact⟨(X6.1,X6.2),(sI F24).symm,V13,(J10.trans J13),⟨Q11,0,none⟩,[.slice Z17 X6.1.fL.length P19,.int .i64 X6.1.au],(TA0.shutx (x:=X6.1) (B15.mono J13)),(gE (R6) 0 rfl),f.kp,N56⟩
          exact aQ
         exact aQ
        exact aQ
       ·rintro a_136 W50 ⟨G3,hq_5,V11,J11,C2,c_10,D16,hq_4,f,N54⟩
        subst j_4
        obtain⟨Z18,P20,rfl,B16⟩:=TA0.opn D16
        refine aH (RR (Y f 2 λ_ f=>eT (RcF f F23 (λB17 F25=>?_) λB17 F26=>?_)))
        ·have U11:=dI.1 B17
         refine RR (Y f 1 λ_ f=>Z (v:=.agg #[.slice Z18 G3.1.fL.length P20,.int .i64 G3.1.au]) f (Y36 (cs:=[.slice Z18 G3.1.fL.length P20,.int .i64 G3.1.au]) rfl (ad:=C2) (λj v h=>N54.cell (hq_4 j v h))) λ_ f=>Y f 2 λ_ f=>?_)
         have N57:=N54.pl [4]
         refine Y29 (vs:=[.slice Z18 G3.1.fL.length P20,.int .i64 G3.1.au]) (j:=0) f N57 rfl rfl (by simp[Value.oneCell',S]) (by simp) (by decide) (cs':=#[.slice Z18 G3.1.fL.length P20,.int .i64 G3.1.au,.slice Z2 ar.length P2,.slice Z3 aw.length P3,.slice Z9 ((([]:List Int)++(aj.take d1.toNat).drop 0)++(aj.take aj.length).drop (d1+1).toNat).length P10,.int .i64 aO]) (by kernel_rfl) λW51 N58 _ f=>eT (aI (Y f 1 λ_ f=>Y28 f N58 1 rfl rfl (b:=Q5) (j:=1) (v:=.bool true) rfl (by exact rfl) (by simp) (by simp) ((Ent.obj b0 (.cells #[.slice Z18 G3.1.fL.length P20,.int .i64 G3.1.au,.slice Z2 ar.length P2,.slice Z3 aw.length P3,.slice Z9 ((([]:List Int)++(aj.take d1.toNat).drop 0)++(aj.take aj.length).drop (d1+1).toNat).length P10,.int .i64 aO] 66 (0,0)))::(Ent.obj Q5 (.cells #[.bool true,.bool true,S []] 38 (0,0)))::(Ent.obj Q4 (.cells #[.int .i64 X2.ax,.int .i8 X2.ab,S X2.af,S X2.am,.slice Z10 X2.ai.length P12] 32 (0,0)))::(Ent.row 3 1 (.slice Z9 ((([]:List Int)++(aj.take d1.toNat).drop 0)++(aj.take aj.length).drop (d1+1).toNat).length P10) ((([]:List Int)++(aj.take d1.toNat).drop 0)++(aj.take aj.length).drop (d1+1).toNat).length L5)::(Ent.obj Q1 (.cells #[.bool false,.bool false,S []] 38 (0,0)))::(Ent.row 32 5 (.slice Z2 ar.length P2) ar.length L1)::(Ent.row 38 3 (.slice Z3 aw.length P3) aw.length L2)::(Ent.row 3 1 (.slice Z4 aj.length P4) aj.length L3)::H) rfl λW52 N59 _ f=>aA rfl (cG (aH ?_))))
         exact⟨(G3.1.fL,G3.1.au,aO,(true),([]:List UInt8)),(sI F25).symm,V11,J11,Z18,P20,B16,f.kp,N59⟩
        ·have U12:=ap dI B17
         refine wp_skip (cG ?_)
         have N99:=N54.pl [7,7,7,6,6,6,6,7]
         refine aH ?_
         exact⟨(aL,aM,aO,(false),([]:List UInt8)),(sI F26).symm,V11,J11,Z1,P1,(B1.mono (J1.trans J11)),f.kp,N99⟩
      ·have U13:=ap dI B12
       refine RR (Y f 2 λ_ f=>eT (RcF f F27 (λB18 F28=>?_) λB18 F33=>?_))
       ·have U14:=dI.1 B18
        refine ag ?_
        obtain⟨j_5,hj_5,F29⟩:=bS F28
        refine bj (λa_173 W70=>∃G4:TA0×Int,j_5=G4∧∃V17:Mem,V1.le V17∧∃ (C3:Addr),∃ (c_14:List Value),Rep V17 (eb G4.1) c_14∧(∀j u,c_14[j]? =some u→V17.cell? (C3.add j)=some u)∧Frm 155 [(0,.pointer (some (⟨b0,0,none⟩))),(7,.pointer (some (⟨Q1,0,none⟩))),(9,.int .i64 X1),(11,.pointer (some (⟨Q4,0,none⟩))),(12,.pointer (some (⟨Q5,0,none⟩))),(18,.pointer (some C3)),(19,.int .i64 G4.2)] a_173∧Hp w0 V17 ((Ent.obj Q5 (.cells #[.bool true,.bool false,S []] 38 (0,0)))::(Ent.obj Q4 (.cells #[.int .i64 X2.ax,.int .i8 X2.ab,S X2.af,S X2.am,.slice Z10 X2.ai.length P12] 32 (0,0)))::(Ent.row 3 1 (.slice Z9 ((([]:List Int)++(aj.take d1.toNat).drop 0)++(aj.take aj.length).drop (d1+1).toNat).length P10) ((([]:List Int)++(aj.take d1.toNat).drop 0)++(aj.take aj.length).drop (d1+1).toNat).length L5)::(Ent.obj Q1 (.cells #[.bool false,.bool false,S []] 38 (0,0)))::(Ent.obj b0 (.cells #[.slice Z1 aL.length P1,.int .i64 aM,.slice Z2 ar.length P2,.slice Z3 aw.length P3,.slice Z9 ((([]:List Int)++(aj.take d1.toNat).drop 0)++(aj.take aj.length).drop (d1+1).toNat).length P10,.int .i64 aO] 66 (0,0)))::(Ent.row 32 5 (.slice Z2 ar.length P2) ar.length L1)::(Ent.row 38 3 (.slice Z3 aw.length P3) aw.length L2)::(Ent.row 3 1 (.slice Z4 aj.length P4) aj.length L3)::H) W70) ?_ ?_
        ·obtain⟨X9,S5,F30⟩:=bS hj_5
         refine iz (ks:=[12]) (E:=[]) (Hr:=((Ent.obj Q5 (.cells #[.bool true,.bool false,S []] 38 (0,0)))::(Ent.obj Q4 (.cells #[.int .i64 X2.ax,.int .i8 X2.ab,S X2.af,S X2.am,.slice Z10 X2.ai.length P12] 32 (0,0)))::(Ent.row 3 1 (.slice Z9 ((([]:List Int)++(aj.take d1.toNat).drop 0)++(aj.take aj.length).drop (d1+1).toNat).length P10) ((([]:List Int)++(aj.take d1.toNat).drop 0)++(aj.take aj.length).drop (d1+1).toNat).length L5)::(Ent.obj Q1 (.cells #[.bool false,.bool false,S []] 38 (0,0)))::(Ent.obj b0 (.cells #[.slice Z1 aL.length P1,.int .i64 aM,.slice Z2 ar.length P2,.slice Z3 aw.length P3,.slice Z9 ((([]:List Int)++(aj.take d1.toNat).drop 0)++(aj.take aj.length).drop (d1+1).toNat).length P10,.int .i64 aO] 66 (0,0)))::(Ent.row 32 5 (.slice Z2 ar.length P2) ar.length L1)::(Ent.row 38 3 (.slice Z3 aw.length P3) aw.length L2)::(Ent.row 3 1 (.slice Z4 aj.length P4) aj.length L3)::H)) (.quiet 0 (.quiet 1 (.quiet 2 (.quiet 3 (.quiet 4 (.quiet 5 (.alt 6 (.quiet 7 (.quiet 8 (.quiet 9 (.alt 10 (.alt 11 .done .none) .none)))) (.alt 10 (.alt 6 (.quiet 7 (.quiet 8 (.quiet 9 (.alt 11 .done .none)))) .none) .none)))))))) N11 (by kernel_rfl) (by kernel_rfl) (by kernel_rfl) (Y1 (v:=.pointer (some (⟨b0,0,none⟩))) rfl f rfl rfl (λ_ _=>by kernel_rfl) λ_ f=>Y1 (v:=.pointer (some (⟨b0,0,none⟩))) rfl f rfl rfl (λ_ _=>by kernel_rfl) λ_ f=>Y1 (v:=.pointer (some (⟨b0,0,none⟩))) rfl f rfl rfl (λ_ _=>by kernel_rfl) λ_ f=>Y1 (v:=.agg #[.slice Z1 aL.length P1,.int .i64 aM]) rfl f rfl rfl (λ_ pq=>Y36 (cs:=[.slice Z1 aL.length P1,.int .i64 aM]) rfl (ad:=⟨b0,0,none⟩) (al (pq.ownCell 4 rfl) 0 rfl)) λ_ f=>Y1 (v:=.pointer (some (⟨Q4,2,none⟩))) rfl f rfl rfl (λ_ _=>by kernel_rfl) λ_ f=>Y1 (v:=S X2.af) rfl f rfl rfl (λ_ pq=>Y35 (v:=S X2.af) rfl (ad:=⟨Q4,2,none⟩) (pq.ownCell 1 rfl 2)) λ_ f=>aV rfl (λW56 N63=>?_) ?_)
         ·refine Y16 f N63 (mn n _ (GL.mono J1 hG) _ (⟨aL,aM⟩:TA0) (TA0.shut (B1.mono J1)) X2.af X9 S5) λ_ V15 W57 J15 N64 q_8 _ f=>?_
          obtain⟨c_12,rfl,D18⟩:=q_8
          obtain⟨Z20,P22,rfl,B20⟩:=TA0.opn D18
          refine aA rfl (aW 0 J15 N64 rfl (Y1 (v:=.tuple #[.agg #[.slice Z20 X9.1.fL.length P22,.int .i64 X9.1.au],.int .i64 X9.2]) rfl f rfl rfl (λ_ _=>by kernel_rfl) λ_ f=>Y1 (v:=.agg #[.slice Z20 X9.1.fL.length P22,.int .i64 X9.1.au]) rfl f rfl rfl (λ_ _=>by kernel_rfl) λ_ f=>Y1 (v:=.int .i64 X9.2) rfl f rfl rfl (λ_ _=>by kernel_rfl) λ_ f=>aV rfl (λW58 N65=>?_) ?_))
          ·refine Y12 f N65 (.cells #[.slice none 0 0,.int .i64 0] 63 (0,0)) λQ13 W59 N66 _ f=>aA rfl (aW 1 J15 N66 rfl (aV rfl (λW60 N67=>?_) ?_))
           ·refine Y29 (vs:=[.slice Z20 X9.1.fL.length P22,.int .i64 X9.1.au]) (j:=0) f N67 rfl rfl (by simp[Value.oneCell',S]) (by simp) (by decide) (cs':=#[.slice Z20 X9.1.fL.length P22,.int .i64 X9.1.au]) (by kernel_rfl) λW61 N68 _ f=>aA rfl (aW 1 J15 N68 rfl (iA λW62 N69=>Y f 1 λ_ f=>aA rfl (nW ?_)))
            obtain⟨V18,J18,N78,R7⟩:=N69.fzOwn
            refine aH ?_
            exact⟨(X9.1,X9.2),(sI F30).symm,V18,(J15.trans J18),⟨Q13,0,none⟩,[.slice Z20 X9.1.fL.length P22,.int .i64 X9.1.au],(TA0.shutx (x:=X9.1) (B20.mono J18)),(gE (R7) 0 rfl),f.kp,N78⟩
           exact aQ
          exact aQ
         refine aV rfl (λW63 N70=>?_) ?_
         ·refine Y12 f N70 (.cells #[.slice none 0 0,.int .i64 0] 63 (0,0)) λQ14 W64 N71 _ f=>aA rfl (aW 1 (mR _) N71 rfl (aV rfl (λW65 N72=>?_) ?_))
          ·refine Y16 f N72 (mn n _ (GL.mono J1 hG) _ (⟨aL,aM⟩:TA0) (TA0.shut (B1.mono J1)) X2.af X9 S5) λ_ V16 W66 J16 N73 q_9 _ f=>?_
           obtain⟨c_13,rfl,D19⟩:=q_9
           obtain⟨Z21,P23,rfl,B21⟩:=TA0.opn D19
           refine aA rfl (aW 1 J16 N73 rfl (Y1 (v:=.tuple #[.agg #[.slice Z21 X9.1.fL.length P23,.int .i64 X9.1.au],.int .i64 X9.2]) rfl f rfl rfl (λ_ _=>by kernel_rfl) λ_ f=>Y1 (v:=.agg #[.slice Z21 X9.1.fL.length P23,.int .i64 X9.1.au]) rfl f rfl rfl (λ_ _=>by kernel_rfl) λ_ f=>Y1 (v:=.int .i64 X9.2) rfl f rfl rfl (λ_ _=>by kernel_rfl) λ_ f=>aV rfl (λW67 N74=>?_) ?_))
           ·refine Y29 (vs:=[.slice Z21 X9.1.fL.length P23,.int .i64 X9.1.au]) (j:=0) f N74 rfl rfl (by simp[Value.oneCell',S]) (by simp) (by decide) (cs':=#[.slice Z21 X9.1.fL.length P23,.int .i64 X9.1.au]) (by kernel_rfl) λW68 N75 _ f=>aA rfl (aW 1 J16 N75 rfl (iA λW69 N76=>Y f 1 λ_ f=>aA rfl (nW ?_)))
            obtain⟨V19,J19,N79,R8⟩:=N76.fzOwn
            refine aH ?_
            exact⟨(X9.1,X9.2),(sI F30).symm,V19,(J16.trans J19),⟨Q14,0,none⟩,[.slice Z21 X9.1.fL.length P23,.int .i64 X9.1.au],(TA0.shutx (x:=X9.1) (B21.mono J19)),(gE (R8) 0 rfl),f.kp,N79⟩
           exact aQ
          exact aQ
         exact aQ
        ·rintro a_173 W70 ⟨G4,hq_7,V17,J17,C3,c_14,D20,hq_6,f,N77⟩
         subst j_5
         obtain⟨Z22,P24,rfl,B22⟩:=TA0.opn D20
         refine aH (RR (Y f 2 λ_ f=>eT (RcF f F29 (λB23 F31=>?_) λB23 F32=>?_)))
         ·have U15:=dI.1 B23
          refine RR (Y f 1 λ_ f=>Z (v:=.agg #[.slice Z22 G4.1.fL.length P24,.int .i64 G4.1.au]) f (Y36 (cs:=[.slice Z22 G4.1.fL.length P24,.int .i64 G4.1.au]) rfl (ad:=C3) (λj v h=>N77.cell (hq_6 j v h))) λ_ f=>Y f 2 λ_ f=>?_)
          have N80:=N77.pl [4]
          refine Y29 (vs:=[.slice Z22 G4.1.fL.length P24,.int .i64 G4.1.au]) (j:=0) f N80 rfl rfl (by simp[Value.oneCell',S]) (by simp) (by decide) (cs':=#[.slice Z22 G4.1.fL.length P24,.int .i64 G4.1.au,.slice Z2 ar.length P2,.slice Z3 aw.length P3,.slice Z9 ((([]:List Int)++(aj.take d1.toNat).drop 0)++(aj.take aj.length).drop (d1+1).toNat).length P10,.int .i64 aO]) (by kernel_rfl) λW71 N81 _ f=>eT (aI (Y f 1 λ_ f=>Y28 f N81 1 rfl rfl (b:=Q5) (j:=1) (v:=.bool true) rfl (by exact rfl) (by simp) (by simp) ((Ent.obj b0 (.cells #[.slice Z22 G4.1.fL.length P24,.int .i64 G4.1.au,.slice Z2 ar.length P2,.slice Z3 aw.length P3,.slice Z9 ((([]:List Int)++(aj.take d1.toNat).drop 0)++(aj.take aj.length).drop (d1+1).toNat).length P10,.int .i64 aO] 66 (0,0)))::(Ent.obj Q5 (.cells #[.bool true,.bool true,S []] 38 (0,0)))::(Ent.obj Q4 (.cells #[.int .i64 X2.ax,.int .i8 X2.ab,S X2.af,S X2.am,.slice Z10 X2.ai.length P12] 32 (0,0)))::(Ent.row 3 1 (.slice Z9 ((([]:List Int)++(aj.take d1.toNat).drop 0)++(aj.take aj.length).drop (d1+1).toNat).length P10) ((([]:List Int)++(aj.take d1.toNat).drop 0)++(aj.take aj.length).drop (d1+1).toNat).length L5)::(Ent.obj Q1 (.cells #[.bool false,.bool false,S []] 38 (0,0)))::(Ent.row 32 5 (.slice Z2 ar.length P2) ar.length L1)::(Ent.row 38 3 (.slice Z3 aw.length P3) aw.length L2)::(Ent.row 3 1 (.slice Z4 aj.length P4) aj.length L3)::H) rfl λW72 N82 _ f=>aA rfl (cG (aH ?_))))
          exact⟨(G4.1.fL,G4.1.au,aO,(true),([]:List UInt8)),(sI F31).symm,V17,J17,Z22,P24,B22,f.kp,N82⟩
         ·have U16:=ap dI B23
          refine wp_skip (cG ?_)
          have N107:=N77.pl [7,7,7,6,6,6,6,7]
          refine aH ?_
          exact⟨(aL,aM,aO,(false),([]:List UInt8)),(sI F32).symm,V17,J17,Z1,P1,(B1.mono (J1.trans J17)),f.kp,N107⟩
       ·have U17:=ap dI B18
        refine wp_skip (cG ?_)
        have N115:=N11.pl [7,7,7,6,6,6,6,7]
        refine aH ?_
        exact⟨(aL,aM,aO,(false),([]:List UInt8)),(sI F33).symm,V1,(mR _),Z1,P1,(B1.mono J1),f.kp,N115⟩
    ·refine wp_skip ?_
     have N123:=N11.pl [7,7,7,6,6,6,6,7]
     refine aH ?_
     exact⟨(aL,aM,aO,(false),([]:List UInt8)),(sI F34).symm,V1,(mR _),Z1,P1,(B1.mono J1),f.kp,N123⟩
   ·rintro a_181 W73 ⟨G5,hq_8,V20,J20,Z23,P25,B24,f,N83⟩
    subst jd
    refine aH (ag (kV 7 N83 (by kernel_rfl) (by kernel_rfl) λW74 N124=>bT (v:=.pointer (some (⟨b0,0,none⟩))) f (by kernel_rfl) (by kernel_rfl) rfl rfl (by kernel_rfl) λ_ f=>bT (v:=.pointer (some (⟨b0,0,none⟩))) f (by kernel_rfl) (by kernel_rfl) rfl rfl (by kernel_rfl) λ_ f=>bT (v:=.pointer (some (⟨b0,3,none⟩))) f (by kernel_rfl) (by kernel_rfl) rfl rfl (by kernel_rfl) λ_ f=>bT (v:=.slice Z3 aw.length P3) f (by kernel_rfl) (by kernel_rfl) rfl rfl (Y35 (v:=.slice Z3 aw.length P3) rfl (ad:=⟨b0,3,none⟩) (N124.ownCell 0 rfl 3)) λ_ f=>bT (v:=.int .i64 X1) f (by kernel_rfl) (by kernel_rfl) rfl rfl (by kernel_rfl) λ_ f=>bT (v:=.agg #[.bool true,.bool G5.2.2.2.1,S G5.2.2.2.2]) f (by kernel_rfl) (by kernel_rfl) rfl rfl (Y36 (cs:=[.bool true,.bool G5.2.2.2.1,S G5.2.2.2.2]) rfl (ad:=⟨Q5,0,none⟩) (al (N124.ownCell 1 rfl) 0 rfl)) λ_ f=>?_))
    obtain⟨X12,S6,F35⟩:=bS F13
    obtain⟨Q15,P26,H6,hcap_5⟩:=N124.rowAddr 6 rfl (eX S6)
    have f:=f.st 148 (H6)
    refine bT (v:=.pointer (some ((⟨Q15,0,none⟩:Addr).add (X1.toNat*3)))) f (by kernel_rfl) (by kernel_rfl) rfl rfl (Y33 rfl (ad:=⟨Q15,0,none⟩) (len:=aw.length) (cap:=P26) (k:=.i64) (i:=X1) (e:=38) (sz:=3) (aF S6) (aE S6)) λ_ f=>?_
    have f:=f.st 148 (H6.symm)
    refine lJ rfl ?_
    have N125:=N124.pl [6]
    refine Y27 (it:=X1) (d:=aw) (f:=bK) (xv:=(⟨(true),(G5.2.2.2.1),G5.2.2.2.2⟩:TD0)) (vs:=[.bool true,.bool G5.2.2.2.1,S G5.2.2.2.2]) f N125 H6 rfl rfl (by exact TD0.shut) szd_TD0 S6 (aa.mono (J1.trans J20) _ _ D2) λL6 W75 N126 D21 _ f=>?_
    have N127:Hp w0 V20 ((Ent.row 38 3 (.slice Z3 (aw.set X1.toNat (⟨(true),(G5.2.2.2.1),G5.2.2.2.2⟩:TD0)).length P3) (aw.set X1.toNat (⟨(true),(G5.2.2.2.1),G5.2.2.2.2⟩:TD0)).length L6)::(Ent.obj b0 (.cells #[.slice Z23 G5.1.length P25,.int .i64 G5.2.1,.slice Z2 ar.length P2,.slice Z3 aw.length P3,.slice Z9 ((([]:List Int)++(aj.take d1.toNat).drop 0)++(aj.take aj.length).drop (d1+1).toNat).length P10,.int .i64 G5.2.2.1] 66 (0,0)))::(Ent.obj Q5 (.cells #[.bool true,.bool G5.2.2.2.1,S G5.2.2.2.2] 38 (0,0)))::(Ent.obj Q4 (.cells #[.int .i64 X2.ax,.int .i8 X2.ab,S X2.af,S X2.am,.slice Z10 X2.ai.length P12] 32 (0,0)))::(Ent.row 3 1 (.slice Z9 ((([]:List Int)++(aj.take d1.toNat).drop 0)++(aj.take aj.length).drop (d1+1).toNat).length P10) ((([]:List Int)++(aj.take d1.toNat).drop 0)++(aj.take aj.length).drop (d1+1).toNat).length L5)::(Ent.obj Q1 (.cells #[.bool false,.bool false,S []] 38 (0,0)))::(Ent.row 32 5 (.slice Z2 ar.length P2) ar.length L1)::(Ent.row 3 1 (.slice Z4 aj.length P4) aj.length L3)::H) W75:=N126.rowVal (by simp only[List.length_set])
    have f:=Frm.set f 148 (v:=.slice Z3 aw.length P3) (v':=.slice Z3 (aw.set X1.toNat (⟨(true),(G5.2.2.2.1),G5.2.2.2.2⟩:TD0)).length P3) (by kernel_rfl) (by simp only[List.length_set])
    have N128:Hp w0 V20 ((Ent.row 38 3 (.slice Z3 (aw.set X1.toNat (⟨(true),(G5.2.2.2.1),G5.2.2.2.2⟩:TD0)).length P3) (aw.set X1.toNat (⟨(true),(G5.2.2.2.1),G5.2.2.2.2⟩:TD0)).length L6)::(Ent.obj b0 (.cells #[.slice Z23 G5.1.length P25,.int .i64 G5.2.1,.slice Z2 ar.length P2,.slice Z3 (aw.set X1.toNat (⟨(true),(G5.2.2.2.1),G5.2.2.2.2⟩:TD0)).length P3,.slice Z9 ((([]:List Int)++(aj.take d1.toNat).drop 0)++(aj.take aj.length).drop (d1+1).toNat).length P10,.int .i64 G5.2.2.1] 66 (0,0)))::(Ent.obj Q5 (.cells #[.bool true,.bool G5.2.2.2.1,S G5.2.2.2.2] 38 (0,0)))::(Ent.obj Q4 (.cells #[.int .i64 X2.ax,.int .i8 X2.ab,S X2.af,S X2.am,.slice Z10 X2.ai.length P12] 32 (0,0)))::(Ent.row 3 1 (.slice Z9 ((([]:List Int)++(aj.take d1.toNat).drop 0)++(aj.take aj.length).drop (d1+1).toNat).length P10) ((([]:List Int)++(aj.take d1.toNat).drop 0)++(aj.take aj.length).drop (d1+1).toNat).length L5)::(Ent.obj Q1 (.cells #[.bool false,.bool false,S []] 38 (0,0)))::(Ent.row 32 5 (.slice Z2 ar.length P2) ar.length L1)::(Ent.row 3 1 (.slice Z4 aj.length P4) aj.length L3)::H) W75:=by simp only[List.length_set];rw[List.length_set] at N127;exact N127
    refine eT (ag (kV 4 N128 (by kernel_rfl) (by kernel_rfl) λW76 N129=>bT (v:=.pointer (some (⟨Q4,0,none⟩))) f (by kernel_rfl) (by kernel_rfl) rfl rfl (by kernel_rfl) λ_ f=>bT (v:=.int .i64 X2.ax) f (by kernel_rfl) (by kernel_rfl) rfl rfl (Y35 (v:=.int .i64 X2.ax) rfl (ad:=⟨Q4,0,none⟩) (N129.ownCell 3 rfl 0)) λ_ f=>bT (v:=.agg #[.bool true,.bool G5.2.2.2.1,S G5.2.2.2.2]) f (by kernel_rfl) (by kernel_rfl) rfl rfl (Y36 (cs:=[.bool true,.bool G5.2.2.2.1,S G5.2.2.2.2]) rfl (ad:=⟨Q5,0,none⟩) (al (N129.ownCell 2 rfl) 0 rfl)) λ_ f=>bT (v:=.int .i64 X2.ax) f (by kernel_rfl) (by kernel_rfl) rfl rfl (by kernel_rfl) λ_ f=>lJ rfl ?_))
    have N130:=N129.pl [5]
    refine Y29 (vs:=[.bool true,.bool G5.2.2.2.1,S G5.2.2.2.2]) (j:=0) f N130 rfl rfl (by simp[Value.oneCell',S]) (by simp) (by decide) (cs':=#[.bool true,.bool G5.2.2.2.1,S G5.2.2.2.2]) (by kernel_rfl) λW77 N131 _ f=>Y f 1 λ_ f=>eT (wp_ret (lw f rfl (Y11 (v:=.int .i64 X2.ax) f) (Y10 (cs:=[.bool true,.bool G5.2.2.2.1,S G5.2.2.2.2]) (ad:=⟨Q1,0,none⟩) f (al (N131.ownCell 0 rfl) 0 rfl)) (Y11 (v:=.int .i64 0) f) ?_))
    obtain rfl:=sI F35
    have N139:=N131.pl [5,2,6,4,7,7,7,7]
    exact⟨_,rfl,V20,_,(J1.trans J20),(N139.dropN 4),⟨[.bool true,.bool G5.2.2.2.1,S G5.2.2.2.2],Z23,P25,Z2,P2,L1,Z3,P3,L6,Z9,P10,L5,rfl,rfl,(TD0.shut),B24,(aa.mono (J1.trans J20) _ _ D1),D21,(aa.mono J20 _ _ D7)⟩⟩
def iy (n:Nat) (aL:List TG0) (aM:Int) (ar:List TI0) (aw:List (Int×TD0)) (aj:List TI0) (aO:Int) (d1:Int):Option (TD0×Bool×List TG0×Int×List TI0× (List (Int×TD0))×List TI0×Int):=
 some ((((aG aw d1).getD aX),((aG aw d1).isSome),aL,aM,ar,aw,aj,aO))
theorem oz (n:Nat) (M:Mem) (hG:GL M) (b0:Nat) (aL:List TG0) (Z1:Oa) (P1:Nat) (B1:Sli M 3 aK Z1 P1 aL) (aM:Int) (ar:List TI0) (Z2:Oa) (P2:Nat) (L1:Lv) (D1:aa M (ar.map aJ) L1) (bi:Nat) (aw:List (Int×TD0)) (aj:List TI0) (Z3:Oa) (P3:Nat) (L2:Lv) (D2:aa M (aj.map aJ) L2) (aO:Int) (d1:Int) (r:TD0×Bool×List TG0×Int×List TI0× (List (Int×TD0))×List TI0×Int) (hF:iy n aL aM ar aw aj aO d1=some r):OkH Tryz.prog M [oC b0 #[sL Z1 aL P1,iL aM,sL Z2 ar P2,.map (some bi),sL Z3 aj P3,iL aO] 62,rO 32 5 Z2 ar P2 L1,Ent.obj bi (bh (Value.int .i64) vTD0 aw),rO 32 5 Z3 aj P3 L2] 12 [pP b0,iL d1] (λM' E' v=>∃ (c0:Lv) (Z4:Oa) (P4:Nat) (Z5:Oa) (P5:Nat) (L3:Lv) (Z6:Oa) (P6:Nat) (L4:Lv),v=.tuple #[.agg c0.toArray,bO r.2.1]∧E'=[oC b0 #[sL Z4 r.2.2.1 P4,iL r.t3.1,sL Z5 r.t4.1 P5,.map (some bi),sL Z6 r.t6.1 P6,iL r.t7] 62,rO 32 5 Z5 r.t4.1 P5 L3,Ent.obj bi (bh (Value.int .i64) vTD0 r.t5.1),rO 32 5 Z6 r.t6.1 P6 L4]∧Rep M' (bK r.1) c0∧Sli M' 3 aK Z4 P4 r.2.2.1∧aa M' (r.t4.1.map aJ) L3∧aa M' (r.t6.1.map aJ) L4):=by
 unfold iy at hF
 intro M1 hM0 w0 H w p0
 replace hG:=GL.mono hM0 hG
 replace B1:=B1.mono hM0
 replace D1:=aa.mono hM0 _ _ D1
 replace D2:=aa.mono hM0 _ _ D2
 refine Re 22 Tryz.func12 rfl λa0 f0=>RR (Y12 f0 p0 (.cells #[bO false,bO false,S []] 38 (0,0)) λQ1 W1 N1 _ f=>Ye f 1 λ_ f=>ag (RR (Y f 1 λ_ f=>Z (v:=bO false) f (df (q:=some (⟨b0,0,none⟩)) (e:=62) rfl kr kr kr _) λ_ f=>eT (Y7 f (St (RR (Y f 3 λ_ f=>Z f (Y35 (v:=.map (some bi)) rfl (ad:=⟨b0,3,none⟩) (N1.ownCell 1 rfl 3)) λ_ f=>Y f 1 λ_ f=>Z (v:=.tuple #[.agg #[bO ((aG aw d1).getD aX).aq,bO ((aG aw d1).getD aX).bC,S ((aG aw d1).getD aX).af],bO (aG aw d1).isSome]) f (Y37 (ek:=(Value.int .i64)) (ev:=vTD0) (m:=aw) (k:=d1) (z:=aX) (kt:=3) (et:=38) rfl (intKey kr) (N1.ownObj 3 rfl)) λ_ f=>Y f 3 λ_ f=>Y12 f N1 (.cells #[bO false,bO false,S []] 38 (0,0)) λQ2 W2 N2 _ f=>Ys [bO ((aG aw d1).getD aX).aq,bO ((aG aw d1).getD aX).bC,S ((aG aw d1).getD aX).af] #[bO ((aG aw d1).getD aX).aq,bO ((aG aw d1).getD aX).bC,S ((aG aw d1).getD aX).af] f N2 rfl rfl λW3 N3 _ f=>Ye f 1 λ_ f=>RR (Z f (Y36 (cs:=[bO ((aG aw d1).getD aX).aq,bO ((aG aw d1).getD aX).bC,S ((aG aw d1).getD aX).af]) rfl (ad:=⟨Q2,0,none⟩) (al (N3.ownCell 0 rfl) 0 rfl)) λ_ f=>Y f 1 λ_ f=>?_))))))))
 have N4:=N3.pl [1]
 refine Ys [bO ((aG aw d1).getD aX).aq,bO ((aG aw d1).getD aX).bC,S ((aG aw d1).getD aX).af] #[bO ((aG aw d1).getD aX).aq,bO ((aG aw d1).getD aX).bC,S ((aG aw d1).getD aX).af] f N4 rfl rfl λW4 N5 _ f=>Ye f 1 λ_ f=>wp_ret (dB f rfl (Y10 (cs:=[bO ((aG aw d1).getD aX).aq,bO ((aG aw d1).getD aX).bC,S ((aG aw d1).getD aX).af]) (ad:=⟨Q1,0,none⟩) f (al (N5.ownCell 0 rfl) 0 rfl)) (Y11 (v:=bO (aG aw d1).isSome) f) ?_)
 cases sI hF
 exact⟨_,rfl,M1,_,(mR _),(N5.dropN 2),⟨[bO ((aG aw d1).getD aX).aq,bO ((aG aw d1).getD aX).bC,S ((aG aw d1).getD aX).af],Z1,P1,Z2,P2,L1,Z3,P3,L2,rfl,rfl,(TD0.shutx (x:=((aG aw d1).getD aX))),B1,D1,D2⟩⟩
def gc (n:Nat) (aL:List TG0) (aM:Int) (ar:List TI0) (aw:List TD0) (aj:List Int) (aO:Int) (d1:Int):Option (TD0×Bool×List TG0×Int×List TI0×List TD0×List Int×Int):=
 (cW n aL aM ar aw aj aO d1).bind λX1=>
 bif(decide (X1.1<0)) then
  (some ((aX,(false),X1.2.1,X1.2.2.1,X1.2.2.2.1,X1.2.2.2.2.1,X1.2.2.2.2.2.1,X1.2.2.2.2.2.2)))
 else
  (aR X1.2.2.2.2.1 X1.1).bind λX2=>
  some ((X2,(true),X1.2.1,X1.2.2.1,X1.2.2.2.1,X1.2.2.2.2.1,X1.2.2.2.2.2.1,X1.2.2.2.2.2.2))
theorem oA (n:Nat) (M:Mem) (hG:GL M) (b0:Nat) (aL:List TG0) (Z1:Oa) (P1:Nat) (B1:Sli M 3 aK Z1 P1 aL) (aM:Int) (ar:List TI0) (Z2:Oa) (P2:Nat) (L1:Lv) (D1:aa M (ar.map aJ) L1) (aw:List TD0) (Z3:Oa) (P3:Nat) (L2:Lv) (D2:aa M (aw.map bK) L2) (aj:List Int) (Z4:Oa) (P4:Nat) (L3:Lv) (D3:aa M (aj.map (Dat.int .i64)) L3) (aO:Int) (d1:Int) (r:TD0×Bool×List TG0×Int×List TI0×List TD0×List Int×Int) (hF:gc n aL aM ar aw aj aO d1=some r):OkH Tryz.prog M [oC b0 #[sL Z1 aL P1,iL aM,sL Z2 ar P2,sL Z3 aw P3,sL Z4 aj P4,iL aO] 66,rO 32 5 Z2 ar P2 L1,rO 38 3 Z3 aw P3 L2,rO 3 1 Z4 aj P4 L3] 13 [pP b0,iL d1] (λM' E' v=>∃ (c0:Lv) (Z9:Oa) (P10:Nat) (Z10:Oa) (P11:Nat) (L7:Lv) (Z11:Oa) (P12:Nat) (L8:Lv) (Z12:Oa) (P13:Nat) (L9:Lv),v=.tuple #[.agg c0.toArray,bO r.2.1]∧E'=[oC b0 #[sL Z9 r.2.2.1 P10,iL r.t3.1,sL Z10 r.t4.1 P11,sL Z11 r.t5.1 P12,sL Z12 r.t6.1 P13,iL r.t7] 66,rO 32 5 Z10 r.t4.1 P11 L7,rO 38 3 Z11 r.t5.1 P12 L8,rO 3 1 Z12 r.t6.1 P13 L9]∧Rep M' (bK r.1) c0∧Sli M' 3 aK Z9 P10 r.2.2.1∧aa M' (r.t4.1.map aJ) L7∧aa M' (r.t5.1.map bK) L8∧aa M' (r.t6.1.map (Dat.int .i64)) L9):=by
 unfold gc at hF
 intro M1 hM0 w0 H w p0
 replace hG:=GL.mono hM0 hG
 replace B1:=B1.mono hM0
 replace D1:=aa.mono hM0 _ _ D1
 replace D2:=aa.mono hM0 _ _ D2
 replace D3:=aa.mono hM0 _ _ D3
 refine Re 23 Tryz.func13 rfl λa0 f0=>RR (Y12 f0 p0 (.cells #[bO false,bO false,S []] 38 (0,0)) λQ1 W1 N1 _ f=>Ye f 1 λ_ f=>ag (RR (Y f 1 λ_ f=>Z (v:=bO false) f (df (q:=some (⟨b0,0,none⟩)) (e:=66) rfl kr kr kr _) λ_ f=>eT (Y7 f (St (RR (Y f 2 λ_ f=>?_)))))))
 obtain⟨X1,S1,F1⟩:=bS hF
 have N6:=N1.pl [4,4,4,4]
 refine Y17 (E:=[oC b0 #[sL Z1 aL P1,iL aM,sL Z2 ar P2,sL Z3 aw P3,sL Z4 aj P4,iL aO] 66,rO 32 5 Z2 ar P2 L1,rO 38 3 Z3 aw P3 L2,rO 3 1 Z4 aj P4 L3]) (H:=((oC Q1 #[bO false,bO false,S []] 38)::H)) f N6 (jL n _ hG b0 aL Z1 P1 B1 aM ar Z2 P2 L1 D1 aw Z3 P3 L2 D2 aj Z4 P4 L3 D3 aO d1 X1 S1) λ_ V1 E_1 W2 J1 N2 jO _ f=>?_
 obtain⟨Z5,P5,Z6,P6,L4,Z7,P7,L5,Z8,P8,L6,rfl,rfl,B2,D4,D5,D6⟩:=jO
 refine Ye f 1 λ_ f=>ag (RR (Ye f 2 λ_ f=>RcF f F1 (λB3 F2=>?_) λB3 F3=>?_))
 ·have U1:=dI.1 B3
  refine RR (Y f 1 λ_ f=>?_)
  have N7:=N2.pl [4]
  refine Ys [bO false,bO false,S []] #[bO false,bO false,S []] f N7 rfl rfl λW3 N8 _ f=>Ye f 1 λ_ f=>wp_ret (aS (dB f rfl (Y10 (cs:=[bO false,bO false,S []]) (ad:=⟨Q1,0,none⟩) f (al (N8.ownCell 0 rfl) 0 rfl)) (Y11 (v:=bO false) f) ?_))
  cases sI F2
  exact⟨_,rfl,V1,_,J1,(N8.dropN 1),⟨[bO false,bO false,S []],Z5,P5,Z6,P6,L4,Z7,P7,L5,Z8,P8,L6,rfl,rfl,(TD0.shut),B2,D4,D5,D6⟩⟩
 ·have U2:=ap dI B3
  refine St (RR (Y f 3 λ_ f=>Z f (Y35 (v:=sL Z7 X1.t4.1 P7) rfl (ad:=⟨b0,3,none⟩) (N2.ownCell 0 rfl 3)) λ_ f=>Y f 1 λ_ f=>?_))
  obtain⟨X2,S2,F4⟩:=bS F3
  obtain⟨Q2,P9,H1,mh⟩:=N2.rowAddr 2 rfl (eX S2)
  have f:=f.st 19 (H1)
  refine Z f (Y33 rfl (ad:=⟨Q2,0,none⟩) (len:=X1.t4.1.length) (cap:=P9) (k:=.i64) (i:=X1.1) (e:=38) (sz:=3) (aF S2) (aE S2)) λ_ f=>?_
  have f:=f.st 19 (H1.symm)
  obtain⟨cP,-,D7,R1⟩:=aa.get X1.1.toNat (bY szd_TD0) D5 (ij S2)
  obtain rfl:=TD0.opn D7
  refine Z f (Y36 (cs:=(lTD0 X2)) rfl (ad:=(⟨Q2,0,none⟩:Addr).add (X1.1.toNat*3)) (λj v h=>lj (N2.rowCell 2 rfl H1) R1 j v h)) λ_ f=>?_
  have N9:=N2.pl [4]
  refine Ys (lTD0 X2) (aTD0 X2) f N9 rfl rfl λW4 N10 _ f=>Ye f 1 λ_ f=>wp_ret (dB f rfl (Y10 (cs:=(lTD0 X2)) (ad:=⟨Q1,0,none⟩) f (al (N10.ownCell 0 rfl) 0 rfl)) (Y11 (v:=bO true) f) ?_)
  cases sI F4
  exact⟨_,rfl,V1,_,J1,(N10.dropN 1),⟨[bO X2.aq,bO X2.bC,S X2.af],Z5,P5,Z6,P6,L4,Z7,P7,L5,Z8,P8,L6,rfl,rfl,(TD0.shutx (x:=X2)),B2,D4,D5,D6⟩⟩
def gd (n:Nat) (aL:List TG0) (aM:Int) (ar:List TI0) (aw:List (Int×TD0)) (aj:List TI0) (aO:Int) (d1:Bs):Option (TG0×Bool×List TG0×Int×List TI0× (List (Int×TD0))×List TI0×Int):=
 (lD n (⟨aL,aM⟩:TC0) d1).bind λX1=>
 some ((X1.1,(X1.2),aL,aM,ar,aw,aj,aO))
theorem oB (n:Nat) (M:Mem) (hG:GL M) (b0:Nat) (aL:List TG0) (Z1:Oa) (P1:Nat) (B1:Sli M 3 aK Z1 P1 aL) (aM:Int) (ar:List TI0) (Z2:Oa) (P2:Nat) (L1:Lv) (D1:aa M (ar.map aJ) L1) (bi:Nat) (aw:List (Int×TD0)) (aj:List TI0) (Z3:Oa) (P3:Nat) (L2:Lv) (D2:aa M (aj.map aJ) L2) (aO:Int) (d1:Bs) (r:TG0×Bool×List TG0×Int×List TI0× (List (Int×TD0))×List TI0×Int) (hF:gd n aL aM ar aw aj aO d1=some r):OkH Tryz.prog M [oC b0 #[sL Z1 aL P1,iL aM,sL Z2 ar P2,.map (some bi),sL Z3 aj P3,iL aO] 62,rO 32 5 Z2 ar P2 L1,Ent.obj bi (bh (Value.int .i64) vTD0 aw),rO 32 5 Z3 aj P3 L2] 14 [pP b0,S d1] (λM' E' v=>∃ (c0:Lv) (Z5:Oa) (P5:Nat) (Z6:Oa) (P6:Nat) (L3:Lv) (Z7:Oa) (P7:Nat) (L4:Lv),v=.tuple #[.agg c0.toArray,bO r.2.1]∧E'=[oC b0 #[sL Z5 r.2.2.1 P5,iL r.t3.1,sL Z6 r.t4.1 P6,.map (some bi),sL Z7 r.t6.1 P7,iL r.t7] 62,rO 32 5 Z6 r.t4.1 P6 L3,Ent.obj bi (bh (Value.int .i64) vTD0 r.t5.1),rO 32 5 Z7 r.t6.1 P7 L4]∧Rep M' (aK r.1) c0∧Sli M' 3 aK Z5 P5 r.2.2.1∧aa M' (r.t4.1.map aJ) L3∧aa M' (r.t6.1.map aJ) L4):=by
 unfold gd at hF
 intro M1 hM0 w0 H w p0
 replace hG:=GL.mono hM0 hG
 replace B1:=B1.mono hM0
 replace D1:=aa.mono hM0 _ _ D1
 replace D2:=aa.mono hM0 _ _ D2
 refine Re 17 Tryz.func14 rfl λa0 f0=>RR (Y12 f0 p0 (.cells #[S [],S [],Sn] 44 (0,0)) λQ1 W1 N1 _ f=>Ye f 1 λ_ f=>ag (RR (Y f 1 λ_ f=>Z (v:=bO false) f (df (q:=some (⟨b0,0,none⟩)) (e:=62) rfl kr kr kr _) λ_ f=>eT (Y7 f (St (RR (Y f 3 λ_ f=>Z f (Y36 (cs:=[sL Z1 aL P1,iL aM]) rfl (ad:=⟨b0,0,none⟩) (al (N1.ownCell 1 rfl) 0 rfl)) λ_ f=>Y f 1 λ_ f=>?_)))))))
 obtain⟨X1,S1,F1⟩:=bS hF
 refine Y16 f N1 (store_Get_ok n _ hG _ (⟨aL,aM⟩:TC0) (TC0.shut B1) d1 X1 S1) λ_ V1 W2 J1 N2 jO _ f=>?_
 obtain⟨cP,rfl,D3⟩:=jO
 obtain⟨Z4,P4,rfl,B2⟩:=TG0.opn D3
 refine Y f 2 λ_ f=>Ys (lTG0 X1.1 Z4 P4) (aTG0 X1.1 Z4 P4) f N2 rfl rfl λW3 N3 _ f=>Ye f 1 λ_ f=>wp_ret (dB f rfl (Y10 (cs:=(lTG0 X1.1 Z4 P4)) (ad:=⟨Q1,0,none⟩) f (al (N3.ownCell 0 rfl) 0 rfl)) (Y11 (v:=bO X1.2) f) ?_)
 cases sI F1
 exact⟨_,rfl,V1,_,J1,(N3.dropN 1),⟨[S X1.1.af,S X1.1.am,sL Z4 X1.1.ai P4],Z1,P1,Z2,P2,L1,Z3,P3,L2,rfl,rfl,(TG0.shutx (x:=X1.1) B2),(B1.mono J1),(aa.mono J1 _ _ D1),(aa.mono J1 _ _ D2)⟩⟩
def gf (n:Nat) (aL:List TG0) (aM:Int) (ar:List TI0) (aw:List TD0) (aj:List Int) (aO:Int) (d1:Bs):Option (TG0×Bool×List TG0×Int×List TI0×List TD0×List Int×Int):=
 (jl n (⟨aL,aM⟩:TA0) d1).bind λX1=>
 some ((X1.1,(X1.2),aL,aM,ar,aw,aj,aO))
theorem oD (n:Nat) (M:Mem) (hG:GL M) (b0:Nat) (aL:List TG0) (Z1:Oa) (P1:Nat) (B1:Sli M 3 aK Z1 P1 aL) (aM:Int) (ar:List TI0) (Z2:Oa) (P2:Nat) (L1:Lv) (D1:aa M (ar.map aJ) L1) (aw:List TD0) (Z3:Oa) (P3:Nat) (L2:Lv) (D2:aa M (aw.map bK) L2) (aj:List Int) (Z4:Oa) (P4:Nat) (L3:Lv) (D3:aa M (aj.map (Dat.int .i64)) L3) (aO:Int) (d1:Bs) (r:TG0×Bool×List TG0×Int×List TI0×List TD0×List Int×Int) (hF:gf n aL aM ar aw aj aO d1=some r):OkH Tryz.prog M [oC b0 #[sL Z1 aL P1,iL aM,sL Z2 ar P2,sL Z3 aw P3,sL Z4 aj P4,iL aO] 66,rO 32 5 Z2 ar P2 L1,rO 38 3 Z3 aw P3 L2,rO 3 1 Z4 aj P4 L3] 15 [pP b0,S d1] (λM' E' v=>∃ (c0:Lv) (Z6:Oa) (P6:Nat) (Z7:Oa) (P7:Nat) (L4:Lv) (Z8:Oa) (P8:Nat) (L5:Lv) (Z9:Oa) (P9:Nat) (L6:Lv),v=.tuple #[.agg c0.toArray,bO r.2.1]∧E'=[oC b0 #[sL Z6 r.2.2.1 P6,iL r.t3.1,sL Z7 r.t4.1 P7,sL Z8 r.t5.1 P8,sL Z9 r.t6.1 P9,iL r.t7] 66,rO 32 5 Z7 r.t4.1 P7 L4,rO 38 3 Z8 r.t5.1 P8 L5,rO 3 1 Z9 r.t6.1 P9 L6]∧Rep M' (aK r.1) c0∧Sli M' 3 aK Z6 P6 r.2.2.1∧aa M' (r.t4.1.map aJ) L4∧aa M' (r.t5.1.map bK) L5∧aa M' (r.t6.1.map (Dat.int .i64)) L6):=by
 unfold gf at hF
 intro M1 hM0 w0 H w p0
 replace hG:=GL.mono hM0 hG
 replace B1:=B1.mono hM0
 replace D1:=aa.mono hM0 _ _ D1
 replace D2:=aa.mono hM0 _ _ D2
 replace D3:=aa.mono hM0 _ _ D3
 refine Re 17 Tryz.func15 rfl λa0 f0=>RR (Y12 f0 p0 (.cells #[S [],S [],Sn] 44 (0,0)) λQ1 W1 N1 _ f=>Ye f 1 λ_ f=>ag (RR (Y f 1 λ_ f=>Z (v:=bO false) f (df (q:=some (⟨b0,0,none⟩)) (e:=66) rfl kr kr kr _) λ_ f=>eT (Y7 f (St (RR (Y f 3 λ_ f=>Z f (Y36 (cs:=[sL Z1 aL P1,iL aM]) rfl (ad:=⟨b0,0,none⟩) (al (N1.ownCell 1 rfl) 0 rfl)) λ_ f=>Y f 1 λ_ f=>?_)))))))
 obtain⟨X1,S1,F1⟩:=bS hF
 refine Y16 f N1 (me n _ hG _ (⟨aL,aM⟩:TA0) (TA0.shut B1) d1 X1 S1) λ_ V1 W2 J1 N2 jO _ f=>?_
 obtain⟨cP,rfl,D4⟩:=jO
 obtain⟨Z5,P5,rfl,B2⟩:=TG0.opn D4
 refine Y f 2 λ_ f=>Ys (lTG0 X1.1 Z5 P5) (aTG0 X1.1 Z5 P5) f N2 rfl rfl λW3 N3 _ f=>Ye f 1 λ_ f=>wp_ret (dB f rfl (Y10 (cs:=(lTG0 X1.1 Z5 P5)) (ad:=⟨Q1,0,none⟩) f (al (N3.ownCell 0 rfl) 0 rfl)) (Y11 (v:=bO X1.2) f) ?_)
 cases sI F1
 exact⟨_,rfl,V1,_,J1,(N3.dropN 1),⟨[S X1.1.af,S X1.1.am,sL Z5 X1.1.ai P5],Z1,P1,Z2,P2,L1,Z3,P3,L2,Z4,P4,L3,rfl,rfl,(TG0.shutx (x:=X1.1) B2),(B1.mono J1),(aa.mono J1 _ _ D1),(aa.mono J1 _ _ D2),(aa.mono J1 _ _ D3)⟩⟩
def ch (n:Nat) (aj:List TI0) (K1:List Int×Int):Option (Lp (List Int×Int) (List Int)):=
    bif(decide (K1.2<((aj.length:Nat):Int))) then
     ((aR aj K1.2).bind λX1=>
     aZ ((K1.1.length+1)*8≤140737488355328)<|
     aZ (inR .i64 (K1.2+1))<|
     some (.nx (K1.1++[X1.ax],K1.2+1)))
    else
     some (.br K1.1)
def dy (n:Nat) (aL:List TG0) (aM:Int) (ar:List TI0) (aw:List (Int×TD0)) (aj:List TI0) (aO:Int):Option (List Int×List TG0×Int×List TI0× (List (Int×TD0))×List TI0×Int):=
 (aN (ch n aj) n (([]:List Int),(0:Int))).bind λG1=>
 some ((G1,aL,aM,ar,aw,aj,aO))
theorem ms (n:Nat) (M:Mem) (hG:GL M) (b0:Nat) (aL:List TG0) (Z1:Oa) (P1:Nat) (B1:Sli M 3 aK Z1 P1 aL) (aM:Int) (ar:List TI0) (Z2:Oa) (P2:Nat) (L1:Lv) (D1:aa M (ar.map aJ) L1) (bi:Nat) (aw:List (Int×TD0)) (aj:List TI0) (Z3:Oa) (P3:Nat) (L2:Lv) (D2:aa M (aj.map aJ) L2) (aO:Int) (r:List Int×List TG0×Int×List TI0× (List (Int×TD0))×List TI0×Int) (hF:dy n aL aM ar aw aj aO=some r):OkH Tryz.prog M [oC b0 #[sL Z1 aL P1,iL aM,sL Z2 ar P2,.map (some bi),sL Z3 aj P3,iL aO] 62,rO 32 5 Z2 ar P2 L1,Ent.obj bi (bh (Value.int .i64) vTD0 aw),rO 32 5 Z3 aj P3 L2] 18 [pP b0] (λM' E' v=>∃ (A0:Oa) (k0:Nat) (s0:Lv) (Z9:Oa) (P10:Nat) (Z10:Oa) (P11:Nat) (L6:Lv) (Z11:Oa) (P12:Nat) (L7:Lv),v=sL A0 r.1 k0∧E'=[.row 3 1 (sL A0 r.1 k0) r.1.length s0,oC b0 #[sL Z9 r.2.1 P10,iL r.2.2.1,sL Z10 r.t3.1 P11,.map (some bi),sL Z11 r.t5.1 P12,iL r.t6] 62,rO 32 5 Z10 r.t3.1 P11 L6,Ent.obj bi (bh (Value.int .i64) vTD0 r.t4.1),rO 32 5 Z11 r.t5.1 P12 L7]∧aa M' (r.1.map (Dat.int .i64)) s0∧Sli M' 3 aK Z9 P10 r.2.1∧aa M' (r.t3.1.map aJ) L6∧aa M' (r.t5.1.map aJ) L7):=by
 unfold dy at hF
 intro M1 hM0 w0 H w p0
 replace hG:=GL.mono hM0 hG
 replace B1:=B1.mono hM0
 replace D1:=aa.mono hM0 _ _ D1
 replace D2:=aa.mono hM0 _ _ D2
 refine Re 23 Tryz.func18 rfl λa0 f0=>RR (Ye f0 1 λ_ f=>ag (RR (Y f 1 λ_ f=>Z (v:=bO false) f (df (q:=some (⟨b0,0,none⟩)) (e:=62) rfl kr kr kr _) λ_ f=>eT (Y7 f (St (ag (RR (Y f 3 λ_ f=>Z f (Y35 (v:=sL Z3 aj P3) rfl (ad:=⟨b0,4,none⟩) (p0.ownCell 0 rfl 4)) λ_ f=>Ye f 2 λ_ f=>wp_block ?_))))))))
 obtain⟨Z4,P4,H1,N1⟩:=p0.nilR 3 1 Int
 have f:=f.st 2 (H1)
 have D3:aa M1 (([]:List Int).map (Dat.int .i64)) []:=rfl
 obtain⟨Q1,bH,F1⟩:=bS hF
 refine wp_mono (Q:=λe a w=>(e=.exit 0∧(∃G1:List Int,Q1=G1∧∃V2:Mem,M1.le V2∧∃ (Z8:Oa),∃ (P9:Nat),∃ (L5:Lv),aa V2 (G1.map (Dat.int .i64)) L5∧Frm 23 [(2,sL Z8 G1 P9)] a∧Hp w0 V2 ((rO 3 1 Z8 G1 P9 L5)::(oC b0 #[sL Z1 aL P1,iL aM,sL Z2 ar P2,.map (some bi),sL Z3 aj P3,iL aO] 62)::(rO 32 5 Z2 ar P2 L1)::(Ent.obj bi (bh (Value.int .i64) vTD0 aw))::(rO 32 5 Z3 aj P3 L2)::H) w))) (bu (n:=23) (w0:=w0) (M:=M1) (λ (I1,K1,Z5,P5,L3)=>[(2,sL Z5 K1.1 P5),(10,sL Z3 aj P3),(11,iL ((aj.length:Nat):Int)),(12,iL K1.2)]) (λ (I1,K1,Z5,P5,L3)=>((rO 3 1 Z5 K1.1 P5 L3)::(oC b0 #[sL Z1 aL P1,iL aM,sL Z2 ar P2,.map (some bi),sL Z3 aj P3,iL aO] 62)::(rO 32 5 Z2 ar P2 L1)::(Ent.obj bi (bh (Value.int .i64) vTD0 aw))::(rO 32 5 Z3 aj P3 L2)::H)) (λ (I1,K1,Z5,P5,L3) MM=>aN (ch n aj) I1 K1=some Q1∧aa MM (K1.1.map (Dat.int .i64)) L3) (λ (I1,K1,Z5,P5,L3)=>I1) (n,(([]:List Int),(0:Int)),Z4,P4,[]) (f.kp) N1 ⟨bH,D3⟩ ?_) ?_
 ·rintro⟨I1,K1,Z5,P5,L3⟩ V1 _ W1 J1 dc f N2
  obtain⟨bI,D4⟩:=dc
  obtain⟨I2,jP,rfl,be,T1⟩:=aT bI
  unfold ch at be
  refine RR (Ye f 1 λ_ f=>ag (RcF f be (λB2 F2=>?_) λB2 F6=>?_))
  ·have U1:=dI.1 B2
   refine St (ag (wp_block (RR ?_)))
   obtain⟨X1,S1,F3⟩:=bS F2
   obtain⟨Q2,P6,H2,mh⟩:=N2.rowAddr 4 rfl (eX S1)
   have f:=f.st 10 (H2)
   refine Z f (Y33 rfl (ad:=⟨Q2,0,none⟩) (len:=aj.length) (cap:=P6) (k:=.i64) (i:=K1.2) (e:=32) (sz:=5) (aF S1) (aE S1)) λ_ f=>?_
   have f:=f.st 10 (H2.symm)
   obtain⟨cP,-,D5,R1⟩:=aa.get K1.2.toNat (bY dZ) (aa.mono J1 _ _ D2) (ij S1)
   obtain⟨Z6,P7,rfl,B3⟩:=TI0.opn D5
   refine Z f (Y36 (cs:=(lTI0 X1 Z6 P7)) rfl (ad:=(⟨Q2,0,none⟩:Addr).add (K1.2.toNat*5)) (λj v h=>lj (N2.rowCell 4 rfl H2) R1 j v h)) λ_ f=>Y12 f N2 (.cells #[iL 0,iB 0,S [],S [],Sn] 32 (0,0)) λQ3 W2 N3 _ f=>Ys (lTI0 X1 Z6 P7) (aTI0 X1 Z6 P7) f N3 rfl rfl λW3 N4 _ f=>eT (aI (Y f 2 λ_ f=>Z f (Y35 (v:=iL X1.ax) rfl (ad:=⟨Q3,0,none⟩) (N4.ownCell 0 rfl 0)) λ_ f=>bg (k:=1) (c:=1) f N4 (.cells #[iL X1.ax] 3 (0,0)) kr (λ_=>by kernel_rfl) λQ4 W4 N5 _ f=>?_))
   have N6:=N5.pl [2]
   obtain⟨O1,F4⟩:=nS F3
   refine Y22 (z:=iL 0) (f:=(Dat.int .i64)) (xs:=K1.1) (ys:=[X1.ax]) (news:=[iL X1.ax]) (ad:=⟨Q4,0,none⟩) (m:=1) (c:=1) f N6 D4 (by exact⟨_,_,rfl,rfl,rfl⟩) rfl rfl rfl rfl (al (N6.ownCell 1 rfl) 0 rfl) (by exact O1) (by have hg_:=O1;first|omega|(simp only[List.length_cons,List.length_nil] at*;omega)) λZ7 P8 L4 W5 N7 D6 _ f=>?_
   have N8:=N7.pl [1]
   have N9:=N8.drop
   refine Y f 1 λ_ f=>aA rfl (cG (aH (aI ?_)))
   obtain⟨O2,F5⟩:=nS F4
   refine Y f 1 λ_ f=>?_
   have f:=f.st 21 (iW O2)
   refine Y f 1 λ_ f=>aA rfl ?_
   have N16:=N9.pl [5,5,5,5,4,5]
   refine aH ?_
   cases sI F5
   exact⟨⟨I2,(K1.1++[X1.ax],K1.2+1),Z7,P8,L4⟩,Nat.lt_succ_self _,V1,J1,⟨T1,D6⟩,f.kp,(N16.dropN 1)⟩
  ·have U2:=ap dI B2
   refine wp_exit (co (co ?_))
   cases sI F6
   exact⟨rfl,K1.1,(sI T1).symm,V1,J1,Z5,P5,L3,D4,f.kp,N2⟩
 ·rintro _ _ W7 ⟨rfl,G1,hq_,V2,J2,Z8,P9,L5,D7,f,N10⟩
  subst Q1
  refine iq (aH (RR (Ye f 2 λ_ f=>wp_ret (ao f rfl (Lk 2 (sL Z8 G1 P9)) ?_))))
  cases sI F1
  exact⟨_,rfl,V2,_,J2,N10,⟨Z8,P9,L5,Z1,P1,Z2,P2,L1,Z3,P3,L2,rfl,rfl,D7,(B1.mono J2),(aa.mono J2 _ _ D1),(aa.mono J2 _ _ D2)⟩⟩
def ci (n:Nat) (ar:List TI0) (aj:List Int) (K1:List Int×Int):Option (Lp (List Int×Int) (List Int)):=
    bif(decide (K1.2<((aj.length:Nat):Int))) then
     ((aR aj K1.2).bind λX1=>
     (aR ar X1).bind λX2=>
     aZ ((K1.1.length+1)*8≤140737488355328)<|
     aZ (inR .i64 (K1.2+1))<|
     some (.nx (K1.1++[X2.ax],K1.2+1)))
    else
     some (.br K1.1)
def dz (n:Nat) (aL:List TG0) (aM:Int) (ar:List TI0) (aw:List TD0) (aj:List Int) (aO:Int):Option (List Int×List TG0×Int×List TI0×List TD0×List Int×Int):=
 (aN (ci n ar aj) n (([]:List Int),(0:Int))).bind λG1=>
 some ((G1,aL,aM,ar,aw,aj,aO))
set_option maxRecDepth 20000 in
theorem mt (n:Nat) (M:Mem) (hG:GL M) (b0:Nat) (aL:List TG0) (Z1:Oa) (P1:Nat) (B1:Sli M 3 aK Z1 P1 aL) (aM:Int) (ar:List TI0) (Z2:Oa) (P2:Nat) (L1:Lv) (D1:aa M (ar.map aJ) L1) (aw:List TD0) (Z3:Oa) (P3:Nat) (L2:Lv) (D2:aa M (aw.map bK) L2) (aj:List Int) (Z4:Oa) (P4:Nat) (L3:Lv) (D3:aa M (aj.map (Dat.int .i64)) L3) (aO:Int) (r:List Int×List TG0×Int×List TI0×List TD0×List Int×Int) (hF:dz n aL aM ar aw aj aO=some r):OkH Tryz.prog M [oC b0 #[sL Z1 aL P1,iL aM,sL Z2 ar P2,sL Z3 aw P3,sL Z4 aj P4,iL aO] 66,rO 32 5 Z2 ar P2 L1,rO 38 3 Z3 aw P3 L2,rO 3 1 Z4 aj P4 L3] 19 [pP b0] (λM' E' v=>∃ (A0:Oa) (k0:Nat) (s0:Lv) (Z10:Oa) (P12:Nat) (Z11:Oa) (P13:Nat) (L7:Lv) (Z12:Oa) (P14:Nat) (L8:Lv) (Z13:Oa) (P15:Nat) (L9:Lv),v=sL A0 r.1 k0∧E'=[.row 3 1 (sL A0 r.1 k0) r.1.length s0,oC b0 #[sL Z10 r.2.1 P12,iL r.2.2.1,sL Z11 r.t3.1 P13,sL Z12 r.t4.1 P14,sL Z13 r.t5.1 P15,iL r.t6] 66,rO 32 5 Z11 r.t3.1 P13 L7,rO 38 3 Z12 r.t4.1 P14 L8,rO 3 1 Z13 r.t5.1 P15 L9]∧aa M' (r.1.map (Dat.int .i64)) s0∧Sli M' 3 aK Z10 P12 r.2.1∧aa M' (r.t3.1.map aJ) L7∧aa M' (r.t4.1.map bK) L8∧aa M' (r.t5.1.map (Dat.int .i64)) L9):=by
 unfold dz at hF
 intro M1 hM0 w0 H w p0
 replace hG:=GL.mono hM0 hG
 replace B1:=B1.mono hM0
 replace D1:=aa.mono hM0 _ _ D1
 replace D2:=aa.mono hM0 _ _ D2
 replace D3:=aa.mono hM0 _ _ D3
 refine Re 34 Tryz.func19 rfl λa0 f0=>RR (Ye f0 1 λ_ f=>ag (RR (Y f 1 λ_ f=>Z (v:=bO false) f (df (q:=some (⟨b0,0,none⟩)) (e:=66) rfl kr kr kr _) λ_ f=>eT (Y7 f (St (RR (Ye f 1 λ_ f=>ag (RR (Ye f 1 λ_ f=>wp_block ?_)))))))))
 obtain⟨Z5,P5,H1,N1⟩:=p0.nilR 3 1 Int
 have f:=f.st 3 (H1)
 have D4:aa M1 (([]:List Int).map (Dat.int .i64)) []:=rfl
 obtain⟨Q1,bH,F1⟩:=bS hF
 refine wp_mono (Q:=λe a w=>(e=.exit 0∧(∃G1:List Int,Q1=G1∧∃V2:Mem,M1.le V2∧∃ (Z9:Oa),∃ (P11:Nat),∃ (L6:Lv),aa V2 (G1.map (Dat.int .i64)) L6∧Frm 34 [(3,sL Z9 G1 P11)] a∧Hp w0 V2 ((rO 3 1 Z9 G1 P11 L6)::(oC b0 #[sL Z1 aL P1,iL aM,sL Z2 ar P2,sL Z3 aw P3,sL Z4 aj P4,iL aO] 66)::(rO 32 5 Z2 ar P2 L1)::(rO 38 3 Z3 aw P3 L2)::(rO 3 1 Z4 aj P4 L3)::H) w))) (bu (n:=34) (w0:=w0) (M:=M1) (λ (I1,K1,Z6,P6,L4)=>[(0,pP b0),(3,sL Z6 K1.1 P6),(4,iL K1.2)]) (λ (I1,K1,Z6,P6,L4)=>((rO 3 1 Z6 K1.1 P6 L4)::(oC b0 #[sL Z1 aL P1,iL aM,sL Z2 ar P2,sL Z3 aw P3,sL Z4 aj P4,iL aO] 66)::(rO 32 5 Z2 ar P2 L1)::(rO 38 3 Z3 aw P3 L2)::(rO 3 1 Z4 aj P4 L3)::H)) (λ (I1,K1,Z6,P6,L4) MM=>aN (ci n ar aj) I1 K1=some Q1∧aa MM (K1.1.map (Dat.int .i64)) L4) (λ (I1,K1,Z6,P6,L4)=>I1) (n,(([]:List Int),(0:Int)),Z5,P5,[]) (f.kp) N1 ⟨bH,D4⟩ ?_) ?_
 ·rintro⟨I1,K1,Z6,P6,L4⟩ V1 _ W1 J1 dc f N2
  obtain⟨bI,D5⟩:=dc
  obtain⟨I2,jP,rfl,be,T1⟩:=aT bI
  unfold ci at be
  refine ag (RR (Y f 4 λ_ f=>Z f (Y35 (v:=sL Z4 aj P4) rfl (ad:=⟨b0,4,none⟩) (N2.ownCell 1 rfl 4)) λ_ f=>Ye f 2 λ_ f=>RcF f be (λB2 F2=>?_) λB2 F7=>?_))
  ·have U1:=dI.1 B2
   refine St (ag (wp_block (oL (E:=[rO 3 1 Z6 K1.1 P6 L4]) (Hr:=((oC b0 #[sL Z1 aL P1,iL aM,sL Z2 ar P2,sL Z3 aw P3,sL Z4 aj P4,iL aO] 66)::(rO 32 5 Z2 ar P2 L1)::(rO 38 3 Z3 aw P3 L2)::(rO 3 1 Z4 aj P4 L3)::H)) [(0,true),(1,true),(2,true),(3,true),(4,true),(5,true),(6,true),(7,true),(8,true),(9,true),(10,true),(11,true),(12,true),(13,true),(14,true),(15,false),(16,false),(17,true)] N2 kr kr rfl kr (Y0 default f 4 λ_ f=>iO (v:=sL Z2 ar P2) f kr kr rfl rfl (λ_ pq=>Y35 (v:=sL Z2 ar P2) rfl (ad:=⟨b0,2,none⟩) (pq.ownCell 0 rfl 2)) λ_ f=>Y0 default f 3 λ_ f=>iO (v:=sL Z4 aj P4) f kr kr rfl rfl (λ_ pq=>Y35 (v:=sL Z4 aj P4) rfl (ad:=⟨b0,4,none⟩) (pq.ownCell 0 rfl 4)) λ_ f=>Y0 default f 1 λ_ f=>?_))))
   obtain⟨X1,S1,F3⟩:=bS F2
   obtain⟨Q2,P7,H2,mh⟩:=N2.rowAddr 4 rfl (eX S1)
   have f:=f.st 24 (H2)
   refine iO (v:=Pa ((⟨Q2,0,none⟩:Addr).add (K1.2.toNat*1))) f kr kr rfl rfl (λ_ pq=>Y33 rfl (ad:=⟨Q2,0,none⟩) (len:=aj.length) (cap:=P7) (k:=.i64) (i:=K1.2) (e:=3) (sz:=1) (aF S1) (aE S1)) λ_ f=>?_
   have f:=f.st 24 (H2.symm)
   obtain⟨cP,-,D6,R1⟩:=aa.get K1.2.toNat (bY (dX .i64)) (aa.mono J1 _ _ D3) (ij S1)
   obtain rfl:cP=[iL X1]:=D6
   refine iO (v:=iL X1) f kr kr rfl rfl (λ_ pq=>Y35 (v:=iL X1) rfl (ad:=(⟨Q2,0,none⟩:Addr).add (K1.2.toNat*1)) (by simpa [Addr.add] using (λj v h=>lj (pq.rowCell 3 rfl H2) R1 j v h) 0 _ rfl)) λ_ f=>?_
   obtain⟨X2,S2,F4⟩:=bS F3
   obtain⟨Q3,P8,H3,hcap_2⟩:=N2.rowAddr 2 rfl (eX S2)
   have f:=f.st 20 (H3)
   refine iO (v:=Pa ((⟨Q3,0,none⟩:Addr).add (X1.toNat*5))) f kr kr rfl rfl (λ_ pq=>Y33 rfl (ad:=⟨Q3,0,none⟩) (len:=ar.length) (cap:=P8) (k:=.i64) (i:=X1) (e:=32) (sz:=5) (aF S2) (aE S2)) λ_ f=>?_
   have f:=f.st 20 (H3.symm)
   refine Y0 default f 1 λ_ f=>?_
   obtain⟨jX,-,D7,R2⟩:=aa.get X1.toNat (bY dZ) (aa.mono J1 _ _ D1) (ij S2)
   obtain⟨Z7,P9,rfl,B3⟩:=TI0.opn D7
   refine iO (v:=iL X2.ax) f kr kr rfl rfl (λ_ pq=>Y35 (v:=iL X2.ax) rfl (ad:=((⟨Q3,0,none⟩:Addr).add (X1.toNat*5)).add 0) ((λj v h=>lj (pq.rowCell 1 rfl H3) R2 j v h) 0 _ rfl)) λ_ f=>eY (E:=[rO 3 1 Z6 K1.1 P6 L4]) λW2 N3=>bg (k:=1) (c:=1) f N3 (.cells #[iL X2.ax] 3 (0,0)) kr (λ_=>by kernel_rfl) λQ4 W3 N4 _ f=>aA rfl (jR (M1:=V1) (E:=[oC Q4 #[iL X2.ax] 3,rO 3 1 Z6 K1.1 P6 L4]) (mR _) N4 (eY (E:=[oC Q4 #[iL X2.ax] 3,rO 3 1 Z6 K1.1 P6 L4]) λW4 N5=>?_))
   have N6:=N5.pl [1]
   obtain⟨O1,F5⟩:=nS F4
   refine Y22 (z:=iL 0) (f:=(Dat.int .i64)) (xs:=K1.1) (ys:=[X2.ax]) (news:=[iL X2.ax]) (ad:=⟨Q4,0,none⟩) (m:=1) (c:=1) f N6 D5 (by exact⟨_,_,rfl,rfl,rfl⟩) rfl rfl rfl rfl (al (N6.ownCell 1 rfl) 0 rfl) (by exact O1) (by have hg_:=O1;first|omega|(simp only[List.length_cons,List.length_nil] at*;omega)) λZ8 P10 L5 W5 N7 D8 _ f=>?_
   have N8:=N7.pl [1]
   have N9:=N8.drop
   refine aA rfl (jR (M1:=V1) (E:=[rO 3 1 Z8 (K1.1++[X2.ax]) P10 L5]) (mR _) N9 (Y0 default f 1 λ_ f=>mB rfl λW6 N10=>cG (aH (aI (Y f 1 λ_ f=>?_)))))
   obtain⟨O2,F6⟩:=nS F5
   refine Y f 1 λ_ f=>?_
   have f:=f.st 15 (iW O2)
   refine Ye f 1 λ_ f=>?_
   cases sI F6
   exact⟨⟨I2,(K1.1++[X2.ax],K1.2+1),Z8,P10,L5⟩,Nat.lt_succ_self _,V1,J1,⟨T1,D8⟩,f.kp,N10⟩
  ·have U2:=ap dI B2
   refine wp_exit (co (co ?_))
   cases sI F7
   exact⟨rfl,K1.1,(sI T1).symm,V1,J1,Z6,P6,L4,D5,f.kp,N2⟩
 ·rintro _ _ W8 ⟨rfl,G1,hq_,V2,J2,Z9,P11,L6,D9,f,N11⟩
  subst Q1
  refine iq (aH (RR (Ye f 2 λ_ f=>wp_ret (ao f rfl (Lk 2 (sL Z9 G1 P11)) ?_))))
  cases sI F1
  exact⟨_,rfl,V2,_,J2,N11,⟨Z9,P11,L6,Z1,P1,Z2,P2,L1,Z3,P3,L2,Z4,P4,L3,rfl,rfl,D9,(B1.mono J2),(aa.mono J2 _ _ D1),(aa.mono J2 _ _ D2),(aa.mono J2 _ _ D3)⟩⟩
def cq (n:Nat) (aL:List TG0) (aM:Int) (ar:List TI0) (aw:List TD0) (aj:List Int) (aO:Int):Option (Int×List TG0×Int×List TI0×List TD0×List Int×Int):=
 some ((aO,aL,aM,ar,aw,aj,aO))
theorem nJ (n:Nat) (M:Mem) (hG:GL M) (b0:Nat) (aL:List TG0) (Z1:Oa) (P1:Nat) (B1:Sli M 3 aK Z1 P1 aL) (aM:Int) (ar:List TI0) (Z2:Oa) (P2:Nat) (L1:Lv) (D1:aa M (ar.map aJ) L1) (aw:List TD0) (Z3:Oa) (P3:Nat) (L2:Lv) (D2:aa M (aw.map bK) L2) (aj:List Int) (Z4:Oa) (P4:Nat) (L3:Lv) (D3:aa M (aj.map (Dat.int .i64)) L3) (aO:Int) (r:Int×List TG0×Int×List TI0×List TD0×List Int×Int) (hF:cq n aL aM ar aw aj aO=some r):OkH Tryz.prog M [oC b0 #[sL Z1 aL P1,iL aM,sL Z2 ar P2,sL Z3 aw P3,sL Z4 aj P4,iL aO] 66,rO 32 5 Z2 ar P2 L1,rO 38 3 Z3 aw P3 L2,rO 3 1 Z4 aj P4 L3] 21 [pP b0] (λM' E' v=>∃ (Z5:Oa) (P5:Nat) (Z6:Oa) (P6:Nat) (L4:Lv) (Z7:Oa) (P7:Nat) (L5:Lv) (Z8:Oa) (P8:Nat) (L6:Lv),v=iL r.1∧E'=[oC b0 #[sL Z5 r.2.1 P5,iL r.2.2.1,sL Z6 r.t3.1 P6,sL Z7 r.t4.1 P7,sL Z8 r.t5.1 P8,iL r.t6] 66,rO 32 5 Z6 r.t3.1 P6 L4,rO 38 3 Z7 r.t4.1 P7 L5,rO 3 1 Z8 r.t5.1 P8 L6]∧Sli M' 3 aK Z5 P5 r.2.1∧aa M' (r.t3.1.map aJ) L4∧aa M' (r.t4.1.map bK) L5∧aa M' (r.t5.1.map (Dat.int .i64)) L6):=by
 unfold cq at hF
 intro M1 hM0 w0 H w p0
 replace hG:=GL.mono hM0 hG
 replace B1:=B1.mono hM0
 replace D1:=aa.mono hM0 _ _ D1
 replace D2:=aa.mono hM0 _ _ D2
 replace D3:=aa.mono hM0 _ _ D3
 refine Re 9 Tryz.func21 rfl λa0 f0=>RR (Ye f0 1 λ_ f=>ag (RR (Y f 1 λ_ f=>Z (v:=bO false) f (df (q:=some (⟨b0,0,none⟩)) (e:=66) rfl kr kr kr _) λ_ f=>eT (Y7 f (St (RR (Y f 3 λ_ f=>Z f (Y35 (v:=iL aO) rfl (ad:=⟨b0,5,none⟩) (p0.ownCell 0 rfl 5)) λ_ f=>Ye f 1 λ_ f=>wp_ret (ao f rfl (Lk 2 (iL aO)) ?_))))))))
 cases sI hF
 exact⟨_,rfl,M1,_,(mR _),p0,⟨Z1,P1,Z2,P2,L1,Z3,P3,L2,Z4,P4,L3,rfl,rfl,B1,D1,D2,D3⟩⟩
def dA (n:Nat) (aL:List TG0) (aM:Int) (ar:List TI0) (aw:List TD0) (aj:List Int) (aO:Int):Option (List TG0×List TG0×Int×List TI0×List TD0×List Int×Int):=
 aZ ((([]:List TG0).length+aL.length)*56≤140737488355328)<|
 some ((([]:List TG0)++aL,aL,aM,ar,aw,aj,aO))
theorem mu (n:Nat) (M:Mem) (hG:GL M) (b0:Nat) (aL:List TG0) (Z1:Oa) (P1:Nat) (B1:Sli M 3 aK Z1 P1 aL) (aM:Int) (ar:List TI0) (Z2:Oa) (P2:Nat) (L1:Lv) (D1:aa M (ar.map aJ) L1) (aw:List TD0) (Z3:Oa) (P3:Nat) (L2:Lv) (D2:aa M (aw.map bK) L2) (aj:List Int) (Z4:Oa) (P4:Nat) (L3:Lv) (D3:aa M (aj.map (Dat.int .i64)) L3) (aO:Int) (r:List TG0×List TG0×Int×List TI0×List TD0×List Int×Int) (hF:dA n aL aM ar aw aj aO=some r):OkH Tryz.prog M [oC b0 #[sL Z1 aL P1,iL aM,sL Z2 ar P2,sL Z3 aw P3,sL Z4 aj P4,iL aO] 66,rO 32 5 Z2 ar P2 L1,rO 38 3 Z3 aw P3 L2,rO 3 1 Z4 aj P4 L3] 23 [pP b0] (λM' E' v=>∃ (A0:Oa) (k0:Nat) (s0:Lv) (Z6:Oa) (P6:Nat) (Z7:Oa) (P7:Nat) (L5:Lv) (Z8:Oa) (P8:Nat) (L6:Lv) (Z9:Oa) (P9:Nat) (L7:Lv),v=sL A0 r.1 k0∧E'=[.row 44 3 (sL A0 r.1 k0) r.1.length s0,oC b0 #[sL Z6 r.2.1 P6,iL r.2.2.1,sL Z7 r.t3.1 P7,sL Z8 r.t4.1 P8,sL Z9 r.t5.1 P9,iL r.t6] 66,rO 32 5 Z7 r.t3.1 P7 L5,rO 38 3 Z8 r.t4.1 P8 L6,rO 3 1 Z9 r.t5.1 P9 L7]∧aa M' (r.1.map aK) s0∧Sli M' 3 aK Z6 P6 r.2.1∧aa M' (r.t3.1.map aJ) L5∧aa M' (r.t4.1.map bK) L6∧aa M' (r.t5.1.map (Dat.int .i64)) L7):=by
 unfold dA at hF
 intro M1 hM0 w0 H w p0
 replace hG:=GL.mono hM0 hG
 replace B1:=B1.mono hM0
 replace D1:=aa.mono hM0 _ _ D1
 replace D2:=aa.mono hM0 _ _ D2
 replace D3:=aa.mono hM0 _ _ D3
 refine Re 12 Tryz.func23 rfl λa0 f0=>RR (Ye f0 1 λ_ f=>ag (RR (Y f 1 λ_ f=>Z (v:=bO false) f (df (q:=some (⟨b0,0,none⟩)) (e:=66) rfl kr kr kr _) λ_ f=>eT (Y7 f (St (RR (bg (k:=0) (c:=0) f p0 (.cells #[] 44 (0,0)) kr (λ_=>by kernel_rfl) λQ1 W1 N1 _ f=>Y f 4 λ_ f=>Z f (Y35 (v:=sL Z1 aL P1) rfl (ad:=⟨b0,0,none⟩) (N1.ownCell 1 rfl 0)) λ_ f=>?_)))))))
 have D4:aa M1 (([]:List TG0).map aK) []:=rfl
 have N2:Hp w0 M1 ((Ent.row 44 3 (.slice (some ⟨Q1,0,none⟩) 0 0) ([]:List TG0).length [])::(oC b0 #[sL Z1 aL P1,iL aM,sL Z2 ar P2,sL Z3 aw P3,sL Z4 aj P4,iL aO] 66)::(rO 32 5 Z2 ar P2 L1)::(rO 38 3 Z3 aw P3 L2)::(rO 3 1 Z4 aj P4 L3)::H) W1:=N1.objRow (n:=0) (cap:=0) (size:=3) (by decide) (by decide) (eO (by decide) rfl) rfl rfl
 obtain⟨O1,F1⟩:=nS hF
 refine Y24 (z:=.agg #[S [],S [],Sn]) (f:=aK) (xs:=([]:List TG0)) (ys:=aL) (c:=P1) f N2 D4 B1 rfl rfl rfl O1 (by omega) λZ5 P5 L4 W2 N3 D5 _ f=>Ye f 1 λ_ f=>wp_ret (ao f rfl (Lk 2 (sL Z5 (([]:List TG0)++aL) P5)) ?_)
 cases sI F1
 exact⟨_,rfl,M1,_,(mR _),N3,⟨Z5,P5,L4,Z1,P1,Z2,P2,L1,Z3,P3,L2,Z4,P4,L3,rfl,rfl,D5,B1,D1,D2,D3⟩⟩
def dV (n:Nat) (d0:List TI0) (z0:Bool):Option (List TI0):=
 bif z0 then
  (some (([]:List TI0)))
 else
  aZ ((([]:List TI0).length+d0.length)*72≤140737488355328)<|
  some (([]:List TI0)++d0)
theorem oE (n:Nat) (M:Mem) (A0:Oa) (cap0:Nat) (d0:List TI0) (h0:Sli M 5 aJ A0 cap0 d0) (z0:Bool) (hz0:A0.isNone=z0) (r:List TI0) (hF:dV n d0 z0=some r):OkH Tryz.prog M [] 40 [sL A0 d0 cap0] (λM' E' v=>∃ (A0:Oa) (k0:Nat) (s0:Lv),v=sL A0 r k0∧E'=[.row 32 5 (sL A0 r k0) r.length s0]∧aa M' (r.map aJ) s0):=by
 unfold dV at hF
 intro M1 hM0 w0 H w p0
 replace h0:=h0.mono hM0
 refine Re 8 Tryz.func40 rfl λa0 f0=>RR (Ye f0 1 λ_ f=>ag (RR (Y f 1 λ_ f=>Z (v:=bO A0.isNone) f (lI (A:=A0) (n:=d0.length) (c:=cap0) (e:=32) rfl kr kr kr _) λ_ f=>?_)))
 have f:=Frm.set f 4 (v:=bO A0.isNone) (v':=bO z0) kr (cB hz0)
 refine eT (RcF f hF (λB1 F1=>?_) λB1 F2=>?_)
 ·refine RR (Ye f 1 λ_ f=>wp_ret (aS ?_))
  obtain⟨Z1,P1,H1,N1⟩:=p0.nilR 32 5 TI0
  have f:=f.st 2 (H1)
  have D1:aa M1 (([]:List TI0).map aJ) []:=rfl
  refine ao f rfl (Lk 2 (sL Z1 ([]:List TI0) P1)) ?_
  cases sI F1
  exact⟨_,rfl,M1,_,(mR _),N1,⟨Z1,P1,[],rfl,rfl,D1⟩⟩
 ·refine St (RR (bg (k:=0) (c:=0) f p0 (.cells #[] 32 (0,0)) kr (λ_=>by kernel_rfl) λQ1 W1 N2 _ f=>Y f 1 λ_ f=>?_))
  have D2:aa M1 (([]:List TI0).map aJ) []:=rfl
  have N3:Hp w0 M1 ((Ent.row 32 5 (.slice (some ⟨Q1,0,none⟩) 0 0) ([]:List TI0).length [])::H) W1:=N2.objRow (n:=0) (cap:=0) (size:=5) (by decide) (by decide) (eO (by decide) rfl) rfl rfl
  obtain⟨O1,F3⟩:=nS F2
  refine Y24 (z:=.agg #[iL 0,iB 0,S [],S [],Sn]) (f:=aJ) (xs:=([]:List TI0)) (ys:=d0) (c:=cap0) f N3 D2 h0 rfl rfl rfl O1 (by omega) λZ2 P2 L1 W2 N4 D3 _ f=>Ye f 1 λ_ f=>wp_ret (ao f rfl (Lk 2 (sL Z2 (([]:List TI0)++d0) P2)) ?_)
  cases sI F3
  exact⟨_,rfl,M1,_,(mR _),N4,⟨Z2,P2,L1,rfl,rfl,D3⟩⟩
theorem ii (n:Nat) (M:Mem) (A0:Option Addr) (cap0:Nat) (d0:List TI0) (cs0:List Value) (h0:aa M (d0.map aJ) cs0) (hn:d0.length*72≤140737488355328):OkH Tryz.prog M [.row 32 5 (.slice A0 d0.length cap0) d0.length cs0] 40 [.slice A0 d0.length cap0] (λM' E' v=>∃ (A:Option Addr) (k:Nat),v=.slice A d0.length k∧E'=[.row 32 5 (.slice A d0.length k) d0.length cs0,.row 32 5 (.slice A0 d0.length cap0) d0.length cs0]):=by
 intro M1 hM0 w0 H w p0
 have h1:=aa.mono hM0 _ _ h0
 replace p0:Hp w0 M1 (Ent.row 32 5 (.slice A0 d0.length cap0) d0.length cs0::H) w:=p0
 refine aD 8 Tryz.func40 rfl rfl (by simp) λa0 f0=>?_
 replace f0:Frm 8 [(0,.slice A0 d0.length cap0)] a0:=f0
 refine RR (Y f0 1 λ_ f=>eT (ag (RR (Y f 1 λ_ f=>Z (v:=.bool A0.isNone) f (lI (A:=A0) (n:=d0.length) (c:=cap0) (e:=32) rfl (by kernel_rfl) (by kernel_rfl) (by kernel_rfl) _) λ_ f=>eT (Y6 f (b:=A0.isNone) (λB1=>?_) λB1=>?_)))))
 ·obtain⟨A,cap,e1,e2,e3⟩:=p0.rowShape 0 rfl
  have e4:=Value.slice.inj e1
  have hz:d0.length=0:=by have:=e3 (by rw[←e4.1];simpa using B1);omega
  have hc:cs0=[]:=List.eq_nil_of_length_eq_zero (by have:=aa.len (bY dZ) h1;rw[this,List.length_map,hz,Nat.zero_mul])
  refine RR (Y f 1 λ_ f=>eT (wp_ret (aS (ao f rfl (by kernel_rfl:Vc.look _ 2=some (.slice none 0 0)) (⟨_,rfl,M1,[.row 32 5 (.slice none 0 0) 0 [],.row 32 5 (.slice A0 d0.length cap0) d0.length cs0],(mR _),p0.nilRow _ _,none,0,by rw[hz],?_⟩)))))
  subst hc;rw[hz]
 ·refine wp_skip (aH (RR (bg (k:=0) (c:=0) f p0 (.cells #[] 32 (0,0)) (by kernel_rfl) (λ_=>by kernel_rfl) λQ1 W1 N2 _ f=>Y f 1 λ_ f=>?_)))
  have N3:Hp w0 M1 (Ent.row 32 5 (.slice (some ⟨Q1,0,none⟩) 0 0) 0 []::Ent.row 32 5 (.slice A0 d0.length cap0) d0.length cs0::H) W1:=N2.objRow (n:=0) (cap:=0) (size:=5) (by decide) (by decide) (eO (by decide) rfl) rfl rfl
  refine W_cloneRow (z:=.agg #[.int .i64 0,.int .i8 0,S [],S [],.slice none 0 0]) (f:=aJ) (xs:=d0) f N3 dZ h1 rfl B1 (by kernel_rfl) (by kernel_rfl) rfl rfl rfl (by kernel_rfl) (by kernel_rfl) (by kernel_rfl) (by kernel_rfl) hn (by omega) λZ2 P2 W2 N4 _ f=>Y f 1 λ_ f=>eT (wp_ret (ao f rfl (by kernel_rfl:Vc.look _ 2=some (.slice Z2 d0.length P2)) ?_))
  exact⟨_,rfl,M1,_,(mR _),N4,Z2,P2,rfl,rfl⟩
def dQ (n:Nat) (aL:List TG0) (aM:Int) (ar:List TI0) (aw:List (Int×TD0)) (aj:List TI0) (aO:Int):Option (List TI0×List TG0×Int×List TI0× (List (Int×TD0))×List TI0×Int):=
 aZ (ar.length*72≤140737488355328)<|
 some ((ar,aL,aM,ar,aw,aj,aO))
theorem mW (n:Nat) (M:Mem) (hG:GL M) (b0:Nat) (aL:List TG0) (Z1:Oa) (P1:Nat) (B1:Sli M 3 aK Z1 P1 aL) (aM:Int) (ar:List TI0) (Z2:Oa) (P2:Nat) (L1:Lv) (D1:aa M (ar.map aJ) L1) (bi:Nat) (aw:List (Int×TD0)) (aj:List TI0) (Z3:Oa) (P3:Nat) (L2:Lv) (D2:aa M (aj.map aJ) L2) (aO:Int) (r:List TI0×List TG0×Int×List TI0× (List (Int×TD0))×List TI0×Int) (hF:dQ n aL aM ar aw aj aO=some r):OkH Tryz.prog M [oC b0 #[sL Z1 aL P1,iL aM,sL Z2 ar P2,.map (some bi),sL Z3 aj P3,iL aO] 62,rO 32 5 Z2 ar P2 L1,Ent.obj bi (bh (Value.int .i64) vTD0 aw),rO 32 5 Z3 aj P3 L2] 25 [pP b0] (λM' E' v=>∃ (A0:Oa) (k0:Nat) (s0:Lv) (Z5:Oa) (P5:Nat) (Z6:Oa) (P6:Nat) (L3:Lv) (Z7:Oa) (P7:Nat) (L4:Lv),v=sL A0 r.1 k0∧E'=[.row 32 5 (sL A0 r.1 k0) r.1.length s0,oC b0 #[sL Z5 r.2.1 P5,iL r.2.2.1,sL Z6 r.t3.1 P6,.map (some bi),sL Z7 r.t5.1 P7,iL r.t6] 62,rO 32 5 Z6 r.t3.1 P6 L3,Ent.obj bi (bh (Value.int .i64) vTD0 r.t4.1),rO 32 5 Z7 r.t5.1 P7 L4]∧aa M' (r.1.map aJ) s0∧Sli M' 3 aK Z5 P5 r.2.1∧aa M' (r.t3.1.map aJ) L3∧aa M' (r.t5.1.map aJ) L4):=by
 unfold dQ at hF
 intro M1 hM0 w0 H w p0
 replace hG:=GL.mono hM0 hG
 replace B1:=B1.mono hM0
 replace D1:=aa.mono hM0 _ _ D1
 replace D2:=aa.mono hM0 _ _ D2
 refine Re 10 Tryz.func25 rfl λa0 f0=>RR (Ye f0 1 λ_ f=>ag (RR (Y f 1 λ_ f=>Z (v:=bO false) f (df (q:=some (⟨b0,0,none⟩)) (e:=62) rfl kr kr kr _) λ_ f=>eT (Y7 f (St (RR (Y f 3 λ_ f=>Z f (Y35 (v:=sL Z2 ar P2) rfl (ad:=⟨b0,2,none⟩) (p0.ownCell 0 rfl 2)) λ_ f=>?_)))))))
 have N1:=p0.pl [1]
 obtain⟨O1,F1⟩:=nS hF
 refine Y17 (E:=[rO 32 5 Z2 ar P2 L1]) (H:=((oC b0 #[sL Z1 aL P1,iL aM,sL Z2 ar P2,.map (some bi),sL Z3 aj P3,iL aO] 62)::(Ent.obj bi (bh (Value.int .i64) vTD0 aw))::(rO 32 5 Z3 aj P3 L2)::H)) f N1 (ii n _ Z2 P2 ar L1 D1 O1) λ_ V1 E_1 W1 J1 N2 jO _ f=>?_
 obtain⟨Z4,P4,rfl,rfl⟩:=jO
 have D3:=(aa.mono J1 _ _ D1)
 refine Ye f 1 λ_ f=>wp_ret (ao f rfl (Lk 2 (sL Z4 ar P4)) ?_)
 cases sI F1
 have N7:=N2.pl [4,4,3,4,4]
 exact⟨_,rfl,V1,_,J1,N7,⟨Z4,P4,L1,Z1,P1,Z2,P2,L1,Z3,P3,L2,rfl,rfl,D3,(B1.mono J1),(aa.mono J1 _ _ D1),(aa.mono J1 _ _ D2)⟩⟩
def dR (n:Nat) (aL:List TG0) (aM:Int) (ar:List TI0) (aw:List TD0) (aj:List Int) (aO:Int):Option (List TI0×List TG0×Int×List TI0×List TD0×List Int×Int):=
 aZ ((([]:List TI0).length+ar.length)*72≤140737488355328)<|
 some ((([]:List TI0)++ar,aL,aM,ar,aw,aj,aO))
theorem mX (n:Nat) (M:Mem) (hG:GL M) (b0:Nat) (aL:List TG0) (Z1:Oa) (P1:Nat) (B1:Sli M 3 aK Z1 P1 aL) (aM:Int) (ar:List TI0) (Z2:Oa) (P2:Nat) (L1:Lv) (D1:aa M (ar.map aJ) L1) (aw:List TD0) (Z3:Oa) (P3:Nat) (L2:Lv) (D2:aa M (aw.map bK) L2) (aj:List Int) (Z4:Oa) (P4:Nat) (L3:Lv) (D3:aa M (aj.map (Dat.int .i64)) L3) (aO:Int) (r:List TI0×List TG0×Int×List TI0×List TD0×List Int×Int) (hF:dR n aL aM ar aw aj aO=some r):OkH Tryz.prog M [oC b0 #[sL Z1 aL P1,iL aM,sL Z2 ar P2,sL Z3 aw P3,sL Z4 aj P4,iL aO] 66,rO 32 5 Z2 ar P2 L1,rO 38 3 Z3 aw P3 L2,rO 3 1 Z4 aj P4 L3] 26 [pP b0] (λM' E' v=>∃ (A0:Oa) (k0:Nat) (s0:Lv) (Z7:Oa) (P7:Nat) (Z8:Oa) (P8:Nat) (Z9:Oa) (P9:Nat) (L5:Lv) (Z10:Oa) (P10:Nat) (L6:Lv),v=sL A0 r.1 k0∧E'=[.row 32 5 (sL A0 r.1 k0) r.1.length s0,oC b0 #[sL Z7 r.2.1 P7,iL r.2.2.1,sL Z8 r.t3.1 P8,sL Z9 r.t4.1 P9,sL Z10 r.t5.1 P10,iL r.t6] 66,rO 38 3 Z9 r.t4.1 P9 L5,rO 3 1 Z10 r.t5.1 P10 L6]∧aa M' (r.1.map aJ) s0∧Sli M' 3 aK Z7 P7 r.2.1∧Sli M' 5 aJ Z8 P8 r.t3.1∧aa M' (r.t4.1.map bK) L5∧aa M' (r.t5.1.map (Dat.int .i64)) L6):=by
 unfold dR at hF
 intro M1 hM0 w0 H w p0
 replace hG:=GL.mono hM0 hG
 replace B1:=B1.mono hM0
 replace D1:=aa.mono hM0 _ _ D1
 replace D2:=aa.mono hM0 _ _ D2
 replace D3:=aa.mono hM0 _ _ D3
 refine Re 11 Tryz.func26 rfl λa0 f0=>RR (Ye f0 1 λ_ f=>ag (RR (Y f 1 λ_ f=>Z (v:=bO false) f (df (q:=some (⟨b0,0,none⟩)) (e:=66) rfl kr kr kr _) λ_ f=>eT (Y7 f (St (RR (bg (k:=0) (c:=0) f p0 (.cells #[] 32 (0,0)) kr (λ_=>by kernel_rfl) λQ1 W1 N1 _ f=>Y f 3 λ_ f=>Z f (Y35 (v:=sL Z2 ar P2) rfl (ad:=⟨b0,2,none⟩) (N1.ownCell 1 rfl 2)) λ_ f=>?_)))))))
 have D4:aa M1 (([]:List TI0).map aJ) []:=rfl
 have N2:Hp w0 M1 ((Ent.row 32 5 (.slice (some ⟨Q1,0,none⟩) 0 0) ([]:List TI0).length [])::(oC b0 #[sL Z1 aL P1,iL aM,sL Z2 ar P2,sL Z3 aw P3,sL Z4 aj P4,iL aO] 66)::(rO 32 5 Z2 ar P2 L1)::(rO 38 3 Z3 aw P3 L2)::(rO 3 1 Z4 aj P4 L3)::H) W1:=N1.objRow (n:=0) (cap:=0) (size:=5) (by decide) (by decide) (eO (by decide) rfl) rfl rfl
 have N3:=N2.pl [2]
 obtain⟨Z5,P5,V1,H1,J1,N4,B2⟩:=N3.rowSli (f:=aJ) (xs:=ar) dZ D1
 have f:=f.st 9 (H1)
 have N5:Hp w0 V1 ((Ent.row 32 5 (.slice (some ⟨Q1,0,none⟩) 0 0) ([]:List TI0).length [])::(oC b0 #[sL Z1 aL P1,iL aM,sL Z5 ar P5,sL Z3 aw P3,sL Z4 aj P4,iL aO] 66)::(rO 38 3 Z3 aw P3 L2)::(rO 3 1 Z4 aj P4 L3)::H) W1:=by unfold sL at N4;rw[H1] at N4;exact N4
 obtain⟨O1,F1⟩:=nS hF
 refine Y24 (z:=.agg #[iL 0,iB 0,S [],S [],Sn]) (f:=aJ) (xs:=([]:List TI0)) (ys:=ar) (c:=P5) f N5 (aa.mono J1 _ _ D4) B2 rfl rfl rfl O1 (by omega) λZ6 P6 L4 W2 N6 D5 _ f=>Ye f 1 λ_ f=>wp_ret (ao f rfl (Lk 2 (sL Z6 (([]:List TI0)++ar) P6)) ?_)
 cases sI F1
 exact⟨_,rfl,V1,_,J1,N6,⟨Z6,P6,L4,Z1,P1,Z5,P5,Z3,P3,L2,Z4,P4,L3,rfl,rfl,D5,(B1.mono J1),B2,(aa.mono J1 _ _ D2),(aa.mono J1 _ _ D3)⟩⟩
def cK (n:Nat) (d0:List TI0) (d1:List TI0) (K1:Int):Option (Lp Int (Sum Unit Unit)):=
    bif(decide (K1<((d0.length:Nat):Int))) then
     ((aR d0 K1).bind λX1=>
     (aR d1 K1).bind λX2=>
     bif(!(decide (X1.ax=X2.ax))) then
      (some (.br (.inl ())))
     else
      (aR d0 K1).bind λX3=>
      (aR d1 K1).bind λX4=>
      bif(!(decide (X3.ab=X4.ab))) then
       (some (.br (.inl ())))
      else
       (aR d0 K1).bind λX5=>
       (aR d1 K1).bind λX6=>
       bif(!(decide (X5.af=X6.af))) then
        (some (.br (.inl ())))
       else
        (aR d0 K1).bind λX7=>
        (aR d1 K1).bind λX8=>
        bif(!(decide (X7.am=X8.am))) then
         (some (.br (.inl ())))
        else
         (aR d0 K1).bind λX9=>
         (aR d1 K1).bind λX10=>
         (iD n X9.ai X10.ai).bind λX11=>
         bif !X11 then
          (some (.br (.inl ())))
         else
          aZ (inR .i64 (K1+1))<|
          some (.nx (K1+1)))
    else
     some (.br (.inr ()))
def gg (n:Nat) (d0:List TI0) (d1:List TI0):Option Bool:=
 bif(!(decide (((d0.length:Nat):Int)=((d1.length:Nat):Int)))) then
  (some ((false)))
 else
  (aN (cK n d0 d1) n (0:Int)).bind λQ1=>
  (match Q1 with
  |.inl G1=>some ((false))
  |.inr G2=>some ((true)))
set_option maxRecDepth 20000 in
theorem oF (n:Nat) (M:Mem) (hG:GL M) (A0:Oa) (cap0:Nat) (d0:List TI0) (h0:Sli M 5 aJ A0 cap0 d0) (A1:Oa) (cap1:Nat) (d1:List TI0) (h1:Sli M 5 aJ A1 cap1 d1) (r:Bool) (hF:gg n d0 d1=some r):Ok Tryz.prog M 24 [sL A0 d0 cap0,sL A1 d1 cap1] (λ_ v=>v=bO r):=by
 unfold gg at hF
 intro M1 hM0 w0 H w p0
 replace hG:=GL.mono hM0 hG
 replace h0:=h0.mono hM0
 replace h1:=h1.mono hM0
 refine Re 81 Tryz.func24 rfl λa0 f0=>RR (Ye f0 1 λ_ f=>ag (RR (Ye f 5 λ_ f=>RcF f hF (λB1 F1=>?_) λB1 F2=>?_)))
 ·have U1: ¬ (((d0.length:Nat):Int)=((d1.length:Nat):Int)):=(av dI).1 B1
  refine RR (Ye f 1 λ_ f=>wp_ret (aS (ao f rfl (Lk 4 (bO false)) ?_)))
  cases sI F1
  exact⟨_,rfl,M1,(mR _),p0,rfl⟩
 ·have U2: ¬ (¬ (((d0.length:Nat):Int)=((d1.length:Nat):Int))):=ap (av dI) B1
  refine St (ag (RR (Ye f 1 λ_ f=>wp_block ?_)))
  obtain⟨Q1,bH,F3⟩:=bS F2
  refine wp_mono (Q:=λe a w=>(e=.ret∧(∃G1:Unit,Q1=.inl G1∧∃V2:Mem,M1.le V2∧Frm 81 [(4,bO false)] a∧Hp w0 V2 (H) w))∨(e=.exit 0∧(∃G2:Unit,Q1=.inr G2∧∃V3:Mem,M1.le V3∧Frm 81 [] a∧Hp w0 V3 (H) w))) (bu (n:=81) (w0:=w0) (M:=M1) (λ (I1,K1)=>[(0,sL A0 d0 cap0),(1,sL A1 d1 cap1),(5,iL K1)]) (λ (I1,K1)=>(H)) (λ (I1,K1) MM=>aN (cK n d0 d1) I1 K1=some Q1) (λ (I1,K1)=>I1) (n,(0:Int)) (f.kp) p0 bH ?_) ?_
  ·rintro⟨I1,K1⟩ V1 _ W1 J1 dc f N1
   have bI:=dc
   obtain⟨I2,jP,rfl,be,T1⟩:=aT bI
   unfold cK at be
   refine ag (RR (Ye f 4 λ_ f=>RcF f be (λB2 F4=>?_) λB2 F27=>?_))
   ·have U3:=dI.1 B2
    refine St (ag (wp_block (ag (cR N1 kr kr (Y5 default f 2 λ_ f=>?_)))))
    obtain⟨X1,S1,F5⟩:=bS F4
    obtain⟨C1,cP,dS,-,D1,R1⟩:=Sli.at_ (h0.mono J1) S1
    obtain⟨Z1,P1,rfl,B3⟩:=TI0.opn D1
    refine Y2 (v:=Pa (C1.add (K1.toNat*5))) f (λ_ pq=>Y34 dS rfl (len:=d0.length) (cap:=cap0) (k:=.i64) (i:=K1) (e:=32) (sz:=5) (aF S1) (aE S1)) λ_ f=>Y5 default f 1 λ_ f=>Y4 f R1 0 rfl λ_ f=>Y5 default f 2 λ_ f=>?_
    obtain⟨X2,S2,F6⟩:=bS F5
    obtain⟨C2,jX,lp,-,D2,R2⟩:=Sli.at_ (h1.mono J1) S2
    obtain⟨Z2,P2,rfl,B4⟩:=TI0.opn D2
    refine Y2 (v:=Pa (C2.add (K1.toNat*5))) f (λ_ pq=>Y34 lp rfl (len:=d1.length) (cap:=cap1) (k:=.i64) (i:=K1) (e:=32) (sz:=5) (aF S2) (aE S2)) λ_ f=>Y5 default f 1 λ_ f=>Y4 f R2 0 rfl λ_ f=>Y5 default f 2 λ_ f=>?_
    rcases cE F6 with⟨B5,F7⟩|⟨B5,F8⟩
    ·have U4: ¬ (X1.ax=X2.ax):=(av dI).1 B5
     have f:=f.st 28 (cB B5)
     refine Y5 default f 52 λ_ f=>bW rfl ?_
     intro W2 N2
     refine aH (Y8 f (RR (Ye f 1 λ_ f=>wp_ret (bV (aS (aS ?_))))))
     cases sI F7
     exact .inl ⟨rfl,(),(sI T1).symm,V1,J1,f.kp,N2⟩
    ·have U5: ¬ (¬ (X1.ax=X2.ax)):=ap (av dI) B5
     have f:=f.st 28 (cB B5)
     refine Y5 default f 2 λ_ f=>?_
     obtain⟨X3,S3,F9⟩:=bS F8
     obtain⟨C3,c_3,sh,-,D3,R3⟩:=Sli.at_ (h0.mono J1) S3
     obtain⟨Z3,P3,rfl,B6⟩:=TI0.opn D3
     refine Y2 (v:=Pa (C3.add (K1.toNat*5))) f (λ_ pq=>Y34 sh rfl (len:=d0.length) (cap:=cap0) (k:=.i64) (i:=K1) (e:=32) (sz:=5) (aF S3) (aE S3)) λ_ f=>Y5 default f 1 λ_ f=>Y4 f R3 1 rfl λ_ f=>Y5 default f 2 λ_ f=>?_
     obtain⟨X4,S4,F10⟩:=bS F9
     obtain⟨C4,c_4,qG,-,D4,R4⟩:=Sli.at_ (h1.mono J1) S4
     obtain⟨Z4,P4,rfl,B7⟩:=TI0.opn D4
     refine Y2 (v:=Pa (C4.add (K1.toNat*5))) f (λ_ pq=>Y34 qG rfl (len:=d1.length) (cap:=cap1) (k:=.i64) (i:=K1) (e:=32) (sz:=5) (aF S4) (aE S4)) λ_ f=>Y5 default f 1 λ_ f=>Y4 f R4 1 rfl λ_ f=>Y5 default f 3 λ_ f=>?_
     rcases cE F10 with⟨B8,F11⟩|⟨B8,F12⟩
     ·have U6: ¬ (X3.ab=X4.ab):=(av dI).1 B8
      have f:=f.st 41 (cB B8)
      refine Y5 default f 39 λ_ f=>bW rfl ?_
      intro W3 N3
      refine aH (Y8 f (RR (Ye f 1 λ_ f=>wp_ret (bV (aS (aS ?_))))))
      cases sI F11
      exact .inl ⟨rfl,(),(sI T1).symm,V1,J1,f.kp,N3⟩
     ·have U7: ¬ (¬ (X3.ab=X4.ab)):=ap (av dI) B8
      have f:=f.st 41 (cB B8)
      refine Y5 default f 2 λ_ f=>?_
      obtain⟨X5,S5,F13⟩:=bS F12
      obtain⟨C5,c_5,e_5,-,D5,R5⟩:=Sli.at_ (h0.mono J1) S5
      obtain⟨Z5,P5,rfl,B9⟩:=TI0.opn D5
      refine Y2 (v:=Pa (C5.add (K1.toNat*5))) f (λ_ pq=>Y34 e_5 rfl (len:=d0.length) (cap:=cap0) (k:=.i64) (i:=K1) (e:=32) (sz:=5) (aF S5) (aE S5)) λ_ f=>Y5 default f 1 λ_ f=>Y4 f R5 2 rfl λ_ f=>Y5 default f 2 λ_ f=>?_
      obtain⟨X6,S6,F14⟩:=bS F13
      obtain⟨C6,c_6,e_6,-,D6,R6⟩:=Sli.at_ (h1.mono J1) S6
      obtain⟨Z6,P6,rfl,B10⟩:=TI0.opn D6
      refine Y2 (v:=Pa (C6.add (K1.toNat*5))) f (λ_ pq=>Y34 e_6 rfl (len:=d1.length) (cap:=cap1) (k:=.i64) (i:=K1) (e:=32) (sz:=5) (aF S6) (aE S6)) λ_ f=>Y5 default f 1 λ_ f=>Y4 f R6 2 rfl λ_ f=>Y2 (v:=bO (!(decide (X5.af=X6.af)))) f (λ_ pq=>Y43 rfl (l:=X5.af) (m:=X6.af)) λ_ f=>Y5 default f 2 λ_ f=>?_
      rcases cE F14 with⟨B11,F15⟩|⟨B11,F16⟩
      ·have U8: ¬ (X5.af=X6.af):=(av dI).1 B11
       have f:=f.st 54 (cB B11)
       refine Y5 default f 26 λ_ f=>bW rfl ?_
       intro W4 N4
       refine aH (Y8 f (RR (Ye f 1 λ_ f=>wp_ret (bV (aS (aS ?_))))))
       cases sI F15
       exact .inl ⟨rfl,(),(sI T1).symm,V1,J1,f.kp,N4⟩
      ·have U9: ¬ (¬ (X5.af=X6.af)):=ap (av dI) B11
       have f:=f.st 54 (cB B11)
       refine Y5 default f 2 λ_ f=>?_
       obtain⟨X7,S7,F17⟩:=bS F16
       obtain⟨C7,c_7,e_7,-,D7,R7⟩:=Sli.at_ (h0.mono J1) S7
       obtain⟨Z7,P7,rfl,B12⟩:=TI0.opn D7
       refine Y2 (v:=Pa (C7.add (K1.toNat*5))) f (λ_ pq=>Y34 e_7 rfl (len:=d0.length) (cap:=cap0) (k:=.i64) (i:=K1) (e:=32) (sz:=5) (aF S7) (aE S7)) λ_ f=>Y5 default f 1 λ_ f=>Y4 f R7 3 rfl λ_ f=>Y5 default f 2 λ_ f=>?_
       obtain⟨X8,S8,F18⟩:=bS F17
       obtain⟨C8,c_8,e_8,-,D8,R8⟩:=Sli.at_ (h1.mono J1) S8
       obtain⟨Z8,P8,rfl,B13⟩:=TI0.opn D8
       refine Y2 (v:=Pa (C8.add (K1.toNat*5))) f (λ_ pq=>Y34 e_8 rfl (len:=d1.length) (cap:=cap1) (k:=.i64) (i:=K1) (e:=32) (sz:=5) (aF S8) (aE S8)) λ_ f=>Y5 default f 1 λ_ f=>Y4 f R8 3 rfl λ_ f=>Y2 (v:=bO (!(decide (X7.am=X8.am)))) f (λ_ pq=>Y43 rfl (l:=X7.am) (m:=X8.am)) λ_ f=>Y5 default f 2 λ_ f=>?_
       rcases cE F18 with⟨B14,F19⟩|⟨B14,F20⟩
       ·have U10: ¬ (X7.am=X8.am):=(av dI).1 B14
        have f:=f.st 67 (cB B14)
        refine Y5 default f 13 λ_ f=>bW rfl ?_
        intro W5 N5
        refine aH (Y8 f (RR (Ye f 1 λ_ f=>wp_ret (bV (aS (aS ?_))))))
        cases sI F19
        exact .inl ⟨rfl,(),(sI T1).symm,V1,J1,f.kp,N5⟩
       ·have U11: ¬ (¬ (X7.am=X8.am)):=ap (av dI) B14
        have f:=f.st 67 (cB B14)
        refine Y5 default f 2 λ_ f=>?_
        obtain⟨X9,S9,F21⟩:=bS F20
        obtain⟨C9,c_9,e_9,-,D9,R9⟩:=Sli.at_ (h0.mono J1) S9
        obtain⟨Z9,P9,rfl,B15⟩:=TI0.opn D9
        refine Y2 (v:=Pa (C9.add (K1.toNat*5))) f (λ_ pq=>Y34 e_9 rfl (len:=d0.length) (cap:=cap0) (k:=.i64) (i:=K1) (e:=32) (sz:=5) (aF S9) (aE S9)) λ_ f=>Y5 default f 1 λ_ f=>Y4 f R9 4 rfl λ_ f=>Y5 default f 2 λ_ f=>?_
        obtain⟨X10,S10,F22⟩:=bS F21
        obtain⟨C10,c_10,e_10,-,D10,R10⟩:=Sli.at_ (h1.mono J1) S10
        obtain⟨Z10,P10,rfl,B16⟩:=TI0.opn D10
        refine Y2 (v:=Pa (C10.add (K1.toNat*5))) f (λ_ pq=>Y34 e_10 rfl (len:=d1.length) (cap:=cap1) (k:=.i64) (i:=K1) (e:=32) (sz:=5) (aF S10) (aE S10)) λ_ f=>Y5 default f 1 λ_ f=>Y4 f R10 4 rfl λ_ f=>?_
        obtain⟨X11,S11,F23⟩:=bS F22
        refine Y3 f (nU n _ (GL.mono J1 hG) Z9 P9 X9.ai B15 Z10 P10 X10.ai B16 X11 S11) λ_ f=>Y5 default f 2 λ_ f=>bW rfl ?_
        intro W7 N7
        refine aH (RcF f F23 (λB17 F24=>?_) λB17 F25=>?_)
        ·have U12: (X11)=false:=by simpa using B17
         refine RR (Ye f 1 λ_ f=>wp_ret (bV (aS (aS ?_))))
         cases sI F24
         exact .inl ⟨rfl,(),(sI T1).symm,V1,J1,f.kp,N7⟩
        ·have U13: (X11)=true:=by simpa using B17
         refine wp_skip (cG (aH (aI (Y f 1 λ_ f=>?_))))
         obtain⟨O1,F26⟩:=nS F25
         refine Y f 1 λ_ f=>?_
         have f:=f.st 16 (iW O1)
         refine Ye f 1 λ_ f=>?_
         cases sI F26
         exact⟨⟨I2,K1+1⟩,Nat.lt_succ_self _,V1,J1,T1,f.kp,N7⟩
   ·have U14:=ap dI B2
    refine wp_exit (co (co ?_))
    cases sI F27
    exact .inr ⟨rfl,(),(sI T1).symm,V1,J1,f.kp,N1⟩
  ·rintro _ _ W10 (⟨rfl,G1,rfl,V2,J2,f,N8⟩|⟨rfl,G2,rfl,V3,J3,f,N9⟩)
   ·refine bV (aS (ao f rfl (Lk 4 (bO false)) ?_))
    cases sI F3
    exact⟨_,rfl,V2,J2,N8,rfl⟩
   ·refine iq (aH (RR (Ye f 1 λ_ f=>wp_ret (ao f rfl (Lk 4 (bO true)) ?_))))
    cases sI F3
    exact⟨_,rfl,V3,J3,N9,rfl⟩
def ce (n:Nat) (d0:List TB0) (K1:Int×List TG0×Int×List TI0×List TI0×Int× (List (Int×TD0))×List TG0×Int×List TI0×List TD0×List Int×Int):Option (Lp (Int×List TG0×Int×List TI0×List TI0×Int× (List (Int×TD0))×List TG0×Int×List TI0×List TD0×List Int×Int) (Sum (List TG0×Int×List TI0×List TD0×List Int×Int×List TG0×Int×List TI0×List TI0×Int× (List (Int×TD0))) (List TG0×Int×List TI0×List TD0×List Int×Int×List TG0×Int×List TI0×List TI0×Int× (List (Int×TD0))))):=
    bif(decide (K1.1<((d0.length:Nat):Int))) then
     ((aR d0 K1.1).bind λX5=>
     ((bif(decide (X5.jc=0)) then
      ((cn n K1.2.1 K1.2.2.1 K1.2.2.2.1 K1.2.2.2.2.2.2.1 K1.2.2.2.2.1 K1.2.2.2.2.2.1 (⟨X5.fX.ax,X5.fX.ab,X5.fX.af,X5.fX.am,X5.fX.ai⟩:TI0)).bind λX6=>
      (dx n K1.2.2.2.2.2.2.2.1 K1.2.2.2.2.2.2.2.2.1 K1.2.2.2.2.2.2.2.2.2.1 K1.2.2.2.2.2.2.2.2.2.2.1 K1.2.2.2.2.2.2.2.2.2.2.2.1 K1.2.2.2.2.2.2.2.2.2.2.2.2 (⟨X5.fX.ax,X5.fX.ab,X5.fX.af,X5.fX.am,X5.fX.ai⟩:TI0)).bind λX7=>
      bif(!(decide (X6.1=X7.1))) then
       (((some (.br (.inl (X7.2.1,X7.2.2.1,X7.2.2.2.1,X7.2.2.2.2.1,X7.2.2.2.2.2.1,X7.2.2.2.2.2.2,X6.2.1,X6.2.2.1,X6.2.2.2.1,X6.2.2.2.2.2.1,X6.2.2.2.2.2.2,X6.2.2.2.2.1))):Option (Lp (Int×List TG0×Int×List TI0×List TI0×Int× (List (Int×TD0))×List TG0×Int×List TI0×List TD0×List Int×Int) (Sum (List TG0×Int×List TI0×List TD0×List Int×Int×List TG0×Int×List TI0×List TI0×Int× (List (Int×TD0))) (List TG0×Int×List TI0×List TD0×List Int×Int×List TG0×Int×List TI0×List TI0×Int× (List (Int×TD0))))))).map Lp.br)
      else
       some (.nx (X7.2.1,X7.2.2.1,X7.2.2.2.1,X7.2.2.2.2.1,X7.2.2.2.2.2.1,X7.2.2.2.2.2.2,X6.2.1,X6.2.2.1,X6.2.2.2.1,X6.2.2.2.2.2.1,X6.2.2.2.2.2.2,X6.2.2.2.2.1)))
       else
        ((bif(decide (X5.jc=1)) then
         (some ((decide (X5.jc=1))))
          else
           some ((decide (X5.jc=2))):Option Bool)).bind λG1=>
        bif G1 then
         ((dN n K1.2.1 K1.2.2.1 K1.2.2.2.1 K1.2.2.2.2.2.2.1 K1.2.2.2.2.1 K1.2.2.2.2.2.1 X5.fN (decide (X5.jc=1))).bind λX8=>
         (gb n K1.2.2.2.2.2.2.2.1 K1.2.2.2.2.2.2.2.2.1 K1.2.2.2.2.2.2.2.2.2.1 K1.2.2.2.2.2.2.2.2.2.2.1 K1.2.2.2.2.2.2.2.2.2.2.2.1 K1.2.2.2.2.2.2.2.2.2.2.2.2 X5.fN (decide (X5.jc=1))).bind λX9=>
         bif(!(decide (X8.1=X9.1))) then
          (((some (.br (.inl (X9.2.2.2.1,X9.2.2.2.2.1,X9.2.2.2.2.2.1,X9.2.2.2.2.2.2.1,X9.2.2.2.2.2.2.2.1,X9.2.2.2.2.2.2.2.2,X8.2.2.2.1,X8.2.2.2.2.1,X8.2.2.2.2.2.1,X8.2.2.2.2.2.2.2.1,X8.2.2.2.2.2.2.2.2,X8.2.2.2.2.2.2.1))):Option (Lp (Int×List TG0×Int×List TI0×List TI0×Int× (List (Int×TD0))×List TG0×Int×List TI0×List TD0×List Int×Int) (Sum (List TG0×Int×List TI0×List TD0×List Int×Int×List TG0×Int×List TI0×List TI0×Int× (List (Int×TD0))) (List TG0×Int×List TI0×List TD0×List Int×Int×List TG0×Int×List TI0×List TI0×Int× (List (Int×TD0))))))).map Lp.br)
         else
          bif(!(andL [(X8.2.1.aq==X9.2.1.aq),(X8.2.1.bC==X9.2.1.bC),decide (X8.2.1.af=X9.2.1.af)])) then
           (((some (.br (.inl (X9.2.2.2.1,X9.2.2.2.2.1,X9.2.2.2.2.2.1,X9.2.2.2.2.2.2.1,X9.2.2.2.2.2.2.2.1,X9.2.2.2.2.2.2.2.2,X8.2.2.2.1,X8.2.2.2.2.1,X8.2.2.2.2.2.1,X8.2.2.2.2.2.2.2.1,X8.2.2.2.2.2.2.2.2,X8.2.2.2.2.2.2.1))):Option (Lp (Int×List TG0×Int×List TI0×List TI0×Int× (List (Int×TD0))×List TG0×Int×List TI0×List TD0×List Int×Int) (Sum (List TG0×Int×List TI0×List TD0×List Int×Int×List TG0×Int×List TI0×List TI0×Int× (List (Int×TD0))) (List TG0×Int×List TI0×List TD0×List Int×Int×List TG0×Int×List TI0×List TI0×Int× (List (Int×TD0))))))).map Lp.br)
          else
           bif(!(decide (X8.2.2.1=X9.2.2.1))) then
            (((some (.br (.inl (X9.2.2.2.1,X9.2.2.2.2.1,X9.2.2.2.2.2.1,X9.2.2.2.2.2.2.1,X9.2.2.2.2.2.2.2.1,X9.2.2.2.2.2.2.2.2,X8.2.2.2.1,X8.2.2.2.2.1,X8.2.2.2.2.2.1,X8.2.2.2.2.2.2.2.1,X8.2.2.2.2.2.2.2.2,X8.2.2.2.2.2.2.1))):Option (Lp (Int×List TG0×Int×List TI0×List TI0×Int× (List (Int×TD0))×List TG0×Int×List TI0×List TD0×List Int×Int) (Sum (List TG0×Int×List TI0×List TD0×List Int×Int×List TG0×Int×List TI0×List TI0×Int× (List (Int×TD0))) (List TG0×Int×List TI0×List TD0×List Int×Int×List TG0×Int×List TI0×List TI0×Int× (List (Int×TD0))))))).map Lp.br)
           else
            some (.nx (X9.2.2.2.1,X9.2.2.2.2.1,X9.2.2.2.2.2.1,X9.2.2.2.2.2.2.1,X9.2.2.2.2.2.2.2.1,X9.2.2.2.2.2.2.2.2,X8.2.2.2.1,X8.2.2.2.2.1,X8.2.2.2.2.2.1,X8.2.2.2.2.2.2.2.1,X8.2.2.2.2.2.2.2.2,X8.2.2.2.2.2.2.1)))
        else
         bif(decide (X5.jc=3)) then
          ((iy n K1.2.1 K1.2.2.1 K1.2.2.2.1 K1.2.2.2.2.2.2.1 K1.2.2.2.2.1 K1.2.2.2.2.2.1 X5.fN).bind λX10=>
          (gc n K1.2.2.2.2.2.2.2.1 K1.2.2.2.2.2.2.2.2.1 K1.2.2.2.2.2.2.2.2.2.1 K1.2.2.2.2.2.2.2.2.2.2.1 K1.2.2.2.2.2.2.2.2.2.2.2.1 K1.2.2.2.2.2.2.2.2.2.2.2.2 X5.fN).bind λX11=>
          bif(!(andL [(X10.1.aq==X11.1.aq),(X10.1.bC==X11.1.bC),decide (X10.1.af=X11.1.af)])) then
           (((some (.br (.inl (X11.2.2.1,X11.2.2.2.1,X11.2.2.2.2.1,X11.2.2.2.2.2.1,X11.2.2.2.2.2.2.1,X11.2.2.2.2.2.2.2,X10.2.2.1,X10.2.2.2.1,X10.2.2.2.2.1,X10.2.2.2.2.2.2.1,X10.2.2.2.2.2.2.2,X10.2.2.2.2.2.1))):Option (Lp (Int×List TG0×Int×List TI0×List TI0×Int× (List (Int×TD0))×List TG0×Int×List TI0×List TD0×List Int×Int) (Sum (List TG0×Int×List TI0×List TD0×List Int×Int×List TG0×Int×List TI0×List TI0×Int× (List (Int×TD0))) (List TG0×Int×List TI0×List TD0×List Int×Int×List TG0×Int×List TI0×List TI0×Int× (List (Int×TD0))))))).map Lp.br)
          else
           bif(!(X10.2.1==X11.2.1)) then
            (((some (.br (.inl (X11.2.2.1,X11.2.2.2.1,X11.2.2.2.2.1,X11.2.2.2.2.2.1,X11.2.2.2.2.2.2.1,X11.2.2.2.2.2.2.2,X10.2.2.1,X10.2.2.2.1,X10.2.2.2.2.1,X10.2.2.2.2.2.2.1,X10.2.2.2.2.2.2.2,X10.2.2.2.2.2.1))):Option (Lp (Int×List TG0×Int×List TI0×List TI0×Int× (List (Int×TD0))×List TG0×Int×List TI0×List TD0×List Int×Int) (Sum (List TG0×Int×List TI0×List TD0×List Int×Int×List TG0×Int×List TI0×List TI0×Int× (List (Int×TD0))) (List TG0×Int×List TI0×List TD0×List Int×Int×List TG0×Int×List TI0×List TI0×Int× (List (Int×TD0))))))).map Lp.br)
           else
            some (.nx (X11.2.2.1,X11.2.2.2.1,X11.2.2.2.2.1,X11.2.2.2.2.2.1,X11.2.2.2.2.2.2.1,X11.2.2.2.2.2.2.2,X10.2.2.1,X10.2.2.2.1,X10.2.2.2.2.1,X10.2.2.2.2.2.2.1,X10.2.2.2.2.2.2.2,X10.2.2.2.2.2.1)))
         else
          bif(decide (X5.jc=4)) then
           ((gd n K1.2.1 K1.2.2.1 K1.2.2.2.1 K1.2.2.2.2.2.2.1 K1.2.2.2.2.1 K1.2.2.2.2.2.1 X5.fX.af).bind λX12=>
           (gf n K1.2.2.2.2.2.2.2.1 K1.2.2.2.2.2.2.2.2.1 K1.2.2.2.2.2.2.2.2.2.1 K1.2.2.2.2.2.2.2.2.2.2.1 K1.2.2.2.2.2.2.2.2.2.2.2.1 K1.2.2.2.2.2.2.2.2.2.2.2.2 X5.fX.af).bind λX13=>
           bif(!(X12.2.1==X13.2.1)) then
            (((some (.br (.inl (X13.2.2.1,X13.2.2.2.1,X13.2.2.2.2.1,X13.2.2.2.2.2.1,X13.2.2.2.2.2.2.1,X13.2.2.2.2.2.2.2,X12.2.2.1,X12.2.2.2.1,X12.2.2.2.2.1,X12.2.2.2.2.2.2.1,X12.2.2.2.2.2.2.2,X12.2.2.2.2.2.1))):Option (Lp (Int×List TG0×Int×List TI0×List TI0×Int× (List (Int×TD0))×List TG0×Int×List TI0×List TD0×List Int×Int) (Sum (List TG0×Int×List TI0×List TD0×List Int×Int×List TG0×Int×List TI0×List TI0×Int× (List (Int×TD0))) (List TG0×Int×List TI0×List TD0×List Int×Int×List TG0×Int×List TI0×List TI0×Int× (List (Int×TD0))))))).map Lp.br)
           else
            (dt n [(⟨X12.1.af,X12.1.am,X12.1.ai⟩:TG0)] [(⟨X13.1.af,X13.1.am,X13.1.ai⟩:TG0)]).bind λX14=>
            bif !X14 then
             (((some (.br (.inl (X13.2.2.1,X13.2.2.2.1,X13.2.2.2.2.1,X13.2.2.2.2.2.1,X13.2.2.2.2.2.2.1,X13.2.2.2.2.2.2.2,X12.2.2.1,X12.2.2.2.1,X12.2.2.2.2.1,X12.2.2.2.2.2.2.1,X12.2.2.2.2.2.2.2,X12.2.2.2.2.2.1))):Option (Lp (Int×List TG0×Int×List TI0×List TI0×Int× (List (Int×TD0))×List TG0×Int×List TI0×List TD0×List Int×Int) (Sum (List TG0×Int×List TI0×List TD0×List Int×Int×List TG0×Int×List TI0×List TI0×Int× (List (Int×TD0))) (List TG0×Int×List TI0×List TD0×List Int×Int×List TG0×Int×List TI0×List TI0×Int× (List (Int×TD0))))))).map Lp.br)
            else
             some (.nx (X13.2.2.1,X13.2.2.2.1,X13.2.2.2.2.1,X13.2.2.2.2.2.1,X13.2.2.2.2.2.2.1,X13.2.2.2.2.2.2.2,X12.2.2.1,X12.2.2.2.1,X12.2.2.2.2.1,X12.2.2.2.2.2.2.1,X12.2.2.2.2.2.2.2,X12.2.2.2.2.2.1)))
          else
           some (.nx (K1.2.2.2.2.2.2.2.1,K1.2.2.2.2.2.2.2.2.1,K1.2.2.2.2.2.2.2.2.2.1,K1.2.2.2.2.2.2.2.2.2.2.1,K1.2.2.2.2.2.2.2.2.2.2.2.1,K1.2.2.2.2.2.2.2.2.2.2.2.2,K1.2.1,K1.2.2.1,K1.2.2.2.1,K1.2.2.2.2.1,K1.2.2.2.2.2.1,K1.2.2.2.2.2.2.1)):Option (Lp (List TG0×Int×List TI0×List TD0×List Int×Int×List TG0×Int×List TI0×List TI0×Int× (List (Int×TD0))) (Lp (Int×List TG0×Int×List TI0×List TI0×Int× (List (Int×TD0))×List TG0×Int×List TI0×List TD0×List Int×Int) (Sum (List TG0×Int×List TI0×List TD0×List Int×Int×List TG0×Int×List TI0×List TI0×Int× (List (Int×TD0))) (List TG0×Int×List TI0×List TD0×List Int×Int×List TG0×Int×List TI0×List TI0×Int× (List (Int×TD0)))))))).bind λj=>joinF j λG2=>
     (dy n G2.2.2.2.2.2.2.1 G2.2.2.2.2.2.2.2.1 G2.2.2.2.2.2.2.2.2.1 G2.2.2.2.2.2.2.2.2.2.2.2 G2.2.2.2.2.2.2.2.2.2.1 G2.2.2.2.2.2.2.2.2.2.2.1).bind λX15=>
     (dz n G2.1 G2.2.1 G2.2.2.1 G2.2.2.2.1 G2.2.2.2.2.1 G2.2.2.2.2.2.1).bind λX16=>
     (kS n X15.1 X16.1).bind λX17=>
     bif !X17 then
      (some (.br (.inl (X16.2.1,X16.2.2.1,X16.2.2.2.1,X16.2.2.2.2.1,X16.2.2.2.2.2.1,X16.2.2.2.2.2.2,X15.2.1,X15.2.2.1,X15.2.2.2.1,X15.2.2.2.2.2.1,X15.2.2.2.2.2.2,X15.2.2.2.2.1))))
     else
      (eG n X15.2.1 X15.2.2.1 X15.2.2.2.1 X15.2.2.2.2.1 X15.2.2.2.2.2.1 X15.2.2.2.2.2.2).bind λX18=>
      (cq n X16.2.1 X16.2.2.1 X16.2.2.2.1 X16.2.2.2.2.1 X16.2.2.2.2.2.1 X16.2.2.2.2.2.2).bind λX19=>
      bif(!(decide (X18.1=X19.1))) then
       (some (.br (.inl (X19.2.1,X19.2.2.1,X19.2.2.2.1,X19.2.2.2.2.1,X19.2.2.2.2.2.1,X19.2.2.2.2.2.2,X18.2.1,X18.2.2.1,X18.2.2.2.1,X18.2.2.2.2.2.1,X18.2.2.2.2.2.2,X18.2.2.2.2.1))))
      else
       aZ (inR .i64 (K1.1+1))<|
       some (.nx (K1.1+1,X18.2.1,X18.2.2.1,X18.2.2.2.1,X18.2.2.2.2.2.1,X18.2.2.2.2.2.2,X18.2.2.2.2.1,X19.2.1,X19.2.2.1,X19.2.2.2.1,X19.2.2.2.2.1,X19.2.2.2.2.2.1,X19.2.2.2.2.2.2)))
    else
     some (.br (.inr (K1.2.2.2.2.2.2.2.1,K1.2.2.2.2.2.2.2.2.1,K1.2.2.2.2.2.2.2.2.2.1,K1.2.2.2.2.2.2.2.2.2.2.1,K1.2.2.2.2.2.2.2.2.2.2.2.1,K1.2.2.2.2.2.2.2.2.2.2.2.2,K1.2.1,K1.2.2.1,K1.2.2.2.1,K1.2.2.2.2.1,K1.2.2.2.2.2.1,K1.2.2.2.2.2.2.1)))
def hS (n:Nat) (d0:List TB0):Option Bool:=
 (jI n d0).bind λX1=>
 bif X1 then
  ((iN n).bind λX2=>
  some ((X2)))
 else
  (lF n).bind λX3=>
  (nG n).bind λX4=>
  (aN (ce n d0) n ((0:Int),([]:List TG0),(0:Int),([]:List TI0),([]:List TI0),(0:Int),([]:List (Int×TD0)),([]:List TG0),(0:Int),([]:List TI0),([]:List TD0),([]:List Int),(0:Int))).bind λQ1=>
  (match Q1 with
  |.inl G3=>some ((false))
  |.inr G4=>(cJ n G4.2.2.2.2.2.2.1 G4.2.2.2.2.2.2.2.1 G4.2.2.2.2.2.2.2.2.1 G4.2.2.2.2.2.2.2.2.2.2.2 G4.2.2.2.2.2.2.2.2.2.1 G4.2.2.2.2.2.2.2.2.2.2.1).bind λX20=>
   (dA n G4.1 G4.2.1 G4.2.2.1 G4.2.2.2.1 G4.2.2.2.2.1 G4.2.2.2.2.2.1).bind λX21=>
   (dt n X20.1 X21.1).bind λX22=>
   bif X22 then
    ((dQ n X20.2.1 X20.2.2.1 X20.2.2.2.1 X20.2.2.2.2.1 X20.2.2.2.2.2.1 X20.2.2.2.2.2.2).bind λX23=>
    (dR n X21.2.1 X21.2.2.1 X21.2.2.2.1 X21.2.2.2.2.1 X21.2.2.2.2.2.1 X21.2.2.2.2.2.2).bind λX24=>
    (gg n X23.1 X24.1).bind λX25=>
    bif X25 then
     ((iN n).bind λX26=>
     some ((X26)))
    else
     some ((false)))
   else
    some ((false)))
theorem kT {n:Nat} (hn:6000<n) {c:CS} (hi:c.inn.length≤1000):dy n c.L c.made c.calls c.ans c.inn c.good=some (ba c.inn,c.tup):=by
 unfold dy
 have l1:=cD (step:=ch n c.inn) (n:=n) (λk=>(ba (c.inn.take k),(k:Int))) c.inn.length (ba c.inn) (λk hk=>by
  unfold ch
  dsimp only
  have hl: (ba (c.inn.take k)).length≤1000:=by unfold ba;simp;omega
  have e:c.inn.getD k ee=c.inn[k]:=by simp[List.getD,hk]
  rw[dT (by omega),cT,bf ee hk,bnd,bn (by omega),aU (by omega) (by omega),e]
  unfold ba
  rw[List.take_add_one,List.getElem?_eq_getElem hk,List.map_append]
  rfl) (by
  unfold ch
  dsimp only
  rw[dF (by omega),cF,List.take_length]) (by omega)
 have e0: ((0:Nat):Int)=0:=rfl
 simp only[e0,List.take_zero] at l1
 have e1:ba []=[]:=rfl
 rw[e1] at l1
 rw[l1,bnd];rfl
theorem ask_run {n:Nat} {c:CS} {t:Int}:iy n c.L c.made c.calls c.ans c.inn c.good t=some ((aG c.ans t).getD aX,(aG c.ans t).isSome,c.tup):=rfl
theorem calls_run {n:Nat} {c:CS} (hc:c.calls.length≤1000):dQ n c.L c.made c.calls c.ans c.inn c.good=some (c.calls,c.tup):=by
 unfold dQ
 rw[bn (by omega)];rfl
theorem lG {n:Nat} {l:List Int} (hl:l.length<n) (h6:l.length≤6000):kS n l l=some true:=by
 unfold kS
 rw[dT rfl,nT,cF]
 have l1:=cD (step:=gq n l l) (n:=n) (λk=>(k:Int)) l.length (.inr ()) (λk hk=>by
  unfold gq
  rw[dT (by omega),cT,bf 0 hk,bnd,bnd,dT rfl,nT,cF,aU (by omega) (by omega)]
  rfl) (by
  unfold gq
  rw[dF (by omega),cF]) hl
 have e0: ((0:Nat):Int)=0:=rfl
 simp only[e0] at l1
 rw[l1,bnd]
theorem tupE {c:CS}:c.tup=(c.L,c.made,c.calls,c.ans,c.inn,c.good):=rfl
theorem bind_of {α β:Type} {o:Option α} {v:α} {f:α→Option β} (h:o=some v):o.bind f=f v:=by rw[h];rfl
theorem refcheck_run {n : Nat} (hn : 6000 < n) {x : TI0} (hp : GoodP x.ai) : jK n x = some (checkC x) := by
 have e4 : ∀ a b c d : Bool, (bif a then some true else bif b then some true else bif c then some true else some d : Option Bool) = some (a || (b || (c || d))) := by intro a b c d; cases a <;> cases b <;> cases c <;> rfl
 have h6 := hp.few
 unfold jK checkC
 rw [e4, bnd]
 show (bif badC x then _ else _) = _
 cases hb : badC x with
 | true => rw [cT, cT]
 | false =>
  rw [cF, cF]
  by_cases k2 : x.ab = 2
  ·have hd : badD x = decide ((0 : Int) < ((x.ai.length : Nat) : Int)) := by
    unfold badD
    rw [decide_eq_true k2, decide_eq_false (show ¬ x.ab = 1 by omega)]; simp
   rw [hd, decide_eq_true k2, cT]
   cases decide ((0 : Int) < ((x.ai.length : Nat) : Int)) <;> rfl
  ·have hd : (bif decide (x.am = []) then some (decide (x.ab = 1)) else some false : Option Bool) = some (badD x) := by
    unfold badD
    rw [decide_eq_false k2]
    cases decide (x.am = []) <;> cases decide (x.ab = 1) <;> rfl
   rw [decide_eq_false k2, cF, hd, bnd, cF]
   cases badD x with
   | true => rw [cT, cT]
   | false =>
    rw [cF, cF]
    obtain ⟨b, hb, hq⟩ := cj (step := eI n x) (n := n) (s0 := (0 : Int)) (fun k s => s = (k : Int) ∧ ∀ y ∈ x.ai.take k, y.az = false)
     (fun b => match b with | .inl _ => knownV x.ai = false | .inr _ => knownV x.ai = true) x.ai.length ⟨rfl, by simp⟩
     (fun k s hk hI => by
      obtain ⟨rfl, hf⟩ := hI
      have hx : x.ai[k]? = some x.ai[k] := List.getElem?_eq_getElem hk
      have hg : x.ai.getD k aC = x.ai[k] := by simp [List.getD, hk]
      unfold eI
      rw [decide_eq_true (by omega), cT, bf aC hk, bnd, hg]
      cases hv : (x.ai[k]).az with
      | true =>
       rw [cT]
       refine .inr ⟨_, rfl, ?_⟩
       unfold knownV
       have : x.ai.any (·.az) = true := List.any_eq_true.2 ⟨_, List.getElem_mem hk, hv⟩
       show (!x.ai.any (·.az)) = false
       rw [this]; rfl
      | false =>
       rw [cF, aU (by omega) (by omega)]
       refine .inl ⟨_, rfl, rfl, fun y hy => ?_⟩
       rcases (dm hx y).1 hy with h | h
       ·exact hf y h
       ·rw [h]; exact hv)
     (fun s hI => by
      obtain ⟨rfl, hf⟩ := hI
      rw [List.take_length] at hf
      unfold eI
      rw [decide_eq_false (by omega), cF]
      refine ⟨_, rfl, ?_⟩
      show knownV x.ai = true
      unfold knownV
      have : x.ai.any (·.az) = false := List.any_eq_false.2 fun y hy => by rw [hf y hy]; decide
      rw [this]; rfl) (by omega)
    rw [hb, bnd]
    cases b with
    | inl u =>
     have hq : knownV x.ai = false := hq
     rw [hq]; rfl
    | inr u =>
     have hq : knownV x.ai = true := hq
     rw [hq, Bool.not_true, cF]
     dsimp only
     rw [kl hn x.am hp.few hp.fine, bnd]
def ansL (c:CS):List TD0:=c.ans.map (·.2)
def posL (ps:List Nat):List Int:=ps.map λ (p:Nat)=>(p:Int)
theorem ts {n:Nat} {c:CS} {A:List TD0} {I:List Int} {t:Int} (hn:c.calls.length<n) (h6:c.calls.length≤6000):
 ∃r:Int,cW n c.L c.made c.calls A I c.good t=some (r,c.L,c.made,c.calls,A,I,c.good)∧((r= -1∧t∉ba c.calls)∨∃k:Nat,r=(k:Int)∧k<c.calls.length∧(c.calls.getD k ee).ax=t):=by
 unfold cW
 obtain⟨b,hb,hq⟩:=cj (step:=cp n c.calls t) (n:=n) (s0:=(0:Int)) (λk s=>s=(k:Int)∧t∉ba (c.calls.take k))
  (λb=>match b with|.inl r=>∃k:Nat,r=(k:Int)∧k<c.calls.length∧(c.calls.getD k ee).ax=t|.inr _=>t∉ba c.calls) c.calls.length ⟨rfl,by simp[ba]⟩
  (λk s hk hI=>by
   obtain⟨rfl,hf⟩:=hI
   have hg:c.calls.getD k ee=c.calls[k]:=by simp[List.getD,hk]
   unfold cp
   rw[dT (by omega),cT,bf ee hk,bnd]
   by_cases e: (c.calls.getD k ee).ax=t
   ·rw[dT e,cT]
    exact .inr ⟨_,rfl,k,rfl,hk,e⟩
   ·rw[dF e,cF,aU (by omega) (by omega)]
    refine .inl ⟨_,rfl,rfl,λh=>?_⟩
    rw[List.take_add_one,List.getElem?_eq_getElem hk] at h
    have h:t∈ba (c.calls.take k++[c.calls[k]]):=h
    rw[ox] at h
    rcases List.mem_append.1 h with h|h
    ·exact hf h
    ·exact e (by rw[hg];exact(List.mem_singleton.1 h).symm))
  (λs hI=>by
   obtain⟨rfl,hf⟩:=hI
   rw[List.take_length] at hf
   unfold cp
   rw[dF (by omega),cF]
   exact⟨_,rfl,hf⟩) hn
 rw[hb,bnd]
 cases b with
 |inl r=>exact⟨r,rfl,.inr hq⟩
 |inr u=>exact⟨-1,rfl,.inl ⟨rfl,hq⟩⟩
section
variable {V:Type}
theorem mput_new: ∀ {m:List (Int×V)} {k:Int} {v:V},k∉m.map (·.1)→de m k v=m++[(k,v)]
 |[],k,v,_=>rfl
 |p::r,k,v,h=>by
  unfold de
  rw[List.map_cons,List.mem_cons,not_or] at h
  rw[if_neg (λe=>h.1 e.symm),mput_new h.2];rfl
theorem mput_at: ∀ {m:List (Int×V)} {k:Int} {v:V} {i:Nat},(m.map (·.1)).Nodup→(m.map (·.1))[i]? =some k→(de m k v).map (·.2)=(m.map (·.2)).set i v
 |[],k,v,i,_,h=>by cases h
 |p::r,k,v,0,hd,h=>by
  have e:p.1=k:=by simpa using h
  unfold de
  rw[if_pos e];rfl
 |p::r,k,v,i+1,hd,h=>by
  have hd':p.1∉r.map (·.1)∧(r.map (·.1)).Nodup:=List.nodup_cons.1 hd
  have h: (r.map (·.1))[i]? =some k:=h
  unfold de
  rw[if_neg (λe=>hd'.1 (by rw[e];exact List.mem_of_getElem? h)),List.map_cons,mput_at hd'.2 h];rfl
theorem mget_at: ∀ {m:List (Int×V)} {k:Int} {i:Nat},(m.map (·.1)).Nodup→(m.map (·.1))[i]? =some k→aG m k=(m.map (·.2))[i]?
 |[],k,i,_,h=>by cases h
 |p::r,k,0,hd,h=>by
  have e:p.1=k:=by simpa using h
  unfold aG
  rw[if_pos e];rfl
 |p::r,k,i+1,hd,h=>by
  have hd':p.1∉r.map (·.1)∧(r.map (·.1)).Nodup:=List.nodup_cons.1 hd
  have h: (r.map (·.1))[i]? =some k:=h
  unfold aG
  rw[if_neg (λe=>hd'.1 (by rw[e];exact List.mem_of_getElem? h)),mget_at hd'.2 h];rfl
end
structure Rp (c:CS) (ps:List Nat):Prop where
 lt: ∀p∈ps,p<c.calls.length
 inn:c.inn=ps.map λp=>c.calls.getD p ee
 kind: ∀x∈c.inn,0≤x.ab∧x.ab≤2
def tupR (c:CS) (ps:List Nat):List TG0×Int×List TI0×List TD0×List Int×Int:=(c.L,c.made,c.calls,ansL c,posL ps,c.good)
theorem Bk.tok_at {c:CS} (b:Bk c) {k:Nat} (hk:k<c.calls.length): (c.ans.map (·.1))[k]? =some (c.calls.getD k ee).ax:=by
 rw[b.keys]
 unfold ba
 rw[List.getElem?_map,List.getElem?_eq_getElem hk]
 simp[List.getD,hk]
theorem Bk.ans_len {c:CS} (b:Bk c):c.ans.length=c.calls.length:=by
 have:=congrArg List.length b.keys
 unfold ba at this
 simpa using this
theorem Bk.known {c:CS} (b:Bk c) {t:Int} (h:t∈ba c.calls): (aG c.ans t).isSome=true:=by
 obtain⟨v,hv⟩:=mget_some11 (m:=c.ans) (k:=t) (by rw[b.keys];exact h)
 rw[hv];rfl
theorem Bk.knd {c:CS} (b:Bk c): (c.ans.map (·.1)).Nodup:=by rw[b.keys];exact b.nd
theorem getD_tok {l:List TI0} {k:Nat} (hk:k<l.length): (l.getD k ee).ax∈ba l:=tok_mem (nE hk)
theorem submitR_run {n : Nat} (hn : 6000 < n) {c : CS} {ps : List Nat} (b : Bk c) (r : Rp c ps) {x : TI0} (hp : GoodP x.ai) (hc : c.calls.length ≤ 1000) (hl : ps.length ≤ 1000) :
  ∃ ps', dx n c.L c.made c.calls (ansL c) (posL ps) c.good x = some ((submitC c x).1, tupR (submitC c x).2 ps') ∧ Rp (submitC c x).2 ps' := by
 unfold dx
 rw [refcheck_run hn hp, bnd]
 by_cases h0 : checkC x = 0
 ·obtain ⟨q, hq, hc2⟩ := ts (n := n) (c := c) (A := ansL c) (I := posL ps) (t := x.ax) (by omega) (by omega)
  rw [decide_eq_true h0, Bool.not_true, cF, hq, bnd]
  dsimp only
  rcases hc2 with ⟨rfl, hno⟩ | ⟨k, rfl, hk, ht⟩
  ·have hf : aG c.ans x.ax = none := jJ.2 (by rw [b.keys]; exact hno)
   have hal : (ansL c).length = c.calls.length := by unfold ansL; rw [List.length_map, b.ans_len]
   have hpl : (posL ps).length = ps.length := by unfold posL; rw [List.length_map]
   have hps : ∀ (p : Nat), p < c.calls.length → (c.calls ++ [x]).getD p ee = c.calls.getD p ee := fun p hp => by
    simp only [List.getD]
    rw [List.getElem?_append_left hp]
   rw [decide_eq_false (by omega), cF, bn (by omega), bnd, bn (by omega), bnd, bn (by omega), submit_fresh h0 hf, evC]
   refine ⟨ps ++ [c.calls.length], ?_, fun p hp => ?_, ?_, fun y hy => ?_⟩
   ·unfold tupR ansL posL
    dsimp only
    rw [mput_new (by rw [b.keys]; exact hno), List.map_append, List.map_append]; rfl
   ·show p < (c.calls ++ [x]).length
    rw [List.length_append, List.length_singleton]
    rcases List.mem_append.1 hp with hp | hp
    ·have := r.lt p hp; omega
    ·rw [List.mem_singleton.1 hp]; omega
   ·show c.inn ++ [x] = (ps ++ [c.calls.length]).map fun p => (c.calls ++ [x]).getD p ee
    rw [List.map_append, r.inn]
    congr 1
    ·exact List.map_congr_left fun p hp => (hps p (r.lt p hp)).symm
    ·simp [List.getD]
   ·rcases List.mem_append.1 hy with hy | hy
    ·exact r.kind y hy
    ·rw [List.mem_singleton.1 hy]
     have hb : badC x = false := by
      unfold checkC at h0
      cases e : badC x with
      | true => rw [e, cT] at h0; exact absurd h0 (by decide)
      | false => rfl
     unfold badC at hb
     simp only [Bool.or_eq_false_iff, decide_eq_false_iff_not] at hb
     omega
  ·have hs : submitC c x = (0, c) := by
    unfold submitC
    rw [if_neg (fun h => h h0), if_pos (b.known (by rw [← ht]; exact getD_tok hk))]
   rw [decide_eq_true (by omega), cT, hs]
   exact ⟨ps, rfl, r⟩
 ·have hs : submitC c x = (checkC x, c) := by unfold submitC; rw [if_pos h0]
  rw [decide_eq_false h0, Bool.not_false, cT, hs]
  exact ⟨ps, rfl, r⟩
theorem askR_run {n:Nat} {c:CS} {ps:List Nat} (b:Bk c) (hn:c.calls.length<n) (h6:c.calls.length≤6000) (t:Int):
 gc n c.L c.made c.calls (ansL c) (posL ps) c.good t=some ((aG c.ans t).getD aX,(aG c.ans t).isSome,tupR c ps):=by
 unfold gc
 obtain⟨q,hq,hc2⟩:=ts (n:=n) (c:=c) (A:=ansL c) (I:=posL ps) (t:=t) hn h6
 rw[hq,bnd]
 dsimp only
 rcases hc2 with⟨rfl,hno⟩|⟨k,rfl,hk,ht⟩
 ·have hf:aG c.ans t=none:=jJ.2 (by rw[b.keys];exact hno)
  rw[dT (by omega),cT,hf];rfl
 ·have hal: (ansL c).length=c.calls.length:=by unfold ansL;rw[List.length_map,b.ans_len]
  have h1:=b.tok_at hk
  rw[ht] at h1
  have h2:=mget_at b.knd h1
  have h3: (ansL c)[k]? =some (ansL c)[k]:=List.getElem?_eq_getElem (by omega)
  have h4:aG c.ans t=some (ansL c)[k]:=h2.trans h3
  rw[dF (by omega),cF,bf aX (show k<(ansL c).length by omega),bnd,h4]
  have h5: (ansL c).getD k aX=(ansL c)[k]:=by simp only[List.getD,h3];rfl
  rw[h5];rfl
theorem jM {n:Nat} (hn:6000<n) {c:CS} {ps:List Nat} (r:Rp c ps) (hl:ps.length≤1000):dz n c.L c.made c.calls (ansL c) (posL ps) c.good=some (ba c.inn,tupR c ps):=by
 unfold dz
 have hpl: (posL ps).length=ps.length:=by unfold posL;rw[List.length_map]
 have hil:c.inn.length=ps.length:=by rw[r.inn,List.length_map]
 have l1:=cD (step:=ci n c.calls (posL ps)) (n:=n) (λk=>(ba (c.inn.take k),(k:Int))) ps.length (ba c.inn) (λk hk=>by
  unfold ci
  dsimp only
  have hl2: (ba (c.inn.take k)).length≤1000:=by unfold ba;simp;omega
  have e1: (posL ps).getD k 0=((ps[k]:Nat):Int):=by unfold posL;simp[List.getD,hk]
  have hp:=r.lt _ (List.getElem_mem hk)
  have hki:k<c.inn.length:=by omega
  have e2:c.inn[k]=c.calls.getD ps[k] ee:=by simp only[r.inn,List.getElem_map]
  rw[dT (by omega),cT,bf 0 (show k<(posL ps).length by omega),bnd,e1,bf ee hp,bnd,bn (by omega),aU (by omega) (by omega),←e2]
  unfold ba
  rw[List.take_add_one,List.getElem?_eq_getElem hki,List.map_append]
  rfl) (by
  unfold ci
  dsimp only
  rw[dF (by omega),cF,List.take_of_length_le (by omega)]) (by omega)
 have e0: ((0:Nat):Int)=0:=rfl
 simp only[e0,List.take_zero] at l1
 have e1:ba []=[]:=rfl
 rw[e1] at l1
 rw[l1,bnd];rfl
theorem endR_run {n : Nat} (hn : 6000 < n) {c : CS} {ps : List Nat} (b : Bk c) (r : Rp c ps) (k : Int) (well : Bool) (hp : ∀ x ∈ c.inn, GoodP x.ai) (hg : GoodL c.L) (hl : ps.length ≤ 1000) (h0 : 0 ≤ c.good) (h1 : c.good ≤ 1000) :
  ∃ ps', gb n c.L c.made c.calls (ansL c) (posL ps) c.good k well = some ((endC c k well).1, (endC c k well).2.1, (endC c k well).2.2.1, tupR (endC c k well).2.2.2 ps') ∧ Rp (endC c k well).2.2.2 ps' := by
 have hpl : (posL ps).length = ps.length := by unfold posL; rw [List.length_map]
 have hil : c.inn.length = ps.length := by rw [r.inn, List.length_map]
 have hal : (ansL c).length = c.calls.length := by unfold ansL; rw [List.length_map, b.ans_len]
 unfold gb endC
 by_cases hk : 0 ≤ k ∧ k < c.inn.length
 ·obtain ⟨m, rfl⟩ := Int.eq_ofNat_of_zero_le hk.1
  have hm : m < c.inn.length := by omega
  have hmp : m < ps.length := by omega
  have em : (m : Int).toNat = m := by omega
  have em1 : ((m : Int) + 1).toNat = m + 1 := by omega
  have e1 : (posL ps).getD m 0 = ((ps[m] : Nat) : Int) := by unfold posL; simp [List.getD, hmp]
  have hlt := r.lt _ (List.getElem_mem hmp)
  have hx : c.inn.getD m ee = c.inn[m] := by simp [List.getD, hm]
  have e2 : c.inn[m] = c.calls.getD ps[m] ee := by simp only [r.inn, List.getElem_map]
  have hkind := r.kind _ (List.getElem_mem hm)
  have hpm := hp _ (List.getElem_mem hm)
  obtain ⟨o1, o2, o3, o4⟩ := sb c m well
  rw [decide_eq_false (by omega), cF, decide_eq_false (by omega), bnd, cF, if_pos hk, bf 0 (show m < (posL ps).length by omega), bnd, bn (by omega), bn (by rw [em]; simp; omega), aU (by omega) (by omega), bn (by omega), bn (by rw [em, em1]; simp; omega), e1, bf ee hlt, bnd, em, hx, ← e2]
  refine ⟨ps.take m ++ ps.drop (m + 1), (bind_of (v := ((outC c m well).2.L, (outC c m well).2.made, (outC c m well).2.good, (outC c m well).1.bC, (outC c m well).1.af)) ?_).trans ?_, ?_⟩
  ·unfold outC
   rw [hx]
   cases well with
   | false => rw [cF, cF]; rfl
   | true =>
    rw [cT, cT]
    have hC := CreateR_run hn (s := ⟨c.L, c.made⟩) hg (c.inn[m]).am hpm
    have hU := UpdateR_run hn (s := ⟨c.L, c.made⟩) hg (c.inn[m]).af hpm
    have hD := DeleteR_run hn (s := ⟨c.L, c.made⟩) hg (c.inn[m]).af
    unfold ownS at hC hU hD
    dsimp only at hC hU hD
    unfold effC cutC
    dsimp only
    rw [hC, bnd, bnd, hU, bnd, bnd, hD, bnd, bnd]
    by_cases k0 : (c.inn[m]).ab = 0
    ·rw [decide_eq_true k0, cT, if_pos k0]
     dsimp only
     by_cases e0 : (createS ⟨c.L, c.made⟩ (c.inn[m]).am (c.inn[m]).ai).2.2 = 0
     ·rw [decide_eq_true e0, cT, if_pos e0, aU (by omega) (by omega)]
     ·rw [decide_eq_false e0, cF, if_neg e0]; rfl
    ·rw [decide_eq_false k0, cF, if_neg k0]
     by_cases k1 : (c.inn[m]).ab = 1
     ·rw [decide_eq_true k1, cT, if_pos k1]
      dsimp only
      by_cases e0 : (updateS ⟨c.L, c.made⟩ (c.inn[m]).af (c.inn[m]).ai).2 = 0
      ·rw [decide_eq_true e0, cT, if_pos e0]
      ·rw [decide_eq_false e0, cF, if_neg e0]; rfl
     ·rw [decide_eq_false k1, cF, if_neg k1]
      have k2 : (c.inn[m]).ab = 2 := by omega
      rw [decide_eq_true k2, cT, if_pos k2]
      dsimp only
      by_cases e0 : (deleteS ⟨c.L, c.made⟩ (c.inn[m]).af).2 = 0
      ·rw [decide_eq_true e0, cT, if_pos e0]
      ·rw [decide_eq_false e0, cF, if_neg e0]; rfl
  ·have ea : (⟨true, (outC c m well).1.bC, (outC c m well).1.af⟩ : TD0) = (outC c m well).1 := by
    generalize outC c m well = o at o4
    cases ho : o.1 with
    | mk a b2 d => rw [ho] at o4; cases o4; rfl
   dsimp only
   rw [bf aX (show ps[m] < (ansL c).length by omega), bnd, ea]
   have ht : (c.ans.map (·.1))[ps[m]]? = some (c.inn[m]).ax := by rw [e2]; exact b.tok_at hlt
   have e3 : ansL (tellC (outC c m well) (c.inn[m]).ax) = (ansL c).set ps[m] (outC c m well).1 := by
    unfold ansL tellC
    dsimp only
    rw [o2]; exact mput_at b.knd ht
   have e4 : (([] : List Int) ++ ((posL ps).take m).drop 0) ++ ((posL ps).take (posL ps).length).drop (m + 1) = posL (ps.take m ++ ps.drop (m + 1)) := by
    unfold posL
    rw [List.take_length, List.nil_append, List.drop_zero, List.map_append, List.map_take, List.map_drop]
   unfold tupR
   rw [e3, em1, e4]
   have e5 : ((ps[m] : Nat) : Int).toNat = ps[m] := by omega
   rw [e5]
   show _ = some ((c.inn[m]).ax, (outC c m well).1, 0, (outC c m well).2.L, (outC c m well).2.made, (outC c m well).2.calls, _, _, (outC c m well).2.good)
   rw [o1]
  ·refine ⟨fun p hp => ?_, ?_, fun y hy => ?_⟩
   ·show p < (outC c m well).2.calls.length
    rw [o1]; exact r.lt p (qJ hp)
   ·show (outC c m well).2.inn = (ps.take m ++ ps.drop (m + 1)).map fun p => (outC c m well).2.calls.getD p ee
    rw [o1, o3, r.inn, List.map_append, List.map_take, List.map_drop]
   ·have hy : y ∈ (outC c m well).2.inn := hy
    rw [o3] at hy
    exact r.kind y (qJ hy)
 ·rw [if_neg hk]
  have e : (bif decide (k < 0) then some true else some (decide ((((posL ps).length : Nat) : Int) ≤ k)) : Option Bool) = some true := by
   by_cases h : k < 0
   ·rw [decide_eq_true h, cT]
   ·rw [decide_eq_false h, cF, decide_eq_true (by omega)]
  rw [e, bnd, cT]
  exact ⟨ps, rfl, r⟩
theorem evT (x:TG0): (⟨x.af,x.am,x.ai⟩:TG0)=x:=by cases x;rfl
theorem get_good {L:List TG0} (hg:GoodL L) (phys:Bs):GoodL [(findT L phys).getD dU]:=by
 refine⟨by simp,λx hx=>?_⟩
 rw[List.mem_singleton.1 hx]
 cases h:findT L phys with
 |none=>exact⟨by decide,λg hg=>(by cases hg),by decide⟩
 |some y=>exact hg.each y (mf h).1
theorem sameC_self {n:Nat} (hn:6000<n) {L:List TI0} (hl:L.length≤1000) (hg: ∀x∈L,GoodP x.ai):gg n L L=some true:=by
 unfold gg
 rw[dT rfl,nT,cF]
 have l1:=cD (step:=cK n L L) (n:=n) (λk=>(k:Int)) L.length (.inr ()) (λk hk=>by
  unfold cK
  rw[dT (by omega),cT,bf ee hk,bnd,bnd,dT rfl,nT,cF,bnd,bnd,dT rfl,nT,cF,bnd,bnd,dT rfl,nT,cF,bnd,bnd,dT rfl,nT,cF,bnd,bnd,rU hn (hg _ (nE hk)),bnd,nT,cF,aU (by omega) (by omega)]
  rfl) (by
  unfold cK
  rw[dF (by omega),cF]) (by omega)
 have e0: ((0:Nat):Int)=0:=rfl
 simp only[e0] at l1
 rw[l1,bnd]
structure InvP (k:Nat) (c:CS) (ps:List Nat):Prop where
 ok:OkC k c
 bk:Bk c
 rp:Rp c ps
 props: ∀x∈c.calls,GoodP x.ai
theorem end_calls (c:CS) (k:Int) (well:Bool): (endC c k well).2.2.2.calls=c.calls:=by
 unfold endC
 split
 ·exact(sb c _ well).1
 ·rfl
theorem InvP.few {k:Nat} {c:CS} {ps:List Nat} (h:InvP k c ps):ps.length≤k:=by
 have:=h.ok.inn
 rw[h.rp.inn,List.length_map] at this
 exact this
theorem plays_loop {l:List TB0} (hl:l.length≤100) (hp: ∀x∈l,GoodP x.fX.ai):
 ∃c ps,InvP l.length c ps∧aN (ce 10000 l) 10000 ((0:Int),([]:List TG0),(0:Int),([]:List TI0),([]:List TI0),(0:Int),([]:List (Int×TD0)),([]:List TG0),(0:Int),([]:List TI0),([]:List TD0),([]:List Int),(0:Int))=some (.inr (c.L,c.made,c.calls,ansL c,posL ps,c.good,c.L,c.made,c.calls,c.inn,c.good,c.ans)):=by
 obtain⟨v,hv,c,ps,rfl,h⟩:=cj (step:=ce 10000 l) (n:=10000) (s0:=((0:Int),([]:List TG0),(0:Int),([]:List TI0),([]:List TI0),(0:Int),([]:List (Int×TD0)),([]:List TG0),(0:Int),([]:List TI0),([]:List TD0),([]:List Int),(0:Int)))
  (λk s=>∃c ps,s=((k:Int),c.L,c.made,c.calls,c.inn,c.good,c.ans,c.L,c.made,c.calls,ansL c,posL ps,c.good)∧InvP k c ps)
  (λv=>∃c ps,v=(.inr (c.L,c.made,c.calls,ansL c,posL ps,c.good,c.L,c.made,c.calls,c.inn,c.good,c.ans))∧InvP l.length c ps) l.length
  ⟨new11,[],rfl,OkC.new,Bk.new,⟨λp hp=>(by cases hp),rfl,λx hx=>(by cases hx)⟩,λx hx=>(by cases hx)⟩
  (λk s hk hI=>by
   obtain⟨c,ps,rfl,r⟩:=hI
   have hg:l.getD k z_TB0=l[k]:=by simp[List.getD,hk]
   have hpk:=hp _ (List.getElem_mem hk)
   have g1:=r.ok.g1
   have f1:=r.ok.calls
   have f2:=r.ok.inn
   have f3:=r.few
   unfold ce
   dsimp only
   rw[dT (by omega),cT,bf z_TB0 hk,bnd,hg,evC]
   generalize l[k]=x at hpk
   have eA: ∀a:TD0,andL [(a.aq==a.aq),(a.bC==a.bC),decide (a.af=a.af)]=true:=λa=>by simp[andL]
   by_cases d0:x.jc=0
   ·obtain⟨qs,hr,rp⟩:=submitR_run (n:=10000) (by omega) r.bk r.rp hpk (by omega) (by omega)
    rw[dT d0,cT,submit_run (by omega) hpk (by omega) (by omega),bnd,hr,bnd]
    have I:InvP (k+1) (submitC c x.fX).2 qs:=⟨r.ok.submit hpk,r.bk.submit _,rp,λy hy=>by
     have:y∈c.calls∨y=x.fX:=by
      revert hy
      unfold submitC
      split
      ·exact .inl
      ·split
       ·exact .inl
       ·intro hy
        rcases List.mem_append.1 hy with h|h
        ·exact .inl h
        ·exact .inr (List.mem_singleton.1 h)
     rcases this with h|h
     ·exact r.props y h
     ·rw[h];exact hpk⟩
    generalize submitC c x.fX=w at I
    obtain⟨v,d⟩:=w
    have I:InvP (k+1) d qs:=I
    have j1:=I.ok.inn
    have j2:=I.few
    dsimp only[tupE,tupR]
    rw[dT rfl,nT,cF,bnd]
    unfold joinF
    dsimp only
    rw[kT (c:=d) (by omega) (by omega),bnd]
    dsimp only[tupE]
    rw[jM (c:=d) (ps:=qs) (by omega) I.rp (by omega),bnd]
    dsimp only[tupR]
    have htl: (ba d.inn).length=d.inn.length:=by unfold ba;simp
    rw[lG (l:=ba d.inn) (by omega) (by omega),bnd,nT,cF,mU,bnd]
    dsimp only[tupE]
    have em:cq 10000 d.L d.made d.calls (ansL d) (posL qs) d.good=some (d.good,tupR d qs):=rfl
    rw[em,bnd,dT rfl,nT,cF,aU (by omega) (by omega)]
    dsimp only[tupR]
    exact .inl ⟨_,rfl,d,qs,rfl,I⟩
   rw[dF d0,cF]
   have e: (bif decide (x.jc=1) then some (decide (x.jc=1)) else some (decide (x.jc=2)):Option Bool)=some (decide (x.jc=1∨x.jc=2)):=by
    by_cases h1:x.jc=1
    ·rw[dT h1,cT,dT (.inl h1)]
    ·rw[dF h1,cF]
     congr 1
     exact decide_eq_decide.2 ⟨.inr,λh=>h.resolve_left h1⟩
   rw[e,bnd]
   by_cases d1:x.jc=1∨x.jc=2
   ·obtain⟨qs,hr,rp⟩:=endR_run (n:=10000) (by omega) r.bk r.rp x.fN (decide (x.jc=1)) r.ok.props r.ok.good (by omega) r.ok.g0 (by omega)
    rw[dT d1,cT,end_run (by omega) _ _ r.ok.props r.ok.good (by omega) r.ok.g0 (by omega),bnd,hr,bnd]
    have I:InvP (k+1) (endC c x.fN (decide (x.jc=1))).2.2.2 qs:=⟨r.ok.end_ (by omega) _ _,r.bk.end_ _ _,rp,λy hy=>by
     rw[end_calls] at hy;exact r.props y hy⟩
    generalize endC c x.fN (decide (x.jc=1))=w at I
    obtain⟨v1,v2,v3,d⟩:=w
    have I:InvP (k+1) d qs:=I
    have j1:=I.ok.inn
    have j2:=I.few
    dsimp only[tupE,tupR]
    rw[dT rfl,nT,cF,eA,nT,cF,dT rfl,nT,cF,bnd]
    unfold joinF
    dsimp only
    rw[kT (c:=d) (by omega) (by omega),bnd]
    dsimp only[tupE]
    rw[jM (c:=d) (ps:=qs) (by omega) I.rp (by omega),bnd]
    dsimp only[tupR]
    have htl: (ba d.inn).length=d.inn.length:=by unfold ba;simp
    rw[lG (l:=ba d.inn) (by omega) (by omega),bnd,nT,cF,mU,bnd]
    dsimp only[tupE]
    have em:cq 10000 d.L d.made d.calls (ansL d) (posL qs) d.good=some (d.good,tupR d qs):=rfl
    rw[em,bnd,dT rfl,nT,cF,aU (by omega) (by omega)]
    dsimp only[tupR]
    exact .inl ⟨_,rfl,d,qs,rfl,I⟩
   rw[dF d1,cF]
   obtain⟨d,qs,hd,hq,I⟩: ∃d qs,d=c∧qs=ps∧InvP (k+1) d qs:=⟨c,ps,rfl,rfl,r.ok.le (by omega),r.bk,r.rp,r.props⟩
   subst hd
   subst hq
   have j1:=I.ok.inn
   have j2:=I.few
   by_cases d3:x.jc=3
   ·rw[dT d3,cT,ask_run,bnd,askR_run r.bk (by omega) (by omega) x.fN,bnd]
    dsimp only[tupE,tupR]
    rw[eA,nT,cF,beq_self_eq_true,nT,cF,bnd]
    unfold joinF
    dsimp only
    rw[kT (c:=d) (by omega) (by omega),bnd]
    dsimp only[tupE]
    rw[jM (c:=d) (ps:=qs) (by omega) I.rp (by omega),bnd]
    dsimp only[tupR]
    have htl: (ba d.inn).length=d.inn.length:=by unfold ba;simp
    rw[lG (l:=ba d.inn) (by omega) (by omega),bnd,nT,cF,mU,bnd]
    dsimp only[tupE]
    have em:cq 10000 d.L d.made d.calls (ansL d) (posL qs) d.good=some (d.good,tupR d qs):=rfl
    rw[em,bnd,dT rfl,nT,cF,aU (by omega) (by omega)]
    dsimp only[tupR]
    exact .inl ⟨_,rfl,d,qs,rfl,I⟩
   rw[dF d3,cF]
   by_cases d4:x.jc=4
   ·have hfew:=r.ok.good.few
    have eg:gd 10000 d.L d.made d.calls d.ans d.inn d.good x.fX.af=some ((findT d.L x.fX.af).getD dU,(findT d.L x.fX.af).isSome,d.tup):=by
     unfold gd
     rw[Get_run10 (by omega) (s:=⟨d.L,d.made⟩) hfew,bnd];rfl
    have er:gf 10000 d.L d.made d.calls (ansL d) (posL qs) d.good x.fX.af=some ((findT d.L x.fX.af).getD dU,(findT d.L x.fX.af).isSome,tupR d qs):=by
     unfold gf
     rw[ow (by omega) (s:=⟨d.L,d.made⟩) hfew,bnd];rfl
    rw[dT d4,cT,eg,bnd,er,bnd]
    dsimp only[tupE,tupR]
    rw[beq_self_eq_true,nT,cF,evT,rY (by omega) (get_good r.ok.good _),bnd,nT,cF,bnd]
    unfold joinF
    dsimp only
    rw[kT (c:=d) (by omega) (by omega),bnd]
    dsimp only[tupE]
    rw[jM (c:=d) (ps:=qs) (by omega) I.rp (by omega),bnd]
    dsimp only[tupR]
    have htl: (ba d.inn).length=d.inn.length:=by unfold ba;simp
    rw[lG (l:=ba d.inn) (by omega) (by omega),bnd,nT,cF,mU,bnd]
    dsimp only[tupE]
    have em:cq 10000 d.L d.made d.calls (ansL d) (posL qs) d.good=some (d.good,tupR d qs):=rfl
    rw[em,bnd,dT rfl,nT,cF,aU (by omega) (by omega)]
    dsimp only[tupR]
    exact .inl ⟨_,rfl,d,qs,rfl,I⟩
   rw[dF d4,cF,bnd]
   unfold joinF
   dsimp only
   rw[kT (c:=d) (by omega) (by omega),bnd]
   dsimp only[tupE]
   rw[jM (c:=d) (ps:=qs) (by omega) I.rp (by omega),bnd]
   dsimp only[tupR]
   have htl: (ba d.inn).length=d.inn.length:=by unfold ba;simp
   rw[lG (l:=ba d.inn) (by omega) (by omega),bnd,nT,cF,mU,bnd]
   dsimp only[tupE]
   have em:cq 10000 d.L d.made d.calls (ansL d) (posL qs) d.good=some (d.good,tupR d qs):=rfl
   rw[em,bnd,dT rfl,nT,cF,aU (by omega) (by omega)]
   dsimp only[tupR]
   exact .inl ⟨_,rfl,d,qs,rfl,I⟩)
  (λs hI=>by
   obtain⟨c,ps,rfl,r⟩:=hI
   unfold ce
   dsimp only
   rw[dF (by omega),cF]
   exact⟨_,rfl,c,ps,rfl,r⟩) (by omega)
 exact⟨c,ps,h,hv⟩
theorem cloudPlays_true (l:List TB0):hS 10000 l=some true:=by
 unfold hS
 obtain⟨g,hg,hf⟩:=greatL11 (n:=10000) (by omega) l
 rw[hg,bnd]
 cases g with
 |true=>rw[cT,wakes11b]
 |false=>
  obtain⟨hl,hp⟩:=hf rfl
  rw[cF]
  unfold lF nG
  rw[bnd,bnd]
  obtain⟨c,ps,I,hrun⟩:=plays_loop hl hp
  have f0:=I.ok.few
  have f1:=I.ok.calls
  rw[hrun,bnd]
  dsimp only
  have et:dA 10000 c.L c.made c.calls (ansL c) (posL ps) c.good=some (c.L,tupR c ps):=by
   unfold dA
   rw[bn (by simp;omega),List.nil_append];rfl
  have ec:dR 10000 c.L c.made c.calls (ansL c) (posL ps) c.good=some (c.calls,tupR c ps):=by
   unfold dR
   rw[bn (by simp;omega),List.nil_append];rfl
  rw[things_run I.ok.good,bnd,et,bnd]
  dsimp only[tupE,tupR]
  rw[rY (by omega) I.ok.good,bnd,cT,calls_run (by omega),bnd,ec,bnd]
  dsimp only[tupE,tupR]
  rw[sameC_self (by omega) (by omega) I.props,bnd,cT,wakes11b]
end Go.Proofs.YtkhdpnamfndonaaGreatDoor
