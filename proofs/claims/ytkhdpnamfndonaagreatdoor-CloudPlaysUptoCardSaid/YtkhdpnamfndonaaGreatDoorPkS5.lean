/-
  Texts of this claim, packed (what nothing names is left out): R3, AllN, SchemaP6, Num, NumC, TextC, Num2, NumH, VkH, VkI, T1. Own work, partly printed by own programs. No condition.
-/
import Derived.Test.YtkhdpnamfndonaaGreatDoorPkS4
import Derived.Test.YtkhdpnamfndonaaGreatDoorPkS2
import Derived.Test.YtkhdpnamfndonaaGreatDoorPkS3
import Derived.Test.YtkhdpnamfndonaaGreatDoorRows
import GoSem.Op.String
import Derived.Laws.StructEq
set_option linter.unusedVariables false
set_option linter.unusedSimpArgs false
set_option maxHeartbeats 2000000
section
namespace Go.Proofs.YtkhdpnamfndonaaGreatDoor
open Go Go.Vc Go.RowKit
def gn (n:Nat) (d0:List TE0) (d1:List TE0) (K1:Int):Option (Lp Int (Sum Unit Unit)):=
    bif(decide (K1<((d0.length:Nat):Int))) then
     ((aR d0 K1).bind λX1=>
     (aR d1 K1).bind λX2=>
     bif(!(decide (X1.aB=X2.aB))) then
      (some (.br (.inl ())))
     else
      (aR d0 K1).bind λX3=>
      (aR d1 K1).bind λX4=>
      bif(!(X3.az==X4.az)) then
       (some (.br (.inl ())))
      else
       (aR d0 K1).bind λX5=>
       (aR d1 K1).bind λX6=>
       (kz n (⟨X5.fV.ab,(X5.fV.ak),X5.fV.an,X5.fV.ah,X5.fV.ac,X5.fV.ae⟩:TF0) (⟨X6.fV.ab,(X6.fV.ak),X6.fV.an,X6.fV.ah,X6.fV.ac,X6.fV.ae⟩:TF0)).bind λX7=>
       bif !X7 then
        ((aR d0 K1).bind λX8=>
        (aR d1 K1).bind λX9=>
        (gP n (⟨X8.fV.ab,(X8.fV.ak),X8.fV.an,X8.fV.ah,X8.fV.ac,X8.fV.ae⟩:TF0) (⟨X9.fV.ab,(X9.fV.ak),X9.fV.an,X9.fV.ah,X9.fV.ac,X9.fV.ae⟩:TF0)).bind λX10=>
        bif !X10 then
         (some (.br (.inl ())))
        else
         aZ (inR .i64 (K1+1))<|
         some (.nx (K1+1)))
       else
        aZ (inR .i64 (K1+1))<|
        some (.nx (K1+1)))
    else
     some (.br (.inr ()))
def iD (n:Nat) (d0:List TE0) (d1:List TE0):Option Bool:=
 bif(!(decide (((d0.length:Nat):Int)=((d1.length:Nat):Int)))) then
  (some ((false)))
 else
  (aN (gn n d0 d1) n (0:Int)).bind λQ1=>
  (match Q1 with
  |.inl G1=>some ((false))
  |.inr G2=>some ((true)))
set_option maxRecDepth 20000 in
theorem nU (n:Nat) (M:Mem) (hG:GL M) (A0:Oa) (cap0:Nat) (d0:List TE0) (h0:Sli M 8 aY A0 cap0 d0) (A1:Oa) (cap1:Nat) (d1:List TE0) (h1:Sli M 8 aY A1 cap1 d1) (r:Bool) (hF:iD n d0 d1=some r):Ok Tryz.prog M 38 [sL A0 d0 cap0,sL A1 d1 cap1] (λ_ v=>v=bO r):=by
 unfold iD at hF
 intro M1 hM0 w0 H w p0
 replace hG:=GL.mono hM0 hG
 replace h0:=h0.mono hM0
 replace h1:=h1.mono hM0
 refine Re 69 Tryz.func38 rfl λa0 f0=>RR (Ye f0 1 λ_ f=>ag (RR (Ye f 5 λ_ f=>RcF f hF (λB1 F1=>?_) λB1 F2=>?_)))
 ·have U1: ¬ (((d0.length:Nat):Int)=((d1.length:Nat):Int)):=(av dI).1 B1
  refine RR (Ye f 1 λ_ f=>wp_ret (aS (ao f rfl (Lk 4 (bO false)) ?_)))
  cases sI F1
  exact⟨_,rfl,M1,(mR _),p0,rfl⟩
 ·have U2: ¬ (¬ (((d0.length:Nat):Int)=((d1.length:Nat):Int))):=ap (av dI) B1
  refine St (ag (RR (Ye f 1 λ_ f=>wp_block ?_)))
  obtain⟨Q1,bH,F3⟩:=bS F2
  refine wp_mono (Q:=λe a w=>(e=.ret∧(∃G1:Unit,Q1=.inl G1∧∃V2:Mem,M1.le V2∧Frm 69 [(4,bO false)] a∧Hp w0 V2 (H) w))∨(e=.exit 0∧(∃G2:Unit,Q1=.inr G2∧∃V3:Mem,M1.le V3∧Frm 69 [] a∧Hp w0 V3 (H) w))) (bu (n:=69) (w0:=w0) (M:=M1) (λ (I1,K1)=>[(0,sL A0 d0 cap0),(1,sL A1 d1 cap1),(5,iL K1)]) (λ (I1,K1)=>(H)) (λ (I1,K1) MM=>aN (gn n d0 d1) I1 K1=some Q1) (λ (I1,K1)=>I1) (n,(0:Int)) (f.kp) p0 bH ?_) ?_
  ·rintro⟨I1,K1⟩ V1 _ W1 J1 dc f N1
   have bI:=dc
   obtain⟨I2,jP,rfl,be,T1⟩:=aT bI
   unfold gn at be
   refine ag (RR (Ye f 4 λ_ f=>RcF f be (λB2 F4=>?_) λB2 F25=>?_))
   ·have U3:=dI.1 B2
    refine St (ag (wp_block (ag (cR N1 kr kr (Y5 default f 2 λ_ f=>?_)))))
    obtain⟨X1,S1,F5⟩:=bS F4
    obtain⟨C1,cP,dS,-,D1,R1⟩:=Sli.at_ (h0.mono J1) S1
    obtain⟨Z1,P1,Z2,P2,rfl,B3,B4⟩:=TE0.opn D1
    refine Y2 (v:=Pa (C1.add (K1.toNat*8))) f (λ_ pq=>Y34 dS rfl (len:=d0.length) (cap:=cap0) (k:=.i64) (i:=K1) (e:=75) (sz:=8) (aF S1) (aE S1)) λ_ f=>Y5 default f 1 λ_ f=>Y4 f R1 0 rfl λ_ f=>Y5 default f 2 λ_ f=>?_
    obtain⟨X2,S2,F6⟩:=bS F5
    obtain⟨C2,jX,lp,-,D2,R2⟩:=Sli.at_ (h1.mono J1) S2
    obtain⟨Z3,P3,Z4,P4,rfl,B5,B6⟩:=TE0.opn D2
    refine Y2 (v:=Pa (C2.add (K1.toNat*8))) f (λ_ pq=>Y34 lp rfl (len:=d1.length) (cap:=cap1) (k:=.i64) (i:=K1) (e:=75) (sz:=8) (aF S2) (aE S2)) λ_ f=>Y5 default f 1 λ_ f=>Y4 f R2 0 rfl λ_ f=>Y2 (v:=bO (!(decide (X1.aB=X2.aB)))) f (λ_ pq=>Y43 rfl (l:=X1.aB) (m:=X2.aB)) λ_ f=>Y5 default f 1 λ_ f=>?_
    rcases cE F6 with⟨B7,F7⟩|⟨B7,F8⟩
    ·have U4: ¬ (X1.aB=X2.aB):=(av dI).1 B7
     have f:=f.st 28 (cB B7)
     refine Y5 default f 40 λ_ f=>bW rfl ?_
     intro W2 N2
     refine aH (Y8 f (RR (Ye f 1 λ_ f=>wp_ret (bV (aS (aS ?_))))))
     cases sI F7
     exact .inl ⟨rfl,(),(sI T1).symm,V1,J1,f.kp,N2⟩
    ·have U5: ¬ (¬ (X1.aB=X2.aB)):=ap (av dI) B7
     have f:=f.st 28 (cB B7)
     refine Y5 default f 2 λ_ f=>?_
     obtain⟨X3,S3,F9⟩:=bS F8
     obtain⟨C3,c_3,sh,-,D3,R3⟩:=Sli.at_ (h0.mono J1) S3
     obtain⟨Z5,P5,Z6,P6,rfl,B8,B9⟩:=TE0.opn D3
     refine Y2 (v:=Pa (C3.add (K1.toNat*8))) f (λ_ pq=>Y34 sh rfl (len:=d0.length) (cap:=cap0) (k:=.i64) (i:=K1) (e:=75) (sz:=8) (aF S3) (aE S3)) λ_ f=>Y5 default f 1 λ_ f=>Y4 f R3 1 rfl λ_ f=>Y5 default f 2 λ_ f=>?_
     obtain⟨X4,S4,F10⟩:=bS F9
     obtain⟨C4,c_4,qG,-,D4,R4⟩:=Sli.at_ (h1.mono J1) S4
     obtain⟨Z7,P7,Z8,P8,rfl,B10,B11⟩:=TE0.opn D4
     refine Y2 (v:=Pa (C4.add (K1.toNat*8))) f (λ_ pq=>Y34 qG rfl (len:=d1.length) (cap:=cap1) (k:=.i64) (i:=K1) (e:=75) (sz:=8) (aF S4) (aE S4)) λ_ f=>Y5 default f 1 λ_ f=>Y4 f R4 1 rfl λ_ f=>Y5 default f 3 λ_ f=>?_
     rcases cE F10 with⟨B12,F11⟩|⟨B12,F12⟩
     ·have U6: (X3.az==X4.az)=false:=by simpa using B12
      have f:=f.st 41 (cB B12)
      refine Y5 default f 27 λ_ f=>bW rfl ?_
      intro W3 N3
      refine aH (Y8 f (RR (Ye f 1 λ_ f=>wp_ret (bV (aS (aS ?_))))))
      cases sI F11
      exact .inl ⟨rfl,(),(sI T1).symm,V1,J1,f.kp,N3⟩
     ·have U7: (X3.az==X4.az)=true:=by simpa using B12
      have f:=f.st 41 (cB B12)
      refine Y5 default f 2 λ_ f=>?_
      obtain⟨X5,S5,F13⟩:=bS F12
      obtain⟨C5,c_5,e_5,-,D5,R5⟩:=Sli.at_ (h0.mono J1) S5
      obtain⟨Z9,P9,Z10,P10,rfl,B13,B14⟩:=TE0.opn D5
      refine Y2 (v:=Pa (C5.add (K1.toNat*8))) f (λ_ pq=>Y34 e_5 rfl (len:=d0.length) (cap:=cap0) (k:=.i64) (i:=K1) (e:=75) (sz:=8) (aF S5) (aE S5)) λ_ f=>Y5 default f 1 λ_ f=>Y2 f (λ_ pq=>Y36 (cs:=(lTF0 X5.fV Z9 P9 Z10 P10)) rfl (ad:=(C5.add (K1.toNat*8)).add 2) (kU (base:=C5.add (K1.toNat*8)) (λj v h=>pq.cell (R5 j v h)) 2 rfl)) λ_ f=>Y5 default f 2 λ_ f=>?_
      obtain⟨X6,S6,F14⟩:=bS F13
      obtain⟨C6,c_6,e_6,-,D6,R6⟩:=Sli.at_ (h1.mono J1) S6
      obtain⟨Z11,P11,Z12,P12,rfl,B15,B16⟩:=TE0.opn D6
      refine Y2 (v:=Pa (C6.add (K1.toNat*8))) f (λ_ pq=>Y34 e_6 rfl (len:=d1.length) (cap:=cap1) (k:=.i64) (i:=K1) (e:=75) (sz:=8) (aF S6) (aE S6)) λ_ f=>Y5 default f 1 λ_ f=>Y2 f (λ_ pq=>Y36 (cs:=(lTF0 X6.fV Z11 P11 Z12 P12)) rfl (ad:=(C6.add (K1.toNat*8)).add 2) (kU (base:=C6.add (K1.toNat*8)) (λj v h=>pq.cell (R6 j v h)) 2 rfl)) λ_ f=>?_
      obtain⟨X7,S7,F15⟩:=bS F14
      refine Y3 f (nO n _ _ (⟨X5.fV.ab,(X5.fV.ak),X5.fV.an,X5.fV.ah,X5.fV.ac,X5.fV.ae⟩:TF0) (TF0.shut B13 B14) _ (⟨X6.fV.ab,(X6.fV.ak),X6.fV.an,X6.fV.ah,X6.fV.ac,X6.fV.ae⟩:TF0) (TF0.shut B15 B16) X7 S7) λ_ f=>Y5 default f 2 λ_ f=>?_
      rcases cE F15 with⟨B17,F16⟩|⟨B17,F23⟩
      ·have U8: (X7)=false:=by simpa using B17
       have f:=f.st 54 (cB B17)
       refine Y5 default f 2 λ_ f=>?_
       obtain⟨X8,S8,F17⟩:=bS F16
       obtain⟨C7,c_7,e_7,-,D7,R7⟩:=Sli.at_ (h0.mono J1) S8
       obtain⟨Z13,P13,Z14,P14,rfl,B18,B19⟩:=TE0.opn D7
       refine Y2 (v:=Pa (C7.add (K1.toNat*8))) f (λ_ pq=>Y34 e_7 rfl (len:=d0.length) (cap:=cap0) (k:=.i64) (i:=K1) (e:=75) (sz:=8) (aF S8) (aE S8)) λ_ f=>Y5 default f 1 λ_ f=>Y2 f (λ_ pq=>Y36 (cs:=(lTF0 X8.fV Z13 P13 Z14 P14)) rfl (ad:=(C7.add (K1.toNat*8)).add 2) (kU (base:=C7.add (K1.toNat*8)) (λj v h=>pq.cell (R7 j v h)) 2 rfl)) λ_ f=>Y5 default f 2 λ_ f=>?_
       obtain⟨X9,S9,F18⟩:=bS F17
       obtain⟨C8,c_8,e_8,-,D8,R8⟩:=Sli.at_ (h1.mono J1) S9
       obtain⟨Z15,P15,Z16,P16,rfl,B20,B21⟩:=TE0.opn D8
       refine Y2 (v:=Pa (C8.add (K1.toNat*8))) f (λ_ pq=>Y34 e_8 rfl (len:=d1.length) (cap:=cap1) (k:=.i64) (i:=K1) (e:=75) (sz:=8) (aF S9) (aE S9)) λ_ f=>Y5 default f 1 λ_ f=>Y2 f (λ_ pq=>Y36 (cs:=(lTF0 X9.fV Z15 P15 Z16 P16)) rfl (ad:=(C8.add (K1.toNat*8)).add 2) (kU (base:=C8.add (K1.toNat*8)) (λj v h=>pq.cell (R8 j v h)) 2 rfl)) λ_ f=>?_
       obtain⟨X10,S10,F19⟩:=bS F18
       refine Y3 f (mN n _ _ (⟨X8.fV.ab,(X8.fV.ak),X8.fV.an,X8.fV.ah,X8.fV.ac,X8.fV.ae⟩:TF0) (TF0.shut B18 B19) _ (⟨X9.fV.ab,(X9.fV.ak),X9.fV.an,X9.fV.ah,X9.fV.ac,X9.fV.ae⟩:TF0) (TF0.shut B20 B21) X10 S10) λ_ f=>Y5 default f 3 λ_ f=>bW rfl ?_
       intro W6 N6
       refine aH (RcF f F19 (λB22 F20=>?_) λB22 F21=>?_)
       ·have U9: (X10)=false:=by simpa using B22
        refine RR (Ye f 1 λ_ f=>wp_ret (bV (aS (aS ?_))))
        cases sI F20
        exact .inl ⟨rfl,(),(sI T1).symm,V1,J1,f.kp,N6⟩
       ·have U10: (X10)=true:=by simpa using B22
        refine wp_skip (cG (aH (aI (Y f 1 λ_ f=>?_))))
        obtain⟨O1,F22⟩:=nS F21
        refine Y f 1 λ_ f=>?_
        have f:=f.st 16 (iW O1)
        refine Ye f 1 λ_ f=>?_
        cases sI F22
        exact⟨⟨I2,K1+1⟩,Nat.lt_succ_self _,V1,J1,T1,f.kp,N6⟩
      ·have U11: (X7)=true:=by simpa using B17
       have f:=f.st 54 (cB B17)
       refine Y5 default f 14 λ_ f=>bW rfl ?_
       intro W7 N7
       refine aH (Y7 f (wp_skip (cG (aH (aI (Y f 1 λ_ f=>?_))))))
       obtain⟨O2,F24⟩:=nS F23
       refine Y f 1 λ_ f=>?_
       have f:=f.st 16 (iW O2)
       refine Ye f 1 λ_ f=>?_
       cases sI F24
       exact⟨⟨I2,K1+1⟩,Nat.lt_succ_self _,V1,J1,T1,f.kp,N7⟩
   ·have U12:=ap dI B2
    refine wp_exit (co (co ?_))
    cases sI F25
    exact .inr ⟨rfl,(),(sI T1).symm,V1,J1,f.kp,N1⟩
  ·rintro _ _ W10 (⟨rfl,G1,rfl,V2,J2,f,N8⟩|⟨rfl,G2,rfl,V3,J3,f,N9⟩)
   ·refine bV (aS (ao f rfl (Lk 4 (bO false)) ?_))
    cases sI F3
    exact⟨_,rfl,V2,J2,N8,rfl⟩
   ·refine iq (aH (RR (Ye f 1 λ_ f=>wp_ret (ao f rfl (Lk 4 (bO true)) ?_))))
    cases sI F3
    exact⟨_,rfl,V3,J3,N9,rfl⟩
def gZ (n:Nat) (d0:List TE0) (d1:Bs) (K1:Int×Bs×Bool×Int×Bool×Int×Bs×List TF0×List Bs):Option (Lp (Int×Bs×Bool×Int×Bool×Int×Bs×List TF0×List Bs) (Sum (Bs×Bool×Int×Bool×Int×Bs×List TF0×List Bs) (Bs×Bool×Int×Bool×Int×Bs×List TF0×List Bs))):=
    bif(decide (K1.1<((d0.length:Nat):Int))) then
     ((aR d0 K1.1).bind λX1=>
     bif(decide (X1.aB=d1)) then
      ((aR d0 K1.1).bind λX2=>
      some (.br (.inl (X2.aB,(X2.az),X2.fV.ab,(X2.fV.ak),X2.fV.an,X2.fV.ah,X2.fV.ac,X2.fV.ae))))
     else
      aZ (inR .i64 (K1.1+1))<|
      some (.nx (K1.1+1,K1.2.1,(K1.2.2.1),K1.2.2.2.1,(K1.2.2.2.2.1),K1.2.2.2.2.2.1,K1.2.2.2.2.2.2.1,K1.2.2.2.2.2.2.2.1,K1.2.2.2.2.2.2.2.2)))
    else
     some (.br (.inr (K1.2.1,(K1.2.2.1),K1.2.2.2.1,(K1.2.2.2.2.1),K1.2.2.2.2.2.1,K1.2.2.2.2.2.2.1,K1.2.2.2.2.2.2.2.1,K1.2.2.2.2.2.2.2.2)))
def kk (n:Nat) (d0:List TE0) (d1:Bs):Option (TE0×Bool):=
 (aN (gZ n d0 d1) n ((0:Int),([]:Bs),(false),(0:Int),(false),(0:Int),([]:Bs),([]:List TF0),([]:List Bs))).bind λQ2=>
 (match Q2 with
 |.inl G1=>some (((⟨G1.1,(G1.2.1),(⟨G1.2.2.1,(G1.2.2.2.1),G1.2.2.2.2.1,G1.2.2.2.2.2.1,G1.2.2.2.2.2.2.1,G1.2.2.2.2.2.2.2⟩:TF0)⟩:TE0),(true)))
 |.inr G2=>some (((⟨([]:Bs),(false),jU⟩:TE0),(false))))
theorem pa (n:Nat) (M:Mem) (hG:GL M) (A0:Oa) (cap0:Nat) (d0:List TE0) (h0:Sli M 8 aY A0 cap0 d0) (d1:Bs) (r:TE0×Bool) (hF:kk n d0 d1=some r):Ok Tryz.prog M 71 [sL A0 d0 cap0,S d1] (λM' v=>∃ (c0:Lv),v=.tuple #[.agg c0.toArray,bO r.2]∧Rep M' (aY r.1) c0):=by
 unfold kk at hF
 intro M1 hM0 w0 H w p0
 replace hG:=GL.mono hM0 hG
 replace h0:=h0.mono hM0
 refine Re 25 Tryz.func71 rfl λa0 f0=>RR (Y12 f0 p0 (.cells #[S [],bO false,iB 0,bO false,iL 0,S [],Sn,Sn] 75 (0,0)) λQ1 W1 N1 _ f=>Ye f 1 λ_ f=>ag (RR (Ye f 1 λ_ f=>wp_block ?_)))
 obtain⟨Q2,bH,F1⟩:=bS hF
 refine wp_mono (Q:=λe a w=>(e=.ret∧(∃G1:Bs×Bool×Int×Bool×Int×Bs×List TF0×List Bs,Q2=.inl G1∧∃V2:Mem,M1.le V2∧∃ (Z7:Oa),∃ (P7:Nat),∃ (Z8:Oa),∃ (P8:Nat),Sli V2 6 ay Z7 P7 G1.t6.1∧Sli V2 1 Dat.str Z8 P8 G1.t7∧Frm 25 [(4,pP Q1),(5,bO true)] a∧Hp w0 V2 ((oC Q1 #[S G1.1,bO G1.2.1,iB G1.2.2.1,bO G1.t3.1,iL G1.t4.1,S G1.t5.1,sL Z7 G1.t6.1 P7,sL Z8 G1.t7 P8] 75)::H) w))∨(e=.exit 0∧(∃G2:Bs×Bool×Int×Bool×Int×Bs×List TF0×List Bs,Q2=.inr G2∧∃V3:Mem,M1.le V3∧∃ (Z9:Oa),∃ (P9:Nat),∃ (Z10:Oa),∃ (P10:Nat),Sli V3 6 ay Z9 P9 G2.t6.1∧Sli V3 1 Dat.str Z10 P10 G2.t7∧Frm 25 [(4,pP Q1)] a∧Hp w0 V3 ((oC Q1 #[S G2.1,bO G2.2.1,iB G2.2.2.1,bO G2.t3.1,iL G2.t4.1,S G2.t5.1,sL Z9 G2.t6.1 P9,sL Z10 G2.t7 P10] 75)::H) w))) (bu (n:=25) (w0:=w0) (M:=M1) (λ (I1,K1,Z1,P1,Z2,P2)=>[(0,sL A0 d0 cap0),(1,S d1),(4,pP Q1),(6,iL K1.1)]) (λ (I1,K1,Z1,P1,Z2,P2)=>((oC Q1 #[S K1.2.1,bO K1.2.2.1,iB K1.t3.1,bO K1.t4.1,iL K1.t5.1,S K1.t6.1,sL Z1 K1.t7.1 P1,sL Z2 K1.t8 P2] 75)::H)) (λ (I1,K1,Z1,P1,Z2,P2) MM=>aN (gZ n d0 d1) I1 K1=some Q2∧Sli MM 6 ay Z1 P1 K1.t7.1∧Sli MM 1 Dat.str Z2 P2 K1.t8) (λ (I1,K1,Z1,P1,Z2,P2)=>I1) (n,((0:Int),([]:Bs),(false),(0:Int),(false),(0:Int),([]:Bs),([]:List TF0),([]:List Bs)),none,0,none,0) (f.kp) N1 ⟨bH,Sli.nil,Sli.nil⟩ ?_) ?_
 ·rintro⟨I1,K1,Z1,P1,Z2,P2⟩ V1 _ W2 J1 dc f N2
  obtain⟨bI,B1,B2⟩:=dc
  obtain⟨I2,jP,rfl,be,T1⟩:=aT bI
  unfold gZ at be
  refine ag (RR (Ye f 4 λ_ f=>RcF f be (λB3 F2=>?_) λB3 F8=>?_))
  ·have U1:=dI.1 B3
   refine St (ag (wp_block (RR (Y f 2 λ_ f=>?_))))
   obtain⟨X1,S1,F3⟩:=bS F2
   obtain⟨C1,cP,dS,-,D1,R1⟩:=Sli.at_ (h0.mono J1) S1
   obtain⟨Z3,P3,Z4,P4,rfl,B4,B5⟩:=TE0.opn D1
   refine Z f (Y34 dS rfl (len:=d0.length) (cap:=cap0) (k:=.i64) (i:=K1.1) (e:=75) (sz:=8) (aF S1) (aE S1)) λ_ f=>Y f 1 λ_ f=>Y15 f N2 R1 0 rfl λ_ f=>Y f 1 λ_ f=>Z f (Y42 rfl (l:=X1.aB) (m:=d1)) λ_ f=>eT (RcF f F3 (λB6 F4=>?_) λB6 F6=>?_)
   ·have U2:=dI.1 B6
    refine RR (Y f 2 λ_ f=>?_)
    obtain⟨X2,S2,F5⟩:=bS F4
    obtain⟨C2,jX,lp,-,D2,R2⟩:=Sli.at_ (h0.mono J1) S2
    obtain⟨Z5,P5,Z6,P6,rfl,B7,B8⟩:=TE0.opn D2
    refine Z f (Y34 lp rfl (len:=d0.length) (cap:=cap0) (k:=.i64) (i:=K1.1) (e:=75) (sz:=8) (aF S2) (aE S2)) λ_ f=>Z f (Y36 (cs:=(lTE0 X2 Z5 P5 Z6 P6)) rfl (ad:=C2.add (K1.1.toNat*8)) (λj v h=>N2.cell (R2 j v h))) λ_ f=>Ys (lTE0 X2 Z5 P5 Z6 P6) (aTE0 X2 Z5 P5 Z6 P6) f N2 rfl rfl λW3 N3 _ f=>Ye f 1 λ_ f=>wp_ret (bV (aS (aS ?_)))
    cases sI F5
    exact .inl ⟨rfl,(X2.aB,(X2.az),X2.fV.ab,(X2.fV.ak),X2.fV.an,X2.fV.ah,X2.fV.ac,X2.fV.ae),(sI T1).symm,V1,J1,Z5,P5,Z6,P6,B7,B8,f.kp,N3⟩
   ·have U3:=ap dI B6
    refine wp_skip (cG (aH (aI (Y f 1 λ_ f=>?_))))
    obtain⟨O1,F7⟩:=nS F6
    refine Y f 1 λ_ f=>?_
    have f:=f.st 12 (iW O1)
    refine Ye f 1 λ_ f=>?_
    cases sI F7
    exact⟨⟨I2,(K1.1+1,K1.2.1,(K1.2.2.1),K1.t3.1,(K1.t4.1),K1.t5.1,K1.t6.1,K1.t7.1,K1.t8),Z1,P1,Z2,P2⟩,Nat.lt_succ_self _,V1,J1,⟨T1,B1,B2⟩,f.kp,N2⟩
  ·have U4:=ap dI B3
   refine wp_exit (co (co ?_))
   cases sI F8
   exact .inr ⟨rfl,(K1.2.1,(K1.2.2.1),K1.t3.1,(K1.t4.1),K1.t5.1,K1.t6.1,K1.t7.1,K1.t8),(sI T1).symm,V1,J1,Z1,P1,Z2,P2,B1,B2,f.kp,N2⟩
 ·rintro _ _ W6 (⟨rfl,G1,rfl,V2,J2,Z7,P7,Z8,P8,B9,B10,f,N4⟩|⟨rfl,G2,rfl,V3,J3,Z9,P9,Z10,P10,B11,B12,f,N5⟩)
  ·refine bV (aS (dB f rfl (Y10 (cs:=[S G1.1,bO G1.2.1,iB G1.2.2.1,bO G1.t3.1,iL G1.t4.1,S G1.t5.1,sL Z7 G1.t6.1 P7,sL Z8 G1.t7 P8]) (ad:=⟨Q1,0,none⟩) f (al (N4.ownCell 0 rfl) 0 rfl)) (Y11 (v:=bO true) f) ?_))
   cases sI F1
   exact⟨_,rfl,V2,J2,(N4.dropN 1),⟨[S G1.1,bO G1.2.1,iB G1.2.2.1,bO G1.t3.1,iL G1.t4.1,S G1.t5.1,sL Z7 G1.t6.1 P7,sL Z8 G1.t7 P8],rfl,(TE0.shut B9 B10)⟩⟩
  ·refine iq (aH (RR (Y f 1 λ_ f=>Ys [S [],bO false,iB 0,bO false,iL 0,S [],Sn,Sn] #[S [],bO false,iB 0,bO false,iL 0,S [],Sn,Sn] f N5 rfl rfl λW7 N6 _ f=>Ye f 1 λ_ f=>wp_ret (dB f rfl (Y10 (cs:=[S [],bO false,iB 0,bO false,iL 0,S [],Sn,Sn]) (ad:=⟨Q1,0,none⟩) f (al (N6.ownCell 0 rfl) 0 rfl)) (Y11 (v:=bO false) f) ?_))))
   cases sI F1
   exact⟨_,rfl,V3,J3,(N6.dropN 1),⟨[S [],bO false,iB 0,bO false,iL 0,S [],Sn,Sn],rfl,(TE0.shut Sli.nil Sli.nil)⟩⟩
def dL (n:Nat) (d1:List TE0) (K1:Int):Option (Lp Int (Sum Unit Unit)):=
    bif(decide (K1<((d1.length:Nat):Int))) then
     ((aR d1 K1).bind λX3=>
     bif X3.az then
      (some (.br (.inl ())))
     else
      aZ (inR .i64 (K1+1))<|
      some (.nx (K1+1)))
    else
     some (.br (.inr ()))
def cZ (n:Nat) (d1:List TE0) (d2:List TE0) (X4:List TH0×Int) (K2:Int×Int):Option (Lp (Int×Int) (Sum Unit Int)):=
    bif(decide (K2.2<((X4.1.length:Nat):Int))) then
     ((aR X4.1 K2.2).bind λX5=>
     (kk n d1 X5.aB).bind λX6=>
     (aR X4.1 K2.2).bind λX7=>
     (kk n d2 X7.aB).bind λX8=>
     ((bif(X6.2==X8.2) then
      (bif !X6.2 then
       (some ((true)))
      else
       bif !X8.1.az then
        ((gP n (⟨X6.1.fV.ab,(X6.1.fV.ak),X6.1.fV.an,X6.1.fV.ah,X6.1.fV.ac,X6.1.fV.ae⟩:TF0) (⟨X8.1.fV.ab,(X8.1.fV.ak),X8.1.fV.an,X8.1.fV.ah,X8.1.fV.ac,X8.1.fV.ae⟩:TF0)).bind λX9=>
        some ((X9)))
       else
        some ((false)))
       else
        some ((false)):Option Bool)).bind λG3=>
     bif G3 then
      (aZ (inR .i64 (K2.2+1))<|
      some (.nx (K2.1,K2.2+1)))
     else
      (aR X4.1 K2.2).bind λX10=>
      bif X10.bc then
       (some (.br (.inl ())))
      else
       aZ (inR .i64 (K2.2+1))<|
       some (.nx ((2:Int),K2.2+1)))
    else
     some (.br (.inr K2.1))
def iS (n:Nat) (d0:Bs) (d1:List TE0) (d2:List TE0):Option (Int×Int):=
 (dp n d0 d1).bind λX1=>
 bif(!(decide (X1=0))) then
  (some (((0:Int),X1)))
 else
  (dp n d0 d2).bind λX2=>
  bif(!(decide (X2=0))) then
   (some (((0:Int),X2)))
  else
   (aN (dL n d1) n (0:Int)).bind λQ1=>
   (match Q1 with
   |.inl G1=>some (((0:Int),(91:Int)))
   |.inr G2=>(gQ n d0).bind λX4=>
    (aN (cZ n d1 d2 X4) n ((0:Int),(0:Int))).bind λQ2=>
    (match Q2 with
    |.inl G4=>some (((3:Int),(0:Int)))
    |.inr G5=>some ((G5,(0:Int)))))
set_option maxRecDepth 20000 in
theorem qy (n:Nat) (M:Mem) (hG:GL M) (d0:Bs) (A1:Oa) (cap1:Nat) (d1:List TE0) (h1:Sli M 8 aY A1 cap1 d1) (A2:Oa) (cap2:Nat) (d2:List TE0) (h2:Sli M 8 aY A2 cap2 d2) (r:Int×Int) (hF:iS n d0 d1 d2=some r):Ok Tryz.prog M 52 [S d0,sL A1 d1 cap1,sL A2 d2 cap2] (λ_ v=>v=.tuple #[iB r.1,iL r.2]):=by
 unfold iS at hF
 intro M1 hM0 w0 H w p0
 replace hG:=GL.mono hM0 hG
 replace h1:=h1.mono hM0
 replace h2:=h2.mono hM0
 refine Re 97 Tryz.func52 rfl λa0 f0=>RR (Ye f0 2 λ_ f=>RR (Y f 2 λ_ f=>?_))
 obtain⟨X1,S1,F1⟩:=bS hF
 refine Y18 f p0 (eC n _ hG d0 A1 cap1 d1 h1 X1 S1) λW1 N1 _ f=>Ye f 1 λ_ f=>ag (RR (Ye f 2 λ_ f=>RcF f F1 (λB1 F2=>?_) λB1 F3=>?_))
 ·have U1: ¬ (X1=0):=(av dI).1 B1
  refine RR (Ye f 3 λ_ f=>wp_ret (aS (bJ f rfl (Lk 6 (iB 0)) (Lk 7 (iL X1)) ?_)))
  cases sI F2
  exact⟨_,rfl,M1,(mR _),N1,rfl⟩
 ·have U2: ¬ (¬ (X1=0)):=ap (av dI) B1
  refine St (RR (Y f 2 λ_ f=>?_))
  obtain⟨X2,S2,F4⟩:=bS F3
  refine Y18 f N1 (eC n _ hG d0 A2 cap2 d2 h2 X2 S2) λW2 N2 _ f=>Ye f 1 λ_ f=>ag (RR (Ye f 2 λ_ f=>RcF f F4 (λB2 F5=>?_) λB2 F6=>?_))
  ·have U3: ¬ (X2=0):=(av dI).1 B2
   refine RR (Ye f 3 λ_ f=>wp_ret (aS (bJ f rfl (Lk 6 (iB 0)) (Lk 7 (iL X2)) ?_)))
   cases sI F5
   exact⟨_,rfl,M1,(mR _),N2,rfl⟩
  ·have U4: ¬ (¬ (X2=0)):=ap (av dI) B2
   refine St (ag (RR (Ye f 1 λ_ f=>wp_block ?_)))
   obtain⟨Q1,bH,F7⟩:=bS F6
   refine wp_mono (Q:=λe a w=>(e=.ret∧(∃G1:Unit,Q1=.inl G1∧∃V2:Mem,M1.le V2∧Frm 97 [(6,iB 0),(7,iL 91)] a∧Hp w0 V2 (H) w))∨(e=.exit 0∧(∃G2:Unit,Q1=.inr G2∧∃V3:Mem,M1.le V3∧Frm 97 [(0,S d0),(1,sL A1 d1 cap1),(2,sL A2 d2 cap2)] a∧Hp w0 V3 (H) w))) (bu (n:=97) (w0:=w0) (M:=M1) (λ (I1,K1)=>[(0,S d0),(1,sL A1 d1 cap1),(2,sL A2 d2 cap2),(9,iL K1)]) (λ (I1,K1)=>(H)) (λ (I1,K1) MM=>aN (dL n d1) I1 K1=some Q1) (λ (I1,K1)=>I1) (n,(0:Int)) (f.kp) N2 bH ?_) ?_
   ·rintro⟨I1,K1⟩ V1 _ W3 J1 dc f N3
    have bI:=dc
    obtain⟨I2,jP,rfl,be,T1⟩:=aT bI
    unfold dL at be
    refine ag (RR (Ye f 4 λ_ f=>RcF f be (λB3 F8=>?_) λB3 F13=>?_))
    ·have U5:=dI.1 B3
     refine St (ag (wp_block (RR (Y f 2 λ_ f=>?_))))
     obtain⟨X3,S3,F9⟩:=bS F8
     obtain⟨C1,cP,dS,-,D1,R1⟩:=Sli.at_ (h1.mono J1) S3
     obtain⟨Z1,P1,Z2,P2,rfl,B4,B5⟩:=TE0.opn D1
     refine Z f (Y34 dS rfl (len:=d1.length) (cap:=cap1) (k:=.i64) (i:=K1) (e:=75) (sz:=8) (aF S3) (aE S3)) λ_ f=>Y f 1 λ_ f=>Y15 f N3 R1 1 rfl λ_ f=>eT (RcF f F9 (λB6 F10=>?_) λB6 F11=>?_)
     ·refine RR (Ye f 2 λ_ f=>wp_ret (bV (aS (aS ?_))))
      cases sI F10
      exact .inl ⟨rfl,(),(sI T1).symm,V1,J1,f.kp,N3⟩
     ·refine wp_skip (cG (aH (aI (Y f 1 λ_ f=>?_))))
      obtain⟨O1,F12⟩:=nS F11
      refine Y f 1 λ_ f=>?_
      have f:=f.st 35 (iW O1)
      refine Ye f 1 λ_ f=>?_
      cases sI F12
      exact⟨⟨I2,K1+1⟩,Nat.lt_succ_self _,V1,J1,T1,f.kp,N3⟩
    ·have U8:=ap dI B3
     refine wp_exit (co (co ?_))
     cases sI F13
     exact .inr ⟨rfl,(),(sI T1).symm,V1,J1,f.kp,N3⟩
   ·rintro _ _ W6 (⟨rfl,G1,rfl,V2,J2,f,N4⟩|⟨rfl,G2,rfl,V3,J3,f,N5⟩)
    ·refine bV (aS (bJ f rfl (Lk 6 (iB 0)) (Lk 7 (iL 91)) ?_))
     cases sI F7
     exact⟨_,rfl,V2,J2,N4,rfl⟩
    ·refine iq (aH (RR (Y f 1 λ_ f=>?_)))
     obtain⟨X4,S4,F14⟩:=bS F7
     refine Y16 f N5 (kI n _ (GL.mono J3 hG) d0 X4 S4) λ_ V4 W7 J4 N6 jO _ f=>?_
     obtain⟨Z3,P3,rfl,B7⟩:=jO
     refine Ye f 5 λ_ f=>RR (Ye f 1 λ_ f=>ag (RR (Ye f 1 λ_ f=>wp_block ?_)))
     obtain⟨Q2,sf,F15⟩:=bS F14
     refine wp_mono (Q:=λe a w=>(e=.ret∧(∃G4:Unit,Q2=.inl G4∧∃V9:Mem,V4.le V9∧Frm 97 [(6,iB 3),(7,iL 0)] a∧Hp w0 V9 (H) w))∨(e=.exit 2∧(∃G5:Int,Q2=.inr G5∧∃V10:Mem,V4.le V10∧Frm 97 [(12,iB G5)] a∧Hp w0 V10 (H) w))) (bu (n:=97) (w0:=w0) (M:=V4) (λ (I3,K2)=>[(1,sL A1 d1 cap1),(2,sL A2 d2 cap2),(10,sL Z3 X4.1 P3),(12,iB K2.1),(13,iL K2.2)]) (λ (I3,K2)=>(H)) (λ (I3,K2) MM=>aN (cZ n d1 d2 X4) I3 K2=some Q2) (λ (I3,K2)=>I3) (n,((0:Int),(0:Int))) (f.kp) N6 sf ?_) ?_
     ·rintro⟨I3,K2⟩ V5 _ W8 J5 I_2 f N7
      have sg:=I_2
      obtain⟨I4,r_2,rfl,nj,T2⟩:=aT sg
      unfold cZ at nj
      refine ag (RR (Ye f 4 λ_ f=>RcF f nj (λB8 F16=>?_) λB8 F36=>?_))
      ·have U9:=dI.1 B8
       refine St (ag (wp_block (RR (Y f 3 λ_ f=>?_))))
       obtain⟨X5,S5,F17⟩:=bS F16
       obtain⟨C2,jX,lp,-,D2,R2⟩:=Sli.at_ (B7.mono J5) S5
       obtain rfl:=TH0.opn D2
       refine Z f (Y34 lp rfl (len:=X4.1.length) (cap:=P3) (k:=.i64) (i:=K2.2) (e:=111) (sz:=3) (aF S5) (aE S5)) λ_ f=>Y f 1 λ_ f=>Y15 f N7 R2 0 rfl λ_ f=>?_
       obtain⟨X6,S6,F18⟩:=bS F17
       refine Y16 f N7 (pa n _ (GL.mono ((J3.trans J4).trans J5) hG) A1 cap1 d1 (h1.mono ((J3.trans J4).trans J5)) X5.aB X6 S6) λ_ V6 W9 J6 N8 sj _ f=>?_
       obtain⟨c_3,rfl,D3⟩:=sj
       obtain⟨Z4,P4,Z5,P5,rfl,B9,B10⟩:=TE0.opn D3
       refine Y f 3 λ_ f=>Y12 f N8 (.cells #[S [],bO false,iB 0,bO false,iL 0,S [],Sn,Sn] 75 (0,0)) λQ3 W10 N9 _ f=>Ys (lTE0 X6.1 Z4 P4 Z5 P5) (aTE0 X6.1 Z4 P4 Z5 P5) f N9 rfl rfl λW11 N10 _ f=>Ye f 1 λ_ f=>RR (Y f 3 λ_ f=>?_)
       obtain⟨X7,S7,F19⟩:=bS F18
       obtain⟨C3,c_4,sh,-,D4,R3⟩:=Sli.at_ (B7.mono (J5.trans J6)) S7
       obtain rfl:=TH0.opn D4
       refine Z f (Y34 sh rfl (len:=X4.1.length) (cap:=P3) (k:=.i64) (i:=K2.2) (e:=111) (sz:=3) (aF S7) (aE S7)) λ_ f=>Y f 1 λ_ f=>Y15 f N10 R3 0 rfl λ_ f=>?_
       obtain⟨X8,S8,F20⟩:=bS F19
       refine Y16 f N10 (pa n _ (GL.mono (((J3.trans J4).trans J5).trans J6) hG) A2 cap2 d2 (h2.mono (((J3.trans J4).trans J5).trans J6)) X7.aB X8 S8) λ_ V7 W12 J7 N11 q_3 _ f=>?_
       obtain⟨c_5,rfl,D5⟩:=q_3
       obtain⟨Z6,P6,Z7,P7,rfl,B11,B12⟩:=TE0.opn D5
       refine Y f 3 λ_ f=>Y12 f N11 (.cells #[S [],bO false,iB 0,bO false,iL 0,S [],Sn,Sn] 75 (0,0)) λQ4 W13 N12 _ f=>Ys (lTE0 X8.1 Z6 P6 Z7 P7) (aTE0 X8.1 Z6 P6 Z7 P7) f N12 rfl rfl λW14 N13 _ f=>Ye f 1 λ_ f=>ag (ag ?_)
       obtain⟨cX,bX,F21⟩:=bS F20
       refine bj (λa_65 W16=>∃G3:Bool,cX=G3∧∃V8:Mem,V7.le V8∧Frm 97 [(1,sL A1 d1 cap1),(2,sL A2 d2 cap2),(10,sL Z3 X4.1 P3),(12,iB K2.1),(13,iL K2.2),(90,bO G3)] a_65∧Hp w0 V8 ((Ent.obj Q4 (.cells (aTE0 X8.1 Z6 P6 Z7 P7) 75 (0,0)))::(Ent.obj Q3 (.cells (aTE0 X6.1 Z4 P4 Z5 P5) 75 (0,0)))::H) W16) ?_ ?_
       ·refine aI (Y f 4 λ_ f=>?_)
        rcases cE bX with⟨B13,F22⟩|⟨B13,F28⟩
        ·have f:=f.st 75 (cB B13)
         refine Y f 3 λ_ f=>?_
         rcases cE F22 with⟨B14,F23⟩|⟨B14,F24⟩
         ·have U11: (X6.2)=false:=by simpa using B14
          have f:=f.st 78 (cB B14)
          refine Ye f 12 λ_ f=>?_
          exact⟨(true),(sI F23).symm,V7,(mR _),f.kp,N13⟩
         ·have U12: (X6.2)=true:=by simpa using B14
          have f:=f.st 78 (cB B14)
          refine Y f 1 λ_ f=>Z f (Y35 (v:=bO X8.1.az) rfl (ad:=⟨Q4,1,none⟩) (N13.ownCell 0 rfl 1)) λ_ f=>Y f 2 λ_ f=>?_
          rcases cE F24 with⟨B15,F25⟩|⟨B15,F27⟩
          ·have U13: (X8.1.az)=false:=by simpa using B15
           have f:=f.st 82 (cB B15)
           refine Y f 1 λ_ f=>Z f (Y36 (cs:=(lTF0 X6.1.fV Z4 P4 Z5 P5)) rfl (ad:=⟨Q3,2,none⟩) (al (N13.ownCell 1 rfl) 2 rfl)) λ_ f=>Y f 1 λ_ f=>Z f (Y36 (cs:=(lTF0 X8.1.fV Z6 P6 Z7 P7)) rfl (ad:=⟨Q4,2,none⟩) (al (N13.ownCell 0 rfl) 2 rfl)) λ_ f=>?_
           obtain⟨X9,S9,F26⟩:=bS F25
           refine Y18 f N13 (mN n _ _ (⟨X6.1.fV.ab,(X6.1.fV.ak),X6.1.fV.an,X6.1.fV.ah,X6.1.fV.ac,X6.1.fV.ae⟩:TF0) (TF0.shut (B9.mono J7) (B10.mono J7)) _ (⟨X8.1.fV.ab,(X8.1.fV.ak),X8.1.fV.an,X8.1.fV.ah,X8.1.fV.ac,X8.1.fV.ae⟩:TF0) (TF0.shut B11 B12) X9 S9) λW15 N14 _ f=>Ye f 3 λ_ f=>?_
           exact⟨(X9),(sI F26).symm,V7,(mR _),f.kp,N14⟩
          ·have U14: (X8.1.az)=true:=by simpa using B15
           have f:=f.st 82 (cB B15)
           refine Ye f 8 λ_ f=>?_
           exact⟨(false),(sI F27).symm,V7,(mR _),f.kp,N13⟩
        ·have f:=f.st 75 (cB B13)
         refine Ye f 15 λ_ f=>?_
         exact⟨(false),(sI F28).symm,V7,(mR _),f.kp,N13⟩
       ·rintro a_65 W16 ⟨G3,dg,V8,J8,f,N15⟩
        subst cX
        refine aH (RcF f F21 (λB16 F29=>?_) λB16 F31=>?_)
        ·refine wp_exit (co (iq (aH (aI (Y f 1 λ_ f=>?_)))))
         obtain⟨O2,F30⟩:=nS F29
         refine Y f 1 λ_ f=>?_
         have f:=f.st 51 (iW O2)
         refine Ye f 1 λ_ f=>?_
         cases sI F30
         exact⟨⟨I4,(K2.1,K2.2+1)⟩,Nat.lt_succ_self _,V8,(((J5.trans J6).trans J7).trans J8),T2,f.kp,(N15.dropN 2)⟩
        ·refine St (ag (RR (Y f 2 λ_ f=>?_)))
         obtain⟨X10,S10,F32⟩:=bS F31
         obtain⟨C4,c_6,qG,-,D6,R4⟩:=Sli.at_ (B7.mono (((J5.trans J6).trans J7).trans J8)) S10
         obtain rfl:=TH0.opn D6
         refine Z f (Y34 qG rfl (len:=X4.1.length) (cap:=P3) (k:=.i64) (i:=K2.2) (e:=111) (sz:=3) (aF S10) (aE S10)) λ_ f=>Y f 1 λ_ f=>Y15 f N15 R4 2 rfl λ_ f=>eT (RcF f F32 (λB17 F33=>?_) λB17 F34=>?_)
         ·refine RR (Ye f 2 λ_ f=>wp_ret (aS (bV (aS (aS ?_)))))
          cases sI F33
          exact .inl ⟨rfl,(),(sI T2).symm,V8,(((J5.trans J6).trans J7).trans J8),f.kp,(N15.dropN 2)⟩
         ·refine St (aI (Y f 1 λ_ f=>aA rfl (cG (aH (aI (Y f 1 λ_ f=>?_))))))
          obtain⟨O3,F35⟩:=nS F34
          refine Y f 1 λ_ f=>?_
          have f:=f.st 51 (iW O3)
          refine Ye f 1 λ_ f=>?_
          cases sI F35
          exact⟨⟨I4,((2:Int),K2.2+1)⟩,Nat.lt_succ_self _,V8,(((J5.trans J6).trans J7).trans J8),T2,f.kp,(N15.dropN 2)⟩
      ·have U20:=ap dI B8
       refine wp_exit (co (co ?_))
       cases sI F36
       exact .inr ⟨rfl,K2.1,(sI T2).symm,V5,J5,f.kp,N7⟩
     ·rintro _ _ W19 (⟨rfl,G4,rfl,V9,J9,f,N16⟩|⟨rfl,G5,rfl,V10,J10,f,N17⟩)
      ·refine bV (aS (bJ f rfl (Lk 6 (iB 3)) (Lk 7 (iL 0)) ?_))
       cases sI F15
       exact⟨_,rfl,V9,((J3.trans J4).trans J9),N16,rfl⟩
      ·refine iq (aH (RR (Ye f 3 λ_ f=>wp_ret (bJ f rfl (Lk 6 (iB G5)) (Lk 7 (iL 0)) ?_))))
       cases sI F15
       exact⟨_,rfl,V10,((J3.trans J4).trans J10),N17,rfl⟩
def namesS (kind:Bs):List Bs:=bif decide (kDisk=kind) then [[75,105,110,100],[83,105,122,101],[84,97,103,115]] else bif decide (kNet=kind) then [[76,97,98,101,108],[82,97,110,103,101]] else bif decide (kNode=kind) then [[67,111,117,110,116],[68,105,115,107],[73,109,97,103,101],[78,101,116]] else bif decide (kRule=kind) then [[78,111,100,101],[80,111,114,116]] else []
theorem range_getD {α:Type} (d:α) (l:List α): (List.range l.length).map (λk=>l.getD k d)=l:=by
 apply List.ext_getElem (by simp)
 intro i h1 h2
 simp[List.getD,h2]
theorem rP {α β:Type} (d:α) (h:α→Option β) (l:List α): (List.range l.length).findSome? (λk=>h (l.getD k d))=l.findSome? h:=by
 conv=>rhs;rw[←range_getD d l]
 rw[List.findSome?_map]
 rfl
theorem lX {α β:Type} (q:α→Bool) (g:α→β): ∀l:List α,l.findSome? (λx=>if q x=true then some (g x) else none)=(l.find? q).map g
 |[]=>rfl
 |x::l=>by
  rw[List.findSome?_cons,List.find?_cons]
  cases h:q x with
  |true=>simp
  |false=>simpa using lX q g l
theorem mO {α β:Type} (d:α) (q:α→Bool) (g:α→β) (l:List α): (List.range l.length).findSome? (λk=>if q (l.getD k d)=true then some (g (l.getD k d)) else none)=(l.find? q).map g:=by
 rw[←lX,←rP d]
theorem lY (kind:Bs):kind=kDisk∨kind=kNet∨kind=kNode∨kind=kRule∨(kDisk≠kind∧kNet≠kind∧kNode≠kind∧kRule≠kind):=by
 by_cases h1:kind=kDisk
 ·exact .inl h1
 by_cases h2:kind=kNet
 ·exact .inr (.inl h2)
 by_cases h3:kind=kNode
 ·exact .inr (.inr (.inl h3))
 by_cases h4:kind=kRule
 ·exact .inr (.inr (.inr (.inl h4)))
 exact .inr (.inr (.inr (.inr ⟨λe=>h1 e.symm,λe=>h2 e.symm,λe=>h3 e.symm,λe=>h4 e.symm⟩)))
def specsL (kind:Bs):List TH0:=(namesS kind).map λx=>specOf kind x
theorem nA {kind:Bs} (h:kDisk≠kind∧kNet≠kind∧kNode≠kind∧kRule≠kind):kindIn kind=false∧propsD kind=[]∧specsL kind=[]:=by
 obtain⟨h1,h2,h3,h4⟩:=h
 unfold kindIn propsD specsL namesS
 rw[dF h1,dF h2,dF h3,dF h4]
 exact⟨rfl,rfl,rfl⟩
theorem pN {n:Nat} (kind:Bs):gQ n kind=some (specsL kind,bif kindIn kind then 0 else 90):=by
 rcases lY kind with rfl|rfl|rfl|rfl|h
 ·rfl
 ·rfl
 ·rfl
 ·rfl
 ·obtain⟨e1,e2,e3⟩:=nA h
  obtain⟨h1,h2,h3,h4⟩:=h
  rw[e1,e3]
  unfold gQ
  rw[dF λe=>h1 e.symm,dF λe=>h2 e.symm,dF λe=>h3 e.symm,dF λe=>h4 e.symm]
  rfl
theorem names_few (kind:Bs): (namesS kind).length≤4:=by
 unfold namesS
 cases decide (kDisk=kind)<;>cases decide (kNet=kind)<;>cases decide (kNode=kind)<;>cases decide (kRule=kind)<;>decide
theorem tl (kind:Bs): (specsL kind).length≤4:=by unfold specsL;rw[List.length_map];exact names_few kind
theorem tm (kind prop:Bs): (specsL kind).find? (λs=>decide (s.aB=prop))=bG kind prop:=by
 rcases lY kind with rfl|rfl|rfl|rfl|h
 ·have e:specsL kDisk=[⟨[75,105,110,100],3,true⟩,⟨[83,105,122,101],2,false⟩,⟨[84,97,103,115],4,false⟩]:=rfl
  rw[e];unfold bG
  have e2:propsD kDisk=dDisk:=rfl
  rw[e2];unfold dDisk
  simp only[List.find?_cons,List.find?_nil,aG]
  by_cases h1: ([75,105,110,100]:Bs)=prop
  ·subst h1;rfl
  by_cases h2: ([83,105,122,101]:Bs)=prop
  ·subst h2;rfl
  by_cases h3: ([84,97,103,115]:Bs)=prop
  ·subst h3;rfl
  simp[h1,h2,h3]
 ·have e:specsL kNet=[⟨[76,97,98,101,108],3,false⟩,⟨[82,97,110,103,101],3,true⟩]:=rfl
  rw[e];unfold bG
  have e2:propsD kNet=dNet:=rfl
  rw[e2];unfold dNet
  simp only[List.find?_cons,List.find?_nil,aG]
  by_cases h1: ([76,97,98,101,108]:Bs)=prop
  ·subst h1;rfl
  by_cases h2: ([82,97,110,103,101]:Bs)=prop
  ·subst h2;rfl
  simp[h1,h2]
 ·have e:specsL kNode=[⟨[67,111,117,110,116],2,false⟩,⟨[68,105,115,107],3,false⟩,⟨[73,109,97,103,101],3,true⟩,⟨[78,101,116],3,true⟩]:=rfl
  rw[e];unfold bG
  have e2:propsD kNode=dNode:=rfl
  rw[e2];unfold dNode
  simp only[List.find?_cons,List.find?_nil,aG]
  by_cases h1: ([67,111,117,110,116]:Bs)=prop
  ·subst h1;rfl
  by_cases h2: ([68,105,115,107]:Bs)=prop
  ·subst h2;rfl
  by_cases h3: ([73,109,97,103,101]:Bs)=prop
  ·subst h3;rfl
  by_cases h4: ([78,101,116]:Bs)=prop
  ·subst h4;rfl
  simp[h1,h2,h3,h4]
 ·have e:specsL kRule=[⟨[78,111,100,101],3,false⟩,⟨[80,111,114,116],2,true⟩]:=rfl
  rw[e];unfold bG
  have e2:propsD kRule=dRule:=rfl
  rw[e2];unfold dRule
  simp only[List.find?_cons,List.find?_nil,aG]
  by_cases h1: ([78,111,100,101]:Bs)=prop
  ·subst h1;rfl
  by_cases h2: ([80,111,114,116]:Bs)=prop
  ·subst h2;rfl
  simp[h1,h2]
 ·obtain⟨e1,e2,e3⟩:=nA h
  unfold bG
  rw[e2,e3];rfl
theorem Find_ref {n:Nat} (hn:6000<n) (kind prop:Bs):kJ n kind prop=some (specOf kind prop,(bG kind prop).isSome):=by
 unfold kJ
 rw[pN,bnd]
 have hf:=tl kind
 have:=lv (n:=n) (step:=gm n prop (specsL kind,bif kindIn kind then 0 else 90)) (λk=>((k:Int),([]:Bs),(0:Int),false))
  (λk=>if decide (((specsL kind).getD k cd).aB=prop)=true then some (.inl (((specsL kind).getD k cd).aB,((specsL kind).getD k cd).ab,((specsL kind).getD k cd).bc)) else none) (specsL kind).length (.inr ([],0,false)) (λk hk=>by
  unfold gm
  dsimp only
  rw[dT (by omega),cT,bf cd hk,bnd,bnd,aU (by omega) (by omega)]
  by_cases hp: ((specsL kind).getD k cd).aB=prop
  ·rw[dT hp,cT,if_pos rfl]
  ·rw[dF hp,cF,if_neg (by decide)];rfl) (by
  unfold gm
  dsimp only
  rw[dF (by omega),cF]) (by omega)
 have e0: (((0:Nat):Int),([]:Bs),(0:Int),false)=((0:Int),([]:Bs),(0:Int),false):=rfl
 rw[e0] at this
 have e:=mO cd (λs=>decide (s.aB=prop)) (λs=>(Sum.inl (s.aB,s.ab,s.bc):Sum (Bs×Int×Bool) (Bs×Int×Bool))) (specsL kind)
 rw[this,bnd,e,tm]
 unfold specOf
 cases bG kind prop with
 |none=>rfl
 |some s=>rfl
theorem word_ref {n:Nat} (hn:6000<n) {t:Bs}:jk n t=some (wordV t):=by
 unfold jk wordV
 by_cases h: (t.length:Int)≤64
 ·rw[dT h,cT,cT,pC (by omega) (by omega) (by omega),bnd]
 ·rw[dF h,cF,cF]
theorem tn {v:TF0} (h:checkV v=0):OkV v:=(ki h).1
theorem check_part {v x:TF0} (hx:x∈v.ac) (h:checkV v=0):checkV x=0:=by
 obtain⟨hok,h1,h2⟩:=ki h
 have h3:depthV x≤depthV v:=by
  have:=mK hx
  rw[nu v];omega
 have h4: (cb x).length≤(cb v).length:=by
  have:=kw hx
  rw[eh v,List.length_cons];omega
 have h5:faultL (cb x)=0:=hok.part hx
 unfold checkV
 rw[if_neg (by omega),if_pos h5,if_neg (by omega)]
theorem value_ref {n:Nat} (hn:6000<n) {v:TF0} (h:Fine v) {k:Int} (hk:k=2∨k=3∨k=4):jE n v k=some (valueV v k):=by
 unfold jE valueV fitV
 by_cases h1:v.ab=k
 ·rw[dT h1,nT,cF,cF,pG hn h,bnd]
  by_cases hc:checkV v=0
  ·rw[dT hc,nT,bnd,cF,cT]
   by_cases h3:k=3
   ·rw[dT h3,cT,cT,word_ref hn,bnd]
   ·rw[dF h3,cF,cF]
    have hw:=h.wide
    have hlen:=hw.1
    by_cases h4:k=4
    ·rw[dT h4,cT,cT,bnd]
     by_cases h8: ((v.ac.length:Nat):Int)≤8
     ·rw[dT h8,cT,dF (by omega),cF]
      have:=jv (n:=n) (step:=cV n v) (λi=> !wordy (v.ac.getD i jU)) v.ac.length (.inl ()) (.inr ()) (λi hi=>by
       unfold cV wordy fitV
       have hm:v.ac.getD i jU∈v.ac:=by simp[List.getD,hi]
       rw[dT (by omega),cT,bf jU hi,bnd,dT (check_part hm hc)]
       by_cases hk3: (v.ac.getD i jU).ab=3
       ·rw[dT hk3,nT,cF,cF,cT,bnd,word_ref hn,bnd,aU (by omega) (by omega)]
        cases wordV (v.ac.getD i jU).ah<;>rfl
       ·rw[dF hk3,nF,cT,cT,cF];rfl) (by
       unfold cV
       rw[dF (by omega),cF]) (by omega)
      rw[this,bnd,nr jU (λx=> !wordy x)]
      cases v.ac.any (λx=> !wordy x)<;>rfl
     ·rw[dF h8,cF,dT (by omega),cT]
    ·rw[dF h4,cF,cF,bnd,cF]
     have h2:v.ab=2:=by omega
     have hp:=(tn hc).plain
     have hl0:v.ac=[]:=by
      obtain⟨_,_,_,_,_,h6,_⟩:=hp
      cases hl:v.ac with
      |nil=>rfl
      |cons x r=>
       have:=h6 (by rw[hl];simp)
       omega
     have:aN (cV n v) n 0=some (.inr ()):=by
      obtain⟨m,rfl⟩: ∃m,n=m+1:=⟨n-1,by omega⟩
      unfold aN cV
      rw[hl0,dF (by simp),cF,bnd]
     rw[this,bnd]
  ·rw[dF hc,nF,bnd,cT,cF]
 ·rw[dF h1,nF,cT,cT,bnd,cT,cF]
theorem empty_iff {v:TF0}:emptyV v=true↔v=jU:=by
 unfold emptyV
 constructor
 ·intro h
  by_cases h0:v.ab=0
  ·rw[dT h0,cT] at h
   have hp:=(tn (of_decide_eq_true h)).plain
   obtain⟨_,_,p1,p2,p3,p4,p5,p6⟩:=hp
   obtain⟨k,b,m,t,l,ks⟩:=v
   dsimp only at h0 p1 p2 p3 p4 p5 p6
   have e1:b=false:=by
    cases b with
    |false=>rfl
    |true=>have:=p1 rfl;omega
   have e2:m=0:=by
    by_cases e:m=0
    ·exact e
    ·have:=p2 e;omega
   have e3:t=[]:=by
    by_cases e:t=[]
    ·exact e
    ·have:=p3 e;omega
   have e4:l=[]:=by
    by_cases e:l.length=0
    ·exact List.length_eq_zero_iff.1 e
    ·have:=p4 e;omega
   have e5:ks=[]:=List.length_eq_zero_iff.1 (p6 (by omega))
   subst h0;subst e1;subst e2;subst e3;subst e4;subst e5
   rfl
  ·rw[dF h0,cF] at h;cases h
 ·intro h
  subst h
  decide+kernel
theorem same_val {n:Nat} (hn:6000<n) {v:TF0} (h:Fine v) (w:TF0):kz n v w=some (decide (v=w)):=by
 obtain⟨b,h1,h2⟩:=Same_run hn (d:=60) (by omega) v w h.small
 rw[h1]
 congr 1
 rw[Bool.eq_iff_iff,h2,decide_eq_true_iff]
theorem spec_kind {kind prop:Bs} (h: (bG kind prop).isSome=true): (specOf kind prop).ab=2∨(specOf kind prop).ab=3∨(specOf kind prop).ab=4:=by
 obtain⟨s,hs⟩:=Option.isSome_iff_exists.1 h
 unfold specOf
 rw[hs,Option.getD_some]
 rw[←tm] at hs
 have hm:=List.mem_of_find?_eq_some hs
 rcases lY kind with rfl|rfl|rfl|rfl|hn
 ·have e:specsL kDisk=[⟨[75,105,110,100],3,true⟩,⟨[83,105,122,101],2,false⟩,⟨[84,97,103,115],4,false⟩]:=rfl
  rw[e] at hm
  simp only[List.mem_cons,List.not_mem_nil,or_false] at hm
  rcases hm with rfl|rfl|rfl<;>simp
 ·have e:specsL kNet=[⟨[76,97,98,101,108],3,false⟩,⟨[82,97,110,103,101],3,true⟩]:=rfl
  rw[e] at hm
  simp only[List.mem_cons,List.not_mem_nil,or_false] at hm
  rcases hm with rfl|rfl<;>simp
 ·have e:specsL kNode=[⟨[67,111,117,110,116],2,false⟩,⟨[68,105,115,107],3,false⟩,⟨[73,109,97,103,101],3,true⟩,⟨[78,101,116],3,true⟩]:=rfl
  rw[e] at hm
  simp only[List.mem_cons,List.not_mem_nil,or_false] at hm
  rcases hm with rfl|rfl|rfl|rfl<;>simp
 ·have e:specsL kRule=[⟨[78,111,100,101],3,false⟩,⟨[80,111,114,116],2,true⟩]:=rfl
  rw[e] at hm
  simp only[List.mem_cons,List.not_mem_nil,or_false] at hm
  rcases hm with rfl|rfl<;>simp
 ·rw[(nA hn).2.2] at hm;cases hm
theorem evG (x:TF0): (⟨x.ab,(x.ak),x.an,x.ah,x.ac,x.ae⟩:TF0)=x:=by cases x;rfl
theorem kl {n:Nat} (hn:6000<n) (kind:Bs) {gs:List TE0} (hl:gs.length≤60) (hf: ∀g∈gs,Fine g.fV):dp n kind gs=some (checkG kind gs):=by
 unfold dp checkG
 rw[pN,bnd]
 dsimp only
 cases kindIn kind with
 |false=>rfl
 |true=>
  rw[nT,cT,dT (rfl: (0:Int)=0),nT,cF,cF]
  have:=jv (n:=n) (step:=eB n kind gs) (λk=> !(okG kind (gs.getD k aC)&&upG gs k)) gs.length (.inl ()) (.inr ()) (λk hk=>by
   unfold eB
   have hm:gs.getD k aC∈gs:=by simp[List.getD,hk]
   rw[dT (by omega),cT,bf aC hk,bnd,Find_ref hn,bnd]
   dsimp only
   have hup: (if decide ((0:Int)<(k:Int))=true then((some (gs.getD k aC)).bind λx_4=>aZ (inR .i64 ((k:Int)-1))<|(aR gs ((k:Int)-1)).bind λx_5=>some ((Op.bytesLess x_4.aB x_5.aB||x_4.aB==x_5.aB))) else some false:Option Bool)=some (!upG gs k):=by
    unfold upG
    by_cases h0:k=0
    ·subst h0;rfl
    ·have hk1:k-1<gs.length:=by omega
     have e1: (k:Int)-1=((k-1:Nat):Int):=by omega
     rw[dT (by omega: (0:Int)<(k:Int)),if_pos rfl,bnd,aU (by omega) (by omega),e1,bf aC hk1,bnd,ti,dF h0,Bool.false_or]
   unfold okG
   cases hs: (bG kind (gs.getD k aC).aB).isSome with
   |false=>rfl
   |true=>
    rw[nT,cF,cond_ite,hup,bnd,Bool.true_and]
    cases hu:upG gs k with
    |false=>rw[nF,cT,Bool.and_false];rfl
    |true=>
     rw[nT,cF,bnd,Bool.and_true]
     unfold fitG
     cases (gs.getD k aC).az with
     |true=>
      rw[cT,cT]
      cases decide ((specOf kind (gs.getD k aC).aB).ab=2) with
      |true=>rfl
      |false=>
       rw[cF,bnd,evG,same_val hn (hf _ hm),bnd,bnd,nF,cT,aU (by omega) (by omega)]
       have e:decide ((gs.getD k aC).fV=jU)=emptyV (gs.getD k aC).fV:=by rw[Bool.eq_iff_iff,decide_eq_true_iff,empty_iff]
       rw[e]
       cases emptyV (gs.getD k aC).fV<;>rfl
     |false=>
      rw[cF,cF,bnd,evG,value_ref hn (hf _ hm) (spec_kind hs),bnd,aU (by omega) (by omega)]
      cases valueV (gs.getD k aC).fV (specOf kind (gs.getD k aC).aB).ab<;>rfl) (by
   unfold eB
   rw[dF (by omega),cF]) (by omega)
  rw[this,bnd]
  cases (List.range gs.length).any (λk=> !(okG kind (gs.getD k aC)&&upG gs k))<;>rfl
theorem Same_ref {n:Nat} (hn:6000<n) {a b:List TE0} (la:a.length≤60) (ha: ∀g∈a,Fine g.fV) (hb: ∀g∈b,Fine g.fV):
 iD n a b=some (decide (a.length=b.length)&& !((List.range a.length).any λk=> !sameG (a.getD k aC) (b.getD k aC))):=by
 unfold iD
 by_cases h:a.length=b.length
 ·have h': ((a.length:Nat):Int)=((b.length:Nat):Int):=by omega
  rw[dT h',nT,cF,dT h,Bool.true_and]
  have:=jv (n:=n) (step:=gn n a b) (λk=> !sameG (a.getD k aC) (b.getD k aC)) a.length (.inl ()) (.inr ()) (λk hk=>by
   unfold gn sameG
   have hm:a.getD k aC∈a:=by simp[List.getD,hk]
   have hm2:b.getD k aC∈b:=by
    have:k<b.length:=by omega
    simp[List.getD,this]
   rw[dT (by omega),cT,bf aC hk,bf aC (by omega:k<b.length)]
   simp only[bnd,evG]
   rw[same_val hn (ha _ hm),tk hn (ha _ hm) (hb _ hm2),aU (by omega) (by omega)]
   simp only[bnd]
   cases decide ((a.getD k aC).aB=(b.getD k aC).aB)<;>cases ((a.getD k aC).az== (b.getD k aC).az)<;>cases eqV (a.getD k aC).fV (b.getD k aC).fV<;>cases decide ((a.getD k aC).fV=(b.getD k aC).fV)<;>rfl) (by
   unfold gn
   rw[dF (by omega),cF]) (by omega)
  rw[this,bnd]
  cases (List.range a.length).any (λk=> !sameG (a.getD k aC) (b.getD k aC))<;>rfl
 ·have h': ¬ ((a.length:Nat):Int)=((b.length:Nat):Int):=by omega
  rw[dF h',nF,cT,dF h,Bool.false_and]
def getG (gs:List TE0) (k:Bs):Option TE0:=gs.find? λg=>decide (g.aB=k)
def zGiven:TE0:=⟨[],false,jU⟩
theorem get_ref {n:Nat} (hn:6000<n) {gs:List TE0} (hl:gs.length≤60) (k:Bs):kk n gs k=some ((getG gs k).getD zGiven,(getG gs k).isSome):=by
 unfold kk
 have:=lv (n:=n) (step:=gZ n gs k) (λi=>((i:Int),([]:Bs),false,(0:Int),false,(0:Int),([]:Bs),([]:List TF0),([]:List Bs)))
  (λi=>if decide ((gs.getD i aC).aB=k)=true then some (.inl ((gs.getD i aC).aB,(gs.getD i aC).az,(gs.getD i aC).fV.ab,(gs.getD i aC).fV.ak,(gs.getD i aC).fV.an,(gs.getD i aC).fV.ah,(gs.getD i aC).fV.ac,(gs.getD i aC).fV.ae)) else none) gs.length (.inr ([],false,0,false,0,[],[],[])) (λi hi=>by
  unfold gZ
  dsimp only
  rw[dT (by omega),cT,bf aC hi,bnd,bnd,aU (by omega) (by omega)]
  by_cases hp: (gs.getD i aC).aB=k
  ·rw[dT hp,cT,if_pos rfl]
  ·rw[dF hp,cF,if_neg (by decide)];rfl) (by
  unfold gZ
  dsimp only
  rw[dF (by omega),cF]) (by omega)
 have e0: (((0:Nat):Int),([]:Bs),false,(0:Int),false,(0:Int),([]:Bs),([]:List TF0),([]:List Bs))=((0:Int),([]:Bs),false,(0:Int),false,(0:Int),([]:Bs),([]:List TF0),([]:List Bs)):=rfl
 rw[e0] at this
 have e:=mO aC (λg=>decide (g.aB=k)) (λg=>(Sum.inl (g.aB,g.az,g.fV.ab,g.fV.ak,g.fV.an,g.fV.ah,g.fV.ac,g.fV.ae):Sum (Bs×Bool×Int×Bool×Int×Bs×List TF0×List Bs) (Bs×Bool×Int×Bool×Int×Bs×List TF0×List Bs))) gs
 rw[this,bnd,e]
 unfold getG
 cases gs.find? λg=>decide (g.aB=k) with
 |none=>rfl
 |some g=>obtain⟨_,_,v⟩:=g;cases v;rfl
theorem find_mem {gs:List TE0} {k:Bs} {g:TE0} (h:getG gs k=some g):g∈gs∧g.aB=k:=by
 unfold getG at h
 exact⟨List.mem_of_find?_eq_some h,by have:=List.find?_some h;simpa using this⟩
theorem get_byN {gs:List TE0} (hd: (gs.map (·.aB)).Nodup) (k:Bs):getG gs k=aG (byN gs) k:=by
 cases h:getG gs k with
 |some g=>
  obtain⟨h1,h2⟩:=find_mem h
  rw[←h2,byN_mem hd h1]
 |none=>
  cases h2:aG (byN gs) k with
  |none=>rfl
  |some g=>
   obtain⟨h3,h4⟩:=kH rfl h2
   unfold getG at h
   rw[List.find?_eq_none] at h
   exact absurd (dT h4) (h g h3)
def pairsS (kind:Bs):List (Bs×TH0):=(specsL kind).map λs=>(s.aB,s)
theorem pairsS_perm (kind:Bs): (propsD kind).Perm (pairsS kind):=by
 rcases lY kind with rfl|rfl|rfl|rfl|h
 ·have e1:propsD kDisk=dDisk:=rfl
  have e2:pairsS kDisk=[([75,105,110,100],⟨[75,105,110,100],3,true⟩),([83,105,122,101],⟨[83,105,122,101],2,false⟩),([84,97,103,115],⟨[84,97,103,115],4,false⟩)]:=rfl
  rw[e1,e2]
  exact of_decide_eq_true (by decide+kernel)
 ·have e1:propsD kNet=dNet:=rfl
  have e2:pairsS kNet=dNet:=rfl
  rw[e1,e2]
 ·have e1:propsD kNode=dNode:=rfl
  have e2:pairsS kNode=dNode:=rfl
  rw[e1,e2]
 ·have e1:propsD kRule=dRule:=rfl
  have e2:pairsS kRule=dRule:=rfl
  rw[e1,e2]
 ·obtain⟨_,e2,e3⟩:=nA h
  unfold pairsS
  rw[e2,e3]
  exact .refl _
theorem any_getD {α:Type} (d:α) (q:α→Bool) (l:List α) (k:Nat) (hk:k<l.length): (l.take (k+1)).any q=((l.take k).any q||q (l.getD k d)):=by
 rw[List.take_add_one,List.getElem?_eq_getElem hk,List.any_append]
 simp[List.getD,hk]
theorem find_any {α β:Type} (d:α) (q:α→Bool) (b:β) (l:List α): (List.range l.length).findSome? (λk=>if q (l.getD k d)=true then some b else none)=bif l.any q then some b else none:=by
 rw[rP d (λx=>if q x=true then some b else none),lX q (λ_=>b)]
 cases h:l.any q with
 |true=>
  obtain⟨x,hx,hq⟩:=List.any_eq_true.1 h
  cases hf:l.find? q with
  |none=>rw[List.find?_eq_none] at hf;exact absurd hq (hf x hx)
  |some y=>rfl
 |false=>
  cases hf:l.find? q with
  |none=>rfl
  |some y=>
   have:=List.any_eq_false.1 h y (List.mem_of_find?_eq_some hf)
   exact absurd (List.find?_some hf) this
theorem differ_loop {n:Nat} (hn:6000<n) {kind:Bs} {z:Int} {a b:List TE0} (la:a.length≤60) (lb:b.length≤60) (ha: ∀g∈a,Fine g.fV) (hb: ∀g∈b,Fine g.fV) (na: (a.map (·.aB)).Nodup) (nb: (b.map (·.aB)).Nodup):
 aN (cZ n a b (specsL kind,z)) n (0,0)=some (bif(pairsS kind).any (λp=> !sameK a b p.1&&p.2.bc) then .inl () else .inr (bif(pairsS kind).any (λp=> !sameK a b p.1) then 2 else 0)):=by
 have hf:=tl kind
 have:=lv (n:=n) (step:=cZ n a b (specsL kind,z)) (λk=>((bif((specsL kind).take k).any (λs=> !sameK a b s.aB) then(2:Int) else 0),(k:Int))) (λk=>if (!sameK a b ((specsL kind).getD k cd).aB&& ((specsL kind).getD k cd).bc)=true then some (Sum.inl ()) else none) (specsL kind).length (.inr (bif(specsL kind).any (λs=> !sameK a b s.aB) then 2 else 0)) (λk hk=>by
  unfold cZ
  dsimp only
  rw[dT (by omega),cT,bf cd hk]
  simp only[bnd]
  rw[get_ref hn la,get_ref hn lb,get_byN na,get_byN nb]
  simp only[bnd]
  rw[aU (by omega) (by omega),any_getD cd _ _ _ hk]
  generalize (specsL kind).getD k cd=s
  have ecast: ((k:Int)+1)=((k+1:Nat):Int):=by omega
  have key: ∀ (R:Bool→Option (Lp (Int×Int) (Sum Unit Int))),((bif((aG (byN a) s.aB).isSome== (aG (byN b) s.aB).isSome) then
   (bif !(aG (byN a) s.aB).isSome then
    (some ((true)))
   else
    bif !((aG (byN b) s.aB).getD zGiven).az then
     ((gP n (⟨((aG (byN a) s.aB).getD zGiven).fV.ab,(((aG (byN a) s.aB).getD zGiven).fV.ak),((aG (byN a) s.aB).getD zGiven).fV.an,((aG (byN a) s.aB).getD zGiven).fV.ah,((aG (byN a) s.aB).getD zGiven).fV.ac,((aG (byN a) s.aB).getD zGiven).fV.ae⟩:TF0) (⟨((aG (byN b) s.aB).getD zGiven).fV.ab,(((aG (byN b) s.aB).getD zGiven).fV.ak),((aG (byN b) s.aB).getD zGiven).fV.an,((aG (byN b) s.aB).getD zGiven).fV.ah,((aG (byN b) s.aB).getD zGiven).fV.ac,((aG (byN b) s.aB).getD zGiven).fV.ae⟩:TF0)).bind λx_9=>
     some ((x_9)))
    else
     some ((false)))
   else
    some ((false)):Option Bool)).bind R=R (sameK a b s.aB):=by
   intro R
   unfold sameK
   cases hx:aG (byN a) s.aB with
   |none=>
    cases hy:aG (byN b) s.aB with
    |none=>rfl
    |some y=>rfl
   |some x=>
    cases hy:aG (byN b) s.aB with
    |none=>rfl
    |some y=>
     have fx:=ha x (kH rfl hx).1
     have fy:=hb y (kH rfl hy).1
     simp only[Option.isSome_some,Option.getD_some,beq_self_eq_true,nT]
     rw[cT,cF,cT,cF,evG,evG,tk hn fx fy]
     simp only[bnd]
     cases y.az<;>rfl
  rw[key]
  cases hsk:sameK a b s.aB with
  |true=>
   rw[cT,nT,Bool.false_and,Bool.or_false,if_neg (by decide),ecast]
  |false=>
   rw[cF,nF,Bool.true_and,Bool.or_true]
   cases s.bc with
   |true=>rw[cT,if_pos rfl]
   |false=>rw[cF,aU (by omega) (by omega),if_neg (by decide),ecast,cT]) (by
  unfold cZ
  dsimp only
  rw[dF (by omega),cF,List.take_length]) (by omega)
 have e0: ((bif((specsL kind).take 0).any (λs=> !sameK a b s.aB) then(2:Int) else 0),((0:Nat):Int))=((0:Int),(0:Int)):=rfl
 rw[e0] at this
 have e:=find_any cd (λs=> !sameK a b s.aB&&s.bc) (Sum.inl ():Sum Unit Int) (specsL kind)
 rw[this,e]
 unfold pairsS
 rw[List.any_map,List.any_map]
 have c1: ((λp:Bs×TH0=> !sameK a b p.1&&p.2.bc) ∘ λs:TH0=>(s.aB,s))=λs=> !sameK a b s.aB&&s.bc:=rfl
 have c2: ((λp:Bs×TH0=> !sameK a b p.1) ∘ λs:TH0=>(s.aB,s))=λs=> !sameK a b s.aB:=rfl
 rw[c1,c2]
 cases (specsL kind).any (λs=> !sameK a b s.aB&&s.bc)<;>rfl
theorem Differ_ref {n:Nat} (hn:6000<n) (kind:Bs) {a b:List TE0} (la:a.length≤60) (lb:b.length≤60) (ha: ∀g∈a,Fine g.fV) (hb: ∀g∈b,Fine g.fV):iS n kind a b=some (differV kind a b):=by
 unfold iS differV
 rw[kl hn kind la ha,bnd]
 by_cases h1:checkG kind a=0
 ·rw[dT h1,nT,cF,cF,kl hn kind lb hb,bnd]
  by_cases h2:checkG kind b=0
  ·rw[dT h2,nT,cF,cF]
   have:=jv (n:=n) (step:=dL n a) (λk=>(a.getD k aC).az) a.length (.inl ()) (.inr ()) (λk hk=>by
    unfold dL
    rw[dT (by omega),cT,bf aC hk,bnd,aU (by omega) (by omega)]
    cases (a.getD k aC).az<;>rfl) (by
    unfold dL
    rw[dF (by omega),cF]) (by omega)
   rw[this,bnd,nr aC (·.az)]
   cases a.any (·.az) with
   |true=>rfl
   |false=>
    rw[cF,cF]
    dsimp only
    rw[pN,bnd,differ_loop hn la lb ha hb (rL (rK h1).2.2) (rL (rK h2).2.2),bnd,tj a b (pairsS_perm kind)]
    unfold endK
    cases (pairsS kind).any (λp=> !sameK a b p.1&&p.2.bc)<;>rfl
  ·rw[dF h2,nF,cT,cT]
 ·rw[dF h1,nF,cT,cT]
end Go.Proofs.YtkhdpnamfndonaaGreatDoor
end
section
namespace Go.Num
def dig (c:UInt8):Bool:=48≤c&&c≤57
def nd:Bs→Nat→Nat
 |[],k=>k
 |c::r,k=>if dig c then nd r (k+1) else k
def vl:Bs→Nat→Nat
 |[],v=>v
 |c::r,v=>if dig c then vl r (10*v+ (c.toNat-48)) else v
def neg (l:Bs):Bool:=decide (l.getD 0 0=45)
def fst (l:Bs):Nat:=if neg l then 1 else 0
def big:Nat:=9007199254740992
def scanL (l:Bs) (at_:Int):Int×Int×Int:=
 let f:=fst l
 let k:=nd (l.drop f) f
 let v:=vl (l.drop f) 0
 if l.getD f 0=48∧f+2≤k then(0,at_+ (f+1),20)
 else if k=f∨l.getD k 0=46∨l.getD k 0=101∨l.getD k 0=69 then(0,at_+k,20)
 else if big<v∨(neg l=true∧v=0) then(0,at_,20)
 else(if neg l then-(v:Int) else v,at_+k,0)
def scan (s:Bs) (at_:Int):Int×Int×Int:=
 if at_<0∨(s.length:Int)<at_ then(0,0,2) else scanL (s.drop at_.toNat) at_
theorem lh (c:UInt8):dig c=true↔48≤c.toNat∧c.toNat≤57:=by
 simp[dig,UInt8.le_iff_toNat_le]
theorem nd_ge: ∀ (l:Bs) (k:Nat),k≤nd l k
 |[],k=>Nat.le_refl _
 |c::r,k=>by
  simp only[nd]
  split
  ·have:=nd_ge r (k+1);omega
  ·exact Nat.le_refl _
theorem nB (l:Bs) (k:Nat) (h:k<l.length):l.drop k=l.getD k 0::l.drop (k+1):=by
 rw[List.drop_eq_getElem_cons h];simp[List.getD,h]
theorem nd_step (l:Bs) (k:Nat) (h:k<l.length) (hd:dig (l.getD k 0)=true):nd (l.drop k) k=nd (l.drop (k+1)) (k+1):=by
 rw[nB l k h];simp only[nd,hd,if_true]
theorem nd_stop (l:Bs) (k:Nat) (hd:dig (l.getD k 0)=false):nd (l.drop k) k=k:=by
 by_cases h:k<l.length
 ·rw[nB l k h];simp only[nd,hd];rfl
 ·rw[List.drop_eq_nil_of_le (by omega)];rfl
theorem vl_step (l:Bs) (k v:Nat) (h:k<l.length) (hd:dig (l.getD k 0)=true):vl (l.drop k) v=vl (l.drop (k+1)) (10*v+ ((l.getD k 0).toNat-48)):=by
 rw[nB l k h];simp only[vl,hd,if_true]
theorem vl_stop (l:Bs) (k v:Nat) (hd:dig (l.getD k 0)=false):vl (l.drop k) v=v:=by
 by_cases h:k<l.length
 ·rw[nB l k h];simp only[vl,hd];rfl
 ·rw[List.drop_eq_nil_of_le (by omega)];rfl
structure ScanI (l:Bs) (k:Nat) (v:Nat):Prop where
 ge:fst l≤k
 le:k≤l.length
 nd:nd (l.drop k) k=nd (l.drop (fst l)) (fst l)
 vl:vl (l.drop k) v=vl (l.drop (fst l)) 0
 zero:fst l+2≤k→l.getD (fst l) 0≠48
 one:fst l+1≤k→dig (l.getD (fst l) 0)=true
theorem fst_le (l:Bs):fst l≤l.length:=by
 unfold fst neg
 split
 ·rename_i h
  cases l with
  |nil=>simp at h
  |cons c r=>simp
 ·omega
theorem ScanI.start (l:Bs):ScanI l (fst l) 0:=⟨Nat.le_refl _,fst_le l,rfl,rfl,λh=>by omega,λh=>by omega⟩
theorem ScanI.step {l:Bs} {k v:Nat} (h:ScanI l k v) (hd:dig (l.getD k 0)=true) (hk:k<l.length) (hz: ¬ (k=fst l+1∧l.getD (fst l) 0=48)):ScanI l (k+1) (10*v+ ((l.getD k 0).toNat-48)):=by
 refine⟨by have:=h.ge;omega,by omega,by rw[←nd_step l k hk hd];exact h.nd,by rw[←vl_step l k v hk hd];exact h.vl,λhge h0=>?_,λhge=>?_⟩
 ·rcases Nat.lt_or_ge k (fst l+2) with hlt|hge2
  ·exact hz ⟨by omega,h0⟩
  ·exact h.zero hge2 h0
 ·rcases Nat.lt_or_ge k (fst l+1) with hlt|hge2
  ·have:k=fst l:=by have:=h.ge;omega
   subst this;exact hd
  ·exact h.one hge2
theorem ScanI.lt {l:Bs} {k v:Nat} (_:ScanI l k v) (hd:dig (l.getD k 0)=true):k<l.length:=by
 rcases Nat.lt_or_ge k l.length with h|h
 ·exact h
 ·have:l.getD k 0=0:=by simp[List.getD,List.getElem?_eq_none h]
  rw[this] at hd;simp[dig] at hd
theorem ScanI.early {l:Bs} {k v:Nat} (h:ScanI l k v) (at_:Int) (hd:dig (l.getD k 0)=true) (hk:k=fst l+1) (h0:l.getD (fst l) 0=48):scanL l at_=(0,at_+k,20):=by
 have h1:=h.nd
 rw[nd_step l k (h.lt hd) hd] at h1
 have h2:=nd_ge (l.drop (k+1)) (k+1)
 unfold scanL
 simp only[]
 rw[if_pos ⟨h0,by omega⟩,hk]
 simp
theorem ScanI.stop {l:Bs} {k v:Nat} (h:ScanI l k v) (at_:Int) (hd:dig (l.getD k 0)=false):
 scanL l at_=if k=fst l∨l.getD k 0=46∨l.getD k 0=101∨l.getD k 0=69 then(0,at_+k,20)
  else if big<v∨(neg l=true∧v=0) then(0,at_,20)
  else(if neg l then-(v:Int) else v,at_+k,0):=by
 have h1:=h.nd
 rw[nd_stop l k hd] at h1
 have h2:=h.vl
 rw[vl_stop l k v hd] at h2
 unfold scanL
 simp only[]
 rw[←h1,←h2,if_neg]
 rintro⟨h3,h4⟩
 exact h.zero h4 h3
theorem fst_le1 (l:Bs):fst l≤1:=by unfold fst;split<;>omega
theorem pb {c:UInt8} {n:Int} (d:UInt8) (h: ((c.toNat:Nat):Int)=n) (hd: (d.toNat:Int)=n):c=d:=UInt8.toNat_inj.1 (by omega)
theorem pc {c d:UInt8} {n:Int} (h:c=d) (hd: (d.toNat:Int)=n): ((c.toNat:Nat):Int)=n:=by rw[h];exact hd
theorem dig_prog (c:UInt8):decide (((c.toNat:Int)-48) % 256<10)=dig c:=by
 rw[Bool.eq_iff_iff,lh]
 have:=c.toNat_lt
 simp only[decide_eq_true_eq]
 omega
theorem dig_ref (c:UInt8): (decide ((48:Int)≤(c.toNat:Int))&&decide ((c.toNat:Int)≤57))=dig c:=by
 rw[Bool.eq_iff_iff,lh]
 simp only[Bool.and_eq_true,decide_eq_true_eq]
 omega
def KeepP (n:Int) (v:Nat):Prop:=0≤n∧n≤90071992547409929∧(v≤9007199254740992→n=v)∧(9007199254740992<v→9007199254740992<n)
theorem KeepP.start:KeepP 0 0:=⟨by omega,by omega,λ_=>rfl,λh=>by omega⟩
theorem KeepP.more {n:Int} {v:Nat} (c:UInt8) (h:KeepP n v) (hd:dig c=true) (hn:n≤9007199254740992):KeepP (10*n+ ((c.toNat:Int)-48) % 256) (10*v+ (c.toNat-48)):=by
 obtain⟨h1,h2,h3,h4⟩:=h
 rw[lh] at hd
 have hv:v≤9007199254740992:=by
  rcases Nat.lt_or_ge 9007199254740992 v with h|h
  ·have:=h4 h;omega
  ·exact h
 have:=h3 hv
 refine⟨by omega,by omega,λ_=>by omega,λ_=>by omega⟩
theorem KeepP.full {n:Int} {v d:Nat} (h:KeepP n v) (hn: ¬n≤9007199254740992):KeepP n (10*v+d):=by
 obtain⟨h1,h2,h3,h4⟩:=h
 have hv:9007199254740992<v:=by
  rcases Nat.lt_or_ge 9007199254740992 v with h|h
  ·exact h
  ·have:=h3 h;omega
 exact⟨h1,h2,λh=>by omega,λ_=>by omega⟩
theorem KeepP.fits {n:Int} {v:Nat} (h:KeepP n v): (decide (-9007199254740992≤n)&&decide (n≤9007199254740992))=decide (v≤9007199254740992):=by
 obtain⟨h1,h2,h3,h4⟩:=h
 rw[Bool.eq_iff_iff]
 simp only[Bool.and_eq_true,decide_eq_true_eq]
 constructor
 ·rintro⟨_,h⟩
  rcases Nat.lt_or_ge 9007199254740992 v with h'|h'
  ·have:=h4 h';omega
  ·exact h'
 ·intro h;have:=h3 h;omega
theorem mP {s:Bs} {at_:Int} (h: ¬ (at_<0∨(s.length:Int)<at_)):scan s at_=scanL (s.drop at_.toNat) at_:=by unfold scan;rw[if_neg h]
theorem scan_out {s:Bs} {at_:Int} (h:at_<0∨(s.length:Int)<at_):scan s at_=(0,0,2):=by unfold scan;rw[if_pos h]
def fitsB (n:Int):Bool:=decide (-9007199254740992≤n∧n≤9007199254740992)
theorem fits_eq (n:Int): (decide ((-9007199254740992:Int)≤n)&&decide (n≤9007199254740992))=fitsB n:=by simp[fitsB]
theorem fits_eqR (n:Int): (decide ((-9007199254740992:Int)≤n)&&decide (n≤9007199254740992))=fitsB n:=by simp[fitsB]
theorem neg_byte (l:Bs):decide (((l.getD 0 0).toNat:Int)=45)=neg l:=by
 unfold neg
 rw[Bool.eq_iff_iff]
 simp only[decide_eq_true_eq]
 exact⟨λh=>pb 45 h rfl,λh=>pc h rfl⟩
theorem fst_t {l:Bs} (h:neg l=true):fst l=1:=by simp[fst,h]
theorem fst_f {l:Bs} (h:neg l=false):fst l=0:=by simp[fst,h]
theorem notboth {l:Bs} {k:Nat} (h: ¬ ((k:Int)=(fst l:Int)+1∧((l.getD (fst l) 0).toNat:Int)=48)): ¬ (k=fst l+1∧l.getD (fst l) 0=48):=
 λ ⟨h1,h2⟩=>h ⟨by omega,pc h2 rfl⟩
theorem isboth {l:Bs} {k:Nat} (h: (k:Int)=(fst l:Int)+1∧((l.getD (fst l) 0).toNat:Int)=48):k=fst l+1∧l.getD (fst l) 0=48:=
 ⟨by omega,pb 48 h.2 rfl⟩
theorem KeepP.fitsEq {n:Int} {v:Nat} (h:KeepP n v):fitsB n=decide (v≤9007199254740992):=by rw[←fits_eq];exact h.fits
section
variable {l:Bs} {k v:Nat} {n at_ sl:Int} (I:ScanI l k v) (hd:dig (l.getD k 0)=false)
include I hd
theorem ScanI.e1 (h: (k:Int)=(fst l:Int)∨(at_+ (k:Int)<sl∧(((l.getD k 0).toNat:Int)=46∨(((l.getD k 0).toNat:Int)=101∨((l.getD k 0).toNat:Int)=69)))):scanL l at_=(0,at_+k,20):=by
 rw[I.stop at_ hd,if_pos]
 rcases h with h|⟨_,h|h|h⟩
 ·exact .inl (by omega)
 ·exact .inr (.inl (pb 46 h rfl))
 ·exact .inr (.inr (.inl (pb 101 h rfl)))
 ·exact .inr (.inr (.inr (pb 69 h rfl)))
omit I hd in
theorem ScanI.no (hsl:sl=at_+l.length) (h: ¬ ((k:Int)=(fst l:Int)∨(at_+ (k:Int)<sl∧(((l.getD k 0).toNat:Int)=46∨(((l.getD k 0).toNat:Int)=101∨((l.getD k 0).toNat:Int)=69))))):
 ¬ (k=fst l∨l.getD k 0=46∨l.getD k 0=101∨l.getD k 0=69):=by
 have hk:l.getD k 0≠0→k<l.length:=λh0=>by
  rcases Nat.lt_or_ge k l.length with h|h
  ·exact h
  ·exact absurd (by simp[List.getD,List.getElem?_eq_none h]) h0
 rintro(h1|h1|h1|h1)
 ·exact h (.inl (by omega))
 ·have:=hk (by rw[h1];decide);exact h (.inr ⟨by omega,.inl (pc h1 rfl)⟩)
 ·have:=hk (by rw[h1];decide);exact h (.inr ⟨by omega,.inr (.inl (pc h1 rfl))⟩)
 ·have:=hk (by rw[h1];decide);exact h (.inr ⟨by omega,.inr (.inr (pc h1 rfl))⟩)
theorem ScanI.e2 (hno: ¬ (k=fst l∨l.getD k 0=46∨l.getD k 0=101∨l.getD k 0=69)) (h:9007199254740992<v∨(neg l=true∧v=0)):scanL l at_=(0,at_,20):=by
 rw[I.stop at_ hd,if_neg hno,if_pos (by unfold big;exact h)]
theorem ScanI.e3 (hno: ¬ (k=fst l∨l.getD k 0=46∨l.getD k 0=101∨l.getD k 0=69)) (h: ¬ (9007199254740992<v∨(neg l=true∧v=0))):scanL l at_=(if neg l then-(v:Int) else v,at_+k,0):=by
 rw[I.stop at_ hd,if_neg hno,if_neg (by unfold big;exact h)]
end
theorem KeepP.bad {l:Bs} {n:Int} {v:Nat} (K:KeepP n v): (¬ (fitsB n=true)∨(neg l=true∧n=0))↔ (9007199254740992<v∨(neg l=true∧v=0)):=by
 rw[K.fitsEq]
 obtain⟨h1,h2,h3,h4⟩:=K
 simp only[decide_eq_true_eq]
 constructor
 ·rintro(h|⟨a,h⟩)
  ·exact .inl (by omega)
  ·rcases Nat.lt_or_ge 9007199254740992 v with hv|hv
   ·exact .inl hv
   ·exact .inr ⟨a,by have:=h3 hv;omega⟩
 ·rintro(h|⟨a,h⟩)
  ·exact .inl (by omega)
  ·exact .inr ⟨a,by have:=h3 (by omega);omega⟩
theorem KeepP.val {n:Int} {v:Nat} {b:Prop} (K:KeepP n v) (h: ¬ (9007199254740992<v∨b)):n=v:=by
 obtain⟨h1,h2,h3,h4⟩:=K
 exact h3 (by have: ¬9007199254740992<v:=λx=>h (.inl x);omega)
def KeepR (n:Int) (gr:Bool) (v:Nat):Prop:=0≤n∧n≤9007199254740992∧(v≤9007199254740992→n=v∧gr=false)∧(9007199254740992<v→n=9007199254740992∧gr=true)
theorem KeepR.start:KeepR 0 false 0:=⟨by omega,by omega,λ_=>⟨rfl,rfl⟩,λh=>by omega⟩
theorem KeepR.over {n:Int} {gr:Bool} {v:Nat} {c:UInt8} (K:KeepR n gr v) (hd:dig c=true) (h:9007199254740992<n*10+ ((c.toNat:Int)-48) % 256):KeepR 9007199254740992 true (10*v+ (c.toNat-48)):=by
 obtain⟨h1,h2,h3,h4⟩:=K
 rw[lh] at hd
 refine⟨by omega,by omega,λhv=>?_,λ_=>⟨rfl,rfl⟩⟩
 have:=(h3 (by omega)).1
 omega
theorem KeepR.under {n:Int} {gr:Bool} {v:Nat} {c:UInt8} (K:KeepR n gr v) (hd:dig c=true) (h: ¬9007199254740992<n*10+ ((c.toNat:Int)-48) % 256):KeepR (n*10+ ((c.toNat:Int)-48) % 256) gr (10*v+ (c.toNat-48)):=by
 obtain⟨h1,h2,h3,h4⟩:=K
 rw[lh] at hd
 have hv:v≤9007199254740992:=by
  rcases Nat.lt_or_ge 9007199254740992 v with hv|hv
  ·have:=(h4 hv).1;omega
  ·exact hv
 obtain⟨h5,h6⟩:=h3 hv
 exact⟨by omega,by omega,λ_=>⟨by omega,h6⟩,λhx=>by omega⟩
theorem KeepR.bad {l:Bs} {n:Int} {gr:Bool} {v:Nat} (K:KeepR n gr v): (gr=true∨(neg l=true∧n=0))↔ (9007199254740992<v∨(neg l=true∧v=0)):=by
 obtain⟨h1,h2,h3,h4⟩:=K
 constructor
 ·rintro(h|⟨a,h⟩)
  ·rcases Nat.lt_or_ge 9007199254740992 v with hv|hv
   ·exact .inl hv
   ·rw[(h3 hv).2] at h;cases h
  ·rcases Nat.lt_or_ge 9007199254740992 v with hv|hv
   ·exact .inl hv
   ·exact .inr ⟨a,by have:=(h3 hv).1;omega⟩
 ·rintro(h|⟨a,h⟩)
  ·exact .inl (h4 h).2
  ·exact .inr ⟨a,by have:=(h3 (by omega)).1;omega⟩
theorem KeepR.val {n:Int} {gr:Bool} {v:Nat} {b:Prop} (K:KeepR n gr v) (h: ¬ (9007199254740992<v∨b)):n=v:=by
 obtain⟨h1,h2,h3,h4⟩:=K
 exact(h3 (by have: ¬9007199254740992<v:=λx=>h (.inl x);omega)).1
theorem getD_at (s:Bs) (a i:Int) (k:Nat) (ha:0≤a) (hi:i=a+k):s.getD i.toNat 0=(s.drop a.toNat).getD k 0:=by
 have:i.toNat=a.toNat+k:=by omega
 rw[this]
 simp[List.getD,List.getElem?_drop]
theorem li {l:Bs} {k:Nat} {sl at_:Int} (hsl:sl=at_+l.length) (h: ¬ (at_+ (k:Int)<sl∧dig (l.getD k 0)=true)):dig (l.getD k 0)=false:=by
 cases hd:dig (l.getD k 0) with
 |false=>rfl
 |true=>
  rcases Nat.lt_or_ge k l.length with hk|hk
  ·exact absurd ⟨by omega,hd⟩ h
  ·rw[show l.getD k 0=0 by simp[List.getD,List.getElem?_eq_none hk]] at hd;simp[dig] at hd
theorem neg_in {l:Bs} {sl at_:Int} (hsl:sl=at_+l.length): (decide (at_<sl)&&decide (((l.getD 0 0).toNat:Int)=45))=neg l:=by
 rw[neg_byte,Bool.eq_iff_iff]
 simp only[Bool.and_eq_true,decide_eq_true_eq]
 refine⟨λh=>h.2,λh=>⟨?_,h⟩⟩
 cases l with
 |nil=>simp[neg] at h
 |cons c r=>simp at hsl;omega
def read (s:Bs):Int×Int:=if (scan s 0).2.2=0∧(scan s 0).2.1=s.length then((scan s 0).1,0) else(0,20)
def dch (n:Nat):UInt8:=UInt8.ofNat (48+n % 10)
def digsF:Nat→Nat→Bs
 |0,_=>[]
 |f+1,n=>if n<10 then [dch n] else digsF f (n / 10)++[dch n]
def digs (n:Nat):Bs:=digsF (n+1) n
theorem rQ: ∀ (f g n:Nat),n<f→n<g→digsF f n=digsF g n
 |0,_,n,h,_=>by omega
 |f+1,0,n,_,h=>by omega
 |f+1,g+1,n,h1,h2=>by
  simp only[digsF]
  split
  ·rfl
  ·rw[rQ f g (n / 10) (by omega) (by omega)]
theorem lZ {n:Nat} (h:n<10):digs n=[dch n]:=by unfold digs;simp only[digsF];rw[if_pos h]
theorem pf {n:Nat} (h: ¬n<10):digs n=digs (n / 10)++[dch n]:=by
 unfold digs
 rw[digsF,if_neg h,rQ n (n / 10+1) (n / 10) (by omega) (by omega)]
theorem nC (n:Nat): (dch n).toNat=48+n % 10:=by
 unfold dch;rw[UInt8.toNat_ofNat'];omega
theorem dch_int (n:Nat): (48+ (n:Int) % 10) % 256=((dch n).toNat:Int):=by rw[nC];omega
theorem dch_mod (n:Nat):dch (n % 10)=dch n:=by unfold dch;rw[Nat.mod_mod]
theorem dch_small {n:Nat} (h:n<10): (48+ (n:Int)) % 256=((dch n).toNat:Int):=by rw[nC];omega
theorem digs_len: ∀ (k n:Nat),n<10 ^ (k+1)→(digs n).length≤k+1
 |0,n,h=>by rw[lZ (by omega)];simp
 |k+1,n,h=>by
  by_cases h10:n<10
  ·rw[lZ h10];simp
  ·rw[pf h10]
   have:=digs_len k (n / 10) (by rw[Nat.pow_succ] at h;omega)
   simp;omega
theorem iE {n:Nat} (h:n≤9007199254740992): (digs n).length≤16:=digs_len 15 n (by omega)
def text (n:Int):Bs×Int:=if fitsB n then(if n<0 then 45::digs (-n).toNat else digs n.toNat,0) else([],20)
theorem fitsB_iff {n:Int}:fitsB n=true↔ -9007199254740992≤n∧n≤9007199254740992:=by simp[fitsB]
theorem text_no {n:Int} (h:fitsB n=false):text n=([],20):=by simp[text,h]
theorem pg {n:Int} (h:fitsB n=true) (h0:n<0):text n=(45::digs (-n).toNat,0):=by simp[text,h,h0]
theorem ph {n:Int} (h:fitsB n=true) (h0: ¬n<0):text n=(digs n.toNat,0):=by simp[text,h,h0]
end Go.Num
end
section
namespace Go.Proofs.YtkhdpnamfndonaaGreatDoor
open Go Go.Vc Go.RowKit Go.Num
theorem tup3 {x:Int×Int×Int} {a b c:Int} (h:x=(a,b,c)):Value.tuple #[.int .i64 a,.int .i64 b,.int .i64 c]=.tuple #[.int .i64 x.1,.int .i64 x.2.1,.int .i64 x.2.2]:=by rw[h]
theorem tup2 {x:Int×Int} {a b:Int} (h:x=(a,b)):Value.tuple #[.int .i64 a,.int .i64 b]=.tuple #[.int .i64 x.1,.int .i64 x.2]:=by rw[h]
theorem fits_ok (M:Mem) (n:Int):Ok Tryz.prog M 104 [iL n] (λ_ v=>v=bO (fitsB n)):=by
 intro M hM0 w0 H w p0
 refine Re 9 Tryz.func104 rfl λa0 f0=>RR (Ye f0 1 λ_ f=>ag (bj (λa_2 W1=>Frm 9 [(2,bO ((decide ((-9007199254740992:Int)≤n))&& (decide (n≤9007199254740992))))] a_2∧Hp w0 M (H) W1) ?_ ?_))
 ·refine aI (Y f 3 λ_ f=>?_)
  rcases bE (decide ((-9007199254740992:Int)≤n)) with B1|B1
  ·have U1:=dI.1 B1
   have f:=f.st 5 (cB B1)
   refine Ye f 4 λ_ f=>?_
   have f:=Frm.set f 2 (v:=.bool (decide (n≤9007199254740992))) (v':=.bool ((decide ((-9007199254740992:Int)≤n))&& (decide (n≤9007199254740992)))) (by kernel_rfl) (by simp only[B1,Bool.and_true,Bool.true_and,Bool.false_and,Bool.and_false,Bool.or_true,Bool.true_or,Bool.or_false,Bool.false_or,nT,nF,cond_true,cond_false])
   exact⟨f.kp,p0⟩
  ·have U2:=ap dI B1
   have f:=f.st 5 (cB B1)
   refine Ye f 4 λ_ f=>?_
   have f:=Frm.set f 2 (v:=.bool false) (v':=.bool ((decide ((-9007199254740992:Int)≤n))&& (decide (n≤9007199254740992)))) (by kernel_rfl) (by simp only[B1,Bool.and_true,Bool.true_and,Bool.false_and,Bool.and_false,Bool.or_true,Bool.true_or,Bool.or_false,Bool.false_or,nT,nF,cond_true,cond_false])
   exact⟨f.kp,p0⟩
 ·rintro a_2 W1 ⟨f,N1⟩
  refine aH (wp_ret (ao f rfl (Lk 2 (bO ((decide ((-9007199254740992:Int)≤n))&& (decide (n≤9007199254740992))))) (⟨_,rfl,M,(mR _),N1,?_⟩)))
  exact cB (fits_eq _)
theorem fitsR_ok (M:Mem) (n:Int):Ok Tryz.prog M 92 [iL n] (λ_ v=>v=bO (fitsB n)):=by
 intro M hM0 w0 H w p0
 refine Re 9 Tryz.func92 rfl λa0 f0=>RR (Ye f0 1 λ_ f=>ag (bj (λa_2 W1=>Frm 9 [(2,bO ((decide ((-9007199254740992:Int)≤n))&& (decide (n≤9007199254740992))))] a_2∧Hp w0 M (H) W1) ?_ ?_))
 ·refine aI (Y f 3 λ_ f=>?_)
  rcases bE (decide ((-9007199254740992:Int)≤n)) with B1|B1
  ·have U1:=dI.1 B1
   have f:=f.st 5 (cB B1)
   refine Ye f 4 λ_ f=>?_
   have f:=Frm.set f 2 (v:=.bool (decide (n≤9007199254740992))) (v':=.bool ((decide ((-9007199254740992:Int)≤n))&& (decide (n≤9007199254740992)))) (by kernel_rfl) (by simp only[B1,Bool.and_true,Bool.true_and,Bool.false_and,Bool.and_false,Bool.or_true,Bool.true_or,Bool.or_false,Bool.false_or,nT,nF,cond_true,cond_false])
   exact⟨f.kp,p0⟩
  ·have U2:=ap dI B1
   have f:=f.st 5 (cB B1)
   refine Ye f 4 λ_ f=>?_
   have f:=Frm.set f 2 (v:=.bool false) (v':=.bool ((decide ((-9007199254740992:Int)≤n))&& (decide (n≤9007199254740992)))) (by kernel_rfl) (by simp only[B1,Bool.and_true,Bool.true_and,Bool.false_and,Bool.and_false,Bool.or_true,Bool.true_or,Bool.or_false,Bool.false_or,nT,nF,cond_true,cond_false])
   exact⟨f.kp,p0⟩
 ·rintro a_2 W1 ⟨f,N1⟩
  refine aH (wp_ret (ao f rfl (Lk 2 (bO ((decide ((-9007199254740992:Int)≤n))&& (decide (n≤9007199254740992))))) (⟨_,rfl,M,(mR _),N1,?_⟩)))
  exact cB (fits_eqR _)
theorem digit_ok (M:Mem) (c:UInt8):Ok Tryz.prog M 121 [.int .u8 (c.toNat:Int)] (λ_ v=>v=bO (dig c)):=by
 intro M hM0 w0 H w p0
 refine Re 6 Tryz.func121 rfl λa0 f0=>RR (Ye f0 1 λ_ f=>RR (Y f 1 λ_ f=>Y f 1 λ_ f=>?_))
 have f:=Frm.set f 4 (v:=.int .u8 (IntKind.wrap .u8 ((c.toNat:Int)-48))) (v':=.int .u8 (((c.toNat:Int)-48) % 256)) kr (congrArg (Value.int .u8) (IntKind.wrap_u8 _))
 refine Ye f 2 λ_ f=>wp_ret (ao f rfl (Lk 2 (bO (decide ((((c.toNat:Int)-48) % 256)<10)))) (⟨_,rfl,M,(mR _),p0,?_⟩))
 exact cB (dig_prog c)
theorem digitR_ok (M:Mem) (c:UInt8):Ok Tryz.prog M 118 [.int .u8 (c.toNat:Int)] (λ_ v=>v=bO (dig c)):=by
 intro M hM0 w0 H w p0
 refine Re 9 Tryz.func118 rfl λa0 f0=>RR (Ye f0 1 λ_ f=>ag (bj (λa_2 W1=>Frm 9 [(2,bO ((decide ((48:Int)≤(c.toNat:Int)))&& (decide ((c.toNat:Int)≤57))))] a_2∧Hp w0 M (H) W1) ?_ ?_))
 ·refine aI (Y f 3 λ_ f=>?_)
  rcases bE (decide ((48:Int)≤(c.toNat:Int))) with B1|B1
  ·have U1:=dI.1 B1
   have f:=f.st 5 (cB B1)
   refine Ye f 4 λ_ f=>?_
   have f:=Frm.set f 2 (v:=.bool (decide ((c.toNat:Int)≤57))) (v':=.bool ((decide ((48:Int)≤(c.toNat:Int)))&& (decide ((c.toNat:Int)≤57)))) (by kernel_rfl) (by simp only[B1,Bool.and_true,Bool.true_and,Bool.false_and,Bool.and_false,Bool.or_true,Bool.true_or,Bool.or_false,Bool.false_or,nT,nF,cond_true,cond_false])
   exact⟨f.kp,p0⟩
  ·have U2:=ap dI B1
   have f:=f.st 5 (cB B1)
   refine Ye f 4 λ_ f=>?_
   have f:=Frm.set f 2 (v:=.bool false) (v':=.bool ((decide ((48:Int)≤(c.toNat:Int)))&& (decide ((c.toNat:Int)≤57)))) (by kernel_rfl) (by simp only[B1,Bool.and_true,Bool.true_and,Bool.false_and,Bool.and_false,Bool.or_true,Bool.true_or,Bool.or_false,Bool.false_or,nT,nF,cond_true,cond_false])
   exact⟨f.kp,p0⟩
 ·rintro a_2 W1 ⟨f,N1⟩
  refine aH (wp_ret (ao f rfl (Lk 2 (bO ((decide ((48:Int)≤(c.toNat:Int)))&& (decide ((c.toNat:Int)≤57))))) (⟨_,rfl,M,(mR _),N1,?_⟩)))
  exact cB (dig_ref c)
theorem scanP_ok (M:Mem) (s:Bs) (at_:Int) (hs:s.length≤140737488351232):Ok Tryz.prog M 115 [S s,iL at_] (λ_ v=>v=.tuple #[iL (scan s at_).1,iL (scan s at_).2.1,iL (scan s at_).2.2]):=by
 intro M hM0 w0 H w p0
 refine Re 110 Tryz.func115 rfl λa0 f0=>RR (Ye f0 3 λ_ f=>ag (ag (bj (λa_2 W1=>Frm 110 [(0,S s),(1,iL at_),(4,iL 0),(19,bO ((decide (at_<0))|| (decide ((s.length:Int)<at_))))] a_2∧Hp w0 M (H) W1) ?_ ?_)))
 ·refine aI (Y f 3 λ_ f=>?_)
  rcases bE (decide (at_<0)) with B1|B1
  ·have U1:=dI.1 B1
   have f:=f.st 14 (cB B1)
   refine Ye f 5 λ_ f=>?_
   have f:=Frm.set f 19 (v:=.bool true) (v':=.bool ((decide (at_<0))|| (decide ((s.length:Int)<at_)))) (by kernel_rfl) (by simp only[B1,Bool.and_true,Bool.true_and,Bool.false_and,Bool.and_false,Bool.or_true,Bool.true_or,Bool.or_false,Bool.false_or,nT,nF,cond_true,cond_false])
   exact⟨f.kp,p0⟩
  ·have U2:=ap dI B1
   have f:=f.st 14 (cB B1)
   refine Ye f 5 λ_ f=>?_
   have f:=Frm.set f 19 (v:=.bool (decide ((s.length:Int)<at_))) (v':=.bool ((decide (at_<0))|| (decide ((s.length:Int)<at_)))) (by kernel_rfl) (by simp only[B1,Bool.and_true,Bool.true_and,Bool.false_and,Bool.and_false,Bool.or_true,Bool.true_or,Bool.or_false,Bool.false_or,nT,nF,cond_true,cond_false])
   exact⟨f.kp,p0⟩
 ·rintro a_2 W1 ⟨f,N1⟩
  refine aH (Y6 f (b:=(decide (at_<0))|| (decide ((s.length:Int)<at_))) (λB2=>?_) λB2=>?_)
  ·have U3: (at_<0)∨((s.length:Int)<at_):=(dC dI dI).1 B2
   refine RR (Ye f 3 λ_ f=>wp_ret (aS (jQ f rfl (Lk 4 (iL 0)) (Lk 5 (iL 0)) (Lk 6 (iL 2)) (⟨_,rfl,M,(mR _),N1,?_⟩))))
   exact tup3 (scan_out (by omega))
  ·have U4: ¬ ((at_<0)∨((s.length:Int)<at_)):=ap (dC dI dI) B2
   refine St (RR (Y f 2 λ_ f=>Z (v:=S (s.drop at_.toNat)) f (po rfl (l:=s) (k:=.i64) (a:=at_) kr kr kr (by omega) (by omega)) λ_ f=>?_))
   obtain⟨l,hl⟩: ∃l,l=s.drop at_.toNat:=⟨_,rfl⟩
   have hll: (l.length:Int)=s.length-at_:=by rw[hl,List.length_drop];omega
   have hf1:=fst_le1 l
   have hf2:=fst_le l
   have hsc:scan s at_=scanL l at_:=by rw[hl];exact mP (by omega)
   have f:=Frm.set f 22 (v:=S (s.drop at_.toNat)) (v':=S l) (by kernel_rfl) (by rw[hl])
   refine W_bytes f N1 kr kr rfl rfl rfl (l:=l) kr (e:=5) kr kr kr λQ1 P1 W2 mh N2 _ f=>bg (k:=1) (c:=1) f N2 (.cells #[.int .u8 0] 5 (0,0)) kr (λ_=>by kernel_rfl) λQ2 W3 N3 _ f=>W_bytes_push f N3 kr kr rfl rfl rfl (l:=l) (c:=0) kr kr kr kr rfl (by omega) (by omega) λC1 P2 V1 W4 J1 N4 kb_1 R1 _ f=>?_
   have kz_1:=KB.z kb_1
   refine Ye f 1 λ_ f=>RR (Y f 1 λ_ f=>Z f (Y33 rfl (ad:=C1) (len:=l.length+1) (cap:=P2) (k:=.i64) (i:=0) (e:=5) (sz:=1) (by omega) (by omega)) λ_ f=>Z f (Y35 (v:=.int .u8 ((l.getD 0 0).toNat:Int)) rfl (ad:=C1.add ((0:Int).toNat*1)) (N4.cell (KZ.get kz_1 (by omega) (by omega)))) λ_ f=>?_)
   have hb_1:=ir (l.getD 0 0)
   refine Y f 1 λ_ f=>?_
   have f:=Frm.set f 29 (v:=bO (decide (((l.getD 0 0).toNat:Int)=45))) (v':=bO (neg l)) kr (cB (neg_byte l))
   refine Ye f 1 λ_ f=>RR (Ye f 1 λ_ f=>ag (RR (Ye f 1 λ_ f=>bj (λa_20 W5=>Frm 110 [(0,S s),(1,iL at_),(4,iL 0),(7,.slice (some C1) (l.length+1) P2),(8,bO (neg l)),(9,iL (fst l:Int))] a_20∧Hp w0 V1 (H) W5) ?_ ?_)))
   ·refine Y6 f (b:=neg l) (λB3=>?_) λB3=>?_
    ·refine aI (Ye f 1 λ_ f=>?_)
     have f:=Frm.set f 9 (v:=.int .i64 1) (v':=.int .i64 (fst l:Int)) (by kernel_rfl) (by rw[fst_t B3];rfl)
     exact⟨f.kp,N4⟩
    ·refine St ?_
     have f:=Frm.set f 9 (v:=.int .i64 0) (v':=.int .i64 (fst l:Int)) (by kernel_rfl) (by rw[fst_f B3];rfl)
     exact⟨f.kp,N4⟩
   ·rintro a_20 W5 ⟨f,N5⟩
    refine aH (RR (Ye f 2 λ_ f=>ag (wp_block ?_)))
    have f:=Frm.set f 9 (v:=iL (fst l:Int)) (v':=iL ((fst l):Int)) kr (by first|rfl|(congr 1;omega)|simp)
    refine bu (n:=110) (w0:=w0) (M:=V1) (λ (k,n,v)=>[(0,S s),(1,iL at_),(4,iL n),(7,.slice (some C1) (l.length+1) P2),(8,bO (neg l)),(9,iL (k:Int)),(10,iL (fst l:Int))]) (λ (k,n,v)=>(H)) (λ (x:Nat×Int×Nat) (_:Mem)=>match x with|(k,n,v)=>(ScanI l k v)∧(KeepP n v)) (λ (k,n,v)=>l.length+1-k) (fst l,0,0) (f.kp) N5 ?_ ?_
    ·exact⟨ScanI.start l,KeepP.start⟩
    ·rintro⟨k,n,v⟩ V2 _ W6 J2 dc f N6
     replace dc: (ScanI l k v)∧(KeepP n v):=dc
     obtain⟨I_s,K_s⟩:=dc
     have hk1:=I_s.ge
     have hk2:=I_s.le
     obtain⟨hn1,hn2,hn3,hn4⟩:=id K_s
     refine ag (RR (Y f 2 λ_ f=>Z f (Y33 rfl (ad:=C1) (len:=l.length+1) (cap:=P2) (k:=.i64) (i:=(k:Int)) (e:=5) (sz:=1) (by omega) (by omega)) λ_ f=>Z f (Y35 (v:=.int .u8 ((l.getD k 0).toNat:Int)) rfl (ad:=C1.add ((k:Int).toNat*1)) (N6.cell (KZ.get (kz_1.mono J2) (by omega) (by omega)))) λ_ f=>?_))
     have hb_2:=ir (l.getD k 0)
     refine Y18 f N6 (digit_ok _ (l.getD k 0)) λW7 N7 _ f=>eT (Y6 f (b:=dig (l.getD k 0)) (λB4=>?_) λB4=>?_)
     ·refine St (ag (wp_block (ag (ag (bj (λa_28 W8=>Frm 110 [(0,S s),(1,iL at_),(4,iL n),(7,.slice (some C1) (l.length+1) P2),(8,bO (neg l)),(9,iL (k:Int)),(10,iL (fst l:Int)),(49,bO ((decide ((k:Int)=((fst l:Int)+1)))&& (decide (((l.getD (fst l) 0).toNat:Int)=48))))] a_28∧Hp w0 V2 (H) W8) ?_ ?_)))))
      ·refine aI (Y f 2 λ_ f=>Y f 1 λ_ f=>?_)
       have f:=Frm.set f 41 (v:=iL (IntKind.wrap .i64 ((fst l:Int)+1))) (v':=iL ((fst l:Int)+1)) kr (congrArg (Value.int .i64) (IntWalk.i64_in _ (by omega)))
       refine Y f 2 λ_ f=>?_
       rcases bE (decide ((k:Int)=((fst l:Int)+1))) with B5|B5
       ·have U8:=dI.1 B5
        have f:=f.st 43 (cB B5)
        refine Y f 2 λ_ f=>Z f (Y33 rfl (ad:=C1) (len:=l.length+1) (cap:=P2) (k:=.i64) (i:=(fst l:Int)) (e:=5) (sz:=1) (by omega) (by omega)) λ_ f=>Z f (Y35 (v:=.int .u8 ((l.getD (fst l) 0).toNat:Int)) rfl (ad:=C1.add ((fst l:Int).toNat*1)) (N7.cell (KZ.get (kz_1.mono J2) (by omega) (by omega)))) λ_ f=>?_
        have hb_3:=ir (l.getD (fst l) 0)
        refine Ye f 2 λ_ f=>?_
        have f:=Frm.set f 49 (v:=.bool (decide (((l.getD (fst l) 0).toNat:Int)=48))) (v':=.bool ((decide ((k:Int)=((fst l:Int)+1)))&& (decide (((l.getD (fst l) 0).toNat:Int)=48)))) (by kernel_rfl) (by simp only[B5,Bool.and_true,Bool.true_and,Bool.false_and,Bool.and_false,Bool.or_true,Bool.true_or,Bool.or_false,Bool.false_or,nT,nF,cond_true,cond_false])
        exact⟨f.kp,N7⟩
       ·have U9:=ap dI B5
        have f:=f.st 43 (cB B5)
        refine Ye f 6 λ_ f=>?_
        have f:=Frm.set f 49 (v:=.bool false) (v':=.bool ((decide ((k:Int)=((fst l:Int)+1)))&& (decide (((l.getD (fst l) 0).toNat:Int)=48)))) (by kernel_rfl) (by simp only[B5,Bool.and_true,Bool.true_and,Bool.false_and,Bool.and_false,Bool.or_true,Bool.true_or,Bool.or_false,Bool.false_or,nT,nF,cond_true,cond_false])
        exact⟨f.kp,N7⟩
      ·rintro a_28 W8 ⟨f,N8⟩
       refine aH (Y6 f (b:=(decide ((k:Int)=((fst l:Int)+1)))&& (decide (((l.getD (fst l) 0).toNat:Int)=48))) (λB6=>?_) λB6=>?_)
       ·have U10: ((k:Int)=((fst l:Int)+1))∧(((l.getD (fst l) 0).toNat:Int)=48):=(dW dI dI).1 B6
        refine RR (Y f 2 λ_ f=>Y f 1 λ_ f=>?_)
        have f:=Frm.set f 52 (v:=iL (IntKind.wrap .i64 (at_+ (k:Int)))) (v':=iL (at_+ (k:Int))) kr (congrArg (Value.int .i64) (IntWalk.i64_in _ (by omega)))
        refine Ye f 3 λ_ f=>wp_ret (aS (bV (aS (aS (bV (aS (jQ f rfl (Lk 4 (iL 0)) (Lk 5 (iL (at_+ (k:Int)))) (Lk 6 (iL 20)) (⟨_,rfl,V2,(J1.trans J2),N8,?_⟩))))))))
        obtain⟨e1,e2⟩:=isboth U10
        exact tup3 (hsc.trans (I_s.early at_ B4 e1 e2))
       ·have U11: ¬ (((k:Int)=((fst l:Int)+1))∧(((l.getD (fst l) 0).toNat:Int)=48)):=ap (dW dI dI) B6
        refine St (RR (Ye f 2 λ_ f=>Y6 f (b:=decide (n≤9007199254740992)) (λB7=>?_) λB7=>?_))
        ·have U12:=dI.1 B7
         refine aI (Y f 1 λ_ f=>Y f 1 λ_ f=>?_)
         have f:=Frm.set f 56 (v:=iL (IntKind.wrap .i64 ((10:Int)*n))) (v':=iL ((10:Int)*n)) kr (congrArg (Value.int .i64) (IntWalk.i64_in _ (by omega)))
         refine Y f 2 λ_ f=>Z f (Y33 rfl (ad:=C1) (len:=l.length+1) (cap:=P2) (k:=.i64) (i:=(k:Int)) (e:=5) (sz:=1) (by omega) (by omega)) λ_ f=>Z f (Y35 (v:=.int .u8 ((l.getD k 0).toNat:Int)) rfl (ad:=C1.add ((k:Int).toNat*1)) (N8.cell (KZ.get (kz_1.mono J2) (by omega) (by omega)))) λ_ f=>?_
         have hb_4:=ir (l.getD k 0)
         refine Y f 1 λ_ f=>?_
         have f:=Frm.set f 61 (v:=.int .u8 (IntKind.wrap .u8 (((l.getD k 0).toNat:Int)-48))) (v':=.int .u8 ((((l.getD k 0).toNat:Int)-48) % 256)) kr (congrArg (Value.int .u8) (IntKind.wrap_u8 _))
         refine Y f 1 λ_ f=>?_
         have f:=Frm.set f 62 (v:=iL (IntKind.wrap .i64 ((((l.getD k 0).toNat:Int)-48) % 256))) (v':=iL ((((l.getD k 0).toNat:Int)-48) % 256)) kr (congrArg (Value.int .i64) (IntWalk.i64_in _ (by omega)))
         refine Y f 1 λ_ f=>?_
         have f:=Frm.set f 63 (v:=iL (IntKind.wrap .i64 (((10:Int)*n)+ ((((l.getD k 0).toNat:Int)-48) % 256)))) (v':=iL (((10:Int)*n)+ ((((l.getD k 0).toNat:Int)-48) % 256))) kr (congrArg (Value.int .i64) (IntWalk.i64_in _ (by omega)))
         refine Y f 1 λ_ f=>aA rfl (cG (aH (aI (Y f 1 λ_ f=>Y f 1 λ_ f=>?_))))
         have f:=Frm.set f 38 (v:=iL (IntKind.wrap .i64 ((k:Int)+1))) (v':=iL ((k:Int)+1)) kr (congrArg (Value.int .i64) (IntWalk.i64_in _ (by omega)))
         refine Ye f 1 λ_ f=>?_
         have hkl:=I_s.lt B4
         have hzz:=notboth U11
         have f:=Frm.set f 9 (v:=iL ((k:Int)+1)) (v':=iL ((k+1):Int)) kr (by first|rfl|(congr 1;omega)|simp)
         refine⟨((k+1,((10:Int)*n)+ ((((l.getD k 0).toNat:Int)-48) % 256),10*v+ ((l.getD k 0).toNat-48)):Nat×Int×Nat),?_,V2,J2,?_,f.kp,N8⟩
         ·show l.length+1- (k+1)<l.length+1-k;omega
         ·exact⟨I_s.step B4 hkl hzz,K_s.more _ B4 U12⟩
        ·have U13:=ap dI B7
         refine wp_skip (cG (aH (aI (Y f 1 λ_ f=>Y f 1 λ_ f=>?_))))
         have f:=Frm.set f 38 (v:=iL (IntKind.wrap .i64 ((k:Int)+1))) (v':=iL ((k:Int)+1)) kr (congrArg (Value.int .i64) (IntWalk.i64_in _ (by omega)))
         refine Ye f 1 λ_ f=>?_
         have hkl:=I_s.lt B4
         have hzz:=notboth U11
         have f:=Frm.set f 9 (v:=iL ((k:Int)+1)) (v':=iL ((k+1):Int)) kr (by first|rfl|(congr 1;omega)|simp)
         refine⟨((k+1,n,10*v+ ((l.getD k 0).toNat-48)):Nat×Int×Nat),?_,V2,J2,?_,f.kp,N8⟩
         ·show l.length+1- (k+1)<l.length+1-k;omega
         ·exact⟨I_s.step B4 hkl hzz,K_s.full U13⟩
     ·refine wp_exit (co (co (iq (aH (ag (RR (Y f 2 λ_ f=>Z f (Y33 rfl (ad:=C1) (len:=l.length+1) (cap:=P2) (k:=.i64) (i:=(k:Int)) (e:=5) (sz:=1) (by omega) (by omega)) λ_ f=>Z f (Y35 (v:=.int .u8 ((l.getD k 0).toNat:Int)) rfl (ad:=C1.add ((k:Int).toNat*1)) (N7.cell (KZ.get (kz_1.mono J2) (by omega) (by omega)))) λ_ f=>?_)))))))
      have hb_5:=ir (l.getD k 0)
      refine Ye f 1 λ_ f=>wp_block (ag (RR (Ye f 4 λ_ f=>bj (λa_61 W9=>Frm 110 [(1,iL at_),(4,iL n),(8,bO (neg l)),(9,iL (k:Int)),(68,bO ((decide ((k:Int)=(fst l:Int)))|| ((decide ((at_+ (k:Int))<(s.length:Int)))&& ((decide (((l.getD k 0).toNat:Int)=46))|| ((decide (((l.getD k 0).toNat:Int)=101))|| (decide (((l.getD k 0).toNat:Int)=69)))))))] a_61∧Hp w0 V2 (H) W9) ?_ ?_)))
      ·refine Y6 f (b:=decide ((k:Int)=(fst l:Int))) (λB8=>?_) λB8=>?_
       ·have U15:=dI.1 B8
        refine St ?_
        have f:=Frm.set f 68 (v:=.bool (decide ((k:Int)=(fst l:Int)))) (v':=.bool ((decide ((k:Int)=(fst l:Int)))|| ((decide ((at_+ (k:Int))<(s.length:Int)))&& ((decide (((l.getD k 0).toNat:Int)=46))|| ((decide (((l.getD k 0).toNat:Int)=101))|| (decide (((l.getD k 0).toNat:Int)=69))))))) (by kernel_rfl) (by simp only[B8,Bool.and_true,Bool.true_and,Bool.false_and,Bool.and_false,Bool.or_true,Bool.true_or,Bool.or_false,Bool.false_or,nT,nF,cond_true,cond_false])
        exact⟨f.kp,N7⟩
       ·have U16:=ap dI B8
        refine bj (λa_62 W10=>Frm 110 [(1,iL at_),(4,iL n),(8,bO (neg l)),(9,iL (k:Int)),(68,bO ((decide ((at_+ (k:Int))<(s.length:Int)))&& ((decide (((l.getD k 0).toNat:Int)=46))|| ((decide (((l.getD k 0).toNat:Int)=101))|| (decide (((l.getD k 0).toNat:Int)=69))))))] a_62∧Hp w0 V2 (H) W10) ?_ ?_
        ·refine aI (Y f 2 λ_ f=>Y f 1 λ_ f=>?_)
         have f:=Frm.set f 74 (v:=iL (IntKind.wrap .i64 (at_+ (k:Int)))) (v':=iL (at_+ (k:Int))) kr (congrArg (Value.int .i64) (IntWalk.i64_in _ (by omega)))
         refine Y f 4 λ_ f=>?_
         rcases bE (decide ((at_+ (k:Int))<(s.length:Int))) with B9|B9
         ·have U17:=dI.1 B9
          have f:=f.st 78 (cB B9)
          refine Y f 3 λ_ f=>?_
          rcases bE (decide (((l.getD k 0).toNat:Int)=46)) with B10|B10
          ·have U18:=dI.1 B10
           have f:=f.st 81 (cB B10)
           refine Ye f 9 λ_ f=>?_
           have f:=Frm.set f 68 (v:=.bool true) (v':=.bool ((decide ((at_+ (k:Int))<(s.length:Int)))&& ((decide (((l.getD k 0).toNat:Int)=46))|| ((decide (((l.getD k 0).toNat:Int)=101))|| (decide (((l.getD k 0).toNat:Int)=69)))))) (by kernel_rfl) (by simp only[B9,B10,Bool.and_true,Bool.true_and,Bool.false_and,Bool.and_false,Bool.or_true,Bool.true_or,Bool.or_false,Bool.false_or,nT,nF,cond_true,cond_false])
           exact⟨f.kp,N7⟩
          ·have U19:=ap dI B10
           have f:=f.st 81 (cB B10)
           refine Y f 4 λ_ f=>?_
           rcases bE (decide (((l.getD k 0).toNat:Int)=101)) with B11|B11
           ·have U20:=dI.1 B11
            have f:=f.st 85 (cB B11)
            refine Ye f 5 λ_ f=>?_
            have f:=Frm.set f 68 (v:=.bool true) (v':=.bool ((decide ((at_+ (k:Int))<(s.length:Int)))&& ((decide (((l.getD k 0).toNat:Int)=46))|| ((decide (((l.getD k 0).toNat:Int)=101))|| (decide (((l.getD k 0).toNat:Int)=69)))))) (by kernel_rfl) (by simp only[B9,B10,B11,Bool.and_true,Bool.true_and,Bool.false_and,Bool.and_false,Bool.or_true,Bool.true_or,Bool.or_false,Bool.false_or,nT,nF,cond_true,cond_false])
            exact⟨f.kp,N7⟩
           ·have U21:=ap dI B11
            have f:=f.st 85 (cB B11)
            refine Ye f 5 λ_ f=>?_
            have f:=Frm.set f 68 (v:=.bool (decide (((l.getD k 0).toNat:Int)=69))) (v':=.bool ((decide ((at_+ (k:Int))<(s.length:Int)))&& ((decide (((l.getD k 0).toNat:Int)=46))|| ((decide (((l.getD k 0).toNat:Int)=101))|| (decide (((l.getD k 0).toNat:Int)=69)))))) (by kernel_rfl) (by simp only[B9,B10,B11,Bool.and_true,Bool.true_and,Bool.false_and,Bool.and_false,Bool.or_true,Bool.true_or,Bool.or_false,Bool.false_or,nT,nF,cond_true,cond_false])
            exact⟨f.kp,N7⟩
         ·have U22:=ap dI B9
          have f:=f.st 78 (cB B9)
          refine Ye f 12 λ_ f=>?_
          have f:=Frm.set f 68 (v:=.bool false) (v':=.bool ((decide ((at_+ (k:Int))<(s.length:Int)))&& ((decide (((l.getD k 0).toNat:Int)=46))|| ((decide (((l.getD k 0).toNat:Int)=101))|| (decide (((l.getD k 0).toNat:Int)=69)))))) (by kernel_rfl) (by simp only[B9,Bool.and_true,Bool.true_and,Bool.false_and,Bool.and_false,Bool.or_true,Bool.true_or,Bool.or_false,Bool.false_or,nT,nF,cond_true,cond_false])
          exact⟨f.kp,N7⟩
        ·rintro a_62 W10 ⟨f,N10⟩
         refine aH ?_
         have f:=Frm.set f 68 (v:=.bool ((decide ((at_+ (k:Int))<(s.length:Int)))&& ((decide (((l.getD k 0).toNat:Int)=46))|| ((decide (((l.getD k 0).toNat:Int)=101))|| (decide (((l.getD k 0).toNat:Int)=69)))))) (v':=.bool ((decide ((k:Int)=(fst l:Int)))|| ((decide ((at_+ (k:Int))<(s.length:Int)))&& ((decide (((l.getD k 0).toNat:Int)=46))|| ((decide (((l.getD k 0).toNat:Int)=101))|| (decide (((l.getD k 0).toNat:Int)=69))))))) (by kernel_rfl) (by simp only[B8,Bool.and_true,Bool.true_and,Bool.false_and,Bool.and_false,Bool.or_true,Bool.true_or,Bool.or_false,Bool.false_or,nT,nF,cond_true,cond_false])
         exact⟨f.kp,N10⟩
      ·rintro a_61 W9 ⟨f,N9⟩
       refine aH (Y6 f (b:=(decide ((k:Int)=(fst l:Int)))|| ((decide ((at_+ (k:Int))<(s.length:Int)))&& ((decide (((l.getD k 0).toNat:Int)=46))|| ((decide (((l.getD k 0).toNat:Int)=101))|| (decide (((l.getD k 0).toNat:Int)=69)))))) (λB12=>?_) λB12=>?_)
       ·have U23: ((k:Int)=(fst l:Int))∨(((at_+ (k:Int))<(s.length:Int))∧((((l.getD k 0).toNat:Int)=46)∨((((l.getD k 0).toNat:Int)=101)∨(((l.getD k 0).toNat:Int)=69)))):=(dC dI (dW dI (dC dI (dC dI dI)))).1 B12
        refine RR (Y f 2 λ_ f=>Y f 1 λ_ f=>?_)
        have f:=Frm.set f 92 (v:=iL (IntKind.wrap .i64 (at_+ (k:Int)))) (v':=iL (at_+ (k:Int))) kr (congrArg (Value.int .i64) (IntWalk.i64_in _ (by omega)))
        refine Ye f 3 λ_ f=>wp_ret (bV (aS (jQ f rfl (Lk 4 (iL 0)) (Lk 5 (iL (at_+ (k:Int)))) (Lk 6 (iL 20)) (⟨_,rfl,V2,(J1.trans J2),N9,?_⟩))))
        exact tup3 (hsc.trans (I_s.e1 B4 U23))
       ·have U24: ¬ (((k:Int)=(fst l:Int))∨(((at_+ (k:Int))<(s.length:Int))∧((((l.getD k 0).toNat:Int)=46)∨((((l.getD k 0).toNat:Int)=101)∨(((l.getD k 0).toNat:Int)=69))))):=ap (dC dI (dW dI (dC dI (dC dI dI)))) B12
        refine ag (RR (Y f 1 λ_ f=>Y18 f N9 (fits_ok _ (n)) λW11 N11 _ f=>Ye f 2 λ_ f=>bj (λa_78 W12=>Frm 110 [(1,iL at_),(4,iL n),(8,bO (neg l)),(9,iL (k:Int)),(93,bO ((!(fitsB n))|| ((neg l)&& (decide (n=0)))))] a_78∧Hp w0 V2 (H) W12) ?_ ?_))
        ·refine Y6 f (b:= !(fitsB n)) (λB13=>?_) λB13=>?_
         ·have U25: (fitsB n)=false:=by simpa using B13
          refine St ?_
          have f:=Frm.set f 93 (v:=.bool (!(fitsB n))) (v':=.bool ((!(fitsB n))|| ((neg l)&& (decide (n=0))))) (by kernel_rfl) (by simp only[B13,Bool.and_true,Bool.true_and,Bool.false_and,Bool.and_false,Bool.or_true,Bool.true_or,Bool.or_false,Bool.false_or,nT,nF,cond_true,cond_false])
          exact⟨f.kp,N11⟩
         ·have U26: (fitsB n)=true:=by simpa using B13
          refine bj (λa_79 W13=>Frm 110 [(1,iL at_),(4,iL n),(8,bO (neg l)),(9,iL (k:Int)),(93,bO ((neg l)&& (decide (n=0))))] a_79∧Hp w0 V2 (H) W13) ?_ ?_
          ·refine aI (Y f 2 λ_ f=>?_)
           rcases bE (neg l) with B14|B14
           ·have f:=f.st 98 (cB B14)
            refine Ye f 4 λ_ f=>?_
            have f:=Frm.set f 93 (v:=.bool (decide (n=0))) (v':=.bool ((neg l)&& (decide (n=0)))) (by kernel_rfl) (by simp only[B14,Bool.and_true,Bool.true_and,Bool.false_and,Bool.and_false,Bool.or_true,Bool.true_or,Bool.or_false,Bool.false_or,nT,nF,cond_true,cond_false])
            exact⟨f.kp,N11⟩
           ·have f:=f.st 98 (cB B14)
            refine Ye f 4 λ_ f=>?_
            have f:=Frm.set f 93 (v:=.bool false) (v':=.bool ((neg l)&& (decide (n=0)))) (by kernel_rfl) (by simp only[B14,Bool.and_true,Bool.true_and,Bool.false_and,Bool.and_false,Bool.or_true,Bool.true_or,Bool.or_false,Bool.false_or,nT,nF,cond_true,cond_false])
            exact⟨f.kp,N11⟩
          ·rintro a_79 W13 ⟨f,N13⟩
           refine aH ?_
           have f:=Frm.set f 93 (v:=.bool ((neg l)&& (decide (n=0)))) (v':=.bool ((!(fitsB n))|| ((neg l)&& (decide (n=0))))) (by kernel_rfl) (by simp only[B13,Bool.and_true,Bool.true_and,Bool.false_and,Bool.and_false,Bool.or_true,Bool.true_or,Bool.or_false,Bool.false_or,nT,nF,cond_true,cond_false])
           exact⟨f.kp,N13⟩
        ·rintro a_78 W12 ⟨f,N12⟩
         refine aH (Y6 f (b:=(!(fitsB n))|| ((neg l)&& (decide (n=0)))) (λB15=>?_) λB15=>?_)
         ·have U29: (¬ ((fitsB n)=true))∨(((neg l)=true)∧(n=0)):=(dC (av Iff.rfl) (dW Iff.rfl dI)).1 B15
          refine RR (Ye f 4 λ_ f=>wp_ret (bV (aS (jQ f rfl (Lk 4 (iL 0)) (Lk 5 (iL at_)) (Lk 6 (iL 20)) (⟨_,rfl,V2,(J1.trans J2),N12,?_⟩)))))
          have hno:=ScanI.no (l:=l) (k:=k) (sl:=s.length) (at_:=at_) (by omega) U24
          exact tup3 (hsc.trans (I_s.e2 B4 hno (K_s.bad.1 U29)))
         ·have U30: ¬ ((¬ ((fitsB n)=true))∨(((neg l)=true)∧(n=0))):=ap (dC (av Iff.rfl) (dW Iff.rfl dI)) B15
          refine wp_skip (cG (aH (ag (RR (Ye f 1 λ_ f=>Y6 f (b:=neg l) (λB16=>?_) λB16=>?_)))))
          ·refine aI (Y f 1 λ_ f=>Y f 1 λ_ f=>?_)
           have f:=Frm.set f 105 (v:=iL (IntKind.wrap .i64 (0-n))) (v':=iL (-n)) kr (congrArg (Value.int .i64) ((IntWalk.i64_in _ (by omega)).trans (Int.zero_sub _)))
           refine Ye f 1 λ_ f=>RR (Y f 3 λ_ f=>Y f 1 λ_ f=>?_)
           have f:=Frm.set f 109 (v:=iL (IntKind.wrap .i64 (at_+ (k:Int)))) (v':=iL (at_+ (k:Int))) kr (congrArg (Value.int .i64) (IntWalk.i64_in _ (by omega)))
           refine Ye f 3 λ_ f=>wp_ret (jQ f rfl (Lk 4 (iL (-n))) (Lk 5 (iL (at_+ (k:Int)))) (Lk 6 (iL 0)) (⟨_,rfl,V2,(J1.trans J2),N12,?_⟩))
           have hno:=ScanI.no (l:=l) (k:=k) (sl:=s.length) (at_:=at_) (by omega) U24
           have hbb:=λx=>U30 (K_s.bad.2 x)
           exact tup3 (hsc.trans ((I_s.e3 B4 hno hbb).trans (by rw[B16,K_s.val hbb];rfl)))
          ·refine St (RR (Y f 3 λ_ f=>Y f 1 λ_ f=>?_))
           have f:=Frm.set f 109 (v:=iL (IntKind.wrap .i64 (at_+ (k:Int)))) (v':=iL (at_+ (k:Int))) kr (congrArg (Value.int .i64) (IntWalk.i64_in _ (by omega)))
           refine Ye f 3 λ_ f=>wp_ret (jQ f rfl (Lk 4 (iL n)) (Lk 5 (iL (at_+ (k:Int)))) (Lk 6 (iL 0)) (⟨_,rfl,V2,(J1.trans J2),N12,?_⟩))
           have hno:=ScanI.no (l:=l) (k:=k) (sl:=s.length) (at_:=at_) (by omega) U24
           have hbb:=λx=>U30 (K_s.bad.2 x)
           exact tup3 (hsc.trans ((I_s.e3 B4 hno hbb).trans (by rw[B16,K_s.val hbb];rfl)))
theorem scanR_ok (M:Mem) (s:Bs) (at_:Int) (hs:s.length≤140737488351232):Ok Tryz.prog M 107 [S s,iL at_] (λ_ v=>v=.tuple #[iL (scan s at_).1,iL (scan s at_).2.1,iL (scan s at_).2.2]):=by
 intro M hM0 w0 H w p0
 refine Re 110 Tryz.func107 rfl λa0 f0=>RR (Ye f0 3 λ_ f=>ag (ag (bj (λa_2 W1=>Frm 110 [(0,S s),(1,iL at_),(19,bO ((decide (at_<0))|| (decide ((s.length:Int)<at_))))] a_2∧Hp w0 M (H) W1) ?_ ?_)))
 ·refine aI (Y f 3 λ_ f=>?_)
  rcases bE (decide (at_<0)) with B1|B1
  ·have U1:=dI.1 B1
   have f:=f.st 14 (cB B1)
   refine Ye f 5 λ_ f=>?_
   have f:=Frm.set f 19 (v:=.bool true) (v':=.bool ((decide (at_<0))|| (decide ((s.length:Int)<at_)))) (by kernel_rfl) (by simp only[B1,Bool.and_true,Bool.true_and,Bool.false_and,Bool.and_false,Bool.or_true,Bool.true_or,Bool.or_false,Bool.false_or,nT,nF,cond_true,cond_false])
   exact⟨f.kp,p0⟩
  ·have U2:=ap dI B1
   have f:=f.st 14 (cB B1)
   refine Ye f 5 λ_ f=>?_
   have f:=Frm.set f 19 (v:=.bool (decide ((s.length:Int)<at_))) (v':=.bool ((decide (at_<0))|| (decide ((s.length:Int)<at_)))) (by kernel_rfl) (by simp only[B1,Bool.and_true,Bool.true_and,Bool.false_and,Bool.and_false,Bool.or_true,Bool.true_or,Bool.or_false,Bool.false_or,nT,nF,cond_true,cond_false])
   exact⟨f.kp,p0⟩
 ·rintro a_2 W1 ⟨f,N1⟩
  refine aH (Y6 f (b:=(decide (at_<0))|| (decide ((s.length:Int)<at_))) (λB2=>?_) λB2=>?_)
  ·have U3: (at_<0)∨((s.length:Int)<at_):=(dC dI dI).1 B2
   refine RR (Ye f 3 λ_ f=>wp_ret (aS (jQ f rfl (Lk 4 (iL 0)) (Lk 5 (iL 0)) (Lk 6 (iL 2)) (⟨_,rfl,M,(mR _),N1,?_⟩))))
   exact tup3 (scan_out (by omega))
  ·have U4: ¬ ((at_<0)∨((s.length:Int)<at_)):=ap (dC dI dI) B2
   refine St (RR (Y f 2 λ_ f=>?_))
   obtain⟨l,hl⟩: ∃l,l=s.drop at_.toNat:=⟨_,rfl⟩
   have hll: (l.length:Int)=s.length-at_:=by rw[hl,List.length_drop];omega
   have hf1:=fst_le1 l
   have hf2:=fst_le l
   have hsc:scan s at_=scanL l at_:=by rw[hl];exact mP (by omega)
   have hsg: ∀ (i:Int) (k:Nat),i=at_+k→s.getD i.toNat 0=l.getD k 0:=λi k h=>by rw[hl];exact getD_at s at_ i k (by omega) h
   refine eT (ag (bj (λa_8 W2=>Frm 110 [(0,S s),(1,iL at_),(7,iL at_),(8,bO (neg l))] a_8∧Hp w0 M (H) W2) ?_ ?_))
   ·refine aI (Y f 5 λ_ f=>?_)
    rcases bE (decide (at_<(s.length:Int))) with B3|B3
    ·have U5:=dI.1 B3
     have f:=f.st 25 (cB B3)
     refine Y f 2 λ_ f=>Z f (Y41 rfl (l:=s) (k:=.i64) (i:=at_) (by omega) (by omega)) λ_ f=>?_
     have f:=Frm.set f 28 (v:=.int .u8 ((s.getD at_.toNat 0).toNat:Int)) (v':=.int .u8 ((l.getD 0 0).toNat:Int)) kr (congrArg (λc:UInt8=>Value.int .u8 ((c.toNat:Nat):Int)) (hsg _ _ (by omega)))
     have hb_1:=ir (l.getD 0 0)
     refine Ye f 3 λ_ f=>?_
     have f:=Frm.set f 8 (v:=.bool (decide (((l.getD 0 0).toNat:Int)=45))) (v':=.bool (neg l)) (by kernel_rfl) (cB (by rw[←neg_in (l:=l) (sl:=s.length) (at_:=at_) (by omega)];simp only[B3,Bool.true_and,Bool.false_and]))
     exact⟨f.kp,N1⟩
    ·have U6:=ap dI B3
     have f:=f.st 25 (cB B3)
     refine Ye f 6 λ_ f=>?_
     have f:=Frm.set f 8 (v:=.bool false) (v':=.bool (neg l)) (by kernel_rfl) (cB (by rw[←neg_in (l:=l) (sl:=s.length) (at_:=at_) (by omega)];simp only[B3,Bool.true_and,Bool.false_and]))
     exact⟨f.kp,N1⟩
   ·rintro a_8 W2 ⟨f,N2⟩
    refine aH (ag (RR (Ye f 1 λ_ f=>bj (λa_15 W3=>Frm 110 [(0,S s),(1,iL at_),(7,iL (at_+ (fst l:Int))),(8,bO (neg l))] a_15∧Hp w0 M (H) W3) ?_ ?_)))
    ·refine Y6 f (b:=neg l) (λB4=>?_) λB4=>?_
     ·refine aI (Y f 1 λ_ f=>Y f 1 λ_ f=>?_)
      have f:=Frm.set f 33 (v:=iL (IntKind.wrap .i64 (at_+1))) (v':=iL (at_+1)) kr (congrArg (Value.int .i64) (IntWalk.i64_in _ (by omega)))
      refine Ye f 1 λ_ f=>?_
      have f:=Frm.set f 7 (v:=.int .i64 (at_+1)) (v':=.int .i64 (at_+ (fst l:Int))) (by kernel_rfl) (congrArg (Value.int .i64) (by rw[fst_t B4];rfl))
      exact⟨f.kp,N2⟩
     ·refine St ?_
      have f:=Frm.set f 7 (v:=.int .i64 at_) (v':=.int .i64 (at_+ (fst l:Int))) (by kernel_rfl) (congrArg (Value.int .i64) (by rw[fst_f B4];simp))
      exact⟨f.kp,N2⟩
    ·rintro a_15 W3 ⟨f,N3⟩
     refine aH (RR (Ye f 2 λ_ f=>RR (Ye f 1 λ_ f=>RR (Ye f 1 λ_ f=>ag (wp_block ?_)))))
     have f:=Frm.set f 7 (v:=iL (at_+ (fst l:Int))) (v':=iL (at_+ ((fst l):Int))) kr (by first|rfl|(congr 1;omega)|simp)
     refine bu (n:=110) (w0:=w0) (M:=M) (λ (k,n,gr,v)=>[(0,S s),(1,iL at_),(7,iL (at_+ (k:Int))),(8,bO (neg l)),(9,iL (at_+ (fst l:Int))),(10,iL n),(11,bO gr)]) (λ (k,n,gr,v)=>(H)) (λ (x:Nat×Int×Bool×Nat) (_:Mem)=>match x with|(k,n,gr,v)=>(ScanI l k v)∧(KeepR n gr v)) (λ (k,n,gr,v)=>l.length+1-k) (fst l,0,false,0) (f.kp) N3 ?_ ?_
     ·exact⟨ScanI.start l,KeepR.start⟩
     ·rintro⟨k,n,gr,v⟩ V1 _ W4 J1 dc f N4
      replace dc: (ScanI l k v)∧(KeepR n gr v):=dc
      obtain⟨I_s,K_s⟩:=dc
      have hk1:=I_s.ge
      have hk2:=I_s.le
      obtain⟨hn1,hn2,hn3,hn4⟩:=id K_s
      refine ag (ag (bj (λa_23 W5=>Frm 110 [(0,S s),(1,iL at_),(7,iL (at_+ (k:Int))),(8,bO (neg l)),(9,iL (at_+ (fst l:Int))),(10,iL n),(11,bO gr),(44,bO ((decide ((at_+ (k:Int))<(s.length:Int)))&& (dig (l.getD k 0))))] a_23∧Hp w0 V1 (H) W5) ?_ ?_))
      ·refine aI (Y f 5 λ_ f=>?_)
       rcases bE (decide ((at_+ (k:Int))<(s.length:Int))) with B5|B5
       ·have U9:=dI.1 B5
        have f:=f.st 39 (cB B5)
        refine Y f 2 λ_ f=>Z f (Y41 rfl (l:=s) (k:=.i64) (i:=(at_+ (k:Int))) (by omega) (by omega)) λ_ f=>?_
        have f:=Frm.set f 42 (v:=.int .u8 ((s.getD ((at_+ (k:Int))).toNat 0).toNat:Int)) (v':=.int .u8 ((l.getD k 0).toNat:Int)) kr (congrArg (λc:UInt8=>Value.int .u8 ((c.toNat:Nat):Int)) (hsg _ _ (by omega)))
        have hb_2:=ir (l.getD k 0)
        refine Y18 f N4 (digitR_ok _ (l.getD k 0)) λW6 N6 _ f=>Ye f 1 λ_ f=>?_
        have f:=Frm.set f 44 (v:=.bool (dig (l.getD k 0))) (v':=.bool ((decide ((at_+ (k:Int))<(s.length:Int)))&& (dig (l.getD k 0)))) (by kernel_rfl) (by simp only[B5,Bool.and_true,Bool.true_and,Bool.false_and,Bool.and_false,Bool.or_true,Bool.true_or,Bool.or_false,Bool.false_or,nT,nF,cond_true,cond_false])
        exact⟨f.kp,N6⟩
       ·have U10:=ap dI B5
        have f:=f.st 39 (cB B5)
        refine Ye f 5 λ_ f=>?_
        have f:=Frm.set f 44 (v:=.bool false) (v':=.bool ((decide ((at_+ (k:Int))<(s.length:Int)))&& (dig (l.getD k 0)))) (by kernel_rfl) (by simp only[B5,Bool.and_true,Bool.true_and,Bool.false_and,Bool.and_false,Bool.or_true,Bool.true_or,Bool.or_false,Bool.false_or,nT,nF,cond_true,cond_false])
        exact⟨f.kp,N4⟩
      ·rintro a_23 W5 ⟨f,N5⟩
       refine aH (Y6 f (b:=(decide ((at_+ (k:Int))<(s.length:Int)))&& (dig (l.getD k 0))) (λB6=>?_) λB6=>?_)
       ·have U11: ((at_+ (k:Int))<(s.length:Int))∧((dig (l.getD k 0))=true):=(dW dI Iff.rfl).1 B6
        refine St (wp_block (ag (ag (bj (λa_30 W7=>Frm 110 [(0,S s),(1,iL at_),(7,iL (at_+ (k:Int))),(8,bO (neg l)),(9,iL (at_+ (fst l:Int))),(10,iL n),(11,bO gr),(54,bO ((decide ((at_+ (k:Int))=((at_+ (fst l:Int))+1)))&& (decide (((l.getD (fst l) 0).toNat:Int)=48))))] a_30∧Hp w0 V1 (H) W7) ?_ ?_))))
        ·refine aI (Y f 2 λ_ f=>Y f 1 λ_ f=>?_)
         have f:=Frm.set f 47 (v:=iL (IntKind.wrap .i64 ((at_+ (fst l:Int))+1))) (v':=iL ((at_+ (fst l:Int))+1)) kr (congrArg (Value.int .i64) (IntWalk.i64_in _ (by omega)))
         refine Y f 2 λ_ f=>?_
         rcases bE (decide ((at_+ (k:Int))=((at_+ (fst l:Int))+1))) with B7|B7
         ·have U12:=dI.1 B7
          have f:=f.st 49 (cB B7)
          refine Y f 2 λ_ f=>Z f (Y41 rfl (l:=s) (k:=.i64) (i:=(at_+ (fst l:Int))) (by omega) (by omega)) λ_ f=>?_
          have f:=Frm.set f 52 (v:=.int .u8 ((s.getD ((at_+ (fst l:Int))).toNat 0).toNat:Int)) (v':=.int .u8 ((l.getD (fst l) 0).toNat:Int)) kr (congrArg (λc:UInt8=>Value.int .u8 ((c.toNat:Nat):Int)) (hsg _ _ (by omega)))
          have hb_3:=ir (l.getD (fst l) 0)
          refine Ye f 2 λ_ f=>?_
          have f:=Frm.set f 54 (v:=.bool (decide (((l.getD (fst l) 0).toNat:Int)=48))) (v':=.bool ((decide ((at_+ (k:Int))=((at_+ (fst l:Int))+1)))&& (decide (((l.getD (fst l) 0).toNat:Int)=48)))) (by kernel_rfl) (by simp only[B7,Bool.and_true,Bool.true_and,Bool.false_and,Bool.and_false,Bool.or_true,Bool.true_or,Bool.or_false,Bool.false_or,nT,nF,cond_true,cond_false])
          exact⟨f.kp,N5⟩
         ·have U13:=ap dI B7
          have f:=f.st 49 (cB B7)
          refine Ye f 5 λ_ f=>?_
          have f:=Frm.set f 54 (v:=.bool false) (v':=.bool ((decide ((at_+ (k:Int))=((at_+ (fst l:Int))+1)))&& (decide (((l.getD (fst l) 0).toNat:Int)=48)))) (by kernel_rfl) (by simp only[B7,Bool.and_true,Bool.true_and,Bool.false_and,Bool.and_false,Bool.or_true,Bool.true_or,Bool.or_false,Bool.false_or,nT,nF,cond_true,cond_false])
          exact⟨f.kp,N5⟩
        ·rintro a_30 W7 ⟨f,N7⟩
         refine aH (Y6 f (b:=(decide ((at_+ (k:Int))=((at_+ (fst l:Int))+1)))&& (decide (((l.getD (fst l) 0).toNat:Int)=48))) (λB8=>?_) λB8=>?_)
         ·have U14: ((at_+ (k:Int))=((at_+ (fst l:Int))+1))∧(((l.getD (fst l) 0).toNat:Int)=48):=(dW dI dI).1 B8
          refine RR (Ye f 4 λ_ f=>wp_ret (aS (bV (aS (bV (aS (jQ f rfl (Lk 4 (iL 0)) (Lk 5 (iL (at_+ (k:Int)))) (Lk 6 (iL 20)) (⟨_,rfl,V1,J1,N7,?_⟩))))))))
          obtain⟨e1,e2⟩:=isboth (l:=l) (k:=k) ⟨by omega,by omega⟩
          exact tup3 (hsc.trans (I_s.early at_ U11.2 e1 e2))
         ·have U15: ¬ (((at_+ (k:Int))=((at_+ (fst l:Int))+1))∧(((l.getD (fst l) 0).toNat:Int)=48)):=ap (dW dI dI) B8
          refine St (RR (Y f 1 λ_ f=>Y f 1 λ_ f=>?_))
          have f:=Frm.set f 57 (v:=iL (IntKind.wrap .i64 (n*10))) (v':=iL (n*10)) kr (congrArg (Value.int .i64) (IntWalk.i64_in _ (by omega)))
          refine Y f 2 λ_ f=>Z f (Y41 rfl (l:=s) (k:=.i64) (i:=(at_+ (k:Int))) (by omega) (by omega)) λ_ f=>?_
          have f:=Frm.set f 60 (v:=.int .u8 ((s.getD ((at_+ (k:Int))).toNat 0).toNat:Int)) (v':=.int .u8 ((l.getD k 0).toNat:Int)) kr (congrArg (λc:UInt8=>Value.int .u8 ((c.toNat:Nat):Int)) (hsg _ _ (by omega)))
          have hb_4:=ir (l.getD k 0)
          refine Y f 1 λ_ f=>?_
          have f:=Frm.set f 61 (v:=.int .u8 (IntKind.wrap .u8 (((l.getD k 0).toNat:Int)-48))) (v':=.int .u8 ((((l.getD k 0).toNat:Int)-48) % 256)) kr (congrArg (Value.int .u8) (IntKind.wrap_u8 _))
          refine Y f 1 λ_ f=>?_
          have f:=Frm.set f 62 (v:=iL (IntKind.wrap .i64 ((((l.getD k 0).toNat:Int)-48) % 256))) (v':=iL ((((l.getD k 0).toNat:Int)-48) % 256)) kr (congrArg (Value.int .i64) (IntWalk.i64_in _ (by omega)))
          refine Y f 1 λ_ f=>?_
          have f:=Frm.set f 63 (v:=iL (IntKind.wrap .i64 ((n*10)+ ((((l.getD k 0).toNat:Int)-48) % 256)))) (v':=iL ((n*10)+ ((((l.getD k 0).toNat:Int)-48) % 256))) kr (congrArg (Value.int .i64) (IntWalk.i64_in _ (by omega)))
          refine Ye f 1 λ_ f=>ag (RR (Ye f 2 λ_ f=>Y6 f (b:=decide ((9007199254740992:Int)<((n*10)+ ((((l.getD k 0).toNat:Int)-48) % 256)))) (λB9=>?_) λB9=>?_))
          ·have U16:=dI.1 B9
           refine RR (Ye f 1 λ_ f=>aI (Ye f 1 λ_ f=>aI (Y f 1 λ_ f=>Y f 1 λ_ f=>?_)))
           have f:=Frm.set f 67 (v:=iL (IntKind.wrap .i64 ((at_+ (k:Int))+1))) (v':=iL ((at_+ (k:Int))+1)) kr (congrArg (Value.int .i64) (IntWalk.i64_in _ (by omega)))
           refine Y f 1 λ_ f=>aA rfl (cG (aH ?_))
           have hkl:=I_s.lt U11.2
           have hzz:=notboth (l:=l) (k:=k) (λhh=>U15 ⟨by omega,hh.2⟩)
           have f:=Frm.set f 7 (v:=iL ((at_+ (k:Int))+1)) (v':=iL (at_+ ((k+1):Int))) kr (by first|rfl|(congr 1;omega)|simp)
           refine⟨((k+1,9007199254740992,true,10*v+ ((l.getD k 0).toNat-48)):Nat×Int×Bool×Nat),?_,V1,J1,?_,f.kp,N7⟩
           ·show l.length+1- (k+1)<l.length+1-k;omega
           ·exact⟨I_s.step U11.2 hkl hzz,K_s.over U11.2 U16⟩
          ·have U17:=ap dI B9
           refine St (aI (Y f 1 λ_ f=>Y f 1 λ_ f=>?_))
           have f:=Frm.set f 67 (v:=iL (IntKind.wrap .i64 ((at_+ (k:Int))+1))) (v':=iL ((at_+ (k:Int))+1)) kr (congrArg (Value.int .i64) (IntWalk.i64_in _ (by omega)))
           refine Y f 1 λ_ f=>aA rfl (cG (aH ?_))
           have hkl:=I_s.lt U11.2
           have hzz:=notboth (l:=l) (k:=k) (λhh=>U15 ⟨by omega,hh.2⟩)
           have f:=Frm.set f 7 (v:=iL ((at_+ (k:Int))+1)) (v':=iL (at_+ ((k+1):Int))) kr (by first|rfl|(congr 1;omega)|simp)
           refine⟨((k+1,(n*10)+ ((((l.getD k 0).toNat:Int)-48) % 256),gr,10*v+ ((l.getD k 0).toNat-48)):Nat×Int×Bool×Nat),?_,V1,J1,?_,f.kp,N7⟩
           ·show l.length+1- (k+1)<l.length+1-k;omega
           ·exact⟨I_s.step U11.2 hkl hzz,K_s.under U11.2 U17⟩
       ·have U18: ¬ (((at_+ (k:Int))<(s.length:Int))∧((dig (l.getD k 0))=true)):=ap (dW dI Iff.rfl) B6
        refine wp_exit (co (co (iq (aH (ag (ag (bj (λsi W8=>Frm 110 [(1,iL at_),(7,iL (at_+ (k:Int))),(8,bO (neg l)),(10,iL n),(11,bO gr),(94,bO ((decide ((at_+ (k:Int))=(at_+ (fst l:Int))))|| ((decide ((at_+ (k:Int))<(s.length:Int)))&& ((decide (((l.getD k 0).toNat:Int)=46))|| ((decide (((l.getD k 0).toNat:Int)=101))|| (decide (((l.getD k 0).toNat:Int)=69)))))))] si∧Hp w0 V1 (H) W8) ?_ ?_)))))))
        ·refine aI (Y f 4 λ_ f=>?_)
         rcases bE (decide ((at_+ (k:Int))=(at_+ (fst l:Int)))) with B10|B10
         ·have U19:=dI.1 B10
          have f:=f.st 71 (cB B10)
          refine Ye f 23 λ_ f=>?_
          have f:=Frm.set f 94 (v:=.bool true) (v':=.bool ((decide ((at_+ (k:Int))=(at_+ (fst l:Int))))|| ((decide ((at_+ (k:Int))<(s.length:Int)))&& ((decide (((l.getD k 0).toNat:Int)=46))|| ((decide (((l.getD k 0).toNat:Int)=101))|| (decide (((l.getD k 0).toNat:Int)=69))))))) (by kernel_rfl) (by simp only[B10,Bool.and_true,Bool.true_and,Bool.false_and,Bool.and_false,Bool.or_true,Bool.true_or,Bool.or_false,Bool.false_or,nT,nF,cond_true,cond_false])
          exact⟨f.kp,N5⟩
         ·have U20:=ap dI B10
          have f:=f.st 71 (cB B10)
          refine Y f 5 λ_ f=>?_
          rcases bE (decide ((at_+ (k:Int))<(s.length:Int))) with B11|B11
          ·have U21:=dI.1 B11
           have f:=f.st 76 (cB B11)
           refine Y f 2 λ_ f=>Z f (Y41 rfl (l:=s) (k:=.i64) (i:=(at_+ (k:Int))) (by omega) (by omega)) λ_ f=>?_
           have f:=Frm.set f 79 (v:=.int .u8 ((s.getD ((at_+ (k:Int))).toNat 0).toNat:Int)) (v':=.int .u8 ((l.getD k 0).toNat:Int)) kr (congrArg (λc:UInt8=>Value.int .u8 ((c.toNat:Nat):Int)) (hsg _ _ (by omega)))
           have hb_5:=ir (l.getD k 0)
           refine Y f 2 λ_ f=>?_
           rcases bE (decide (((l.getD k 0).toNat:Int)=46)) with B12|B12
           ·have U22:=dI.1 B12
            have f:=f.st 81 (cB B12)
            refine Ye f 13 λ_ f=>?_
            have f:=Frm.set f 94 (v:=.bool true) (v':=.bool ((decide ((at_+ (k:Int))=(at_+ (fst l:Int))))|| ((decide ((at_+ (k:Int))<(s.length:Int)))&& ((decide (((l.getD k 0).toNat:Int)=46))|| ((decide (((l.getD k 0).toNat:Int)=101))|| (decide (((l.getD k 0).toNat:Int)=69))))))) (by kernel_rfl) (by simp only[B10,B11,B12,Bool.and_true,Bool.true_and,Bool.false_and,Bool.and_false,Bool.or_true,Bool.true_or,Bool.or_false,Bool.false_or,nT,nF,cond_true,cond_false])
            exact⟨f.kp,N5⟩
           ·have U23:=ap dI B12
            have f:=f.st 81 (cB B12)
            refine Y f 2 λ_ f=>Z f (Y41 rfl (l:=s) (k:=.i64) (i:=(at_+ (k:Int))) (by omega) (by omega)) λ_ f=>?_
            have f:=Frm.set f 84 (v:=.int .u8 ((s.getD ((at_+ (k:Int))).toNat 0).toNat:Int)) (v':=.int .u8 ((l.getD k 0).toNat:Int)) kr (congrArg (λc:UInt8=>Value.int .u8 ((c.toNat:Nat):Int)) (hsg _ _ (by omega)))
            have hb_6:=ir (l.getD k 0)
            refine Y f 3 λ_ f=>?_
            rcases bE (decide (((l.getD k 0).toNat:Int)=101)) with B13|B13
            ·have U24:=dI.1 B13
             have f:=f.st 87 (cB B13)
             refine Ye f 7 λ_ f=>?_
             have f:=Frm.set f 94 (v:=.bool true) (v':=.bool ((decide ((at_+ (k:Int))=(at_+ (fst l:Int))))|| ((decide ((at_+ (k:Int))<(s.length:Int)))&& ((decide (((l.getD k 0).toNat:Int)=46))|| ((decide (((l.getD k 0).toNat:Int)=101))|| (decide (((l.getD k 0).toNat:Int)=69))))))) (by kernel_rfl) (by simp only[B10,B11,B12,B13,Bool.and_true,Bool.true_and,Bool.false_and,Bool.and_false,Bool.or_true,Bool.true_or,Bool.or_false,Bool.false_or,nT,nF,cond_true,cond_false])
             exact⟨f.kp,N5⟩
            ·have U25:=ap dI B13
             have f:=f.st 87 (cB B13)
             refine Y f 2 λ_ f=>Z f (Y41 rfl (l:=s) (k:=.i64) (i:=(at_+ (k:Int))) (by omega) (by omega)) λ_ f=>?_
             have f:=Frm.set f 90 (v:=.int .u8 ((s.getD ((at_+ (k:Int))).toNat 0).toNat:Int)) (v':=.int .u8 ((l.getD k 0).toNat:Int)) kr (congrArg (λc:UInt8=>Value.int .u8 ((c.toNat:Nat):Int)) (hsg _ _ (by omega)))
             have hb_7:=ir (l.getD k 0)
             refine Ye f 4 λ_ f=>?_
             have f:=Frm.set f 94 (v:=.bool (decide (((l.getD k 0).toNat:Int)=69))) (v':=.bool ((decide ((at_+ (k:Int))=(at_+ (fst l:Int))))|| ((decide ((at_+ (k:Int))<(s.length:Int)))&& ((decide (((l.getD k 0).toNat:Int)=46))|| ((decide (((l.getD k 0).toNat:Int)=101))|| (decide (((l.getD k 0).toNat:Int)=69))))))) (by kernel_rfl) (by simp only[B10,B11,B12,B13,Bool.and_true,Bool.true_and,Bool.false_and,Bool.and_false,Bool.or_true,Bool.true_or,Bool.or_false,Bool.false_or,nT,nF,cond_true,cond_false])
             exact⟨f.kp,N5⟩
          ·have U26:=ap dI B11
           have f:=f.st 76 (cB B11)
           refine Ye f 18 λ_ f=>?_
           have f:=Frm.set f 94 (v:=.bool false) (v':=.bool ((decide ((at_+ (k:Int))=(at_+ (fst l:Int))))|| ((decide ((at_+ (k:Int))<(s.length:Int)))&& ((decide (((l.getD k 0).toNat:Int)=46))|| ((decide (((l.getD k 0).toNat:Int)=101))|| (decide (((l.getD k 0).toNat:Int)=69))))))) (by kernel_rfl) (by simp only[B10,B11,Bool.and_true,Bool.true_and,Bool.false_and,Bool.and_false,Bool.or_true,Bool.true_or,Bool.or_false,Bool.false_or,nT,nF,cond_true,cond_false])
           exact⟨f.kp,N5⟩
        ·rintro si W8 ⟨f,N8⟩
         refine aH (Y6 f (b:=(decide ((at_+ (k:Int))=(at_+ (fst l:Int))))|| ((decide ((at_+ (k:Int))<(s.length:Int)))&& ((decide (((l.getD k 0).toNat:Int)=46))|| ((decide (((l.getD k 0).toNat:Int)=101))|| (decide (((l.getD k 0).toNat:Int)=69)))))) (λB14=>?_) λB14=>?_)
         ·have U27: ((at_+ (k:Int))=(at_+ (fst l:Int)))∨(((at_+ (k:Int))<(s.length:Int))∧((((l.getD k 0).toNat:Int)=46)∨((((l.getD k 0).toNat:Int)=101)∨(((l.getD k 0).toNat:Int)=69)))):=(dC dI (dW dI (dC dI (dC dI dI)))).1 B14
          refine RR (Ye f 4 λ_ f=>wp_ret (aS (jQ f rfl (Lk 4 (iL 0)) (Lk 5 (iL (at_+ (k:Int)))) (Lk 6 (iL 20)) (⟨_,rfl,V1,J1,N8,?_⟩))))
          have hdf:=li (l:=l) (k:=k) (sl:=s.length) (at_:=at_) (by omega) U18
          have h12: ((k:Int)=(fst l:Int)∨(at_+ (k:Int)<(s.length:Int)∧(((l.getD k 0).toNat:Int)=46∨(((l.getD k 0).toNat:Int)=101∨((l.getD k 0).toNat:Int)=69)))):=by omega
          exact tup3 (hsc.trans (I_s.e1 hdf h12))
         ·have U28: ¬ (((at_+ (k:Int))=(at_+ (fst l:Int)))∨(((at_+ (k:Int))<(s.length:Int))∧((((l.getD k 0).toNat:Int)=46)∨((((l.getD k 0).toNat:Int)=101)∨(((l.getD k 0).toNat:Int)=69))))):=ap (dC dI (dW dI (dC dI (dC dI dI)))) B14
          refine St (ag (ag (bj (λa_73 W9=>Frm 110 [(1,iL at_),(7,iL (at_+ (k:Int))),(8,bO (neg l)),(10,iL n),(103,bO (gr|| ((neg l)&& (decide (n=0)))))] a_73∧Hp w0 V1 (H) W9) ?_ ?_)))
          ·refine aI (Y f 2 λ_ f=>?_)
           rcases bE (gr) with B15|B15
           ·have f:=f.st 97 (cB B15)
            refine Ye f 6 λ_ f=>?_
            have f:=Frm.set f 103 (v:=.bool true) (v':=.bool (gr|| ((neg l)&& (decide (n=0))))) (by kernel_rfl) (by simp only[B15,Bool.and_true,Bool.true_and,Bool.false_and,Bool.and_false,Bool.or_true,Bool.true_or,Bool.or_false,Bool.false_or,nT,nF,cond_true,cond_false])
            exact⟨f.kp,N8⟩
           ·have f:=f.st 97 (cB B15)
            refine Y f 2 λ_ f=>?_
            rcases bE (neg l) with B16|B16
            ·have f:=f.st 99 (cB B16)
             refine Ye f 4 λ_ f=>?_
             have f:=Frm.set f 103 (v:=.bool (decide (n=0))) (v':=.bool (gr|| ((neg l)&& (decide (n=0))))) (by kernel_rfl) (by simp only[B15,B16,Bool.and_true,Bool.true_and,Bool.false_and,Bool.and_false,Bool.or_true,Bool.true_or,Bool.or_false,Bool.false_or,nT,nF,cond_true,cond_false])
             exact⟨f.kp,N8⟩
            ·have f:=f.st 99 (cB B16)
             refine Ye f 4 λ_ f=>?_
             have f:=Frm.set f 103 (v:=.bool false) (v':=.bool (gr|| ((neg l)&& (decide (n=0))))) (by kernel_rfl) (by simp only[B15,B16,Bool.and_true,Bool.true_and,Bool.false_and,Bool.and_false,Bool.or_true,Bool.true_or,Bool.or_false,Bool.false_or,nT,nF,cond_true,cond_false])
             exact⟨f.kp,N8⟩
          ·rintro a_73 W9 ⟨f,N9⟩
           refine aH (Y6 f (b:=gr|| ((neg l)&& (decide (n=0)))) (λB17=>?_) λB17=>?_)
           ·have U33: (gr=true)∨(((neg l)=true)∧(n=0)):=(dC Iff.rfl (dW Iff.rfl dI)).1 B17
            refine RR (Ye f 4 λ_ f=>wp_ret (aS (jQ f rfl (Lk 4 (iL 0)) (Lk 5 (iL at_)) (Lk 6 (iL 20)) (⟨_,rfl,V1,J1,N9,?_⟩))))
            have hdf:=li (l:=l) (k:=k) (sl:=s.length) (at_:=at_) (by omega) U18
            have h12: ¬ ((k:Int)=(fst l:Int)∨(at_+ (k:Int)<(s.length:Int)∧(((l.getD k 0).toNat:Int)=46∨(((l.getD k 0).toNat:Int)=101∨((l.getD k 0).toNat:Int)=69)))):=by omega
            have hno:=ScanI.no (l:=l) (k:=k) (sl:=s.length) (at_:=at_) (by omega) h12
            exact tup3 (hsc.trans (I_s.e2 hdf hno (K_s.bad.1 U33)))
           ·have U34: ¬ ((gr=true)∨(((neg l)=true)∧(n=0))):=ap (dC Iff.rfl (dW Iff.rfl dI)) B17
            refine St (ag (RR (Ye f 1 λ_ f=>Y6 f (b:=neg l) (λB18=>?_) λB18=>?_)))
            ·refine aI (Y f 1 λ_ f=>Y f 1 λ_ f=>?_)
             have f:=Frm.set f 107 (v:=iL (IntKind.wrap .i64 (0-n))) (v':=iL (-n)) kr (congrArg (Value.int .i64) ((IntWalk.i64_in _ (by omega)).trans (Int.zero_sub _)))
             refine Ye f 1 λ_ f=>RR (Ye f 5 λ_ f=>wp_ret (jQ f rfl (Lk 4 (iL (-n))) (Lk 5 (iL (at_+ (k:Int)))) (Lk 6 (iL 0)) (⟨_,rfl,V1,J1,N9,?_⟩)))
             have hdf:=li (l:=l) (k:=k) (sl:=s.length) (at_:=at_) (by omega) U18
             have h12: ¬ ((k:Int)=(fst l:Int)∨(at_+ (k:Int)<(s.length:Int)∧(((l.getD k 0).toNat:Int)=46∨(((l.getD k 0).toNat:Int)=101∨((l.getD k 0).toNat:Int)=69)))):=by omega
             have hno:=ScanI.no (l:=l) (k:=k) (sl:=s.length) (at_:=at_) (by omega) h12
             have hbb:=λx=>U34 (K_s.bad.2 x)
             exact tup3 (hsc.trans ((I_s.e3 hdf hno hbb).trans (by rw[B18,K_s.val hbb];rfl)))
            ·refine St (RR (Ye f 5 λ_ f=>wp_ret (jQ f rfl (Lk 4 (iL n)) (Lk 5 (iL (at_+ (k:Int)))) (Lk 6 (iL 0)) (⟨_,rfl,V1,J1,N9,?_⟩))))
             have hdf:=li (l:=l) (k:=k) (sl:=s.length) (at_:=at_) (by omega) U18
             have h12: ¬ ((k:Int)=(fst l:Int)∨(at_+ (k:Int)<(s.length:Int)∧(((l.getD k 0).toNat:Int)=46∨(((l.getD k 0).toNat:Int)=101∨((l.getD k 0).toNat:Int)=69)))):=by omega
             have hno:=ScanI.no (l:=l) (k:=k) (sl:=s.length) (at_:=at_) (by omega) h12
             have hbb:=λx=>U34 (K_s.bad.2 x)
             exact tup3 (hsc.trans ((I_s.e3 hdf hno hbb).trans (by rw[B18,K_s.val hbb];rfl)))
theorem readP_ok (M:Mem) (s:Bs) (hs:s.length≤140737488351232):Ok Tryz.prog M 103 [S s] (λ_ v=>v=.tuple #[iL (read s).1,iL (read s).2]):=by
 intro M hM0 w0 H w p0
 refine Re 22 Tryz.func103 rfl λa0 f0=>RR (Ye f0 2 λ_ f=>ag (RR (Y f 1 λ_ f=>Y18 f p0 (scanP_ok _ s 0 (by first|omega|decide|assumption|(simp only[List.length_append,List.length_cons,List.length_nil];omega))) λW1 N1 _ f=>Ye f 7 λ_ f=>ag (bj (λa_5 W2=>Frm 22 [(4,iL (scan s 0).1),(20,bO ((decide ((scan s 0).2.2=0))&& (decide ((scan s 0).2.1=(s.length:Int)))))] a_5∧Hp w0 M (H) W2) ?_ ?_))))
 ·refine aI (Y f 3 λ_ f=>?_)
  rcases bE (decide ((scan s 0).2.2=0)) with B1|B1
  ·have U1:=dI.1 B1
   have f:=f.st 15 (cB B1)
   refine Ye f 5 λ_ f=>?_
   have f:=Frm.set f 20 (v:=.bool (decide ((scan s 0).2.1=(s.length:Int)))) (v':=.bool ((decide ((scan s 0).2.2=0))&& (decide ((scan s 0).2.1=(s.length:Int))))) (by kernel_rfl) (by simp only[B1,Bool.and_true,Bool.true_and,Bool.false_and,Bool.and_false,Bool.or_true,Bool.true_or,Bool.or_false,Bool.false_or,nT,nF,cond_true,cond_false])
   exact⟨f.kp,N1⟩
  ·have U2:=ap dI B1
   have f:=f.st 15 (cB B1)
   refine Ye f 5 λ_ f=>?_
   have f:=Frm.set f 20 (v:=.bool false) (v':=.bool ((decide ((scan s 0).2.2=0))&& (decide ((scan s 0).2.1=(s.length:Int))))) (by kernel_rfl) (by simp only[B1,Bool.and_true,Bool.true_and,Bool.false_and,Bool.and_false,Bool.or_true,Bool.true_or,Bool.or_false,Bool.false_or,nT,nF,cond_true,cond_false])
   exact⟨f.kp,N1⟩
 ·rintro a_5 W2 ⟨f,N2⟩
  refine aH (Y6 f (b:=(decide ((scan s 0).2.2=0))&& (decide ((scan s 0).2.1=(s.length:Int)))) (λB2=>?_) λB2=>?_)
  ·have U3: ((scan s 0).2.2=0)∧((scan s 0).2.1=(s.length:Int)):=(dW dI dI).1 B2
   refine RR (Ye f 3 λ_ f=>wp_ret (aS (bJ f rfl (Lk 2 (iL (scan s 0).1)) (Lk 3 (iL 0)) (⟨_,rfl,M,(mR _),N2,?_⟩))))
   exact tup2 (if_pos (by omega))
  ·have U4: ¬ (((scan s 0).2.2=0)∧((scan s 0).2.1=(s.length:Int))):=ap (dW dI dI) B2
   refine St (RR (Ye f 2 λ_ f=>wp_ret (bJ f rfl (Lk 2 (iL 0)) (Lk 3 (iL 20)) (⟨_,rfl,M,(mR _),N2,?_⟩))))
   exact tup2 (if_neg (by omega))
theorem readR_ok (M:Mem) (s:Bs) (hs:s.length≤140737488351232):Ok Tryz.prog M 91 [S s] (λ_ v=>v=.tuple #[iL (read s).1,iL (read s).2]):=by
 intro M hM0 w0 H w p0
 refine Re 22 Tryz.func91 rfl λa0 f0=>RR (Ye f0 2 λ_ f=>RR (Y f 1 λ_ f=>Y18 f p0 (scanR_ok _ s 0 (by first|omega|decide|assumption|(simp only[List.length_append,List.length_cons,List.length_nil];omega))) λW1 N1 _ f=>Ye f 7 λ_ f=>ag (ag (bj (λa_5 W2=>Frm 22 [(4,iL (scan s 0).1),(20,bO ((!(decide ((scan s 0).2.2=0)))|| (!(decide ((scan s 0).2.1=(s.length:Int))))))] a_5∧Hp w0 M (H) W2) ?_ ?_))))
 ·refine aI (Y f 3 λ_ f=>?_)
  rcases bE (!(decide ((scan s 0).2.2=0))) with B1|B1
  ·have U1: ¬ ((scan s 0).2.2=0):=(av dI).1 B1
   have f:=f.st 15 (cB B1)
   refine Ye f 5 λ_ f=>?_
   have f:=Frm.set f 20 (v:=.bool true) (v':=.bool ((!(decide ((scan s 0).2.2=0)))|| (!(decide ((scan s 0).2.1=(s.length:Int)))))) (by kernel_rfl) (by simp only[B1,Bool.and_true,Bool.true_and,Bool.false_and,Bool.and_false,Bool.or_true,Bool.true_or,Bool.or_false,Bool.false_or,nT,nF,cond_true,cond_false])
   exact⟨f.kp,N1⟩
  ·have U2: ¬ (¬ ((scan s 0).2.2=0)):=ap (av dI) B1
   have f:=f.st 15 (cB B1)
   refine Ye f 5 λ_ f=>?_
   have f:=Frm.set f 20 (v:=.bool (!(decide ((scan s 0).2.1=(s.length:Int))))) (v':=.bool ((!(decide ((scan s 0).2.2=0)))|| (!(decide ((scan s 0).2.1=(s.length:Int)))))) (by kernel_rfl) (by simp only[B1,Bool.and_true,Bool.true_and,Bool.false_and,Bool.and_false,Bool.or_true,Bool.true_or,Bool.or_false,Bool.false_or,nT,nF,cond_true,cond_false])
   exact⟨f.kp,N1⟩
 ·rintro a_5 W2 ⟨f,N2⟩
  refine aH (Y6 f (b:=(!(decide ((scan s 0).2.2=0)))|| (!(decide ((scan s 0).2.1=(s.length:Int))))) (λB2=>?_) λB2=>?_)
  ·have U3: (¬ ((scan s 0).2.2=0))∨(¬ ((scan s 0).2.1=(s.length:Int))):=(dC (av dI) (av dI)).1 B2
   refine RR (Ye f 2 λ_ f=>wp_ret (aS (bJ f rfl (Lk 2 (iL 0)) (Lk 3 (iL 20)) (⟨_,rfl,M,(mR _),N2,?_⟩))))
   exact tup2 (if_neg (by omega))
  ·have U4: ¬ ((¬ ((scan s 0).2.2=0))∨(¬ ((scan s 0).2.1=(s.length:Int)))):=ap (dC (av dI) (av dI)) B2
   refine St (RR (Ye f 3 λ_ f=>wp_ret (bJ f rfl (Lk 2 (iL (scan s 0).1)) (Lk 3 (iL 0)) (⟨_,rfl,M,(mR _),N2,?_⟩))))
   exact tup2 (if_pos (by omega))
theorem tp (M:Mem) (bp bo n:Nat): ∀ (hn:n≤9007199254740992) (v:Value) (k:Nat) (xs:Lv) (hk:k≤1000),OkH Tryz.prog M [oC bp #[.func (.func 105) #[] #[pP bp,pP bo]] 152,oC bo #[v] 151,Ent.row 5 1 v k xs] 105 [iL (n:Int),pP bp,pP bo] (λ_ E2 r=>r=.tuple #[]∧∃v2,E2=[oC bp #[.func (.func 105) #[] #[pP bp,pP bo]] 152,oC bo #[v2] 151,Ent.row 5 1 v2 (k+ (digs n).length) (xs++bL (digs n))]):=by
 induction n using Nat.strongRecOn generalizing M
 rename_i n ih
 intro hn v k xs hk
 have hl1:=iE hn
 have hl2:=iE (n:=n / 10) (by omega)
 intro M hM0 w0 H w p0
 refine Re 17 Tryz.func105 rfl λa0 f0=>ag (RR (Ye f0 2 λ_ f=>Y6 f (b:=decide ((9:Int)<(n:Int))) (λB1=>?_) λB1=>?_))
 ·have U1:=dI.1 B1
  refine aI (Z f (Y35 (v:=.func (.func 105) #[] #[pP bp,pP bo]) rfl (ad:=⟨bp,0,none⟩) (p0.ownCell 0 rfl 0)) λ_ f=>Y f 1 λ_ f=>Y f 1 λ_ f=>?_)
  have f:=Frm.set f 8 (v:=iL (IntKind.wrap .i64 ((n:Int).tdiv 10))) (v':=iL ((n:Int) / 10)) kr (congrArg (Value.int .i64) (quo_i64 (by omega) (by decide) (by omega)))
  have f:=Frm.set f 8 (v:=iL ((n:Int) / 10)) (v':=iL ((n / 10:Nat):Int)) kr (congrArg (Value.int .i64) (by omega))
  refine Y17 (E:=[oC bp #[.func (.func 105) #[] #[pP bp,pP bo]] 152,oC bo #[v] 151,Ent.row 5 1 v k xs]) (H:=(H)) f p0 (ih (n / 10) (by omega) _ (by omega) v k xs hk) λv_1 V1 E_1 W1 J1 N1 jO _ f=>?_
  obtain⟨rfl,v2,rfl⟩:=jO
  have N2:Hp w0 M ((oC bp #[.func (.func 105) #[] #[pP bp,pP bo]] 152)::(oC bo #[v2] 151)::(Ent.row 5 1 v2 (k+ (digs (n / 10)).length) (xs++bL (digs (n / 10))))::H) W1:=N1.less J1
  refine eT (aI (Z f (Y35 (v:=v2) rfl (ad:=⟨bo,0,none⟩) (N2.ownCell 1 rfl 0)) λ_ f=>Y f 1 λ_ f=>Y f 1 λ_ f=>?_))
  have f:=Frm.set f 12 (v:=iL ((n:Int).tmod 10)) (v':=iL ((n:Int) % 10)) kr (congrArg (Value.int .i64) (rem_nn (by omega)))
  refine Y f 1 λ_ f=>?_
  have f:=Frm.set f 13 (v:=iL (IntKind.wrap .i64 ((48:Int)+ ((n:Int) % 10)))) (v':=iL ((48:Int)+ ((n:Int) % 10))) kr (congrArg (Value.int .i64) (IntWalk.i64_in _ (by omega)))
  refine Y f 1 λ_ f=>?_
  have f:=Frm.set f 14 (v:=.int .u8 (IntKind.wrap .u8 ((48:Int)+ ((n:Int) % 10)))) (v':=.int .u8 (((48:Int)+ ((n:Int) % 10)) % 256)) kr (congrArg (Value.int .u8) (IntKind.wrap_u8 _))
  have f:=Frm.set f 14 (v:=.int .u8 (((48:Int)+ ((n:Int) % 10)) % 256)) (v':=.int .u8 ((dch n).toNat:Int)) kr (congrArg (Value.int .u8) (dch_int n))
  refine bg (k:=1) (c:=1) f N2 (.cells #[.int .u8 ((dch n).toNat:Int)] 5 (0,0)) kr (λ_=>by kernel_rfl) λQ1 W2 N3 _ f=>?_
  have N4:=N3.pl [3]
  refine kq (d:=16) (t:=151) (e:=5) (z:=.int .u8 0) (v:=v2) (size:=1) (bytes:=1) (k:=k+ (digs (n / 10)).length) (m:=1) (c:=1) (xs:=xs++bL (digs (n / 10))) (news:=[.int .u8 ((dch n).toNat:Int)]) (ad:=⟨Q1,0,none⟩) f N4 kr kr rfl rfl rfl kr kr kr kr (rfl) (al (N4.ownCell 1 rfl) 0 rfl) (all_one kr) (by omega) (by omega) λv_2 W3 N5 _ f=>?_
  have N6:=N5.pl [1]
  have N7:=N6.drop
  refine Y28 f N7 2 rfl rfl (b:=bo) (j:=0) (v:=v_2) (row_one (N7.rowAt 0 rfl)) (by exact rfl) (by simp) (by simp) _ rfl λW4 N8 _ f=>aA rfl (E_end0 f rfl ?_)
  have N9:Hp w0 M ((Ent.row 5 1 v_2 (k+ (digs n).length) (xs++bL (digs n)))::(oC bp #[.func (.func 105) #[] #[pP bp,pP bo]] 152)::(oC bo #[v_2] 151)::H) W4:=N8.rowEq (by rw[pf (n:=n) (by omega)];simp;omega) (by rw[pf (n:=n) (by omega),sk,List.append_assoc];rfl)
  have N11:=N9.pl [2,2]
  exact⟨_,rfl,M,[oC bp #[.func (.func 105) #[] #[pP bp,pP bo]] 152,oC bo #[v_2] 151,Ent.row 5 1 v_2 (k+ (digs n).length) (xs++bL (digs n))],mR _,N11,rfl,v_2,rfl⟩
 ·have U2:=ap dI B1
  refine St (aI (Z f (Y35 (v:=v) rfl (ad:=⟨bo,0,none⟩) (p0.ownCell 1 rfl 0)) λ_ f=>Y f 1 λ_ f=>Y f 1 λ_ f=>?_))
  have f:=Frm.set f 12 (v:=iL ((n:Int).tmod 10)) (v':=iL ((n:Int) % 10)) kr (congrArg (Value.int .i64) (rem_nn (by omega)))
  refine Y f 1 λ_ f=>?_
  have f:=Frm.set f 13 (v:=iL (IntKind.wrap .i64 ((48:Int)+ ((n:Int) % 10)))) (v':=iL ((48:Int)+ ((n:Int) % 10))) kr (congrArg (Value.int .i64) (IntWalk.i64_in _ (by omega)))
  refine Y f 1 λ_ f=>?_
  have f:=Frm.set f 14 (v:=.int .u8 (IntKind.wrap .u8 ((48:Int)+ ((n:Int) % 10)))) (v':=.int .u8 (((48:Int)+ ((n:Int) % 10)) % 256)) kr (congrArg (Value.int .u8) (IntKind.wrap_u8 _))
  have f:=Frm.set f 14 (v:=.int .u8 (((48:Int)+ ((n:Int) % 10)) % 256)) (v':=.int .u8 ((dch n).toNat:Int)) kr (congrArg (Value.int .u8) (dch_int n))
  refine bg (k:=1) (c:=1) f p0 (.cells #[.int .u8 ((dch n).toNat:Int)] 5 (0,0)) kr (λ_=>by kernel_rfl) λQ2 W5 N12 _ f=>?_
  have N13:=N12.pl [3]
  refine kq (d:=16) (t:=151) (e:=5) (z:=.int .u8 0) (v:=v) (size:=1) (bytes:=1) (k:=k) (m:=1) (c:=1) (xs:=xs) (news:=[.int .u8 ((dch n).toNat:Int)]) (ad:=⟨Q2,0,none⟩) f N13 kr kr rfl rfl rfl kr kr kr kr (rfl) (al (N13.ownCell 1 rfl) 0 rfl) (all_one kr) (by omega) (by omega) λv_3 W6 N14 _ f=>?_
  have N15:=N14.pl [1]
  have N16:=N15.drop
  refine Y28 f N16 2 rfl rfl (b:=bo) (j:=0) (v:=v_3) (row_one (N16.rowAt 0 rfl)) (by exact rfl) (by simp) (by simp) _ rfl λW7 N17 _ f=>aA rfl (E_end0 f rfl ?_)
  have N18:Hp w0 M ((Ent.row 5 1 v_3 (k+ (digs n).length) (xs++bL (digs n)))::(oC bp #[.func (.func 105) #[] #[pP bp,pP bo]] 152)::(oC bo #[v_3] 151)::H) W7:=N17.rowEq (by rw[lZ (n:=n) (by omega)];rfl) (by rw[lZ (n:=n) (by omega)];rfl)
  have N20:=N18.pl [2,2]
  exact⟨_,rfl,M,[oC bp #[.func (.func 105) #[] #[pP bp,pP bo]] 152,oC bo #[v_3] 151,Ent.row 5 1 v_3 (k+ (digs n).length) (xs++bL (digs n))],mR _,N20,rfl,v_3,rfl⟩
theorem textP_ok (M:Mem) (n:Int):Ok Tryz.prog M 86 [iL n] (λ_ v=>v=.tuple #[S (text n).1,iL (text n).2]):=by
 intro M hM0 w0 H w p0
 refine Re 25 Tryz.func86 rfl λa0 f0=>RR (Ye f0 2 λ_ f=>ag (RR (Y f 1 λ_ f=>Y18 f p0 (fits_ok _ (n)) λW1 N1 _ f=>Ye f 1 λ_ f=>Y6 f (b:= !(fitsB n)) (λB1=>?_) λB1=>?_)))
 ·have U1: (fitsB n)=false:=by simpa using B1
  refine RR (Ye f 2 λ_ f=>wp_ret (aS (bJ f rfl (Lk 2 (S [])) (Lk 3 (iL 20)) (⟨_,rfl,M,(mR _),(N1.dropN 0),?_⟩))))
  rw[text_no U1]
 ·have U2: (fitsB n)=true:=by simpa using B1
  refine St (ag ?_)
  have hfit:=U2
  have hfit2:=fitsB_iff.1 hfit
  refine aI (Y12 f N1 (.cells #[Sn] 151 (0,0)) λQ1 W2 N2 _ f=>eT (RR (Y12 f N2 (.cells #[.nilFunc] 152 (0,0)) λQ2 W3 N3 _ f=>eT (RR (Y f 1 λ_ f=>Y28 f N3 0 rfl rfl (b:=Q2) (j:=0) (v:=.func (.func 105) #[] #[pP Q2,pP Q1]) rfl (by exact rfl) (by simp) (by simp) _ rfl λW4 N4 _ f=>eT (ag (wp_block (RR (Y f 1 λ_ f=>?_)))))))))
  have N5:=N4.nilRow 5 1
  refine Ye f 2 λ_ f=>Y6 f (b:=decide (n<0)) (λB2=>?_) λB2=>?_
  ·have U3:=dI.1 B2
   refine RR (Z f (Y35 (v:=Sn) rfl (ad:=⟨Q1,0,none⟩) (N5.ownCell 2 rfl 0)) λ_ f=>bg (k:=1) (c:=1) f N5 (.cells #[.int .u8 45] 5 (0,0)) kr (λ_=>by kernel_rfl) λQ3 W5 N6 _ f=>?_)
   have N7:=N6.pl [1]
   refine kq (d:=18) (t:=151) (e:=5) (z:=.int .u8 0) (v:=Sn) (size:=1) (bytes:=1) (k:=0) (m:=1) (c:=1) (xs:=[]) (news:=[.int .u8 45]) (ad:=⟨Q3,0,none⟩) f N7 kr kr rfl rfl rfl kr kr kr kr (rfl) (al (N7.ownCell 1 rfl) 0 rfl) (all_one kr) (by omega) (by omega) λv_1 W6 N8 _ f=>?_
   have N9:=N8.pl [1]
   have N10:=N9.drop
   refine Y28 f N10 2 rfl rfl (b:=Q1) (j:=0) (v:=v_1) (row_one (N10.rowAt 0 rfl)) (by exact rfl) (by simp) (by simp) _ rfl λW7 N11 _ f=>eT (aI (Z f (Y35 (v:=.func (.func 105) #[] #[pP Q2,pP Q1]) rfl (ad:=⟨Q2,0,none⟩) (N11.ownCell 1 rfl 0)) λ_ f=>Y f 1 λ_ f=>Y f 1 λ_ f=>?_))
   have f:=Frm.set f 21 (v:=iL (IntKind.wrap .i64 (0-n))) (v':=iL (-n)) kr (congrArg (Value.int .i64) ((IntWalk.i64_in _ (by omega)).trans (Int.zero_sub _)))
   have f:=Frm.set f 21 (v:=iL (-n)) (v':=iL ((-n).toNat:Int)) kr (congrArg (Value.int .i64) (by omega))
   have N13:=N11.pl [2,2]
   refine Y17 (E:=[oC Q2 #[.func (.func 105) #[] #[pP Q2,pP Q1]] 152,oC Q1 #[v_1] 151,Ent.row 5 1 v_1 (0+1) ([]++[.int .u8 45])]) (H:=(H)) f N13 (tp _ Q2 Q1 ((-n).toNat) (by omega) (v_1) (0+1) ([]++[.int .u8 45]) (by omega)) λv_2 V1 E_1 W8 J1 N14 jO _ f=>?_
   obtain⟨rfl,v3,rfl⟩:=jO
   have N15:Hp w0 M ((oC Q2 #[.func (.func 105) #[] #[pP Q2,pP Q1]] 152)::(oC Q1 #[v3] 151)::(Ent.row 5 1 v3 ((0+1)+ (digs (-n).toNat).length) (([]++[.int .u8 45])++bL (digs (-n).toNat)))::H) W8:=N14.less J1
   refine aA rfl (cG (aH (RR (Z f (Y35 (v:=v3) rfl (ad:=⟨Q1,0,none⟩) (N15.ownCell 1 rfl 0)) λ_ f=>?_))))
   have N16:=N15.pl [2]
   have N17:Hp w0 M ((Ent.row 5 1 v3 (45::digs (-n).toNat).length (bL (45::digs (-n).toNat)))::(oC Q2 #[.func (.func 105) #[] #[pP Q2,pP Q1]] 152)::(oC Q1 #[v3] 151)::H) W8:=N16.rowEq (by simp<;>omega) (by simp[bL])
   refine Z (v:=S (45::digs (-n).toNat)) f (oI rfl (l:=45::digs (-n).toNat) (v:=v3) kr (e:=5) kr kr kr (N17.rowAt 0 rfl)) λ_ f=>Ye f 2 λ_ f=>wp_ret (bJ f rfl (Lk 2 (S (45::digs (-n).toNat))) (Lk 3 (iL 0)) (⟨_,rfl,M,(mR _),(N17.dropN 3),?_⟩))
   rw[pg hfit U3]
  ·have U4:=ap dI B2
   refine aI (Z f (Y35 (v:=.func (.func 105) #[] #[pP Q2,pP Q1]) rfl (ad:=⟨Q2,0,none⟩) (N5.ownCell 1 rfl 0)) λ_ f=>Y f 1 λ_ f=>?_)
   have f:=Frm.set f 11 (v:=iL n) (v':=iL (n.toNat:Int)) kr (congrArg (Value.int .i64) (by omega))
   have N19:=N5.pl [2,2]
   refine Y17 (E:=[oC Q2 #[.func (.func 105) #[] #[pP Q2,pP Q1]] 152,oC Q1 #[Sn] 151,Ent.row 5 1 Sn 0 []]) (H:=(H)) f N19 (tp _ Q2 Q1 (n.toNat) (by omega) Sn (0) ([]) (by omega)) λv_3 V2 E_2 W9 J2 N20 sj _ f=>?_
   obtain⟨rfl,v3,rfl⟩:=sj
   have N21:Hp w0 M ((oC Q2 #[.func (.func 105) #[] #[pP Q2,pP Q1]] 152)::(oC Q1 #[v3] 151)::(Ent.row 5 1 v3 (0+ (digs n.toNat).length) ([]++bL (digs n.toNat)))::H) W9:=N20.less J2
   refine aA rfl (cG (aH (RR (Z f (Y35 (v:=v3) rfl (ad:=⟨Q1,0,none⟩) (N21.ownCell 1 rfl 0)) λ_ f=>?_))))
   have N22:=N21.pl [2]
   have N23:Hp w0 M ((Ent.row 5 1 v3 (digs n.toNat).length (bL (digs n.toNat)))::(oC Q2 #[.func (.func 105) #[] #[pP Q2,pP Q1]] 152)::(oC Q1 #[v3] 151)::H) W9:=N22.rowEq (by simp) (by simp)
   refine Z (v:=S (digs n.toNat)) f (oI rfl (l:=digs n.toNat) (v:=v3) kr (e:=5) kr kr kr (N23.rowAt 0 rfl)) λ_ f=>Ye f 2 λ_ f=>wp_ret (bJ f rfl (Lk 2 (S (digs n.toNat))) (Lk 3 (iL 0)) (⟨_,rfl,M,(mR _),(N23.dropN 3),?_⟩))
   rw[ph hfit U4]
theorem rR (M:Mem) (n:Nat): ∀ (hn:n≤9007199254740992),Ok Tryz.prog M 93 [iL (n:Int)] (λ_ v=>v=S (digs n)):=by
 induction n using Nat.strongRecOn generalizing M
 rename_i n ih
 intro hn
 have hl1:=iE (n:=n / 10) (by omega)
 have hl2:=iE (n:=n % 10) (by omega)
 intro M hM0 w0 H w p0
 refine Re 17 Tryz.func93 rfl λa0 f0=>RR (Ye f0 1 λ_ f=>ag (RR (Ye f 2 λ_ f=>Y6 f (b:=decide ((n:Int)<10)) (λB1=>?_) λB1=>?_)))
 ·have U1:=dI.1 B1
  refine RR (Y f 1 λ_ f=>Y f 1 λ_ f=>?_)
  have f:=Frm.set f 6 (v:=iL (IntKind.wrap .i64 ((48:Int)+ (n:Int)))) (v':=iL ((48:Int)+ (n:Int))) kr (congrArg (Value.int .i64) (IntWalk.i64_in _ (by omega)))
  refine Y f 1 λ_ f=>?_
  have f:=Frm.set f 7 (v:=.int .u8 (IntKind.wrap .u8 ((48:Int)+ (n:Int)))) (v':=.int .u8 (((48:Int)+ (n:Int)) % 256)) kr (congrArg (Value.int .u8) (IntKind.wrap_u8 _))
  have f:=Frm.set f 7 (v:=.int .u8 (((48:Int)+ (n:Int)) % 256)) (v':=.int .u8 ((dch n).toNat:Int)) kr (congrArg (Value.int .u8) (dch_small (by omega)))
  refine bg (k:=1) (c:=1) f p0 (.cells #[.int .u8 ((dch n).toNat:Int)] 5 (0,0)) kr (λ_=>by kernel_rfl) λQ1 W1 N1 _ f=>Z (v:=S [dch n]) f (X_string rfl (l:=[dch n]) (ad:=⟨Q1,0,none⟩) (cap:=1) kr (e:=5) kr kr kr (al (N1.ownCell 0 rfl) 0 rfl)) λ_ f=>Ye f 1 λ_ f=>wp_ret (aS (ao f rfl (Lk 2 (S [dch n])) (⟨_,rfl,M,mR _,(N1.dropN 1),?_⟩)))
  rw[lZ (n:=n) (by omega)]
 ·have U2:=ap dI B1
  refine St (RR (Y f 1 λ_ f=>Y f 1 λ_ f=>?_))
  have f:=Frm.set f 11 (v:=iL (IntKind.wrap .i64 ((n:Int).tdiv 10))) (v':=iL ((n:Int) / 10)) kr (congrArg (Value.int .i64) (quo_i64 (by omega) (by decide) (by omega)))
  have f:=Frm.set f 11 (v:=iL ((n:Int) / 10)) (v':=iL ((n / 10:Nat):Int)) kr (congrArg (Value.int .i64) (by omega))
  refine Y18 f p0 (ih (n / 10) (by omega) _ (by omega)) λW2 N2 _ f=>Y f 1 λ_ f=>Y f 1 λ_ f=>?_
  have f:=Frm.set f 14 (v:=iL ((n:Int).tmod 10)) (v':=iL ((n:Int) % 10)) kr (congrArg (Value.int .i64) (rem_nn (by omega)))
  have f:=Frm.set f 14 (v:=iL ((n:Int) % 10)) (v':=iL ((n % 10:Nat):Int)) kr (congrArg (Value.int .i64) (by omega))
  refine Y18 f N2 (ih (n % 10) (by omega) _ (by omega)) λW3 N3 _ f=>Z f (Y32 rfl (l:=digs (n / 10)) (m:=digs (n % 10)) (by first|omega|(simp only[List.length_cons,List.length_nil,List.length_append];omega))) λ_ f=>Ye f 1 λ_ f=>wp_ret (ao f rfl (Lk 2 (S ((digs (n / 10))++(digs (n % 10))))) (⟨_,rfl,M,mR _,(N3.dropN 0),?_⟩))
  rw[pf (n:=n) (by omega),lZ (n:=n % 10) (by omega),dch_mod]
theorem textR_ok (M:Mem) (n:Int):Ok Tryz.prog M 70 [iL n] (λ_ v=>v=.tuple #[S (text n).1,iL (text n).2]):=by
 intro M hM0 w0 H w p0
 refine Re 15 Tryz.func70 rfl λa0 f0=>RR (Ye f0 2 λ_ f=>ag (RR (Y f 1 λ_ f=>Y18 f p0 (fitsR_ok _ (n)) λW1 N1 _ f=>Ye f 1 λ_ f=>Y6 f (b:= !(fitsB n)) (λB1=>?_) λB1=>?_)))
 ·have U1: (fitsB n)=false:=by simpa using B1
  refine RR (Ye f 2 λ_ f=>wp_ret (aS (bJ f rfl (Lk 2 (S [])) (Lk 3 (iL 20)) (⟨_,rfl,M,mR _,N1,?_⟩))))
  rw[text_no U1]
 ·have U2: (fitsB n)=true:=by simpa using B1
  refine St (ag (ag ?_))
  have hfit:=U2
  have hfit2:=fitsB_iff.1 hfit
  refine aI (Ye f 2 λ_ f=>Y6 f (b:=decide (n<0)) (λB2=>?_) λB2=>?_)
  ·have U3:=dI.1 B2
   refine RR (Y f 1 λ_ f=>Y f 1 λ_ f=>?_)
   have f:=Frm.set f 10 (v:=iL (IntKind.wrap .i64 (0-n))) (v':=iL (-n)) kr (congrArg (Value.int .i64) ((IntWalk.i64_in _ (by omega)).trans (Int.zero_sub _)))
   have hl1:=iE (n:=(-n).toNat) (by omega)
   have f:=Frm.set f 10 (v:=iL (-n)) (v':=iL ((-n).toNat:Int)) kr (congrArg (Value.int .i64) (by omega))
   refine Y18 f N1 (rR _ (-n).toNat (by omega)) λW2 N2 _ f=>Z f (Y32 rfl (l:=[45]) (m:=digs (-n).toNat) (by first|omega|(simp only[List.length_cons,List.length_nil,List.length_append];omega))) λ_ f=>Ye f 2 λ_ f=>wp_ret (aS (bJ f rfl (Lk 2 (S ([45]++(digs (-n).toNat)))) (Lk 3 (iL 0)) (⟨_,rfl,M,mR _,N2,?_⟩)))
   rw[pg hfit U3]
   rfl
  ·have U4:=ap dI B2
   refine St (RR (Y f 1 λ_ f=>?_))
   have f:=Frm.set f 13 (v:=iL n) (v':=iL (n.toNat:Int)) kr (congrArg (Value.int .i64) (by omega))
   refine Y18 f N1 (rR _ n.toNat (by omega)) λW3 N3 _ f=>Ye f 2 λ_ f=>wp_ret (bJ f rfl (Lk 2 (S (digs n.toNat))) (Lk 3 (iL 0)) (⟨_,rfl,M,mR _,N3,?_⟩))
   rw[ph hfit U4]
end Go.Proofs.YtkhdpnamfndonaaGreatDoor
end
section
namespace Go.Num
open Go
theorem text_fit {n:Int} (h: (text n).2=0):fitsB n=true:=by
 cases hf:fitsB n with
 |true=>rfl
 |false=>rw[text_no hf] at h;simp at h
end Go.Num
namespace Go.Num
open Go
theorem nd_app: ∀ (ds b:Bs) (k:Nat),(∀c∈ds,dig c=true)→nd (ds++b) k=nd b (k+ds.length)
 |[],b,k,_=>by simp
 |c::ds,b,k,h=>by
  simp only[List.cons_append,nd,h c List.mem_cons_self,if_true]
  rw[nd_app ds b (k+1) (λx hx=>h x (List.mem_cons_of_mem _ hx))]
  simp only[List.length_cons];congr 1;omega
theorem vl_app: ∀ (ds b:Bs) (v:Nat),(∀c∈ds,dig c=true)→vl (ds++b) v=vl b (vl ds v)
 |[],b,v,_=>by simp[vl]
 |c::ds,b,v,h=>by
  simp only[List.cons_append,vl,h c List.mem_cons_self,if_true]
  exact vl_app ds b _ (λx hx=>h x (List.mem_cons_of_mem _ hx))
theorem vl_snoc (ds:Bs) (c:UInt8) (h: ∀x∈ds,dig x=true) (hc:dig c=true) (v:Nat):vl (ds++[c]) v=10*vl ds v+ (c.toNat-48):=by
 rw[vl_app ds [c] v h];simp only[vl,hc,if_true]
theorem vl_mono: ∀ (ds:Bs) (v:Nat),1≤v→1≤vl ds v
 |[],v,h=>h
 |c::r,v,h=>by
  simp only[vl]
  split
  ·exact vl_mono r _ (by omega)
  ·exact h
theorem digs_vl: ∀ (r:Bs),(∀x∈r.reverse,dig x=true)→r≠ []→(r.reverse.getD 0 0=48→r.length=1)→digs (vl r.reverse 0)=r.reverse
 |[],_,h,_=>absurd rfl h
 |[c],hd,_,_=>by
  have hc:=hd c (by simp)
  have hc':=(lh c).1 hc
  simp only[List.reverse_cons,List.reverse_nil,List.nil_append,vl,hc,if_true,Nat.mul_zero,Nat.zero_add]
  rw[lZ (by omega)]
  congr 1
  refine UInt8.toNat_inj.1 ?_
  rw[nC];omega
 |c::d::r,hd,_,hz=>by
  have hc:=hd c (by simp)
  have hc':=(lh c).1 hc
  have hd': ∀x∈ (d::r).reverse,dig x=true:=λx hx=>hd x (by rw[List.reverse_cons];exact List.mem_append_left _ hx)
  have hlen:0<((d::r).reverse).length:=by simp
  have h0: (c::d::r).reverse.getD 0 0=(d::r).reverse.getD 0 0:=by
   rw[List.reverse_cons];simp only[List.getD];rw[List.getElem?_append_left hlen]
  have hne: (d::r).reverse.getD 0 0≠48:=λh=>by
   have:=hz (h0.trans h);simp at this
  have hi:=digs_vl (d::r) hd' (by simp) (λh=>absurd h hne)
  have hv:1≤vl (d::r).reverse 0:=by
   cases hr: (d::r).reverse with
   |nil=>rw[hr] at hlen;simp at hlen
   |cons x y=>
    rw[hr] at hne hd'
    have hx:=hd' x List.mem_cons_self
    have hx':=(lh x).1 hx
    simp only[vl,hx,if_true]
    refine vl_mono y _ ?_
    have:x.toNat≠48:=λe=>hne (by simp only[List.getD_cons_zero];exact UInt8.toNat_inj.1 e)
    omega
  rw[List.reverse_cons,vl_snoc _ _ hd' hc]
  rw[pf (by omega)]
  rw[show(10*vl (d::r).reverse 0+ (c.toNat-48)) / 10=vl (d::r).reverse 0 by omega,hi]
  congr 2
  refine UInt8.toNat_inj.1 ?_
  rw[nC];omega
theorem nd_all: ∀ (l:Bs) (k:Nat),nd l k=k+l.length→∀x∈l,dig x=true
 |[],_,_,_,hx=>by simp at hx
 |c::r,k,h,x,hx=>by
  simp only[nd] at h
  split at h
  ·rename_i hc
   rcases List.mem_cons.1 hx with rfl|hx
   ·exact hc
   ·exact nd_all r (k+1) (by simp only[List.length_cons] at h;omega) x hx
  ·simp only[List.length_cons] at h;omega
theorem text_read {s:Bs} (h: (read s).2=0):text (read s).1=(s,0):=by
 have hr: (scan s 0).2.2=0∧(scan s 0).2.1=s.length:=by
  unfold read at h
  split at h
  ·assumption
  ·simp at h
 have hx: (read s).1=(scan s 0).1:=by unfold read;rw[if_pos hr]
 rw[hx]
 rw[mP (by omega)] at hr ⊢
 simp only[Int.toNat_zero,List.drop_zero] at hr ⊢
 obtain⟨h1,h2⟩:=hr
 unfold scanL at h1 h2 ⊢
 simp only[] at h1 h2 ⊢
 by_cases c1:s.getD (fst s) 0=48∧fst s+2≤nd (s.drop (fst s)) (fst s)
 ·rw[if_pos c1] at h1;simp at h1
 rw[if_neg c1] at h1 h2 ⊢
 by_cases c2:nd (s.drop (fst s)) (fst s)=fst s∨s.getD (nd (s.drop (fst s)) (fst s)) 0=46∨s.getD (nd (s.drop (fst s)) (fst s)) 0=101∨s.getD (nd (s.drop (fst s)) (fst s)) 0=69
 ·rw[if_pos c2] at h1;simp at h1
 rw[if_neg c2] at h1 h2 ⊢
 by_cases c3:big<vl (s.drop (fst s)) 0∨(neg s=true∧vl (s.drop (fst s)) 0=0)
 ·rw[if_pos c3] at h1;simp at h1
 rw[if_neg c3] at h2 ⊢
 simp only[] at h2 ⊢
 have hle:=fst_le s
 have hk:nd (s.drop (fst s)) (fst s)=s.length:=by omega
 have hall:=nd_all (s.drop (fst s)) (fst s) (by rw[hk,List.length_drop];omega)
 have hlt:fst s<s.length:=by
  rcases Nat.lt_or_ge (fst s) s.length with h|h
  ·exact h
  ·exact absurd (.inl (by omega)) c2
 have hd:=digs_vl (s.drop (fst s)).reverse (by rwa [List.reverse_reverse]) (by
  intro e
  have:=congrArg List.length e
  simp at this;omega) (by
  rw[List.reverse_reverse]
  intro h48
  have h48':s.getD (fst s) 0=48:=by
   rw[←h48];simp[List.getD,List.getElem?_drop]
  have: ¬fst s+2≤nd (s.drop (fst s)) (fst s):=λhx=>c1 ⟨h48',hx⟩
  simp only[List.length_reverse,List.length_drop];omega)
 rw[List.reverse_reverse] at hd
 have hb:vl (s.drop (fst s)) 0≤9007199254740992:=by
  have: ¬big<vl (s.drop (fst s)) 0:=λhx=>c3 (.inl hx)
  unfold big at this;omega
 cases hn:neg s with
 |false=>
  rw[fst_f hn] at hd hb ⊢
  simp only[List.drop_zero] at hd hb ⊢
  rw[if_neg (by simp)]
  rw[ph (fitsB_iff.2 (by omega)) (by omega)]
  simp[hd]
 |true=>
  have hv:vl (s.drop (fst s)) 0≠0:=λhx=>c3 (.inr ⟨hn,hx⟩)
  rw[fst_t hn] at hd hb hv ⊢
  rw[if_pos rfl]
  rw[pg (fitsB_iff.2 (by omega)) (by omega)]
  rw[show(- -((vl (s.drop 1) 0:Nat):Int)).toNat=vl (s.drop 1) 0 by omega,hd]
  congr 1
  have h45:s.getD 0 0=45:=by simpa [neg] using hn
  cases s with
  |nil=>simp at h45
  |cons c r=>simp at h45;simp[h45]
theorem text_zero (n:Int): (text n).2=0↔fitsB n=true:=⟨text_fit,λh=>by simp[text,h]⟩
theorem text_len {n:Int} (h:fitsB n=true): (text n).1.length≤17:=by
 have h2:=fitsB_iff.1 h
 by_cases h0:n<0
 ·rw[pg h h0];have:=iE (n:=(-n).toNat) (by omega);simp;omega
 ·rw[ph h h0];have:=iE (n:=n.toNat) (by omega);dsimp only;omega
end Go.Num
end
section
namespace Go.Proofs.YtkhdpnamfndonaaGreatDoor
open Go Go.Vc Go.RowKit Go.Num
def pO (_:Nat) (x:Int):Option (Bs×Int):=some (Go.Num.text x)
theorem h_numText_ok (n:Nat) (M:Mem) (x:Int) (r:Bs×Int) (hF:pO n x=some r):Ok Tryz.prog M 86 [iL x] (λ_ v=>v=.tuple #[S r.1,iL r.2]):=by
 obtain rfl:=Option.some.inj hF
 exact textP_ok M x
def ot (_:Nat) (x:Int):Option (Bs×Int):=some (Go.Num.text x)
theorem sx (n:Nat) (M:Mem) (x:Int) (r:Bs×Int) (hF:ot n x=some r):Ok Tryz.prog M 70 [iL x] (λ_ v=>v=.tuple #[S r.1,iL r.2]):=by
 obtain rfl:=Option.some.inj hF
 exact textR_ok M x
def nD (_:Nat) (s:Bs):Option (Int×Int):=aZ (s.length≤140737488351232) (some (Go.Num.read s))
theorem h_numRead_ok (n:Nat) (M:Mem) (s:Bs) (r:Int×Int) (hF:nD n s=some r):Ok Tryz.prog M 103 [S s] (λ_ v=>v=.tuple #[iL r.1,iL r.2]):=by
 unfold nD at hF
 obtain⟨g,hF⟩:=jf hF
 obtain rfl:=Option.some.inj hF
 exact readP_ok M s g
def ma (_:Nat) (s:Bs):Option (Int×Int):=aZ (s.length≤140737488351232) (some (Go.Num.read s))
theorem sy (n:Nat) (M:Mem) (s:Bs) (r:Int×Int) (hF:ma n s=some r):Ok Tryz.prog M 91 [S s] (λ_ v=>v=.tuple #[iL r.1,iL r.2]):=by
 unfold ma at hF
 obtain⟨g,hF⟩:=jf hF
 obtain rfl:=Option.some.inj hF
 exact readR_ok M s g
end Go.Proofs.YtkhdpnamfndonaaGreatDoor
end
section
namespace Go.Vc
open Go Go.RowKit
section
variable {P:Program} {w:World} {ρ:Operand→Value} {o:Oper}
theorem X_slice3 {t e sz:Nat} {x hi mx:Operand} {A:Oa} {len cap:Nat} {k k':IntKind} {b:Int} (ho:o.op=.slice t x none (some hi) (some mx)) (hx:ρ x=.slice A len cap) (hhi:ρ hi=.int k b) (hmx:ρ mx=.int k' b) (ht:P.underlying t=some (.slice e))
 (hs:szIs P e sz=true) (h0:0≤b) (h2:b≤cap): (execOp ρ o).run P w=.ok (.value (.slice (cutA A sz 0 b.toNat) b.toNat b.toNat)) w:=by
 obtain⟨b,rfl⟩:=Int.eq_ofNat_of_zero_le h0
 have hb:b≤cap:=by omega
 unfold execOp
 simp only[ho,hx,hhi,hmx,Option.map,Instr.sliceAt,Sem.run_bind,Sem.run_pure,Result.andThen_ok,run_underlying ht,Instr.slice,Instr.sliceBounds,Instr.sliceBound,asIntOf]
 simp only[Int.toNat_natCast]
 simp[hb,eP hs,cutA]
 rfl
theorem Y38 {t e sz:Nat} {x hi mx:Operand} {A:Oa} {len cap:Nat} {k k':IntKind} {b:Int} (ho:o.op=.slice t x none (some hi) (some mx)) (h0:0≤b) (h2:b≤cap) (hx:ρ x=.slice A len cap:=by kernel_rfl) (hhi:ρ hi=.int k b:=by kernel_rfl) (hmx:ρ mx=.int k' b:=by kernel_rfl) (ht:P.underlying t=some (.slice e):=by kernel_rfl) (hs:szIs P e sz=true:=by kernel_rfl): (execOp ρ o).run P w=.ok (.value (.slice (cutA A sz 0 b.toNat) b.toNat b.toNat)) w:=X_slice3 ho hx hhi hmx ht hs h0 h2
end
section
variable {α:Type} {M:Mem} {sz:Nat} {f:α→Dat} {A:Oa} {cap:Nat} {xs:List α}
theorem Sli.full (h:Sli M sz f A cap xs) {b:Nat} (hb:b≤xs.length):Sli M sz f (cutA A sz 0 b) (xs.take b).length (xs.take b):=by
 obtain⟨h1,h2,h3⟩:=h
 have hl: (xs.take b).length=b:=by rw[List.length_take];omega
 refine⟨Nat.le_refl _,λe=>?_,?_⟩
 ·rw[hl]
  unfold cutA at e
  split at e
  ·omega
  ·cases A with
   |none=>have:=h2 rfl;omega
   |some ad=>simp at e
 ·rcases h3 with h3|⟨ad,h4,h5⟩
  ·exact .inl (by simp[h3])
  ·by_cases hac:b=0
   ·exact .inl (by simp[hac])
   ·refine .inr ⟨ad.add (0*sz),by simp[cutA,hac,h4],?_⟩
    rw[List.map_take]
    have:=RepArr.drop 0 (RepArr.take b h5)
    simpa using this
end
section
variable {α:Type} {P:Program} {ops:Array Oper} {n:Nat} {Q:Exit→Act→World→Prop} {L:Fr} {a:Act} {w0 w:World} {M:Mem} {H:List Ent} {sz:Nat} {f:α→Dat} {dd:List Deferred}
theorem Hp.appendFull {t tx ty e:TypeId} {i:TypeInfo} {z x:Value} {m:Nat} {xs:List α} {news:Lv} {A:Oa} (hp:Hp w0 M H w) (hxs:Sli M sz f A xs.length xs) (hs:Src P sz tx x m news w) (hm:0<m)
 (ht:P.underlying t=some (.slice e)) (hi:P.info? e=some i) (hz:i.zero=some z) (hsz:i.size=sz) (hzs:z.cells.size=sz) (h0:0<sz) (hb: (xs.length+m)*i.bytes≤140737488355328) (h63:xs.length+m≤9223372036854775807):
 ∃v' cs w',(Builtin.append_ #[t,tx] ty #[.slice A xs.length xs.length,x]).run P w=.ok v' w'∧aa M (xs.map f) cs∧Hp w0 M (.row e sz v' (xs.length+m) (cs++news)::H) w':=by
 subst hsz
 have hl:=hs.newsLen
 have hold: ∃cs:Lv,cs.length=xs.length*i.size∧aa M (xs.map f) cs∧(Builtin.firstCells i.size xs.length (.slice A xs.length xs.length)).run P w.drew=.ok cs.toArray w.drew:=by
  obtain⟨h1,h2,h3⟩:=hxs
  cases A with
  |none=>
   have h4:=h2 rfl
   have h5:xs=[]:=List.eq_nil_of_length_eq_zero h4
   subst h5
   exact⟨[],by simp,rfl,run_firstCells_none w.drew i.size 0 0 0⟩
  |some ad=>
   have h5:RepArr M i.size (xs.map f) ad:=by
    rcases h3 with h3|⟨ad',e',h5⟩
    ·subst h3;trivial
    ·cases e';exact h5
   obtain⟨cs,k1,k2,k3⟩:=RepArr.cells h5
   have k1':cs.length=xs.length*i.size:=by simpa using k1
   exact⟨cs,k1',k2,run_firstCells_some w.drew i.size xs.length ad xs.length xs.length cs k1' λj u hu=>hp.drew.cell (k3 j u hu)⟩
 obtain⟨cs,k1,k2,k3⟩:=hold
 have hc:xs.length<xs.length+m:=by omega
 have hr:=run_append_grow_src (P:=P) w t tx ty e i z ht hi hz A xs.length xs.length cs k3 x m news hs hc (by omega) (growslice_fits hc hb)
 have hlen: (cs++news).length=(xs.length+m)*i.size:=by rw[List.length_append,k1,hl,Nat.add_mul]
 refine⟨_,cs,_,hr,k2,?_⟩
 refine(hp.drew.alloc _).objRow (grownCap_ge w (xs.length+m) xs.length e) (grownCap_le_maxLen w (xs.length+m) xs.length e (by unfold maxLen;exact h63)) (eO (grownCap_le_maxLen w (xs.length+m) xs.length e (by unfold maxLen;exact h63)) ?_) ?_ hlen
 ·have:=grownCap_ge w (xs.length+m) xs.length e
  rw[Array.size_append,List.size_toArray,size_zeroCells,hzs,hlen,←Nat.add_mul]
  congr 1
  omega
 ·rw[Array.toList_append,←hlen]
  exact List.take_left
theorem W_appendFL {o:Oper} {rest:List Oper} {d:Nat} {t e:TypeId} {x y:Operand} {z:Value} {bytes m c:Nat} {ad:Addr} {A:Oa} {xs ys:List α} {news:Lv} (hf:Frm n L a dd) (hp:Hp w0 M H w) (h0:0<sz) (hm:0<m)
 (hxs:Sli M sz f A xs.length xs) (hys:aa M (ys.map f) news)
 (hw:bb ops L o=some true) (hr:bq L o=true) (hd:o.dst=some d) (hdn:Nat.blt d n=true) (ho:o.op=.call {callee:=.builtin .append,args:=#[x,y],argTypes:=#[t,t]})
 (hx:ev L x=.slice A xs.length xs.length) (hy:ev L y=.slice (some ad) m c) (ht:P.underlying t=some (.slice e)) (hi:infoIs P e z sz bytes=true) (hl: (ys.length,news.length)=(m,m*sz))
 (hn: ∀j u,news[j]? =some u→w.cell? (ad.add j)=some u)
 (hb: (xs.length+m)*bytes≤140737488355328) (h63:xs.length+m≤9223372036854775807)
 (hk: ∀A cap cs' w',Hp w0 M (.row e sz (.slice A (xs++ys).length cap) (xs++ys).length cs'::H) w'→aa M ((xs++ys).map f) cs'→∀a',Frm n ((d,.slice A (xs++ys).length cap)::L) a' dd→wpList P ops Q rest a' w'):wpList P ops Q (o::rest) a w:=by
 obtain⟨i,u,hi1,hi2,hi3,hi4,hi5,hi6⟩:=nl hi
 simp only[Prod.mk.injEq] at hl
 have hsrc:=Src.ofSlice (P:=P) (size:=sz) w ht ad m c news hl.2 hn (aa.oneC _ _ hys)
 obtain⟨v',cs,w',hrun,hcs,hp'⟩:=hp.appendFull (ty:=o.type) hxs hsrc hm ht hi1 hi2 hi3 hi5 h0 (by rw[hi4];exact hb) h63
 obtain⟨A',cap,rfl,_⟩:=hp'.rowShape 0 rfl
 have e3:xs.length+m=(xs++ys).length:=by simp[hl.1]
 refine ls hf hw hr hd hdn (jt ho hx hy hrun) λa' ha=>?_
 rw[e3] at ha hp'
 exact hk A' cap (cs++news) w' hp' (hcs.more hys) a' ha
theorem Y20 {o:Oper} {rest:List Oper} {d:Nat} {t e:TypeId} {x y:Operand} {z:Value} {bytes m c:Nat} {ad:Addr} {A:Oa} {xs ys:List α} {news:Lv} (hf:Frm n L a dd) (hp:Hp w0 M H w) (h0:0<sz) (hm:0<m) (hxs:Sli M sz f A xs.length xs) (hys:aa M (ys.map f) news) (hd:o.dst=some d) (hdn:Nat.blt d n=true) (ho:o.op=.call {callee:=.builtin .append,args:=#[x,y],argTypes:=#[t,t]}) (hl: (ys.length,news.length)=(m,m*sz)) (hn: ∀j u,news[j]? =some u→w.cell? (ad.add j)=some u) (hb: (xs.length+m)*bytes≤140737488355328) (h63:xs.length+m≤9223372036854775807) (hk: ∀A cap cs' w',Hp w0 M (.row e sz (sL A (xs++ys) cap) (xs++ys).length cs'::H) w'→aa M ((xs++ys).map f) cs'→∀a',Frm n ((d,sL A (xs++ys) cap)::L) a' dd→wpList P ops Q rest a' w') (hw:bb ops L o=some true:=by kernel_rfl) (hr:bq L o=true:=by kernel_rfl) (hx:ev L x=sL A xs xs.length:=by kernel_rfl) (hy:ev L y=.slice (some ad) m c:=by kernel_rfl) (ht:P.underlying t=some (.slice e):=by kernel_rfl) (hi:infoIs P e z sz bytes=true:=by kernel_rfl):wpList P ops Q (o::rest) a w:=W_appendFL hf hp h0 hm hxs hys hw hr hd hdn ho hx hy ht hi hl hn hb h63 hk
theorem W_appendFS {o:Oper} {rest:List Oper} {d:Nat} {t e:TypeId} {x y:Operand} {z:Value} {bytes c:Nat} {A B:Oa} {xs ys:List α} (hf:Frm n L a dd) (hp:Hp w0 M H w) (h0:0<sz) (hsz: ∀x,Szd sz (f x))
 (hxs:Sli M sz f A xs.length xs) (hys:Sli M sz f B c ys)
 (hw:bb ops L o=some true) (hr:bq L o=true) (hd:o.dst=some d) (hdn:Nat.blt d n=true) (ho:o.op=.call {callee:=.builtin .append,args:=#[x,y],argTypes:=#[t,t]})
 (hx:ev L x=.slice A xs.length xs.length) (hy:ev L y=.slice B ys.length c) (ht:P.underlying t=some (.slice e)) (hi:infoIs P e z sz bytes=true)
 (hb: (xs.length+ys.length)*bytes≤140737488355328) (h63:xs.length+ys.length≤9223372036854775807)
 (hk: ∀A cap M' w',M.le M'→Hp w0 M' H w'→Sli M' sz f A cap (xs++ys)→∀a',Frm n ((d,.slice A (xs++ys).length cap)::L) a' dd→wpList P ops Q rest a' w'):wpList P ops Q (o::rest) a w:=by
 obtain⟨i,u,hi1,hi2,hi3,hi4,hi5,hi6⟩:=nl hi
 obtain⟨h1,h2,h3⟩:=hys
 have hsrc: ∃news,aa M (ys.map f) news∧Src P sz t (.slice B ys.length c) ys.length news w:=by
  cases B with
  |none=>
   have h4:=h2 rfl
   have h5:ys=[]:=List.eq_nil_of_length_eq_zero (by omega)
   subst h5
   exact⟨[],rfl,Src.ofNil w ht c⟩
  |some ad=>
   have h5:RepArr M sz (ys.map f) ad:=by
    rcases h3 with h3|⟨ad',e',h5⟩
    ·subst h3;trivial
    ·cases e';exact h5
   obtain⟨news,k1,k2,k3⟩:=RepArr.cells h5
   exact⟨news,k2,Src.ofSlice (P:=P) (size:=sz) w ht ad ys.length c news (by simpa using k1) (λj u hu=>hp.cell (k3 j u hu)) (aa.oneC _ _ k2)⟩
 obtain⟨news,hns,hsrc⟩:=hsrc
 rcases Nat.eq_zero_or_pos ys.length with hz|hz
 ·have hy0:ys=[]:=List.eq_nil_of_length_eq_zero hz
  subst hy0
  have hnw:news=[]:=List.eq_nil_of_length_eq_zero (by simpa using hsrc.newsLen)
  subst hnw
  have hrun:=run_append_nothing w t t o.type e i ht hi1 A xs.length xs.length (Nat.le_refl _) (.slice B 0 c) (by rw[hi3];exact hsrc)
  refine ls hf hw hr hd hdn (jt ho hx hy hrun) λa' ha=>?_
  refine hk A xs.length M w (Mem.le_refl _) hp (by rw[List.append_nil];exact hxs) a' ?_
  rw[List.append_nil];exact ha
 ·obtain⟨v',cs,w',hrun,hcs,hp'⟩:=hp.appendFull (ty:=o.type) hxs hsrc hz ht hi1 hi2 hi3 hi5 h0 (by rw[hi4];exact hb) h63
  have e3:xs.length+ys.length=(xs++ys).length:=by simp
  rw[e3] at hp'
  obtain⟨A',cap,M',rfl,hM,hp2,hsl⟩:=hp'.rowSli (f:=f) hsz (hcs.more hns)
  refine ls hf hw hr hd hdn (jt ho hx hy hrun) λa' ha=>?_
  exact hk A' cap M' w' hM hp2 hsl a' ha
theorem Y21 {o:Oper} {rest:List Oper} {d:Nat} {t e:TypeId} {x y:Operand} {z:Value} {bytes c:Nat} {A B:Oa} {xs ys:List α} (hf:Frm n L a dd) (hp:Hp w0 M H w) (h0:0<sz) (hsz: ∀x,Szd sz (f x)) (hxs:Sli M sz f A xs.length xs) (hys:Sli M sz f B c ys) (hd:o.dst=some d) (hdn:Nat.blt d n=true) (ho:o.op=.call {callee:=.builtin .append,args:=#[x,y],argTypes:=#[t,t]}) (hb: (xs.length+ys.length)*bytes≤140737488355328) (h63:xs.length+ys.length≤9223372036854775807) (hk: ∀A cap M' w',M.le M'→Hp w0 M' H w'→Sli M' sz f A cap (xs++ys)→∀a',Frm n ((d,sL A (xs++ys) cap)::L) a' dd→wpList P ops Q rest a' w') (hw:bb ops L o=some true:=by kernel_rfl) (hr:bq L o=true:=by kernel_rfl) (hx:ev L x=sL A xs xs.length:=by kernel_rfl) (hy:ev L y=sL B ys c:=by kernel_rfl) (ht:P.underlying t=some (.slice e):=by kernel_rfl) (hi:infoIs P e z sz bytes=true:=by kernel_rfl):wpList P ops Q (o::rest) a w:=W_appendFS hf hp h0 hsz hxs hys hw hr hd hdn ho hx hy ht hi hb h63 hk
end
section
variable {P:Program} {w:World} {d:Nat} {xs ys:Array Value}
theorem EqS {t:TypeId} {a b:Bs} (ht:P.underlying t=some .string): (Op.equalIn (d+1) t (S a) (S b)).run P w=.ok (decide (a=b)) w:=by
 have: ((⟨a.toArray⟩:ByteArray)== ⟨b.toArray⟩)=decide (a=b):=by
  rw[beq_toListBytes,ByteArray.toList_eq,ByteArray.toList_eq]
  rw[Bool.eq_iff_iff];simp
 simp only[Op.equalIn,Sem.run_bind,run_underlying ht,Result.andThen_ok,Sem.run_pure,this]
theorem EqB {t:TypeId} {a b:Bool} (ht:P.underlying t=some .bool): (Op.equalIn (d+1) t (.bool a) (.bool b)).run P w=.ok (a==b) w:=by
 simp[Op.equalIn,run_underlying ht]
def FEq (P:Program) (d:Nat) (xs ys:Array Value) (w:World):List (TypeId×Nat)→List Bool→Prop
 |[],[]=>True
 |(t,o)::s,r::rs=>(∃a b,(part t xs o).run P w=.ok a w∧(part t ys o).run P w=.ok b w∧(Op.equalIn d t a b).run P w=.ok r w)∧FEq P d xs ys w s rs
 |_,_=>False
def fieldsAre:List Field→List (TypeId×Nat)→Bool
 |[],[]=>true
 |f::fs,(t,o)::s=>f.name != "_"&& (Nat.beq f.type t&& (Nat.beq f.offset o&&fieldsAre fs s))
 |_,_=>false
def andL:List Bool→Bool
 |[]=>true
 |[r]=>r
 |r::rs=>r&&andL rs
theorem andL_cons (r:Bool) (rs:List Bool):andL (r::rs)=(r&&andL rs):=by cases rs<;>simp[andL]
theorem FEq.run: ∀ {fs:List Field} {s:List (TypeId×Nat)} {rs:List Bool},fieldsAre fs s=true→FEq P d xs ys w s rs→(Op.eqFields d xs ys fs).run P w=.ok (andL rs) w
 |[],[],[],_,_=>by simp[Op.eqFields,andL]
 |f::fs,(t,o)::s,r::rs,h,⟨⟨a,b,ha,hb,hr⟩,h2⟩=>by
  simp only[fieldsAre,Bool.and_eq_true,bne_iff_ne] at h
  obtain⟨h1,h3,h4,h5⟩:=h
  have e1:=Nat.eq_of_beq_eq_true h3
  have e2:=Nat.eq_of_beq_eq_true h4
  subst e1;subst e2
  have ih:=FEq.run h5 h2
  rw[andL_cons]
  simp only[Op.eqFields,h1,ne_eq,not_false_eq_true,if_true,Sem.run_bind,ha,hb,hr,Result.andThen_ok]
  cases r
  ·simp
  ·simpa using ih
 |[],[],_::_,_,h=>h.elim
 |[],_::_,_,h,_=>by simp[fieldsAre] at h
 |_::_,[],_,h,_=>by simp[fieldsAre] at h
 |_::_,_::_,[],_,h=>h.elim
theorem X_aggEq {o:Oper} {ρ:Operand→Value} {t t':TypeId} {x y:Operand} {xs ys:Array Value} {s:List (TypeId×Nat)} {rs:List Bool} (ho:o.op=.binOp .eql t x y t') (hx:ρ x=.agg xs) (hy:ρ y=.agg ys) (hg:P.eqGuardType P.depth t=false)
 (ht:P.underlying t=some (.struct (P.fieldsOf t))) (hp:P.stoodInHeld t=false) (hf:fieldsAre (P.fieldsOf t).toList s=true) (h: ∀w,FEq P 9999 xs ys w s rs) (w:World): (execOp ρ o).run P w=.ok (.value (.bool (andL rs))) w:=by
 unfold execOp
 simp only[ho,hx,hy,Sem.run_bind,run_eqGuard_agg w .eql t x y xs ys hg,Result.andThen_ok,run_eql_struct,run_equalIn_struct w 9999 t xs ys ht hp,FEq.run hf (h w),Sem.run_pure]
theorem Y30 {o:Oper} {ρ:Operand→Value} {t t':TypeId} {x y:Operand} {xs ys:Array Value} {s:List (TypeId×Nat)} {rs:List Bool} (ho:o.op=.binOp .eql t x y t') (h: ∀w,FEq P 9999 xs ys w s rs) (w:World) (hx:ρ x=.agg xs:=by kernel_rfl) (hy:ρ y=.agg ys:=by kernel_rfl) (hg:P.eqGuardType P.depth t=false:=by kernel_rfl) (ht:P.underlying t=some (.struct (P.fieldsOf t)):=by kernel_rfl) (hp:P.stoodInHeld t=false:=by kernel_rfl) (hf:fieldsAre (P.fieldsOf t).toList s=true:=by kernel_rfl): (execOp ρ o).run P w=.ok (.value (bO (andL rs))) w:=X_aggEq ho hx hy hg ht hp hf h w
theorem X_aggNe {o:Oper} {ρ:Operand→Value} {t t':TypeId} {x y:Operand} {xs ys:Array Value} {s:List (TypeId×Nat)} {rs:List Bool} (ho:o.op=.binOp .neq t x y t') (hx:ρ x=.agg xs) (hy:ρ y=.agg ys) (hg:P.eqGuardType P.depth t=false)
 (ht:P.underlying t=some (.struct (P.fieldsOf t))) (hp:P.stoodInHeld t=false) (hf:fieldsAre (P.fieldsOf t).toList s=true) (h: ∀w,FEq P 9999 xs ys w s rs) (w:World): (execOp ρ o).run P w=.ok (.value (.bool (!andL rs))) w:=by
 unfold execOp
 simp only[ho,hx,hy,Sem.run_bind,run_eqGuard_agg w .neq t x y xs ys hg,Result.andThen_ok,run_neq_struct,run_equalIn_struct w 9999 t xs ys ht hp,FEq.run hf (h w),Sem.run_pure]
theorem Y31 {o:Oper} {ρ:Operand→Value} {t t':TypeId} {x y:Operand} {xs ys:Array Value} {s:List (TypeId×Nat)} {rs:List Bool} (ho:o.op=.binOp .neq t x y t') (h: ∀w,FEq P 9999 xs ys w s rs) (w:World) (hx:ρ x=.agg xs:=by kernel_rfl) (hy:ρ y=.agg ys:=by kernel_rfl) (hg:P.eqGuardType P.depth t=false:=by kernel_rfl) (ht:P.underlying t=some (.struct (P.fieldsOf t)):=by kernel_rfl) (hp:P.stoodInHeld t=false:=by kernel_rfl) (hf:fieldsAre (P.fieldsOf t).toList s=true:=by kernel_rfl): (execOp ρ o).run P w=.ok (.value (bO (!andL rs))) w:=X_aggNe ho hx hy hg ht hp hf h w
end
section
variable {κ V:Type} {P:Program} {w:World} {ek:κ→Value} {ev:V→Value}
end
section
variable {α:Type} {P:Program} {ops:Array Oper} {n:Nat} {Q:Exit→Act→World→Prop} {L:Fr} {a:Act} {w0 w:World} {M:Mem} {H:List Ent} {sz:Nat} {f:α→Dat} {dd:List Deferred}
theorem hN {o:Oper} {rest:List Oper} {d:Nat} {t e:TypeId} {x y:Operand} {z v:Value} {bytes k:Nat} {A:Oa} {cap:Nat} {xs:List α} {cs:Lv} (hf:Frm n L a dd) (hp:Hp w0 M (.row e sz v xs.length cs::H) w) (hs: ∀x,Szd sz (f x))
 (hcs:aa M (xs.map f) cs) (hv:v=.slice A xs.length cap) (hk:k<xs.length)
 (hw:bb ops L o=some true) (hr:bq L o=true) (hd:o.dst=some d) (hdn:Nat.blt d n=true) (ho:o.op=.call {callee:=.builtin .append,args:=#[x,y],argTypes:=#[t,t]})
 (hx:ev L x=.slice (cutA A sz 0 k) k k) (hy:ev L y=.slice (cutA A sz (k+1) cap) (xs.length- (k+1)) (cap- (k+1))) (ht:P.underlying t=some (.slice e)) (hi:infoIs P e z sz bytes=true)
 (hb:xs.length*bytes≤140737488355328) (h63:xs.length≤9223372036854775807)
 (hq': ∀A cap cs' w',Hp w0 M (.row e sz (.slice A (xs.take k++xs.drop (k+1)).length cap) (xs.take k++xs.drop (k+1)).length cs'::H) w'→aa M ((xs.take k++xs.drop (k+1)).map f) cs'→∀a',Frm n ((d,.slice A (xs.take k++xs.drop (k+1)).length cap)::L) a' dd→wpList P ops Q rest a' w'):wpList P ops Q (o::rest) a w:=by
 obtain⟨i,u,hi1,hi2,hi3,hi4,hi5,hi6⟩:=nl hi
 have hseg:aa M ((xs.drop (k+1)).map f) (cs.drop ((k+1)*sz)):=by rw[List.map_drop];exact aa.dropD _ (bY hs) hcs
 have hcl:cs.length=xs.length*sz:=by
  have:=aa.len (bY hs) hcs
  rw[this,List.length_map]
 have hl: (cs.drop ((k+1)*sz)).length=(xs.length- (k+1))*sz:=by
  have:=aa.len (bY hs) hseg
  rw[this];simp
 have hsrc:Src P sz t (.slice (cutA A sz (k+1) cap) (xs.length- (k+1)) (cap- (k+1))) (xs.length- (k+1)) (cs.drop ((k+1)*sz)) w:=by
  rcases hp.rowPart 0 rfl hv (show k+1≤xs.length by omega) (Nat.le_refl _) with⟨e1,e2,e3⟩|⟨ad,e1,e2⟩
  ·have hn:cs.drop ((k+1)*sz)=[]:=List.eq_nil_of_length_eq_zero (by rw[hl,e2];simp)
   rw[e1,e2,e3,hn]
   exact Src.ofNil w ht 0
  ·rw[e1]
   exact Src.ofSlice (P:=P) (size:=sz) w ht ad _ _ _ hl (λj u hu=>e2 j u (by rw[List.take_of_length_le (by rw[hcl];exact Nat.le_refl _)];exact hu)) (aa.oneC _ _ hseg)
 have hp2:=hp.rowFull hv (Nat.le_of_lt hk)
 have hle:k+ (xs.length- (k+1))≤xs.length:=by omega
 obtain⟨v',w',hrun,hp'⟩:=hp2.appendSrc (ty:=o.type) hsrc ht hi1 hi2 hi3 hi5 hi6 (by rw[hi4];exact Nat.le_trans (Nat.mul_le_mul_right _ hle) hb) (by omega)
 obtain⟨A',cap',rfl,_⟩:=hp'.rowShape 0 rfl
 have e3:k+ (xs.length- (k+1))=(xs.take k++xs.drop (k+1)).length:=by simp;omega
 refine ls hf hw hr hd hdn (jt ho hx hy hrun) λa' ha=>?_
 rw[e3] at ha hp'
 refine hq' A' cap' _ w' hp' ?_ a' ha
 rw[List.map_append,List.map_take]
 exact(aa.takeD k (bY hs) hcs).append hseg
theorem W_cloneRow {o:Oper} {rest:List Oper} {d:Nat} {t e:TypeId} {x y:Operand} {z v0 v:Value} {bytes:Nat} {A:Oa} {cap:Nat} {xs:List α} {cs:Lv} (hf:Frm n L a dd) (hp:Hp w0 M (.row e sz v0 0 []::.row e sz v xs.length cs::H) w) (hs: ∀x,Szd sz (f x))
 (hcs:aa M (xs.map f) cs) (hv:v=.slice A xs.length cap) (hA:A.isNone=false)
 (hw:bb ops L o=some true) (hr:bq L o=true) (hd:o.dst=some d) (hdn:Nat.blt d n=true) (ho:o.op=.call {callee:=.builtin .append,args:=#[x,y],argTypes:=#[t,t]})
 (hx:ev L x=v0) (hy:ev L y=.slice A xs.length cap) (ht:P.underlying t=some (.slice e)) (hi:infoIs P e z sz bytes=true)
 (hb:xs.length*bytes≤140737488355328) (h63:xs.length≤9223372036854775807)
 (hk: ∀A' cap' w',Hp w0 M (.row e sz (.slice A' xs.length cap') xs.length cs::.row e sz v xs.length cs::H) w'→∀a',Frm n ((d,.slice A' xs.length cap')::L) a' dd→wpList P ops Q rest a' w'):wpList P ops Q (o::rest) a w:=by
 cases A with
 |none=>cases hA
 |some ad=>
  have hcl:cs.length=xs.length*sz:=by
   have:=aa.len (bY hs) hcs
   rw[this,List.length_map]
  have hown:=hp.rowAt 1 rfl
  rcases hown.2 with⟨e1,_⟩|⟨g,cap',cur,e1,e2,e3,e4,e5,e6,e7⟩
  ·rw[hv] at e1;cases e1
  ·have e1':=hv.symm.trans e1
   obtain⟨rfl,rfl⟩:ad=⟨g,0,none⟩∧cap=cap':=by
    simp only[Value.slice.injEq,Option.some.injEq] at e1'
    exact⟨e1'.1,e1'.2.2⟩
   refine kq (z:=z) hf hp hw hr hd hdn ho hx hy ht hi hcl (λj u hu=>?_) (aa.oneC _ _ hcs) (by rw[Nat.zero_add];exact hb) (by omega) λv' w' hp' a' ha=>?_
   ·have:=hp.rowCell 1 rfl hv j u hu
    rw[Addr.add_lit,Nat.zero_add];exact this
   ·obtain⟨A',cap',rfl,_⟩:=hp'.rowShape 0 rfl
    rw[Nat.zero_add] at hp' ha
    exact hk A' cap' w' (by simpa using hp') a' ha
end
end Go.Vc
end
section
namespace Go.Proofs.YtkhdpnamfndonaaGreatDoor
open Go Go.Vc Go.RowKit
def kK (n:Nat) (d0:Int):Option (Bs×Int):=
 ((bif(decide (d0<1)) then
  (some ((true)))
   else
    some ((decide ((1099511627776:Int)<d0))):Option Bool)).bind λG1=>
 bif G1 then
  (some ((([]:Bs),(2:Int))))
 else
  (pO n d0).bind λX1=>
  aZ ([112].length+X1.1.length≤9223372036854775807)<|
  some (([112]++X1.1,X1.2))
theorem sA (n:Nat) (M:Mem) (hG:GL M) (d0:Int) (r:Bs×Int) (hF:kK n d0=some r):Ok Tryz.prog M 67 [iL d0] (λ_ v=>v=.tuple #[S r.1,iL r.2]):=by
 unfold kK at hF
 intro M1 hM0 w0 H w p0
 replace hG:=GL.mono hM0 hG
 refine Re 20 Tryz.func67 rfl λa0 f0=>RR (Ye f0 2 λ_ f=>ag (ag ?_))
 obtain⟨cX,bX,F1⟩:=bS hF
 refine bj (λa_5 W1=>∃G1:Bool,cX=G1∧∃V1:Mem,M1.le V1∧Frm 20 [(0,iL d0),(11,bO G1)] a_5∧Hp w0 V1 (H) W1) ?_ ?_
 ·refine aI (Y f 3 λ_ f=>?_)
  rcases cE bX with⟨B1,F2⟩|⟨B1,F3⟩
  ·have U1:=dI.1 B1
   have f:=f.st 8 (cB B1)
   refine Ye f 3 λ_ f=>?_
   exact⟨(true),(sI F2).symm,M1,(mR _),f.kp,p0⟩
  ·have U2:=ap dI B1
   have f:=f.st 8 (cB B1)
   refine Ye f 3 λ_ f=>?_
   exact⟨(decide ((1099511627776:Int)<d0)),(sI F3).symm,M1,(mR _),f.kp,p0⟩
 ·rintro a_5 W1 ⟨G1,dg,V1,J1,f,N1⟩
  subst cX
  refine aH (RcF f F1 (λB2 F4=>?_) λB2 F5=>?_)
  ·refine RR (Ye f 2 λ_ f=>wp_ret (aS (bJ f rfl (Lk 2 (S [])) (Lk 3 (iL 2)) ?_)))
   cases sI F4
   exact⟨_,rfl,V1,J1,N1,rfl⟩
  ·refine St (RR (Y f 1 λ_ f=>?_))
   obtain⟨X1,S1,F6⟩:=bS F5
   refine Y18 f N1 (h_numText_ok n _ d0 X1 S1) λW2 N2 _ f=>Ye f 5 λ_ f=>RR (Y f 1 λ_ f=>?_)
   obtain⟨O1,F7⟩:=nS F6
   refine Z f (Y32 rfl (l:=[112]) (m:=X1.1) O1) λ_ f=>Ye f 3 λ_ f=>wp_ret (bJ f rfl (Lk 2 (S ([112]++X1.1))) (Lk 3 (iL X1.2)) ?_)
   cases sI F7
   exact⟨_,rfl,V1,J1,N2,rfl⟩
def iT (n:Nat) (d0:Bs):Option (Int×Bool):=
 ((bif(decide (d0=[])) then
  (some ((true)))
   else
    (aR d0 (0:Int)).bind λcP=>
    some ((!(decide (((cP).toNat:Int)=112)))):Option Bool)).bind λG1=>
 bif G1 then
  (some (((0:Int),(false))))
 else
  aZ (0≤(1:Int)∧(1:Int)≤d0.length)<|
  (nD n (d0.drop (1:Int).toNat)).bind λX1=>
  bif(!(decide (X1.2=0))) then
   (some (((0:Int),(false))))
  else
   bif(decide (X1.1<1)) then
    (some (((0:Int),(false))))
   else
    bif(decide ((1099511627776:Int)<X1.1)) then
     (some (((0:Int),(false))))
    else
     some ((X1.1,(true)))
set_option maxRecDepth 20000 in
theorem qz (n:Nat) (M:Mem) (hG:GL M) (d0:Bs) (r:Int×Bool) (hF:iT n d0=some r):Ok Tryz.prog M 83 [S d0] (λ_ v=>v=.tuple #[iL r.1,bO r.2]):=by
 unfold iT at hF
 intro M1 hM0 w0 H w p0
 replace hG:=GL.mono hM0 hG
 refine Re 30 Tryz.func83 rfl λa0 f0=>RR (Ye f0 2 λ_ f=>ag (ag ?_))
 obtain⟨cX,bX,F1⟩:=bS hF
 refine bj (λa_9 W1=>∃G1:Bool,cX=G1∧∃V1:Mem,M1.le V1∧Frm 30 [(0,S d0),(12,bO G1)] a_9∧Hp w0 V1 (H) W1) ?_ ?_
 ·refine aI (Y f 1 λ_ f=>Z f (Y42 rfl (l:=d0) (m:=[])) λ_ f=>Y f 1 λ_ f=>?_)
  rcases cE bX with⟨B1,F2⟩|⟨B1,F3⟩
  ·have U1:=dI.1 B1
   have f:=f.st 8 (cB B1)
   refine Ye f 4 λ_ f=>?_
   exact⟨(true),(sI F2).symm,M1,(mR _),f.kp,p0⟩
  ·have U2:=ap dI B1
   have f:=f.st 8 (cB B1)
   refine Y f 1 λ_ f=>?_
   obtain⟨cP,S1,F4⟩:=bS F3
   refine Z f (Y41 rfl (l:=d0) (k:=.i64) (i:=(0:Int)) (aF S1) (aE S1)) λ_ f=>?_
   have f:=Frm.set f 10 (v:=.int .u8 ((d0.getD (0:Int).toNat 0).toNat:Int)) (v':=.int .u8 ((cP).toNat:Int)) kr (congrArg (λc:UInt8=>Value.int .u8 ((c.toNat:Nat):Int)) (np S1))
   refine Ye f 2 λ_ f=>?_
   exact⟨(!(decide (((cP).toNat:Int)=112))),(sI F4).symm,M1,(mR _),f.kp,p0⟩
 ·rintro a_9 W1 ⟨G1,dg,V1,J1,f,N1⟩
  subst cX
  refine aH (RcF f F1 (λB2 F5=>?_) λB2 F6=>?_)
  ·refine RR (Ye f 2 λ_ f=>wp_ret (aS (bJ f rfl (Lk 2 (iL 0)) (Lk 3 (bO false)) ?_)))
   cases sI F5
   exact⟨_,rfl,V1,J1,N1,rfl⟩
  ·refine St (RR (Y f 1 λ_ f=>?_))
   obtain⟨O1,F7⟩:=nS F6
   refine Z (v:=S (d0.drop (1:Int).toNat)) f (po rfl (l:=d0) (k:=.i64) (a:=(1:Int)) kr kr kr O1.1 O1.2) λ_ f=>?_
   obtain⟨X1,S2,F8⟩:=bS F7
   refine Y18 f N1 (h_numRead_ok n _ (d0.drop (1:Int).toNat) X1 S2) λW2 N2 _ f=>Ye f 5 λ_ f=>ag (RR (Y f 3 λ_ f=>?_))
   rcases cE F8 with⟨B3,F9⟩|⟨B3,F10⟩
   ·have U5: ¬ (X1.2=0):=(av dI).1 B3
    have f:=f.st 21 (cB B3)
    refine Ye f 7 λ_ f=>Y8 f (RR (Ye f 2 λ_ f=>wp_ret (aS (bJ f rfl (Lk 2 (iL 0)) (Lk 3 (bO false)) ?_))))
    cases sI F9
    exact⟨_,rfl,V1,J1,N2,rfl⟩
   ·have U6: ¬ (¬ (X1.2=0)):=ap (av dI) B3
    have f:=f.st 21 (cB B3)
    refine Y f 4 λ_ f=>?_
    rcases cE F10 with⟨B4,F11⟩|⟨B4,F12⟩
    ·have U7:=dI.1 B4
     have f:=f.st 25 (cB B4)
     refine Ye f 3 λ_ f=>Y8 f (RR (Ye f 2 λ_ f=>wp_ret (aS (bJ f rfl (Lk 2 (iL 0)) (Lk 3 (bO false)) ?_))))
     cases sI F11
     exact⟨_,rfl,V1,J1,N2,rfl⟩
    ·have U8:=ap dI B4
     have f:=f.st 25 (cB B4)
     refine Ye f 3 λ_ f=>RcF f F12 (λB5 F13=>?_) λB5 F14=>?_
     ·have U9:=dI.1 B5
      refine RR (Ye f 2 λ_ f=>wp_ret (aS (bJ f rfl (Lk 2 (iL 0)) (Lk 3 (bO false)) ?_)))
      cases sI F13
      exact⟨_,rfl,V1,J1,N2,rfl⟩
     ·have U10:=ap dI B5
      refine St (RR (Ye f 3 λ_ f=>wp_ret (bJ f rfl (Lk 2 (iL X1.1)) (Lk 3 (bO true)) ?_)))
      cases sI F14
      exact⟨_,rfl,V1,J1,N2,rfl⟩
def jq (n:Nat) (d0:TE0):Option Bool:=
 some ((d0.az))
theorem pQ (n:Nat) (M:Mem) (hG:GL M) (c0:Lv) (d0:TE0) (h0:Rep M (aY d0) c0) (r:Bool) (hF:jq n d0=some r):Ok Tryz.prog M 85 [.agg c0.toArray] (λ_ v=>v=bO r):=by
 unfold jq at hF
 intro M1 hM0 w0 H w p0
 replace hG:=GL.mono hM0 hG
 replace h0:=Rep.mono hM0 _ _ h0
 obtain⟨Z1,P1,Z2,P2,rfl,B1,B2⟩:=TE0.opn h0
 refine Re 5 Tryz.func85 rfl λa0 f0=>RR (Y13 (cs:=(aTE0 d0 Z1 P1 Z2 P2)) (T:=75) f0 p0 λQ1 V1 W1 J1 R1 N1 _ f=>?_)
 have R2:=bR R1
 refine Ye f 1 λ_ f=>RR (Y f 1 λ_ f=>Y15 f N1 R2 1 rfl λ_ f=>Ye f 1 λ_ f=>wp_ret (ao f rfl (Lk 2 (bO d0.az)) ?_))
 cases sI hF
 exact⟨_,rfl,V1,J1,N1,rfl⟩
def gp (n:Nat) (d0:List TE0) (K1:Int):Option (Lp Int (Sum Int Unit)):=
    bif(decide (K1<((d0.length:Nat):Int))) then
     ((aR d0 K1).bind λX1=>
     (jq n X1).bind λX2=>
     bif X2 then
      (some (.br (.inl K1)))
     else
      aZ (inR .i64 (K1+1))<|
      some (.nx (K1+1)))
    else
     some (.br (.inr ()))
def mb (n:Nat) (d0:List TE0):Option Int:=
 (aN (gp n d0) n (0:Int)).bind λQ1=>
 (match Q1 with
 |.inl G1=>some (G1)
 |.inr G2=>some ((-1:Int)))
theorem sB (n:Nat) (M:Mem) (hG:GL M) (A0:Oa) (cap0:Nat) (d0:List TE0) (h0:Sli M 8 aY A0 cap0 d0) (r:Int) (hF:mb n d0=some r):Ok Tryz.prog M 84 [sL A0 d0 cap0,.func (.func 85) #[] #[]] (λ_ v=>v=iL r):=by
 unfold mb at hF
 intro M1 hM0 w0 H w p0
 replace hG:=GL.mono hM0 hG
 replace h0:=h0.mono hM0
 refine Re 19 Tryz.func84 rfl λa0 f0=>RR (Ye f0 1 λ_ f=>ag (RR (Ye f 3 λ_ f=>wp_block ?_)))
 obtain⟨Q1,bH,F1⟩:=bS hF
 refine wp_mono (Q:=λe a w=>(e=.ret∧(∃G1:Int,Q1=.inl G1∧∃V2:Mem,M1.le V2∧Frm 19 [(4,iL G1)] a∧Hp w0 V2 (H) w))∨(e=.exit 0∧(∃G2:Unit,Q1=.inr G2∧∃V3:Mem,M1.le V3∧Frm 19 [] a∧Hp w0 V3 (H) w))) (bu (n:=19) (w0:=w0) (M:=M1) (λ (I1,K1)=>[(1,.func (.func 85) #[] #[]),(7,sL A0 d0 cap0),(8,iL ((d0.length:Nat):Int)),(9,iL K1)]) (λ (I1,K1)=>(H)) (λ (I1,K1) MM=>aN (gp n d0) I1 K1=some Q1) (λ (I1,K1)=>I1) (n,(0:Int)) (f.kp) p0 bH ?_) ?_
 ·rintro⟨I1,K1⟩ V1 _ W1 J1 dc f N1
  have bI:=dc
  obtain⟨I2,jP,rfl,be,T1⟩:=aT bI
  unfold gp at be
  refine RR (Ye f 1 λ_ f=>ag (RcF f be (λB1 F2=>?_) λB1 F8=>?_))
  ·have U1:=dI.1 B1
   refine St (ag (wp_block (RR (Y f 1 λ_ f=>?_))))
   obtain⟨X1,S1,F3⟩:=bS F2
   obtain⟨C1,cP,dS,-,D1,R1⟩:=Sli.at_ (h0.mono J1) S1
   obtain⟨Z1,P1,Z2,P2,rfl,B2,B3⟩:=TE0.opn D1
   refine Z f (Y34 dS rfl (len:=d0.length) (cap:=cap0) (k:=.i64) (i:=K1) (e:=75) (sz:=8) (aF S1) (aE S1)) λ_ f=>Z f (Y36 (cs:=(lTE0 X1 Z1 P1 Z2 P2)) rfl (ad:=C1.add (K1.toNat*8)) (λj v h=>N1.cell (R1 j v h))) λ_ f=>Y12 f N1 (.cells #[S [],bO false,iB 0,bO false,iL 0,S [],Sn,Sn] 75 (0,0)) λQ2 W2 N2 _ f=>Y f 1 λ_ f=>Ys (lTE0 X1 Z1 P1 Z2 P2) (aTE0 X1 Z1 P1 Z2 P2) f N2 rfl rfl λW3 N3 _ f=>eT (RR (Y f 1 λ_ f=>Z f (Y36 (cs:=(lTE0 X1 Z1 P1 Z2 P2)) rfl (ad:=⟨Q2,0,none⟩) (al (N3.ownCell 0 rfl) 0 rfl)) λ_ f=>?_))
   obtain⟨X2,S2,F4⟩:=bS F3
   refine Y18 f N3 (pQ n _ (GL.mono J1 hG) _ X1 (TE0.shutx (x:=X1) B2 B3) X2 S2) λW4 N4 _ f=>eT (RcF f F4 (λB4 F5=>?_) λB4 F6=>?_)
   ·refine RR (Ye f 2 λ_ f=>wp_ret (bV (aS (aS ?_))))
    cases sI F5
    exact .inl ⟨rfl,K1,(sI T1).symm,V1,J1,f.kp,(N4.dropN 1)⟩
   ·refine wp_skip (cG (aH (aI ?_)))
    obtain⟨O1,F7⟩:=nS F6
    refine Y f 1 λ_ f=>?_
    have f:=f.st 18 (iW O1)
    refine Ye f 1 λ_ f=>?_
    cases sI F7
    exact⟨⟨I2,K1+1⟩,Nat.lt_succ_self _,V1,J1,T1,f.kp,(N4.dropN 1)⟩
  ·have U4:=ap dI B1
   refine wp_exit (co (co ?_))
   cases sI F8
   exact .inr ⟨rfl,(),(sI T1).symm,V1,J1,f.kp,N1⟩
 ·rintro _ _ W7 (⟨rfl,G1,rfl,V2,J2,f,N5⟩|⟨rfl,G2,rfl,V3,J3,f,N6⟩)
  ·refine bV (aS (ao f rfl (Lk 4 (iL G1)) ?_))
   cases sI F1
   exact⟨_,rfl,V2,J2,N5,rfl⟩
  ·refine iq (aH (RR (Ye f 1 λ_ f=>wp_ret (ao f rfl (Lk 4 (iL (-1))) ?_))))
   cases sI F1
   exact⟨_,rfl,V3,J3,N6,rfl⟩
def gR (n:Nat) (d0:List TE0):Option Bool:=
 (mb n d0).bind λX1=>
 some ((decide (X1<0)))
theorem kL (n:Nat) (M:Mem) (hG:GL M) (A0:Oa) (cap0:Nat) (d0:List TE0) (h0:Sli M 8 aY A0 cap0 d0) (r:Bool) (hF:gR n d0=some r):Ok Tryz.prog M 66 [sL A0 d0 cap0] (λ_ v=>v=bO r):=by
 unfold gR at hF
 intro M1 hM0 w0 H w p0
 replace hG:=GL.mono hM0 hG
 replace h0:=h0.mono hM0
 refine Re 6 Tryz.func66 rfl λa0 f0=>RR (Ye f0 1 λ_ f=>RR (Y f 1 λ_ f=>?_))
 obtain⟨X1,S1,F1⟩:=bS hF
 refine Y18 f p0 (sB n _ hG A0 cap0 d0 h0 X1 S1) λW1 N1 _ f=>Ye f 2 λ_ f=>wp_ret (ao f rfl (Lk 2 (bO (decide (X1<0)))) ?_)
 cases sI F1
 exact⟨_,rfl,M1,(mR _),N1,rfl⟩
end Go.Proofs.YtkhdpnamfndonaaGreatDoor
end
