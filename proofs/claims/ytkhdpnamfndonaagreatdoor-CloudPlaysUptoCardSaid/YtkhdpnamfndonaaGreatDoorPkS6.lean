/-
  Texts of this claim, packed (what nothing names is left out): T2, T3, StoreP1, StoreP2. Own work, partly printed by own programs. No condition.
-/
import Derived.Test.YtkhdpnamfndonaaGreatDoorPkS5
import Derived.Test.YtkhdpnamfndonaaGreatDoorPkS4
import Derived.Test.YtkhdpnamfndonaaGreatDoorRows
set_option linter.unusedVariables false
set_option linter.unusedSimpArgs false
set_option maxHeartbeats 2000000
namespace Go.Proofs.YtkhdpnamfndonaaGreatDoor
open Go Go.Vc Go.RowKit
def eD (n:Nat) (d0:TC0) (K1:Int×Int):Option (Lp (Int×Int) (Sum Unit Int)):=
    bif(decide (K1.2<((d0.fL.length:Nat):Int))) then
     ((aR d0.fL K1.2).bind λX1=>
     (iT n X1.af).bind λX2=>
     bif !X2.2 then
      (some (.br (.inl ())))
     else
      bif(decide (X2.1≤K1.1)) then
       (some (.br (.inl ())))
      else
       (cO n X1.am X1.ai).bind λX3=>
       bif(!(decide (X3=0))) then
        (some (.br (.inl ())))
       else
        (gR n X1.ai).bind λX4=>
        bif !X4 then
         (some (.br (.inl ())))
        else
         aZ (inR .i64 (K1.2+1))<|
         some (.nx (X2.1,K1.2+1)))
    else
     some (.br (.inr K1.1))
def gS (n:Nat) (d0:TC0):Option Int:=
 (aN (eD n d0) n ((0:Int),(0:Int))).bind λQ2=>
 (match Q2 with
 |.inl G1=>some ((2:Int))
 |.inr G2=>bif(decide (d0.au<G2)) then
  (some ((2:Int)))
  else
   bif(decide ((1099511627776:Int)<d0.au)) then
    (some ((2:Int)))
   else
    some ((0:Int)))
set_option maxRecDepth 20000 in
theorem kM (n:Nat) (M:Mem) (hG:GL M) (c0:Lv) (d0:TC0) (h0:Rep M (gA d0) c0) (r:Int) (hF:gS n d0=some r):Ok Tryz.prog M 65 [.agg c0.toArray] (λ_ v=>v=iL r):=by
 unfold gS at hF
 intro M1 hM0 w0 H w p0
 replace hG:=GL.mono hM0 hG
 replace h0:=Rep.mono hM0 _ _ h0
 obtain⟨Z1,P1,rfl,B1⟩:=TC0.opn h0
 refine Re 53 Tryz.func65 rfl λa0 f0=>RR (Y13 (cs:=(aTC0 d0 Z1 P1)) (T:=60) f0 p0 λQ1 V1 W1 J1 R1 N1 _ f=>?_)
 have R2:=bR R1
 refine Ye f 1 λ_ f=>RR (Ye f 1 λ_ f=>ag (RR (Y f 1 λ_ f=>Y15 f N1 R2 0 rfl λ_ f=>Ye f 2 λ_ f=>wp_block ?_)))
 obtain⟨Q2,bH,F1⟩:=bS hF
 refine wp_mono (Q:=λe a w=>(e=.ret∧(∃G1:Unit,Q2=.inl G1∧∃V3:Mem,V1.le V3∧Frm 53 [(2,iL 2)] a∧Hp w0 V3 (H) w))∨(e=.exit 0∧(∃G2:Int,Q2=.inr G2∧∃V4:Mem,V1.le V4∧Frm 53 [(1,pP Q1),(3,iL G2)] a∧Hp w0 V4 (H) w))) (bu (n:=53) (w0:=w0) (M:=V1) (λ (I1,K1)=>[(1,pP Q1),(3,iL K1.1),(9,sL Z1 d0.fL P1),(10,iL ((d0.fL.length:Nat):Int)),(11,iL K1.2)]) (λ (I1,K1)=>(H)) (λ (I1,K1) MM=>aN (eD n d0) I1 K1=some Q2) (λ (I1,K1)=>I1) (n,((0:Int),(0:Int))) (f.kp) N1 bH ?_) ?_
 ·rintro⟨I1,K1⟩ V2 _ W2 J2 dc f N2
  have bI:=dc
  obtain⟨I2,jP,rfl,be,T1⟩:=aT bI
  unfold eD at be
  refine RR (Ye f 1 λ_ f=>ag (RcF f be (λB2 F2=>?_) λB2 F16=>?_))
  ·have U1:=dI.1 B2
   refine St (ag (wp_block (RR ?_)))
   obtain⟨X1,S1,F3⟩:=bS F2
   obtain⟨C1,cP,dS,-,D1,R3⟩:=Sli.at_ (B1.mono (J1.trans J2)) S1
   obtain⟨Z2,P2,rfl,B3⟩:=TG0.opn D1
   refine Z f (Y34 dS rfl (len:=d0.fL.length) (cap:=P1) (k:=.i64) (i:=K1.2) (e:=44) (sz:=3) (aF S1) (aE S1)) λ_ f=>Z f (Y36 (cs:=(lTG0 X1 Z2 P2)) rfl (ad:=C1.add (K1.2.toNat*3)) (λj v h=>N2.cell (R3 j v h))) λ_ f=>Y12 f N2 (.cells #[S [],S [],Sn] 44 (0,0)) λQ3 W3 N3 _ f=>Ys (lTG0 X1 Z2 P2) (aTG0 X1 Z2 P2) f N3 rfl rfl λW4 N4 _ f=>eT (RR (Y f 1 λ_ f=>Z f (Y35 (v:=S X1.af) rfl (ad:=⟨Q3,0,none⟩) (N4.ownCell 0 rfl 0)) λ_ f=>?_))
   obtain⟨X2,S2,F4⟩:=bS F3
   refine Y18 f N4 (qz n _ (GL.mono (J1.trans J2) hG) X1.af X2 S2) λW5 N5 _ f=>Ye f 5 λ_ f=>ag (RR (Y f 3 λ_ f=>?_))
   rcases cE F4 with⟨B4,F5⟩|⟨B4,F6⟩
   ·have U2: (X2.2)=false:=by simpa using B4
    have f:=f.st 23 (cB B4)
    refine Ye f 18 λ_ f=>Y8 f (RR (Ye f 1 λ_ f=>wp_ret (aS (bV (aS (aS ?_))))))
    cases sI F5
    exact .inl ⟨rfl,(),(sI T1).symm,V2,J2,f.kp,(N5.dropN 1)⟩
   ·have U3: (X2.2)=true:=by simpa using B4
    have f:=f.st 23 (cB B4)
    refine Y f 5 λ_ f=>?_
    rcases cE F6 with⟨B5,F7⟩|⟨B5,F8⟩
    ·have U4:=dI.1 B5
     have f:=f.st 28 (cB B5)
     refine Ye f 13 λ_ f=>Y8 f (RR (Ye f 1 λ_ f=>wp_ret (aS (bV (aS (aS ?_))))))
     cases sI F7
     exact .inl ⟨rfl,(),(sI T1).symm,V2,J2,f.kp,(N5.dropN 1)⟩
    ·have U5:=ap dI B5
     have f:=f.st 28 (cB B5)
     refine Y f 1 λ_ f=>Z f (Y35 (v:=S X1.am) rfl (ad:=⟨Q3,1,none⟩) (N5.ownCell 0 rfl 1)) λ_ f=>Y f 1 λ_ f=>Z f (Y35 (v:=sL Z2 X1.ai P2) rfl (ad:=⟨Q3,2,none⟩) (N5.ownCell 0 rfl 2)) λ_ f=>?_
     obtain⟨X3,S3,F9⟩:=bS F8
     refine Y18 f N5 (dH n _ (GL.mono (J1.trans J2) hG) X1.am Z2 P2 X1.ai B3 X3 S3) λW6 N6 _ f=>Y f 3 λ_ f=>?_
     rcases cE F9 with⟨B6,F10⟩|⟨B6,F11⟩
     ·have U6: ¬ (X3=0):=(av dI).1 B6
      have f:=f.st 36 (cB B6)
      refine Ye f 5 λ_ f=>Y8 f (RR (Ye f 1 λ_ f=>wp_ret (aS (bV (aS (aS ?_))))))
      cases sI F10
      exact .inl ⟨rfl,(),(sI T1).symm,V2,J2,f.kp,(N6.dropN 1)⟩
     ·have U7: ¬ (¬ (X3=0)):=ap (av dI) B6
      have f:=f.st 36 (cB B6)
      refine Y f 1 λ_ f=>Z f (Y35 (v:=sL Z2 X1.ai P2) rfl (ad:=⟨Q3,2,none⟩) (N6.ownCell 0 rfl 2)) λ_ f=>?_
      obtain⟨X4,S4,F12⟩:=bS F11
      refine Y18 f N6 (kL n _ (GL.mono (J1.trans J2) hG) Z2 P2 X1.ai B3 X4 S4) λW7 N7 _ f=>Ye f 2 λ_ f=>RcF f F12 (λB7 F13=>?_) λB7 F14=>?_
      ·have U8: (X4)=false:=by simpa using B7
       refine RR (Ye f 1 λ_ f=>wp_ret (aS (bV (aS (aS ?_)))))
       cases sI F13
       exact .inl ⟨rfl,(),(sI T1).symm,V2,J2,f.kp,(N7.dropN 1)⟩
      ·have U9: (X4)=true:=by simpa using B7
       refine St (aI (Y f 2 λ_ f=>aA rfl (cG (aH (aI ?_)))))
       obtain⟨O1,F15⟩:=nS F14
       refine Y f 1 λ_ f=>?_
       have f:=f.st 43 (iW O1)
       refine Ye f 1 λ_ f=>?_
       cases sI F15
       exact⟨⟨I2,(X2.1,K1.2+1)⟩,Nat.lt_succ_self _,V2,J2,T1,f.kp,(N7.dropN 1)⟩
  ·have U10:=ap dI B2
   refine wp_exit (co (co ?_))
   cases sI F16
   exact .inr ⟨rfl,K1.1,(sI T1).symm,V2,J2,f.kp,N2⟩
 ·rintro _ _ W10 (⟨rfl,G1,rfl,V3,J3,f,N8⟩|⟨rfl,G2,rfl,V4,J4,f,N9⟩)
  ·refine bV (aS (ao f rfl (Lk 2 (iL 2)) ?_))
   cases sI F1
   exact⟨_,rfl,V3,(J1.trans J3),N8,rfl⟩
  ·refine iq (aH (ag (RR (Y f 1 λ_ f=>Y15 f N9 (fzu J4 R2) 1 rfl λ_ f=>Y f 3 λ_ f=>?_))))
   rcases cE F1 with⟨B8,F17⟩|⟨B8,F18⟩
   ·have U11:=dI.1 B8
    have f:=f.st 48 (cB B8)
    refine Ye f 4 λ_ f=>Y8 f (RR (Ye f 1 λ_ f=>wp_ret (aS (ao f rfl (Lk 2 (iL 2)) ?_))))
    cases sI F17
    exact⟨_,rfl,V4,(J1.trans J4),N9,rfl⟩
   ·have U12:=ap dI B8
    have f:=f.st 48 (cB B8)
    refine Y f 1 λ_ f=>Y15 f N9 (fzu J4 R2) 1 rfl λ_ f=>Ye f 2 λ_ f=>RcF f F18 (λB9 F19=>?_) λB9 F20=>?_
    ·have U13:=dI.1 B9
     refine RR (Ye f 1 λ_ f=>wp_ret (aS (ao f rfl (Lk 2 (iL 2)) ?_)))
     cases sI F19
     exact⟨_,rfl,V4,(J1.trans J4),N9,rfl⟩
    ·have U14:=ap dI B9
     refine St (RR (Ye f 1 λ_ f=>wp_ret (ao f rfl (Lk 2 (iL 0)) ?_)))
     cases sI F20
     exact⟨_,rfl,V4,(J1.trans J4),N9,rfl⟩
def mc (n:Nat) (d0:TG0) (d1:Bs):Option Bool:=
 some ((decide (d0.af=d1)))
theorem sC (n:Nat) (M:Mem) (hG:GL M) (c0:Lv) (d0:TG0) (h0:Rep M (aK d0) c0) (ad1:Addr) (c1:Lv) (d1:Bs) (h1:Rep M (Dat.str d1) c1) (q1: ∀j v,c1[j]? =some v→M.cell? (ad1.add j)=some v) (r:Bool) (hF:mc n d0 d1=some r):Ok Tryz.prog M 73 [.agg c0.toArray,Pa ad1] (λ_ v=>v=bO r):=by
 unfold mc at hF
 intro M1 hM0 w0 H w p0
 replace hG:=GL.mono hM0 hG
 replace h0:=Rep.mono hM0 _ _ h0
 replace h1:=Rep.mono hM0 _ _ h1
 replace q1:=λj v h=>hM0.cell (q1 j v h)
 obtain⟨Z1,P1,rfl,B1⟩:=TG0.opn h0
 obtain rfl:c1=[S d1]:=h1
 refine Re 8 Tryz.func73 rfl λa0 f0=>RR (Y13 (cs:=(aTG0 d0 Z1 P1)) (T:=44) f0 p0 λQ1 V1 W1 J1 R1 N1 _ f=>?_)
 have R2:=bR R1
 refine Ye f 1 λ_ f=>RR (Y f 1 λ_ f=>Y15 f N1 R2 0 rfl λ_ f=>Y15 f N1 (fzu J1 q1) 0 rfl λ_ f=>Z f (Y42 rfl (l:=d0.af) (m:=d1)) λ_ f=>Ye f 1 λ_ f=>wp_ret (ao f rfl (Lk 3 (bO (decide (d0.af=d1)))) ?_))
 cases sI hF
 exact⟨_,rfl,V1,J1,N1,rfl⟩
def dM (n:Nat) (d0:List TG0) (eJ:Bs) (K1:Int):Option (Lp Int (Sum Int Unit)):=
    bif(decide (K1<((d0.length:Nat):Int))) then
     ((aR d0 K1).bind λX1=>
     (mc n X1 eJ).bind λX2=>
     bif X2 then
      (some (.br (.inl K1)))
     else
      aZ (inR .i64 (K1+1))<|
      some (.nx (K1+1)))
    else
     some (.br (.inr ()))
def kh (n:Nat) (d0:List TG0) (eJ:Bs):Option Int:=
 (aN (dM n d0 eJ) n (0:Int)).bind λQ1=>
 (match Q1 with
 |.inl G1=>some (G1)
 |.inr G2=>some ((-1:Int)))
theorem qA (n:Nat) (M:Mem) (hG:GL M) (A0:Oa) (cap0:Nat) (d0:List TG0) (h0:Sli M 3 aK A0 cap0 d0) (ad1_0:Addr) (c1_0:Lv) (eJ:Bs) (h1_0:Rep M (Dat.str eJ) c1_0) (q1_0: ∀j v,c1_0[j]? =some v→M.cell? (ad1_0.add j)=some v) (r:Int) (hF:kh n d0 eJ=some r):Ok Tryz.prog M 72 [sL A0 d0 cap0,.func (.func 73) #[] #[Pa ad1_0]] (λ_ v=>v=iL r):=by
 unfold kh at hF
 intro M1 hM0 w0 H w p0
 replace hG:=GL.mono hM0 hG
 replace h0:=h0.mono hM0
 replace h1_0:=Rep.mono hM0 _ _ h1_0
 replace q1_0:=λj v h=>hM0.cell (q1_0 j v h)
 obtain rfl:c1_0=[S eJ]:=h1_0
 refine Re 19 Tryz.func72 rfl λa0 f0=>RR (Ye f0 1 λ_ f=>ag (RR (Ye f 3 λ_ f=>wp_block ?_)))
 obtain⟨Q1,bH,F1⟩:=bS hF
 refine wp_mono (Q:=λe a w=>(e=.ret∧(∃G1:Int,Q1=.inl G1∧∃V2:Mem,M1.le V2∧Frm 19 [(4,iL G1)] a∧Hp w0 V2 (H) w))∨(e=.exit 0∧(∃G2:Unit,Q1=.inr G2∧∃V3:Mem,M1.le V3∧Frm 19 [] a∧Hp w0 V3 (H) w))) (bu (n:=19) (w0:=w0) (M:=M1) (λ (I1,K1)=>[(1,.func (.func 73) #[] #[Pa ad1_0]),(7,sL A0 d0 cap0),(8,iL ((d0.length:Nat):Int)),(9,iL K1)]) (λ (I1,K1)=>(H)) (λ (I1,K1) MM=>aN (dM n d0 eJ) I1 K1=some Q1) (λ (I1,K1)=>I1) (n,(0:Int)) (f.kp) p0 bH ?_) ?_
 ·rintro⟨I1,K1⟩ V1 _ W1 J1 dc f N1
  have bI:=dc
  obtain⟨I2,jP,rfl,be,T1⟩:=aT bI
  unfold dM at be
  refine RR (Ye f 1 λ_ f=>ag (RcF f be (λB1 F2=>?_) λB1 F8=>?_))
  ·have U1:=dI.1 B1
   refine St (ag (wp_block (RR (Y f 1 λ_ f=>?_))))
   obtain⟨X1,S1,F3⟩:=bS F2
   obtain⟨C1,cP,dS,-,D1,R1⟩:=Sli.at_ (h0.mono J1) S1
   obtain⟨Z1,P1,rfl,B2⟩:=TG0.opn D1
   refine Z f (Y34 dS rfl (len:=d0.length) (cap:=cap0) (k:=.i64) (i:=K1) (e:=44) (sz:=3) (aF S1) (aE S1)) λ_ f=>Z f (Y36 (cs:=(lTG0 X1 Z1 P1)) rfl (ad:=C1.add (K1.toNat*3)) (λj v h=>N1.cell (R1 j v h))) λ_ f=>Y12 f N1 (.cells #[S [],S [],Sn] 44 (0,0)) λQ2 W2 N2 _ f=>Y f 1 λ_ f=>Ys (lTG0 X1 Z1 P1) (aTG0 X1 Z1 P1) f N2 rfl rfl λW3 N3 _ f=>eT (RR (Y f 1 λ_ f=>Z f (Y36 (cs:=(lTG0 X1 Z1 P1)) rfl (ad:=⟨Q2,0,none⟩) (al (N3.ownCell 0 rfl) 0 rfl)) λ_ f=>?_))
   obtain⟨X2,S2,F4⟩:=bS F3
   refine Y18 f N3 (sC n _ (GL.mono J1 hG) _ X1 (TG0.shutx (x:=X1) B2) ad1_0 [S eJ] eJ (rfl) (gE (fzu J1 q1_0) 0 rfl) X2 S2) λW4 N4 _ f=>eT (RcF f F4 (λB3 F5=>?_) λB3 F6=>?_)
   ·refine RR (Ye f 2 λ_ f=>wp_ret (bV (aS (aS ?_))))
    cases sI F5
    exact .inl ⟨rfl,K1,(sI T1).symm,V1,J1,f.kp,(N4.dropN 1)⟩
   ·refine wp_skip (cG (aH (aI ?_)))
    obtain⟨O1,F7⟩:=nS F6
    refine Y f 1 λ_ f=>?_
    have f:=f.st 18 (iW O1)
    refine Ye f 1 λ_ f=>?_
    cases sI F7
    exact⟨⟨I2,K1+1⟩,Nat.lt_succ_self _,V1,J1,T1,f.kp,(N4.dropN 1)⟩
  ·have U4:=ap dI B1
   refine wp_exit (co (co ?_))
   cases sI F8
   exact .inr ⟨rfl,(),(sI T1).symm,V1,J1,f.kp,N1⟩
 ·rintro _ _ W7 (⟨rfl,G1,rfl,V2,J2,f,N5⟩|⟨rfl,G2,rfl,V3,J3,f,N6⟩)
  ·refine bV (aS (ao f rfl (Lk 4 (iL G1)) ?_))
   cases sI F1
   exact⟨_,rfl,V2,J2,N5,rfl⟩
  ·refine iq (aH (RR (Ye f 1 λ_ f=>wp_ret (ao f rfl (Lk 4 (iL (-1))) ?_))))
   cases sI F1
   exact⟨_,rfl,V3,J3,N6,rfl⟩
def kN (n:Nat) (d0:TC0) (d1:Bs):Option Int:=
 (kh n d0.fL d1).bind λX1=>
 some (X1)
theorem mQ (n:Nat) (M:Mem) (hG:GL M) (c0:Lv) (d0:TC0) (h0:Rep M (gA d0) c0) (d1:Bs) (r:Int) (hF:kN n d0 d1=some r):Ok Tryz.prog M 53 [.agg c0.toArray,S d1] (λ_ v=>v=iL r):=by
 unfold kN at hF
 intro M1 hM0 w0 H w p0
 replace hG:=GL.mono hM0 hG
 replace h0:=Rep.mono hM0 _ _ h0
 obtain⟨Z1,P1,rfl,B1⟩:=TC0.opn h0
 refine Re 9 Tryz.func53 rfl λa0 f0=>RR (Y13 (cs:=(aTC0 d0 Z1 P1)) (T:=60) f0 p0 λQ1 V1 W1 J1 R1 N1 _ f=>?_)
 have R2:=bR R1
 refine Y13 (cs:=#[S d1]) (T:=9) f N1 λQ2 V2 W2 J2 R3 N2 _ f=>?_
 have R4:=bR R3
 refine Ye f 1 λ_ f=>RR (Y f 1 λ_ f=>Y15 f N2 (fzu J2 R2) 0 rfl λ_ f=>Y f 1 λ_ f=>?_)
 obtain⟨X1,S1,F1⟩:=bS hF
 refine Y18 f N2 (qA n _ (GL.mono (J1.trans J2) hG) Z1 P1 d0.fL (B1.mono (J1.trans J2)) (⟨Q2,0,none⟩) [S d1] d1 (rfl) (gE (R4) 0 rfl) X1 S1) λW3 N3 _ f=>Ye f 1 λ_ f=>wp_ret (ao f rfl (Lk 4 (iL X1)) ?_)
 cases sI F1
 exact⟨_,rfl,V2,(J1.trans J2),N3,rfl⟩
def lD (n:Nat) (d0:TC0) (d1:Bs):Option (TG0×Bool):=
 (kN n d0 d1).bind λX1=>
 bif(decide ((0:Int)≤X1)) then
  ((aR d0.fL X1).bind λX2=>
  some ((X2,(true))))
 else
  some ((dU,(false)))
theorem store_Get_ok (n:Nat) (M:Mem) (hG:GL M) (c0:Lv) (d0:TC0) (h0:Rep M (gA d0) c0) (d1:Bs) (r:TG0×Bool) (hF:lD n d0 d1=some r):Ok Tryz.prog M 36 [.agg c0.toArray,S d1] (λM' v=>∃ (c0:Lv),v=.tuple #[.agg c0.toArray,bO r.2]∧Rep M' (aK r.1) c0):=by
 unfold lD at hF
 intro M1 hM0 w0 H w p0
 replace hG:=GL.mono hM0 hG
 replace h0:=Rep.mono hM0 _ _ h0
 obtain⟨Z1,P1,rfl,B1⟩:=TC0.opn h0
 refine Re 18 Tryz.func36 rfl λa0 f0=>RR (Y13 (cs:=(aTC0 d0 Z1 P1)) (T:=60) f0 p0 λQ1 V1 W1 J1 R1 N1 _ f=>?_)
 have R2:=bR R1
 refine Y12 f N1 (.cells #[S [],S [],Sn] 44 (0,0)) λQ2 W2 N2 _ f=>Ye f 1 λ_ f=>ag (RR (Z f (Y36 (cs:=(lTC0 d0 Z1 P1)) rfl (ad:=⟨Q1,0,none⟩) (λj v h=>N2.cell (R2 j v h))) λ_ f=>Y f 1 λ_ f=>?_))
 obtain⟨X1,S1,F1⟩:=bS hF
 refine Y18 f N2 (mQ n _ (GL.mono J1 hG) _ d0 (TC0.shutx (x:=d0) (B1.mono J1)) d1 X1 S1) λW3 N3 _ f=>Ye f 1 λ_ f=>RR (Ye f 2 λ_ f=>RcF f F1 (λB2 F2=>?_) λB2 F4=>?_)
 ·have U1:=dI.1 B2
  refine RR (Y f 1 λ_ f=>Y15 f N3 R2 0 rfl λ_ f=>Y f 1 λ_ f=>?_)
  obtain⟨X2,S2,F3⟩:=bS F2
  obtain⟨C1,cP,dS,-,D1,R3⟩:=Sli.at_ (B1.mono J1) S2
  obtain⟨Z2,P2,rfl,B3⟩:=TG0.opn D1
  refine Z f (Y34 dS rfl (len:=d0.fL.length) (cap:=P1) (k:=.i64) (i:=X1) (e:=44) (sz:=3) (aF S2) (aE S2)) λ_ f=>Z f (Y36 (cs:=(lTG0 X2 Z2 P2)) rfl (ad:=C1.add (X1.toNat*3)) (λj v h=>N3.cell (R3 j v h))) λ_ f=>Ys (lTG0 X2 Z2 P2) (aTG0 X2 Z2 P2) f N3 rfl rfl λW4 N4 _ f=>Ye f 1 λ_ f=>wp_ret (aS (dB f rfl (Y10 (cs:=(lTG0 X2 Z2 P2)) (ad:=⟨Q2,0,none⟩) f (al (N4.ownCell 0 rfl) 0 rfl)) (Y11 (v:=bO true) f) ?_))
  cases sI F3
  exact⟨_,rfl,V1,J1,(N4.dropN 1),⟨[S X2.af,S X2.am,sL Z2 X2.ai P2],rfl,(TG0.shutx (x:=X2) B3)⟩⟩
 ·have U2:=ap dI B2
  refine St (RR (Z f (Y36 (cs:=[S [],S [],Sn]) rfl (ad:=⟨Q2,0,none⟩) (al (N3.ownCell 0 rfl) 0 rfl)) λ_ f=>Ys [S [],S [],Sn] #[S [],S [],Sn] f N3 rfl rfl λW5 N5 _ f=>Ye f 1 λ_ f=>wp_ret (dB f rfl (Y10 (cs:=[S [],S [],Sn]) (ad:=⟨Q2,0,none⟩) f (al (N5.ownCell 0 rfl) 0 rfl)) (Y11 (v:=bO false) f) ?_)))
  cases sI F4
  exact⟨_,rfl,V1,J1,(N5.dropN 1),⟨[S [],S [],Sn],rfl,(TG0.shut Sli.nil)⟩⟩
def iU (n:Nat) (d0:TC0) (d1:Bs) (d2:List TE0):Option (TC0×Bs×Int):=
 (gS n (⟨d0.fL,d0.au⟩:TC0)).bind λX1=>
 ((bif(decide (X1=0)) then
  ((cO n d1 d2).bind λX2=>
  some (X2))
   else
    some (X1):Option Int)).bind λG1=>
 bif(!(decide (G1=0))) then
  (some ((iH,([]:Bs),G1)))
 else
  (gR n d2).bind λX3=>
  bif !X3 then
   (some ((iH,([]:Bs),(91:Int))))
  else
   bif(decide (d0.au=1099511627776)) then
    (some ((iH,([]:Bs),(3:Int))))
   else
    aZ (inR .i64 (d0.au+1))<|
    (kK n (d0.au+1)).bind λX4=>
    aZ (0≤((d0.fL.length:Nat):Int)∧((d0.fL.length:Nat):Int)≤(d0.fL.length:Int))<|
    aZ (((d0.fL.take ((d0.fL.length:Nat):Int).toNat).length+1)*56≤140737488355328)<|
    some (((⟨(d0.fL.take ((d0.fL.length:Nat):Int).toNat)++[(⟨X4.1,d1,d2⟩:TG0)],d0.au+1⟩:TC0),X4.1,(0:Int)))
set_option maxRecDepth 20000 in
theorem qB (n:Nat) (M:Mem) (hG:GL M) (c0:Lv) (d0:TC0) (h0:Rep M (gA d0) c0) (d1:Bs) (A2:Oa) (cap2:Nat) (d2:List TE0) (h2:Sli M 8 aY A2 cap2 d2) (r:TC0×Bs×Int) (hF:iU n d0 d1 d2=some r):Ok Tryz.prog M 46 [.agg c0.toArray,S d1,sL A2 d2 cap2] (λM' v=>∃ (c0:Lv),v=.tuple #[.agg c0.toArray,S r.2.1,iL r.2.2]∧Rep M' (gA r.1) c0):=by
 unfold iU at hF
 intro M1 hM0 w0 H w p0
 replace hG:=GL.mono hM0 hG
 replace h0:=Rep.mono hM0 _ _ h0
 replace h2:=h2.mono hM0
 obtain⟨Z1,P1,rfl,B1⟩:=TC0.opn h0
 refine Re 62 Tryz.func46 rfl λa0 f0=>RR (Y12 f0 p0 (.cells (aTC0 d0 Z1 P1) 60 (0,0)) λQ1 W1 N1 _ f=>Y12 f N1 (.cells #[Sn,iL 0] 60 (0,0)) λQ2 W2 N2 _ f=>Ye f 2 λ_ f=>RR (Z f (Y36 (cs:=(lTC0 d0 Z1 P1)) rfl (ad:=⟨Q1,0,none⟩) (al (N2.ownCell 1 rfl) 0 rfl)) λ_ f=>?_))
 obtain⟨X1,S1,F1⟩:=bS hF
 refine Y18 f N2 (kM n _ hG _ (⟨d0.fL,d0.au⟩:TC0) (TC0.shut B1) X1 S1) λW3 N3 _ f=>Ye f 1 λ_ f=>ag (RR (Ye f 2 λ_ f=>?_))
 obtain⟨cX,bX,F2⟩:=bS F1
 refine bj (λpm W5=>∃G1:Int,cX=G1∧∃V1:Mem,M1.le V1∧Frm 62 [(1,S d1),(2,sL A2 d2 cap2),(3,pP Q1),(6,pP Q2),(9,iL G1)] pm∧Hp w0 V1 ((oC Q2 #[Sn,iL 0] 60)::(Ent.obj Q1 (.cells (aTC0 d0 Z1 P1) 60 (0,0)))::H) W5) ?_ ?_
 ·refine RcF f bX (λB2 F3=>?_) λB2 F5=>?_
  ·have U1:=dI.1 B2
   refine aI (Y f 2 λ_ f=>?_)
   obtain⟨X2,S2,F4⟩:=bS F3
   refine Y18 f N3 (dH n _ hG d1 A2 cap2 d2 h2 X2 S2) λW4 N4 _ f=>Ye f 1 λ_ f=>?_
   exact⟨X2,(sI F4).symm,M1,(mR _),f.kp,N4⟩
  ·have U2:=ap dI B2
   refine St ?_
   exact⟨X1,(sI F5).symm,M1,(mR _),f.kp,N3⟩
 ·rintro pm W5 ⟨G1,dg,V1,J1,f,N5⟩
  subst cX
  refine aH (ag (wp_block (RR (Ye f 3 λ_ f=>RcF f F2 (λB3 F6=>?_) λB3 F7=>?_))))
  ·have U3: ¬ (G1=0):=(av dI).1 B3
   refine RR (Y f 2 λ_ f=>Ys [Sn,iL 0] #[Sn,iL 0] f N5 rfl rfl λW6 N6 _ f=>Ye f 2 λ_ f=>wp_ret (bV (aS (lw f rfl (Y10 (cs:=[Sn,iL 0]) (ad:=⟨Q2,0,none⟩) f (al (N6.ownCell 0 rfl) 0 rfl)) (Y11 (v:=S []) f) (Y11 (v:=iL G1) f) ?_))))
   cases sI F6
   exact⟨_,rfl,V1,J1,(N6.dropN 2),⟨[Sn,iL 0],rfl,(TC0.shut Sli.nil)⟩⟩
  ·have U4: ¬ (¬ (G1=0)):=ap (av dI) B3
   refine RR (Y f 1 λ_ f=>?_)
   obtain⟨X3,S3,F8⟩:=bS F7
   refine Y18 f N5 (kL n _ (GL.mono J1 hG) A2 cap2 d2 (h2.mono J1) X3 S3) λW7 N7 _ f=>Ye f 2 λ_ f=>RcF f F8 (λB4 F9=>?_) λB4 F10=>?_
   ·have U5: (X3)=false:=by simpa using B4
    refine RR (Y f 1 λ_ f=>Ys [Sn,iL 0] #[Sn,iL 0] f N7 rfl rfl λW8 N8 _ f=>Ye f 2 λ_ f=>wp_ret (bV (aS (lw f rfl (Y10 (cs:=[Sn,iL 0]) (ad:=⟨Q2,0,none⟩) f (al (N8.ownCell 0 rfl) 0 rfl)) (Y11 (v:=S []) f) (Y11 (v:=iL 91) f) ?_))))
    cases sI F9
    exact⟨_,rfl,V1,J1,(N8.dropN 2),⟨[Sn,iL 0],rfl,(TC0.shut Sli.nil)⟩⟩
   ·have U6: (X3)=true:=by simpa using B4
    refine RR (Y f 1 λ_ f=>Z f (Y35 (v:=iL d0.au) rfl (ad:=⟨Q1,1,none⟩) (N7.ownCell 1 rfl 1)) λ_ f=>Ye f 2 λ_ f=>RcF f F10 (λB5 F11=>?_) λB5 F12=>?_)
    ·have U7:=dI.1 B5
     refine RR (Y f 1 λ_ f=>Ys [Sn,iL 0] #[Sn,iL 0] f N7 rfl rfl λW9 N9 _ f=>Ye f 2 λ_ f=>wp_ret (bV (aS (lw f rfl (Y10 (cs:=[Sn,iL 0]) (ad:=⟨Q2,0,none⟩) f (al (N9.ownCell 0 rfl) 0 rfl)) (Y11 (v:=S []) f) (Y11 (v:=iL 3) f) ?_))))
     cases sI F11
     exact⟨_,rfl,V1,J1,(N9.dropN 2),⟨[Sn,iL 0],rfl,(TC0.shut Sli.nil)⟩⟩
    ·have U8:=ap dI B5
     refine wp_skip (cG (aH (RR (Y f 1 λ_ f=>Z f (Y35 (v:=sL Z1 d0.fL P1) rfl (ad:=⟨Q1,0,none⟩) (N7.ownCell 1 rfl 0)) λ_ f=>Ye f 2 λ_ f=>RR (Y f 1 λ_ f=>Z f (Y35 (v:=iL d0.au) rfl (ad:=⟨Q1,1,none⟩) (N7.ownCell 1 rfl 1)) λ_ f=>?_)))))
     obtain⟨O1,F13⟩:=nS F12
     refine Y f 1 λ_ f=>?_
     have f:=f.st 40 (iW O1)
     refine Y f 1 λ_ f=>Y28 f N7 1 rfl rfl (b:=Q1) (j:=1) (v:=iL (d0.au+1)) rfl (by exact rfl) (by simp) (by simp) ((oC Q2 #[Sn,iL 0] 60)::(oC Q1 #[sL Z1 d0.fL P1,iL (d0.au+1)] 60)::H) rfl λW10 N10 _ f=>eT (RR (Y f 1 λ_ f=>Z f (Y35 (v:=iL (d0.au+1)) rfl (ad:=⟨Q1,1,none⟩) (N10.ownCell 1 rfl 1)) λ_ f=>?_))
     obtain⟨X4,S4,F14⟩:=bS F13
     refine Y18 f N10 (sA n _ (GL.mono J1 hG) (d0.au+1) X4 S4) λW11 N11 _ f=>Ye f 5 λ_ f=>RR (Y f 1 λ_ f=>Z f (Y35 (v:=sL Z1 d0.fL P1) rfl (ad:=⟨Q1,0,none⟩) (N11.ownCell 1 rfl 0)) λ_ f=>Y f 2 λ_ f=>?_)
     obtain⟨O2,F15⟩:=nS F14
     have B6:Sli V1 3 aK (cutA Z1 3 0 ((d0.fL.length:Nat):Int).toNat) (d0.fL.take ((d0.fL.length:Nat):Int).toNat).length (d0.fL.take ((d0.fL.length:Nat):Int).toNat):=Sli.full (cap:=P1) (B1.mono J1) (by omega)
     have hl_1:=Sli.len (cap:=P1) (B1.mono J1)
     have he_1: ((d0.fL.length:Nat):Int).toNat=(d0.fL.take ((d0.fL.length:Nat):Int).toNat).length:=by rw[List.length_take];omega
     refine Z (v:=.slice (cutA Z1 3 0 ((d0.fL.length:Nat):Int).toNat) ((d0.fL.length:Nat):Int).toNat ((d0.fL.length:Nat):Int).toNat) f (Y38 rfl (A:=Z1) (len:=d0.fL.length) (cap:=P1) (k:=.i64) (k':=.i64) (b:=((d0.fL.length:Nat):Int)) (e:=44) (sz:=3) O2.1 (by omega)) λ_ f=>?_
     have f:=Frm.set f 52 (v:=.slice (cutA Z1 3 0 ((d0.fL.length:Nat):Int).toNat) ((d0.fL.length:Nat):Int).toNat ((d0.fL.length:Nat):Int).toNat) (v':=.slice (cutA Z1 3 0 ((d0.fL.length:Nat):Int).toNat) (d0.fL.take ((d0.fL.length:Nat):Int).toNat).length (d0.fL.take ((d0.fL.length:Nat):Int).toNat).length) (by kernel_rfl) (by rw[←he_1])
     refine Y f 4 λ_ f=>bg (k:=1) (c:=1) f N11 (.cells #[S X4.1,S d1,sL A2 d2 cap2] 44 (0,0)) kr (λ_=>by kernel_rfl) λQ3 W12 N12 _ f=>?_
     obtain⟨O3,F16⟩:=nS F15
     refine Y20 (e:=44) (bytes:=56) (z:=.agg #[S [],S [],Sn]) (f:=aK) (xs:=d0.fL.take ((d0.fL.length:Nat):Int).toNat) (ys:=[(⟨X4.1,d1,d2⟩:TG0)]) (news:=[S X4.1,S d1,sL A2 d2 cap2]) (ad:=⟨Q3,0,none⟩) (m:=1) (c:=1) f N12 (by decide) (by decide) B6 (by exact⟨_,_,rfl,TG0.shut (h2.mono J1),rfl⟩) rfl rfl rfl rfl (al (N12.ownCell 0 rfl) 0 rfl) O3 (by have hg_:=O3;omega) λZ2 P2 L1 W13 N13 D1 _ f=>?_
     have N14:=N13.pl [1]
     have N15:=N14.drop
     refine Y f 1 λ_ f=>Y28 f N15 2 rfl rfl (b:=Q1) (j:=0) (v:=sL Z2 ((d0.fL.take ((d0.fL.length:Nat):Int).toNat)++[(⟨X4.1,d1,d2⟩:TG0)]) P2) rfl (by exact rfl) (by simp) (by simp) ((rO 44 3 Z2 ((d0.fL.take ((d0.fL.length:Nat):Int).toNat)++[(⟨X4.1,d1,d2⟩:TG0)]) P2 L1)::(oC Q2 #[Sn,iL 0] 60)::(oC Q1 #[sL Z2 ((d0.fL.take ((d0.fL.length:Nat):Int).toNat)++[(⟨X4.1,d1,d2⟩:TG0)]) P2,iL (d0.au+1)] 60)::H) rfl λW14 N16 _ f=>eT (RR (Z f (Y36 (cs:=[sL Z2 ((d0.fL.take ((d0.fL.length:Nat):Int).toNat)++[(⟨X4.1,d1,d2⟩:TG0)]) P2,iL (d0.au+1)]) rfl (ad:=⟨Q1,0,none⟩) (al (N16.ownCell 2 rfl) 0 rfl)) λ_ f=>Y f 1 λ_ f=>?_))
     obtain⟨Z3,P3,V2,H1,J2,N17,B7⟩:=N16.rowSli (f:=aK) (xs:=(d0.fL.take ((d0.fL.length:Nat):Int).toNat)++[(⟨X4.1,d1,d2⟩:TG0)]) jn D1
     have f:=Frm.set f 60 (v:=.agg #[.slice Z2 ((d0.fL.take ((d0.fL.length:Nat):Int).toNat)++[(⟨X4.1,d1,d2⟩:TG0)]).length P2,.int .i64 (d0.au+1)]) (v':=.agg #[.slice Z3 ((d0.fL.take ((d0.fL.length:Nat):Int).toNat)++[(⟨X4.1,d1,d2⟩:TG0)]).length P3,.int .i64 (d0.au+1)]) (by kernel_rfl) (by rw[H1])
     have N18:Hp w0 V2 ((oC Q2 #[Sn,iL 0] 60)::(oC Q1 #[sL Z3 ((d0.fL.take ((d0.fL.length:Nat):Int).toNat)++[(⟨X4.1,d1,d2⟩:TG0)]) P3,iL (d0.au+1)] 60)::H) W14:=by unfold sL at N17;rw[H1] at N17;exact N17
     refine Ys [sL Z3 ((d0.fL.take ((d0.fL.length:Nat):Int).toNat)++[(⟨X4.1,d1,d2⟩:TG0)]) P3,iL (d0.au+1)] #[sL Z3 ((d0.fL.take ((d0.fL.length:Nat):Int).toNat)++[(⟨X4.1,d1,d2⟩:TG0)]) P3,iL (d0.au+1)] f N18 rfl rfl λW15 N19 _ f=>Ye f 2 λ_ f=>wp_ret (lw f rfl (Y10 (cs:=[sL Z3 ((d0.fL.take ((d0.fL.length:Nat):Int).toNat)++[(⟨X4.1,d1,d2⟩:TG0)]) P3,iL (d0.au+1)]) (ad:=⟨Q2,0,none⟩) f (al (N19.ownCell 0 rfl) 0 rfl)) (Y11 (v:=S X4.1) f) (Y11 (v:=iL 0) f) ?_)
     cases sI F16
     exact⟨_,rfl,V2,(J1.trans J2),(N19.dropN 2),⟨[sL Z3 ((d0.fL.take ((d0.fL.length:Nat):Int).toNat)++[(⟨X4.1,d1,d2⟩:TG0)]) P3,iL (d0.au+1)],rfl,(TC0.shut B7)⟩⟩
def iV (n:Nat) (d0:TC0) (d1:Bs) (d2:List TE0):Option (TC0×Int):=
 (gS n (⟨d0.fL,d0.au⟩:TC0)).bind λX1=>
 bif(!(decide (X1=0))) then
  (some ((iH,(2:Int))))
 else
  (kN n (⟨d0.fL,d0.au⟩:TC0) d1).bind λX2=>
  bif(decide (X2<0)) then
   (some ((iH,(4:Int))))
  else
   (aR d0.fL X2).bind λX3=>
   (cO n X3.am d2).bind λX4=>
   bif(!(decide (X4=0))) then
    (some ((iH,X4)))
   else
    (ip n X3.am X3.ai d2).bind λX5=>
    (((gR n d2).bind λX6=>
      bif !X6 then
       (some ((true)))
      else
       bif(!(decide (X5.2=0))) then
        (some ((true)))
       else
        some ((decide (X5.1=3))):Option Bool)).bind λG1=>
    bif G1 then
     (some ((iH,(91:Int))))
    else
     ((aZ (0≤X2∧X2≤(d0.fL.length:Int))<|
       aZ (inR .i64 (X2+1))<|
       aZ (0≤(X2+1)∧(X2+1)≤(d0.fL.length:Int))<|
       aZ (((d0.fL.take X2.toNat).length+1)*56≤140737488355328)<|
       aZ ((((d0.fL.take X2.toNat)++[(⟨X3.af,X3.am,d2⟩:TG0)]).length+ (d0.fL.drop (X2+1).toNat).length)*56≤140737488355328)<|
       some (((d0.fL.take X2.toNat)++[(⟨X3.af,X3.am,d2⟩:TG0)])++(d0.fL.drop (X2+1).toNat)):Option (List TG0))).bind λG2=>
     some (((⟨G2,d0.au⟩:TC0),(0:Int)))
set_option maxRecDepth 20000 in
theorem qC (n:Nat) (M:Mem) (hG:GL M) (c0:Lv) (d0:TC0) (h0:Rep M (gA d0) c0) (d1:Bs) (A2:Oa) (cap2:Nat) (d2:List TE0) (h2:Sli M 8 aY A2 cap2 d2) (r:TC0×Int) (hF:iV n d0 d1 d2=some r):Ok Tryz.prog M 47 [.agg c0.toArray,S d1,sL A2 d2 cap2] (λM' v=>∃ (c0:Lv),v=.tuple #[.agg c0.toArray,iL r.2]∧Rep M' (gA r.1) c0):=by
 unfold iV at hF
 intro M1 hM0 w0 H w p0
 replace hG:=GL.mono hM0 hG
 replace h0:=Rep.mono hM0 _ _ h0
 replace h2:=h2.mono hM0
 obtain⟨Z1,P1,rfl,B1⟩:=TC0.opn h0
 refine Re 75 Tryz.func47 rfl λa0 f0=>RR (Y12 f0 p0 (.cells (aTC0 d0 Z1 P1) 60 (0,0)) λQ1 W1 N1 _ f=>Y12 f N1 (.cells #[Sn,iL 0] 60 (0,0)) λQ2 W2 N2 _ f=>Ye f 1 λ_ f=>ag (RR (Z f (Y36 (cs:=(lTC0 d0 Z1 P1)) rfl (ad:=⟨Q1,0,none⟩) (al (N2.ownCell 1 rfl) 0 rfl)) λ_ f=>?_)))
 obtain⟨X1,S1,F1⟩:=bS hF
 refine Y18 f N2 (kM n _ hG _ (⟨d0.fL,d0.au⟩:TC0) (TC0.shut B1) X1 S1) λW3 N3 _ f=>Ye f 1 λ_ f=>RcF f F1 (λB2 F2=>?_) λB2 F3=>?_
 ·have U1: ¬ (X1=0):=(av dI).1 B2
  refine RR (Y f 1 λ_ f=>Ys [Sn,iL 0] #[Sn,iL 0] f N3 rfl rfl λW4 N4 _ f=>Ye f 1 λ_ f=>wp_ret (aS (dB f rfl (Y10 (cs:=[Sn,iL 0]) (ad:=⟨Q2,0,none⟩) f (al (N4.ownCell 0 rfl) 0 rfl)) (Y11 (v:=iL 2) f) ?_)))
  cases sI F2
  exact⟨_,rfl,M1,(mR _),(N4.dropN 2),⟨[Sn,iL 0],rfl,(TC0.shut Sli.nil)⟩⟩
 ·have U2: ¬ (¬ (X1=0)):=ap (av dI) B2
  refine St (RR (Z f (Y36 (cs:=(lTC0 d0 Z1 P1)) rfl (ad:=⟨Q1,0,none⟩) (al (N3.ownCell 1 rfl) 0 rfl)) λ_ f=>Y f 1 λ_ f=>?_))
  obtain⟨X2,S2,F4⟩:=bS F3
  refine Y18 f N3 (mQ n _ hG _ (⟨d0.fL,d0.au⟩:TC0) (TC0.shut B1) d1 X2 S2) λW5 N5 _ f=>Ye f 1 λ_ f=>ag (RR (Ye f 2 λ_ f=>RcF f F4 (λB3 F5=>?_) λB3 F6=>?_))
  ·have U3:=dI.1 B3
   refine RR (Y f 1 λ_ f=>Ys [Sn,iL 0] #[Sn,iL 0] f N5 rfl rfl λW6 N6 _ f=>Ye f 1 λ_ f=>wp_ret (aS (dB f rfl (Y10 (cs:=[Sn,iL 0]) (ad:=⟨Q2,0,none⟩) f (al (N6.ownCell 0 rfl) 0 rfl)) (Y11 (v:=iL 4) f) ?_)))
   cases sI F5
   exact⟨_,rfl,M1,(mR _),(N6.dropN 2),⟨[Sn,iL 0],rfl,(TC0.shut Sli.nil)⟩⟩
  ·have U4:=ap dI B3
   refine St (RR (Y f 1 λ_ f=>Z f (Y35 (v:=sL Z1 d0.fL P1) rfl (ad:=⟨Q1,0,none⟩) (N5.ownCell 1 rfl 0)) λ_ f=>Y f 1 λ_ f=>?_))
   obtain⟨X3,S3,F7⟩:=bS F6
   obtain⟨C1,cP,dS,-,D1,R1⟩:=Sli.at_ B1 S3
   obtain⟨Z2,P2,rfl,B4⟩:=TG0.opn D1
   refine Z f (Y34 dS rfl (len:=d0.fL.length) (cap:=P1) (k:=.i64) (i:=X2) (e:=44) (sz:=3) (aF S3) (aE S3)) λ_ f=>Z f (Y36 (cs:=(lTG0 X3 Z2 P2)) rfl (ad:=C1.add (X2.toNat*3)) (λj v h=>N5.cell (R1 j v h))) λ_ f=>Y12 f N5 (.cells #[S [],S [],Sn] 44 (0,0)) λQ3 W7 N7 _ f=>Ys (lTG0 X3 Z2 P2) (aTG0 X3 Z2 P2) f N7 rfl rfl λW8 N8 _ f=>eT (ag (RR (Y f 1 λ_ f=>Z f (Y35 (v:=S X3.am) rfl (ad:=⟨Q3,1,none⟩) (N8.ownCell 0 rfl 1)) λ_ f=>Y f 1 λ_ f=>?_)))
   obtain⟨X4,S4,F8⟩:=bS F7
   refine Y18 f N8 (dH n _ hG X3.am A2 cap2 d2 h2 X4 S4) λW9 N9 _ f=>Ye f 1 λ_ f=>RR (Ye f 2 λ_ f=>RcF f F8 (λB5 F9=>?_) λB5 F10=>?_)
   ·have U5: ¬ (X4=0):=(av dI).1 B5
    refine RR (Y f 2 λ_ f=>?_)
    have N10:=N9.pl [1]
    refine Ys [Sn,iL 0] #[Sn,iL 0] f N10 rfl rfl λW10 N11 _ f=>Ye f 1 λ_ f=>wp_ret (aS (dB f rfl (Y10 (cs:=[Sn,iL 0]) (ad:=⟨Q2,0,none⟩) f (al (N11.ownCell 0 rfl) 0 rfl)) (Y11 (v:=iL X4) f) ?_))
    cases sI F9
    exact⟨_,rfl,M1,(mR _),(N11.dropN 3),⟨[Sn,iL 0],rfl,(TC0.shut Sli.nil)⟩⟩
   ·have U6: ¬ (¬ (X4=0)):=ap (av dI) B5
    refine St (RR (Y f 1 λ_ f=>Z f (Y35 (v:=S X3.am) rfl (ad:=⟨Q3,1,none⟩) (N9.ownCell 0 rfl 1)) λ_ f=>Y f 1 λ_ f=>Z f (Y35 (v:=sL Z2 X3.ai P2) rfl (ad:=⟨Q3,2,none⟩) (N9.ownCell 0 rfl 2)) λ_ f=>Y f 1 λ_ f=>?_))
    obtain⟨X5,S5,F11⟩:=bS F10
    refine Y18 f N9 (pL n _ hG X3.am Z2 P2 X3.ai B4 A2 cap2 d2 h2 X5 S5) λW11 N12 _ f=>Ye f 5 λ_ f=>ag (ag ?_)
    obtain⟨cX,bX,F12⟩:=bS F11
    refine bj (λa_48 W13=>∃G1:Bool,cX=G1∧∃V1:Mem,M1.le V1∧Frm 75 [(2,sL A2 d2 cap2),(3,pP Q1),(6,pP Q2),(8,iL X2),(9,pP Q3),(55,bO G1)] a_48∧Hp w0 V1 ((Ent.obj Q3 (.cells (aTG0 X3 Z2 P2) 44 (0,0)))::(oC Q2 #[Sn,iL 0] 60)::(Ent.obj Q1 (.cells (aTC0 d0 Z1 P1) 60 (0,0)))::H) W13) ?_ ?_
    ·refine aI (Y f 1 λ_ f=>?_)
     obtain⟨X6,S6,F13⟩:=bS bX
     refine Y18 f N12 (kL n _ hG A2 cap2 d2 h2 X6 S6) λW12 N13 _ f=>Y f 2 λ_ f=>?_
     rcases cE F13 with⟨B6,F14⟩|⟨B6,F15⟩
     ·have U7: (X6)=false:=by simpa using B6
      have f:=f.st 48 (cB B6)
      refine Ye f 7 λ_ f=>?_
      exact⟨(true),(sI F14).symm,M1,(mR _),f.kp,N13⟩
     ·have U8: (X6)=true:=by simpa using B6
      have f:=f.st 48 (cB B6)
      refine Y f 4 λ_ f=>?_
      rcases cE F15 with⟨B7,F16⟩|⟨B7,F17⟩
      ·have U9: ¬ (X5.2=0):=(av dI).1 B7
       have f:=f.st 52 (cB B7)
       refine Ye f 3 λ_ f=>?_
       exact⟨(true),(sI F16).symm,M1,(mR _),f.kp,N13⟩
      ·have U10: ¬ (¬ (X5.2=0)):=ap (av dI) B7
       have f:=f.st 52 (cB B7)
       refine Ye f 3 λ_ f=>?_
       exact⟨(decide (X5.1=3)),(sI F17).symm,M1,(mR _),f.kp,N13⟩
    ·rintro a_48 W13 ⟨G1,dg,V1,J1,f,N14⟩
     subst cX
     refine aH (RcF f F12 (λB8 F18=>?_) λB8 F19=>?_)
     ·refine RR (Y f 1 λ_ f=>?_)
      have N15:=N14.pl [1]
      refine Ys [Sn,iL 0] #[Sn,iL 0] f N15 rfl rfl λW14 N16 _ f=>Ye f 1 λ_ f=>wp_ret (aS (dB f rfl (Y10 (cs:=[Sn,iL 0]) (ad:=⟨Q2,0,none⟩) f (al (N16.ownCell 0 rfl) 0 rfl)) (Y11 (v:=iL 91) f) ?_))
      cases sI F18
      exact⟨_,rfl,V1,J1,(N16.dropN 3),⟨[Sn,iL 0],rfl,(TC0.shut Sli.nil)⟩⟩
     ·refine St (RR (Y f 2 λ_ f=>Y28 f N14 0 rfl rfl (b:=Q3) (j:=2) (v:=sL A2 d2 cap2) rfl (by exact rfl) (by simp) (by simp) _ rfl λW15 N17 _ f=>eT (ag ?_)))
      obtain⟨jd,eW,F20⟩:=bS F19
      refine bj (λa_83 W27=>∃G2:List TG0,jd=G2∧∃V2:Mem,V1.le V2∧∃ (Z7:Oa),∃ (P7:Nat),∃ (L5:Lv),aa V2 (G2.map aK) L5∧Frm 75 [(3,pP Q1),(6,pP Q2)] a_83∧Hp w0 V2 ((rO 44 3 Z7 G2 P7 L5)::(oC Q3 #[S X3.af,S X3.am,sL A2 d2 cap2] 44)::(oC Q2 #[Sn,iL 0] 60)::(oC Q1 #[sL Z7 G2 P7,iL d0.au] 60)::H) W27) ?_ ?_
      ·obtain⟨O1,F21⟩:=nS eW
       obtain⟨O2,F22⟩:=nS F21
       obtain⟨O3,F23⟩:=nS F22
       obtain⟨O4,F24⟩:=nS F23
       obtain⟨O5,F25⟩:=nS F24
       refine iz (ks:=[14,15]) (E:=[]) (Hr:=((oC Q3 #[S X3.af,S X3.am,sL A2 d2 cap2] 44)::(oC Q2 #[Sn,iL 0] 60)::(Ent.obj Q1 (.cells (aTC0 d0 Z1 P1) 60 (0,0)))::H)) (.quiet 0 (.quiet 1 (.quiet 2 (.quiet 3 (.quiet 4 (.quiet 5 (.quiet 8 (.quiet 9 (.quiet 10 (.quiet 11 (.quiet 12 (.alt 6 (.alt 7 (.alt 13 .done .none) .none) .none)))))))))))) N17 kr kr kr (Y1 (v:=pP Q1) rfl f rfl rfl (λ_ _=>by kernel_rfl) λ_ f=>Y1 (v:=sL Z1 d0.fL P1) rfl f rfl rfl (λ_ pq=>Y35 (v:=sL Z1 d0.fL P1) rfl (ad:=⟨Q1,0,none⟩) (pq.ownCell 2 rfl 0)) λ_ f=>Y1 (v:=iL X2) rfl f rfl rfl (λ_ _=>by kernel_rfl) λ_ f=>Y1 (v:=iL X2) rfl f rfl rfl (λ_ _=>by kernel_rfl) λ_ f=>?_)
       have B11:Sli V1 3 aK (cutA Z1 3 0 X2.toNat) (d0.fL.take X2.toNat).length (d0.fL.take X2.toNat):=Sli.full (cap:=P1) (B1.mono J1) (by omega)
       have hl_3:=Sli.len (cap:=P1) (B1.mono J1)
       have he_2:X2.toNat=(d0.fL.take X2.toNat).length:=by rw[List.length_take];omega
       refine Y1 (v:=.slice (cutA Z1 3 0 X2.toNat) X2.toNat X2.toNat) rfl f rfl rfl (λ_ pq=>Y38 rfl (A:=Z1) (len:=d0.fL.length) (cap:=P1) (k:=.i64) (k':=.i64) (b:=X2) (e:=44) (sz:=3) O1.1 (by omega)) λ_ f=>?_
       have f:=Frm.set f 63 (v:=.slice (cutA Z1 3 0 X2.toNat) X2.toNat X2.toNat) (v':=.slice (cutA Z1 3 0 X2.toNat) (d0.fL.take X2.toNat).length (d0.fL.take X2.toNat).length) (by kernel_rfl) (by rw[←he_2])
       refine Y1 (v:=.agg #[S X3.af,S X3.am,sL A2 d2 cap2]) rfl f rfl rfl (λ_ pq=>Y36 (cs:=[S X3.af,S X3.am,sL A2 d2 cap2]) rfl (ad:=⟨Q3,0,none⟩) (al (pq.ownCell 0 rfl) 0 rfl)) λ_ f=>Y1 (v:=pP Q1) rfl f rfl rfl (λ_ _=>by kernel_rfl) λ_ f=>Y1 (v:=sL Z1 d0.fL P1) rfl f rfl rfl (λ_ pq=>Y35 (v:=sL Z1 d0.fL P1) rfl (ad:=⟨Q1,0,none⟩) (pq.ownCell 2 rfl 0)) λ_ f=>Y1 (v:=iL X2) rfl f rfl rfl (λ_ _=>by kernel_rfl) λ_ f=>Y1 (v:=iL (IntKind.wrap .i64 (X2+1))) rfl f rfl rfl (λ_ pq=>by kernel_rfl) λ_ f=>?_
       have f:=f.st 70 (iW O2)
       have B12:Sli V1 3 aK (cutA Z1 3 (X2+1).toNat P1) (P1- (X2+1).toNat) (d0.fL.drop (X2+1).toNat):=Sli.cutFrom (B1.mono J1) (by omega)
       refine Y1 (v:=.slice (cutA Z1 3 (X2+1).toNat P1) (d0.fL.length- (X2+1).toNat) (P1- (X2+1).toNat)) rfl f rfl rfl (λ_ pq=>Y39 rfl (A:=Z1) (len:=d0.fL.length) (cap:=P1) (k:=.i64) (a:=X2+1) (e:=44) (sz:=3) O3.1 O3.2) λ_ f=>?_
       have f:=Frm.set f 71 (v:=.slice (cutA Z1 3 (X2+1).toNat P1) (d0.fL.length- (X2+1).toNat) (P1- (X2+1).toNat)) (v':=.slice (cutA Z1 3 (X2+1).toNat P1) (d0.fL.drop (X2+1).toNat).length (P1- (X2+1).toNat)) (by kernel_rfl) (by rw[List.length_drop])
       refine aV rfl (λW19 N23=>?_) ?_
       ·refine bg (k:=1) (c:=1) f N23 (.cells #[S X3.af,S X3.am,sL A2 d2 cap2] 44 (0,0)) kr (λ_=>by kernel_rfl) λQ5 W20 N24 _ f=>aA rfl (aW 1 (mR _) N24 rfl (aV rfl (λW21 N25=>?_) ?_))
        ·refine Y20 (e:=44) (bytes:=56) (z:=.agg #[S [],S [],Sn]) (f:=aK) (xs:=d0.fL.take X2.toNat) (ys:=[(⟨X3.af,X3.am,d2⟩:TG0)]) (news:=[S X3.af,S X3.am,sL A2 d2 cap2]) (ad:=⟨Q5,0,none⟩) (m:=1) (c:=1) f N25 (by decide) (by decide) B11 (by exact⟨_,_,rfl,TG0.shut (h2.mono J1),rfl⟩) rfl rfl rfl rfl (al (N25.ownCell 0 rfl) 0 rfl) O4 (by have hg_:=O4;omega) λZ5 P5 L3 W22 N26 D4 _ f=>?_
         have N27:=N26.pl [1]
         have N28:=N27.drop
         refine aA rfl (aW 1 (mR _) N28 rfl (aV rfl (λW23 N29=>?_) ?_))
         ·refine Y24 (z:=.agg #[S [],S [],Sn]) (f:=aK) (xs:=(d0.fL.take X2.toNat)++[(⟨X3.af,X3.am,d2⟩:TG0)]) (ys:=d0.fL.drop (X2+1).toNat) (c:=(P1- (X2+1).toNat)) f N29 D4 B12 rfl rfl rfl O5 (by omega) λZ6 P6 L4 W24 N30 D5 _ f=>aA rfl (aW 1 (mR _) N30 rfl (iA λW25 N31=>Y f 1 λ_ f=>Y28 f N31 3 rfl rfl (b:=Q1) (j:=0) (v:=sL Z6 (((d0.fL.take X2.toNat)++[(⟨X3.af,X3.am,d2⟩:TG0)])++(d0.fL.drop (X2+1).toNat)) P6) rfl (by exact rfl) (by simp) (by simp) _ rfl λW26 N32 _ f=>aA rfl (nW (aH ?_))))
          exact⟨((d0.fL.take X2.toNat)++[(⟨X3.af,X3.am,d2⟩:TG0)])++(d0.fL.drop (X2+1).toNat),(sI F25).symm,V1,(mR _),Z6,P6,L4,D5,f.kp,N32⟩
         exact aQ
        exact aQ
       exact aQ
      ·rintro a_83 W27 ⟨G2,hZ,V2,J2,Z7,P7,L5,D6,f,N33⟩
       subst jd
       refine aH (RR (Z f (Y36 (cs:=[sL Z7 G2 P7,iL d0.au]) rfl (ad:=⟨Q1,0,none⟩) (al (N33.ownCell 3 rfl) 0 rfl)) λ_ f=>?_))
       obtain⟨Z8,P8,V3,H1,J3,N34,B13⟩:=N33.rowSli (f:=aK) (xs:=G2) jn D6
       have f:=Frm.set f 74 (v:=.agg #[.slice Z7 G2.length P7,.int .i64 d0.au]) (v':=.agg #[.slice Z8 G2.length P8,.int .i64 d0.au]) (by kernel_rfl) (by rw[H1])
       have N35:Hp w0 V3 ((oC Q3 #[S X3.af,S X3.am,sL A2 d2 cap2] 44)::(oC Q2 #[Sn,iL 0] 60)::(oC Q1 #[sL Z8 G2 P8,iL d0.au] 60)::H) W27:=by unfold sL at N34;rw[H1] at N34;exact N34
       have N36:=N35.pl [1]
       refine Ys [sL Z8 G2 P8,iL d0.au] #[sL Z8 G2 P8,iL d0.au] f N36 rfl rfl λW28 N37 _ f=>Ye f 1 λ_ f=>wp_ret (dB f rfl (Y10 (cs:=[sL Z8 G2 P8,iL d0.au]) (ad:=⟨Q2,0,none⟩) f (al (N37.ownCell 0 rfl) 0 rfl)) (Y11 (v:=iL 0) f) ?_)
       cases sI F20
       exact⟨_,rfl,V3,((J1.trans J2).trans J3),(N37.dropN 3),⟨[sL Z8 G2 P8,iL d0.au],rfl,(TC0.shut B13)⟩⟩
def iX (n:Nat) (d0:TC0) (d1:Bs):Option (TC0×Int):=
 (gS n (⟨d0.fL,d0.au⟩:TC0)).bind λX1=>
 bif(!(decide (X1=0))) then
  (some ((iH,(2:Int))))
 else
  (kN n (⟨d0.fL,d0.au⟩:TC0) d1).bind λX2=>
  bif(decide (X2<0)) then
   (some ((iH,(4:Int))))
  else
   aZ (0≤X2∧X2≤(d0.fL.length:Int))<|
   aZ (inR .i64 (X2+1))<|
   aZ (0≤(X2+1)∧(X2+1)≤(d0.fL.length:Int))<|
   aZ (((d0.fL.take X2.toNat).length+ (d0.fL.drop (X2+1).toNat).length)*56≤140737488355328)<|
   some (((⟨(d0.fL.take X2.toNat)++(d0.fL.drop (X2+1).toNat),d0.au⟩:TC0),(0:Int)))
set_option maxRecDepth 20000 in
theorem qD (n:Nat) (M:Mem) (hG:GL M) (c0:Lv) (d0:TC0) (h0:Rep M (gA d0) c0) (d1:Bs) (r:TC0×Int) (hF:iX n d0 d1=some r):Ok Tryz.prog M 48 [.agg c0.toArray,S d1] (λM' v=>∃ (c0:Lv),v=.tuple #[.agg c0.toArray,iL r.2]∧Rep M' (gA r.1) c0):=by
 unfold iX at hF
 intro M1 hM0 w0 H w p0
 replace hG:=GL.mono hM0 hG
 replace h0:=Rep.mono hM0 _ _ h0
 obtain⟨Z1,P1,rfl,B1⟩:=TC0.opn h0
 refine Re 30 Tryz.func48 rfl λa0 f0=>RR (Y12 f0 p0 (.cells (aTC0 d0 Z1 P1) 60 (0,0)) λQ1 W1 N1 _ f=>Y12 f N1 (.cells #[Sn,iL 0] 60 (0,0)) λQ2 W2 N2 _ f=>Ye f 1 λ_ f=>ag (RR (Z f (Y36 (cs:=(lTC0 d0 Z1 P1)) rfl (ad:=⟨Q1,0,none⟩) (al (N2.ownCell 1 rfl) 0 rfl)) λ_ f=>?_)))
 obtain⟨X1,S1,F1⟩:=bS hF
 refine Y18 f N2 (kM n _ hG _ (⟨d0.fL,d0.au⟩:TC0) (TC0.shut B1) X1 S1) λW3 N3 _ f=>Ye f 1 λ_ f=>RcF f F1 (λB2 F2=>?_) λB2 F3=>?_
 ·have U1: ¬ (X1=0):=(av dI).1 B2
  refine RR (Y f 1 λ_ f=>Ys [Sn,iL 0] #[Sn,iL 0] f N3 rfl rfl λW4 N4 _ f=>Ye f 1 λ_ f=>wp_ret (aS (dB f rfl (Y10 (cs:=[Sn,iL 0]) (ad:=⟨Q2,0,none⟩) f (al (N4.ownCell 0 rfl) 0 rfl)) (Y11 (v:=iL 2) f) ?_)))
  cases sI F2
  exact⟨_,rfl,M1,(mR _),(N4.dropN 2),⟨[Sn,iL 0],rfl,(TC0.shut Sli.nil)⟩⟩
 ·have U2: ¬ (¬ (X1=0)):=ap (av dI) B2
  refine St (RR (Z f (Y36 (cs:=(lTC0 d0 Z1 P1)) rfl (ad:=⟨Q1,0,none⟩) (al (N3.ownCell 1 rfl) 0 rfl)) λ_ f=>Y f 1 λ_ f=>?_))
  obtain⟨X2,S2,F4⟩:=bS F3
  refine Y18 f N3 (mQ n _ hG _ (⟨d0.fL,d0.au⟩:TC0) (TC0.shut B1) d1 X2 S2) λW5 N5 _ f=>Ye f 1 λ_ f=>ag (RR (Ye f 2 λ_ f=>RcF f F4 (λB3 F5=>?_) λB3 F6=>?_))
  ·have U3:=dI.1 B3
   refine RR (Y f 1 λ_ f=>Ys [Sn,iL 0] #[Sn,iL 0] f N5 rfl rfl λW6 N6 _ f=>Ye f 1 λ_ f=>wp_ret (aS (dB f rfl (Y10 (cs:=[Sn,iL 0]) (ad:=⟨Q2,0,none⟩) f (al (N6.ownCell 0 rfl) 0 rfl)) (Y11 (v:=iL 4) f) ?_)))
   cases sI F5
   exact⟨_,rfl,M1,(mR _),(N6.dropN 2),⟨[Sn,iL 0],rfl,(TC0.shut Sli.nil)⟩⟩
  ·have U4:=ap dI B3
   refine St (ag (kV 10 N5 kr kr λW7 N7=>bT (v:=pP Q1) f kr kr rfl rfl kr λ_ f=>bT (v:=sL Z1 d0.fL P1) f kr kr rfl rfl (Y35 (v:=sL Z1 d0.fL P1) rfl (ad:=⟨Q1,0,none⟩) (N7.ownCell 1 rfl 0)) λ_ f=>bT (v:=iL X2) f kr kr rfl rfl kr λ_ f=>bT (v:=iL X2) f kr kr rfl rfl kr λ_ f=>?_))
   obtain⟨O1,F7⟩:=nS F6
   have B4:Sli M1 3 aK (cutA Z1 3 0 X2.toNat) (d0.fL.take X2.toNat).length (d0.fL.take X2.toNat):=Sli.full (cap:=P1) B1 (by omega)
   have hl_1:=Sli.len (cap:=P1) B1
   have he_1:X2.toNat=(d0.fL.take X2.toNat).length:=by rw[List.length_take];omega
   refine bT (v:=.slice (cutA Z1 3 0 X2.toNat) X2.toNat X2.toNat) f kr kr rfl rfl (Y38 rfl (A:=Z1) (len:=d0.fL.length) (cap:=P1) (k:=.i64) (k':=.i64) (b:=X2) (e:=44) (sz:=3) O1.1 (by omega)) λ_ f=>?_
   have f:=Frm.set f 21 (v:=.slice (cutA Z1 3 0 X2.toNat) X2.toNat X2.toNat) (v':=.slice (cutA Z1 3 0 X2.toNat) (d0.fL.take X2.toNat).length (d0.fL.take X2.toNat).length) (by kernel_rfl) (by rw[←he_1])
   refine bT (v:=pP Q1) f kr kr rfl rfl kr λ_ f=>bT (v:=sL Z1 d0.fL P1) f kr kr rfl rfl (Y35 (v:=sL Z1 d0.fL P1) rfl (ad:=⟨Q1,0,none⟩) (N7.ownCell 1 rfl 0)) λ_ f=>bT (v:=iL X2) f kr kr rfl rfl kr λ_ f=>?_
   obtain⟨O2,F8⟩:=nS F7
   refine bT (v:=iL (IntKind.wrap .i64 (X2+1))) f kr kr rfl rfl kr λ_ f=>?_
   have f:=f.st 25 (iW O2)
   obtain⟨O3,F9⟩:=nS F8
   have B5:Sli M1 3 aK (cutA Z1 3 (X2+1).toNat P1) (P1- (X2+1).toNat) (d0.fL.drop (X2+1).toNat):=Sli.cutFrom B1 (by omega)
   refine bT (v:=.slice (cutA Z1 3 (X2+1).toNat P1) (d0.fL.length- (X2+1).toNat) (P1- (X2+1).toNat)) f kr kr rfl rfl (Y39 rfl (A:=Z1) (len:=d0.fL.length) (cap:=P1) (k:=.i64) (a:=X2+1) (e:=44) (sz:=3) O3.1 O3.2) λ_ f=>?_
   have f:=Frm.set f 26 (v:=.slice (cutA Z1 3 (X2+1).toNat P1) (d0.fL.length- (X2+1).toNat) (P1- (X2+1).toNat)) (v':=.slice (cutA Z1 3 (X2+1).toNat P1) (d0.fL.drop (X2+1).toNat).length (P1- (X2+1).toNat)) (by kernel_rfl) (by rw[List.length_drop])
   refine lJ rfl ?_
   obtain⟨O4,F10⟩:=nS F9
   refine Y21 (e:=44) (bytes:=56) (z:=.agg #[S [],S [],Sn]) (f:=aK) (xs:=d0.fL.take X2.toNat) (ys:=d0.fL.drop (X2+1).toNat) (c:=(P1- (X2+1).toNat)) f N7 (by decide) jn B4 B5 rfl rfl rfl O4 (by omega) λZ2 P2 V1 W8 J1 N8 B6 _ f=>Y f 1 λ_ f=>Y28 f N8 1 rfl rfl (b:=Q1) (j:=0) (v:=sL Z2 ((d0.fL.take X2.toNat)++(d0.fL.drop (X2+1).toNat)) P2) rfl (by exact rfl) (by simp) (by simp) _ rfl λW9 N9 _ f=>eT (RR (Z f (Y36 (cs:=[sL Z2 ((d0.fL.take X2.toNat)++(d0.fL.drop (X2+1).toNat)) P2,iL d0.au]) rfl (ad:=⟨Q1,0,none⟩) (al (N9.ownCell 1 rfl) 0 rfl)) λ_ f=>Ys [sL Z2 ((d0.fL.take X2.toNat)++(d0.fL.drop (X2+1).toNat)) P2,iL d0.au] #[sL Z2 ((d0.fL.take X2.toNat)++(d0.fL.drop (X2+1).toNat)) P2,iL d0.au] f N9 rfl rfl λW10 N10 _ f=>Ye f 1 λ_ f=>wp_ret (dB f rfl (Y10 (cs:=[sL Z2 ((d0.fL.take X2.toNat)++(d0.fL.drop (X2+1).toNat)) P2,iL d0.au]) (ad:=⟨Q2,0,none⟩) f (al (N10.ownCell 0 rfl) 0 rfl)) (Y11 (v:=iL 0) f) ?_)))
   cases sI F10
   exact⟨_,rfl,V1,J1,(N10.dropN 2),⟨[sL Z2 ((d0.fL.take X2.toNat)++(d0.fL.drop (X2+1).toNat)) P2,iL d0.au],rfl,(TC0.shut B6)⟩⟩
def kO (n:Nat) (d0:Int):Option (Bs×Int):=
 ((bif(decide (d0<1)) then
  (some ((true)))
   else
    some ((decide ((1099511627776:Int)<d0))):Option Bool)).bind λG1=>
 bif G1 then
  (some ((([]:Bs),(2:Int))))
 else
  (ot n d0).bind λX1=>
  aZ ([112].length+X1.1.length≤9223372036854775807)<|
  some (([112]++X1.1,(0:Int)))
theorem sD (n:Nat) (M:Mem) (hG:GL M) (d0:Int) (r:Bs×Int) (hF:kO n d0=some r):Ok Tryz.prog M 51 [iL d0] (λ_ v=>v=.tuple #[S r.1,iL r.2]):=by
 unfold kO at hF
 intro M1 hM0 w0 H w p0
 replace hG:=GL.mono hM0 hG
 refine Re 19 Tryz.func51 rfl λa0 f0=>RR (Ye f0 2 λ_ f=>ag (ag ?_))
 obtain⟨cX,bX,F1⟩:=bS hF
 refine bj (λa_5 W1=>∃G1:Bool,cX=G1∧∃V1:Mem,M1.le V1∧Frm 19 [(0,iL d0),(11,bO G1)] a_5∧Hp w0 V1 (H) W1) ?_ ?_
 ·refine aI (Y f 3 λ_ f=>?_)
  rcases cE bX with⟨B1,F2⟩|⟨B1,F3⟩
  ·have U1:=dI.1 B1
   have f:=f.st 8 (cB B1)
   refine Ye f 3 λ_ f=>?_
   exact⟨(true),(sI F2).symm,M1,(mR _),f.kp,p0⟩
  ·have U2:=ap dI B1
   have f:=f.st 8 (cB B1)
   refine Ye f 3 λ_ f=>?_
   exact⟨(decide ((1099511627776:Int)<d0)),(sI F3).symm,M1,(mR _),f.kp,p0⟩
 ·rintro a_5 W1 ⟨G1,dg,V1,J1,f,N1⟩
  subst cX
  refine aH (RcF f F1 (λB2 F4=>?_) λB2 F5=>?_)
  ·refine RR (Ye f 2 λ_ f=>wp_ret (aS (bJ f rfl (Lk 2 (S [])) (Lk 3 (iL 2)) ?_)))
   cases sI F4
   exact⟨_,rfl,V1,J1,N1,rfl⟩
  ·refine St (RR (Y f 1 λ_ f=>?_))
   obtain⟨X1,S1,F6⟩:=bS F5
   refine Y18 f N1 (sx n _ d0 X1 S1) λW2 N2 _ f=>Ye f 5 λ_ f=>RR (Y f 1 λ_ f=>?_)
   obtain⟨O1,F7⟩:=nS F6
   refine Z f (Y32 rfl (l:=[112]) (m:=X1.1) O1) λ_ f=>Ye f 2 λ_ f=>wp_ret (bJ f rfl (Lk 2 (S ([112]++X1.1))) (Lk 3 (iL 0)) ?_)
   cases sI F7
   exact⟨_,rfl,V1,J1,N2,rfl⟩
def iY (n:Nat) (d0:Bs):Option (Int×Bool):=
 ((bif(decide ((d0.length:Int)<2)) then
  (some ((true)))
   else
    bif(decide ((20:Int)<(d0.length:Int))) then
     (some ((true)))
    else
     (aR d0 (0:Int)).bind λcP=>
     some ((!(decide (((cP).toNat:Int)=112)))):Option Bool)).bind λG1=>
 bif G1 then
  (some (((0:Int),(false))))
 else
  aZ (0≤(1:Int)∧(1:Int)≤d0.length)<|
  (ma n (d0.drop (1:Int).toNat)).bind λX1=>
  bif(!(decide (X1.2=0))) then
   (some (((0:Int),(false))))
  else
   bif(decide (X1.1<1)) then
    (some (((0:Int),(false))))
   else
    bif(decide ((1099511627776:Int)<X1.1)) then
     (some (((0:Int),(false))))
    else
     some ((X1.1,(true)))
set_option maxRecDepth 20000 in
theorem qE (n:Nat) (M:Mem) (hG:GL M) (d0:Bs) (r:Int×Bool) (hF:iY n d0=some r):Ok Tryz.prog M 69 [S d0] (λ_ v=>v=.tuple #[iL r.1,bO r.2]):=by
 unfold iY at hF
 intro M1 hM0 w0 H w p0
 replace hG:=GL.mono hM0 hG
 refine Re 36 Tryz.func69 rfl λa0 f0=>RR (Ye f0 2 λ_ f=>ag (ag ?_))
 obtain⟨cX,bX,F1⟩:=bS hF
 refine bj (λa_9 W1=>∃G1:Bool,cX=G1∧∃V1:Mem,M1.le V1∧Frm 36 [(0,S d0),(18,bO G1)] a_9∧Hp w0 V1 (H) W1) ?_ ?_
 ·refine aI (Y f 4 λ_ f=>?_)
  rcases cE bX with⟨B1,F2⟩|⟨B1,F3⟩
  ·have U1:=dI.1 B1
   have f:=f.st 9 (cB B1)
   refine Ye f 9 λ_ f=>?_
   exact⟨(true),(sI F2).symm,M1,(mR _),f.kp,p0⟩
  ·have U2:=ap dI B1
   have f:=f.st 9 (cB B1)
   refine Y f 5 λ_ f=>?_
   rcases cE F3 with⟨B2,F4⟩|⟨B2,F5⟩
   ·have U3:=dI.1 B2
    have f:=f.st 14 (cB B2)
    refine Ye f 4 λ_ f=>?_
    exact⟨(true),(sI F4).symm,M1,(mR _),f.kp,p0⟩
   ·have U4:=ap dI B2
    have f:=f.st 14 (cB B2)
    refine Y f 1 λ_ f=>?_
    obtain⟨cP,S1,F6⟩:=bS F5
    refine Z f (Y41 rfl (l:=d0) (k:=.i64) (i:=(0:Int)) (aF S1) (aE S1)) λ_ f=>?_
    have f:=Frm.set f 16 (v:=.int .u8 ((d0.getD (0:Int).toNat 0).toNat:Int)) (v':=.int .u8 ((cP).toNat:Int)) kr (congrArg (λc:UInt8=>Value.int .u8 ((c.toNat:Nat):Int)) (np S1))
    refine Ye f 2 λ_ f=>?_
    exact⟨(!(decide (((cP).toNat:Int)=112))),(sI F6).symm,M1,(mR _),f.kp,p0⟩
 ·rintro a_9 W1 ⟨G1,dg,V1,J1,f,N1⟩
  subst cX
  refine aH (RcF f F1 (λB3 F7=>?_) λB3 F8=>?_)
  ·refine RR (Ye f 2 λ_ f=>wp_ret (aS (bJ f rfl (Lk 2 (iL 0)) (Lk 3 (bO false)) ?_)))
   cases sI F7
   exact⟨_,rfl,V1,J1,N1,rfl⟩
  ·refine St (RR (Y f 1 λ_ f=>?_))
   obtain⟨O1,F9⟩:=nS F8
   refine Z (v:=S (d0.drop (1:Int).toNat)) f (po rfl (l:=d0) (k:=.i64) (a:=(1:Int)) kr kr kr O1.1 O1.2) λ_ f=>?_
   obtain⟨X1,S2,F10⟩:=bS F9
   refine Y18 f N1 (sy n _ (d0.drop (1:Int).toNat) X1 S2) λW2 N2 _ f=>Ye f 5 λ_ f=>ag (RR (Y f 3 λ_ f=>?_))
   rcases cE F10 with⟨B4,F11⟩|⟨B4,F12⟩
   ·have U7: ¬ (X1.2=0):=(av dI).1 B4
    have f:=f.st 27 (cB B4)
    refine Ye f 7 λ_ f=>Y8 f (RR (Ye f 2 λ_ f=>wp_ret (aS (bJ f rfl (Lk 2 (iL 0)) (Lk 3 (bO false)) ?_))))
    cases sI F11
    exact⟨_,rfl,V1,J1,N2,rfl⟩
   ·have U8: ¬ (¬ (X1.2=0)):=ap (av dI) B4
    have f:=f.st 27 (cB B4)
    refine Y f 4 λ_ f=>?_
    rcases cE F12 with⟨B5,F13⟩|⟨B5,F14⟩
    ·have U9:=dI.1 B5
     have f:=f.st 31 (cB B5)
     refine Ye f 3 λ_ f=>Y8 f (RR (Ye f 2 λ_ f=>wp_ret (aS (bJ f rfl (Lk 2 (iL 0)) (Lk 3 (bO false)) ?_))))
     cases sI F13
     exact⟨_,rfl,V1,J1,N2,rfl⟩
    ·have U10:=ap dI B5
     have f:=f.st 31 (cB B5)
     refine Ye f 3 λ_ f=>RcF f F14 (λB6 F15=>?_) λB6 F16=>?_
     ·have U11:=dI.1 B6
      refine RR (Ye f 2 λ_ f=>wp_ret (aS (bJ f rfl (Lk 2 (iL 0)) (Lk 3 (bO false)) ?_)))
      cases sI F15
      exact⟨_,rfl,V1,J1,N2,rfl⟩
     ·have U12:=ap dI B6
      refine St (RR (Ye f 3 λ_ f=>wp_ret (bJ f rfl (Lk 2 (iL X1.1)) (Lk 3 (bO true)) ?_)))
      cases sI F16
      exact⟨_,rfl,V1,J1,N2,rfl⟩
def eE (n:Nat) (d0:List TE0) (K1:Int):Option (Lp Int (Sum Unit Unit)):=
    bif(decide (K1<((d0.length:Nat):Int))) then
     ((aR d0 K1).bind λX1=>
     bif X1.az then
      (some (.br (.inl ())))
     else
      aZ (inR .i64 (K1+1))<|
      some (.nx (K1+1)))
    else
     some (.br (.inr ()))
def gT (n:Nat) (d0:List TE0):Option Bool:=
 (aN (eE n d0) n (0:Int)).bind λQ1=>
 (match Q1 with
 |.inl G1=>some ((false))
 |.inr G2=>some ((true)))
theorem kP (n:Nat) (M:Mem) (hG:GL M) (A0:Oa) (cap0:Nat) (d0:List TE0) (h0:Sli M 8 aY A0 cap0 d0) (r:Bool) (hF:gT n d0=some r):Ok Tryz.prog M 50 [sL A0 d0 cap0] (λ_ v=>v=bO r):=by
 unfold gT at hF
 intro M1 hM0 w0 H w p0
 replace hG:=GL.mono hM0 hG
 replace h0:=h0.mono hM0
 refine Re 15 Tryz.func50 rfl λa0 f0=>RR (Ye f0 1 λ_ f=>ag (RR (Ye f 1 λ_ f=>wp_block ?_)))
 obtain⟨Q1,bH,F1⟩:=bS hF
 refine wp_mono (Q:=λe a w=>(e=.ret∧(∃G1:Unit,Q1=.inl G1∧∃V2:Mem,M1.le V2∧Frm 15 [(2,bO false)] a∧Hp w0 V2 (H) w))∨(e=.exit 0∧(∃G2:Unit,Q1=.inr G2∧∃V3:Mem,M1.le V3∧Frm 15 [] a∧Hp w0 V3 (H) w))) (bu (n:=15) (w0:=w0) (M:=M1) (λ (I1,K1)=>[(0,sL A0 d0 cap0),(3,iL K1)]) (λ (I1,K1)=>(H)) (λ (I1,K1) MM=>aN (eE n d0) I1 K1=some Q1) (λ (I1,K1)=>I1) (n,(0:Int)) (f.kp) p0 bH ?_) ?_
 ·rintro⟨I1,K1⟩ V1 _ W1 J1 dc f N1
  have bI:=dc
  obtain⟨I2,jP,rfl,be,T1⟩:=aT bI
  unfold eE at be
  refine ag (RR (Ye f 4 λ_ f=>RcF f be (λB1 F2=>?_) λB1 F7=>?_))
  ·have U1:=dI.1 B1
   refine St (ag (wp_block (RR (Y f 2 λ_ f=>?_))))
   obtain⟨X1,S1,F3⟩:=bS F2
   obtain⟨C1,cP,dS,-,D1,R1⟩:=Sli.at_ (h0.mono J1) S1
   obtain⟨Z1,P1,Z2,P2,rfl,B2,B3⟩:=TE0.opn D1
   refine Z f (Y34 dS rfl (len:=d0.length) (cap:=cap0) (k:=.i64) (i:=K1) (e:=75) (sz:=8) (aF S1) (aE S1)) λ_ f=>Y f 1 λ_ f=>Y15 f N1 R1 1 rfl λ_ f=>eT (RcF f F3 (λB4 F4=>?_) λB4 F5=>?_)
   ·refine RR (Ye f 1 λ_ f=>wp_ret (bV (aS (aS ?_))))
    cases sI F4
    exact .inl ⟨rfl,(),(sI T1).symm,V1,J1,f.kp,N1⟩
   ·refine wp_skip (cG (aH (aI (Y f 1 λ_ f=>?_))))
    obtain⟨O1,F6⟩:=nS F5
    refine Y f 1 λ_ f=>?_
    have f:=f.st 9 (iW O1)
    refine Ye f 1 λ_ f=>?_
    cases sI F6
    exact⟨⟨I2,K1+1⟩,Nat.lt_succ_self _,V1,J1,T1,f.kp,N1⟩
  ·have U4:=ap dI B1
   refine wp_exit (co (co ?_))
   cases sI F7
   exact .inr ⟨rfl,(),(sI T1).symm,V1,J1,f.kp,N1⟩
 ·rintro _ _ W4 (⟨rfl,G1,rfl,V2,J2,f,N2⟩|⟨rfl,G2,rfl,V3,J3,f,N3⟩)
  ·refine bV (aS (ao f rfl (Lk 2 (bO false)) ?_))
   cases sI F1
   exact⟨_,rfl,V2,J2,N2,rfl⟩
  ·refine iq (aH (RR (Ye f 1 λ_ f=>wp_ret (ao f rfl (Lk 2 (bO true)) ?_))))
   cases sI F1
   exact⟨_,rfl,V3,J3,N3,rfl⟩
def eF (n:Nat) (d0:TA0) (K1:Int×Int):Option (Lp (Int×Int) (Sum Unit Unit)):=
    bif(decide (K1.2<((d0.fL.length:Nat):Int))) then
     ((aR d0.fL K1.2).bind λX1=>
     (iY n X1.af).bind λX2=>
     ((bif !X2.2 then
      (some ((true)))
       else
        bif(decide (X2.1≤K1.1)) then
         (some ((true)))
        else
         bif(decide (d0.au<X2.1)) then
          (some ((true)))
         else
          (aR d0.fL K1.2).bind λX3=>
          (aR d0.fL K1.2).bind λX4=>
          (dp n X3.am X4.ai).bind λX5=>
          bif(!(decide (X5=0))) then
           (some ((true)))
          else
           (aR d0.fL K1.2).bind λX6=>
           (gT n X6.ai).bind λX7=>
           some ((!X7)):Option Bool)).bind λG2=>
     bif G2 then
      (some (.br (.inl ())))
     else
      aZ (inR .i64 (K1.2+1))<|
      some (.nx (X2.1,K1.2+1)))
    else
     some (.br (.inr ()))
def gU (n:Nat) (d0:TA0):Option Int:=
 ((bif(decide (d0.au<0)) then
  (some ((true)))
   else
    some ((decide ((1099511627776:Int)<d0.au))):Option Bool)).bind λG1=>
 bif G1 then
  (some ((2:Int)))
 else
  (aN (eF n d0) n ((0:Int),(0:Int))).bind λQ2=>
  (match Q2 with
  |.inl G3=>some ((2:Int))
  |.inr G4=>some ((0:Int)))
set_option maxRecDepth 20000 in
theorem kQ (n:Nat) (M:Mem) (hG:GL M) (c0:List Value) (d0:TA0) (h0:Rep M (eb d0) c0) (r:Int) (hF:gU n d0=some r):Ok Tryz.prog M 49 [.agg c0.toArray] (λ_ v=>v=iL r):=by
 unfold gU at hF
 intro M1 hM0 w0 H w p0
 replace hG:=GL.mono hM0 hG
 replace h0:=Rep.mono hM0 _ _ h0
 obtain⟨Z1,P1,rfl,B1⟩:=TA0.opn h0
 refine aD 72 Tryz.func49 rfl rfl (by simp) λa0 f0=>RR (Y13 (cs:=#[sL Z1 d0.fL P1,iL d0.au]) (T:=63) f0 p0 λQ1 V1 W1 J1 R1 N1 _ f=>?_)
 have R2:=bR R1
 refine Y f 1 λ_ f=>eT (ag (ag ?_))
 obtain⟨cX,bX,F1⟩:=bS hF
 refine bj (λqa W2=>∃G1:Bool,cX=G1∧∃V2:Mem,V1.le V2∧Frm 72 [(1,pP Q1),(14,bO G1)] qa∧Hp w0 V2 (H) W2) ?_ ?_
 ·refine aI (Y f 1 λ_ f=>Y15 f N1 R2 1 rfl λ_ f=>Y f 2 λ_ f=>?_)
  rcases cE bX with⟨B2,F2⟩|⟨B2,F3⟩
  ·have U1:=dI.1 B2
   have f:=f.st 10 (cB B2)
   refine Y f 4 λ_ f=>eT ?_
   exact⟨(true),(sI F2).symm,V1,(mR _),f.kp,N1⟩
  ·have U2:=ap dI B2
   have f:=f.st 10 (cB B2)
   refine Y f 1 λ_ f=>Y15 f N1 R2 1 rfl λ_ f=>Y f 2 λ_ f=>eT ?_
   exact⟨(decide ((1099511627776:Int)<d0.au)),(sI F3).symm,V1,(mR _),f.kp,N1⟩
 ·rintro qa W2 ⟨G1,dg,V2,J2,f,N2⟩
  subst cX
  refine aH (RcF f F1 (λB3 F4=>?_) λB3 F5=>?_)
  ·refine RR (Y f 1 λ_ f=>eT (wp_ret (aS (ao f rfl (by kernel_rfl:Vc.look _ 2=some (iL 2)) ?_))))
   obtain rfl:=sI F4
   exact⟨_,rfl,V2,(J1.trans J2),N2,rfl⟩
  ·refine wp_skip (aH (RR (Y f 1 λ_ f=>eT (ag (RR (Y f 1 λ_ f=>eT (wp_block ?_)))))))
   obtain⟨Q2,bH,F6⟩:=bS F5
   refine wp_mono (Q:=λe a w=>(e=.ret∧(∃G3:Unit,Q2=.inl G3∧∃V5:Mem,V2.le V5∧Frm 72 [(2,iL 2)] a∧Hp w0 V5 (H) w))∨(e=.exit 0∧(∃G4:Unit,Q2=.inr G4∧∃V6:Mem,V2.le V6∧Frm 72 [] a∧Hp w0 V6 (H) w))) (bu (n:=72) (w0:=w0) (M:=V2) (λ (I1,K1)=>[(1,pP Q1),(3,iL K1.1),(4,iL K1.2)]) (λ (I1,K1)=>(H)) (λ (I1,K1) MM=>aN (eF n d0) I1 K1=some Q2) (λ (I1,K1)=>I1) (n,((0:Int),(0:Int))) (f.kp) N2 bH ?_) ?_
   ·rintro⟨I1,K1⟩ V3 _ W3 J3 dc f N3
    have bI:=dc
    obtain⟨I2,jP,rfl,be,T1⟩:=aT bI
    unfold eF at be
    refine ag (RR (Y f 2 λ_ f=>Y15 f N3 (fzu (J2.trans J3) R2) 0 rfl λ_ f=>Y f 2 λ_ f=>eT (RcF f be (λB4 F7=>?_) λB4 F27=>?_)))
    ·have U5:=dI.1 B4
     refine wp_skip (aH (ag (wp_block (RR (Y f 1 λ_ f=>Y15 f N3 (fzu (J2.trans J3) R2) 0 rfl λ_ f=>Y f 1 λ_ f=>?_)))))
     obtain⟨X1,S1,F8⟩:=bS F7
     obtain⟨C1,cP,dS,-,D1,R3⟩:=Sli.at_ (B1.mono ((J1.trans J2).trans J3)) S1
     obtain⟨Z2,P2,rfl,B5⟩:=TG0.opn D1
     refine Z f (Y34 dS rfl (len:=d0.fL.length) (cap:=P1) (k:=.i64) (i:=K1.2) (e:=44) (sz:=3) (aF S1) (aE S1)) λ_ f=>Y f 1 λ_ f=>Y15 f N3 R3 0 rfl λ_ f=>?_
     obtain⟨X2,S2,F9⟩:=bS F8
     refine Y18 f N3 (qE n _ (GL.mono ((J1.trans J2).trans J3) hG) X1.af X2 S2) λW4 N4 _ f=>Y f 5 λ_ f=>eT (ag (ag ?_))
     obtain⟨jd,eW,F10⟩:=bS F9
     refine bj (λa_57 W12=>∃G2:Bool,jd=G2∧∃V4:Mem,V3.le V4∧Frm 72 [(1,pP Q1),(4,iL K1.2),(5,iL X2.1),(70,bO G2)] a_57∧Hp w0 V4 (H) W12) ?_ ?_
     ·refine cR N4 kr kr (Y5 default f 3 λ_ f=>?_)
      rcases cE eW with⟨B6,F11⟩|⟨B6,F12⟩
      ·have U6: (X2.2)=false:=by simpa using B6
       have f:=f.st 34 (cB B6)
       refine Y5 default f 36 λ_ f=>bW rfl ?_
       intro W5 N5
       refine aH ?_
       exact⟨(true),(sI F11).symm,V3,(mR _),f.kp,N5⟩
      ·have U7: (X2.2)=true:=by simpa using B6
       have f:=f.st 34 (cB B6)
       refine Y5 default f 5 λ_ f=>?_
       rcases cE F12 with⟨B7,F13⟩|⟨B7,F14⟩
       ·have U8:=dI.1 B7
        have f:=f.st 39 (cB B7)
        refine Y5 default f 31 λ_ f=>bW rfl ?_
        intro W6 N6
        refine aH ?_
        exact⟨(true),(sI F13).symm,V3,(mR _),f.kp,N6⟩
       ·have U9:=ap dI B7
        have f:=f.st 39 (cB B7)
        refine Y5 default f 2 λ_ f=>Y4 f (fzu (J2.trans J3) R2) 1 rfl λ_ f=>Y5 default f 3 λ_ f=>?_
        rcases cE F14 with⟨B8,F15⟩|⟨B8,F16⟩
        ·have U10:=dI.1 B8
         have f:=f.st 45 (cB B8)
         refine Y5 default f 25 λ_ f=>bW rfl ?_
         intro W7 N7
         refine aH ?_
         exact⟨(true),(sI F15).symm,V3,(mR _),f.kp,N7⟩
        ·have U11:=ap dI B8
         have f:=f.st 45 (cB B8)
         refine Y5 default f 1 λ_ f=>Y4 f (fzu (J2.trans J3) R2) 0 rfl λ_ f=>Y5 default f 1 λ_ f=>?_
         obtain⟨X3,S3,F17⟩:=bS F16
         obtain⟨C2,jX,lp,-,D2,R4⟩:=Sli.at_ (B1.mono ((J1.trans J2).trans J3)) S3
         obtain⟨Z3,P3,rfl,B9⟩:=TG0.opn D2
         refine Y2 (v:=.pointer (some (C2.add (K1.2.toNat*3)))) f (λ_ pq=>Y34 lp rfl (len:=d0.fL.length) (cap:=P1) (k:=.i64) (i:=K1.2) (e:=44) (sz:=3) (aF S3) (aE S3)) λ_ f=>Y5 default f 1 λ_ f=>Y4 f R4 1 rfl λ_ f=>Y5 default f 1 λ_ f=>Y4 f (fzu (J2.trans J3) R2) 0 rfl λ_ f=>Y5 default f 1 λ_ f=>?_
         obtain⟨X4,S4,F18⟩:=bS F17
         obtain⟨C3,c_3,sh,-,D3,R5⟩:=Sli.at_ (B1.mono ((J1.trans J2).trans J3)) S4
         obtain⟨Z4,P4,rfl,B10⟩:=TG0.opn D3
         refine Y2 (v:=.pointer (some (C3.add (K1.2.toNat*3)))) f (λ_ pq=>Y34 sh rfl (len:=d0.fL.length) (cap:=P1) (k:=.i64) (i:=K1.2) (e:=44) (sz:=3) (aF S4) (aE S4)) λ_ f=>Y5 default f 1 λ_ f=>Y4 f R5 2 rfl λ_ f=>?_
         obtain⟨X5,S5,F19⟩:=bS F18
         refine Y3 f (eC n _ (GL.mono ((J1.trans J2).trans J3) hG) X3.am Z4 P4 X4.ai B10 X5 S5) λ_ f=>Y5 default f 3 λ_ f=>?_
         rcases cE F19 with⟨B11,F20⟩|⟨B11,F21⟩
         ·have U12: ¬ (X5=0):=(av dI).1 B11
          have f:=f.st 61 (cB B11)
          refine Y5 default f 9 λ_ f=>bW rfl ?_
          intro W9 N9
          refine aH ?_
          exact⟨(true),(sI F20).symm,V3,(mR _),f.kp,N9⟩
         ·have U13: ¬ (¬ (X5=0)):=ap (av dI) B11
          have f:=f.st 61 (cB B11)
          refine Y5 default f 1 λ_ f=>Y4 f (fzu (J2.trans J3) R2) 0 rfl λ_ f=>Y5 default f 1 λ_ f=>?_
          obtain⟨X6,S6,F22⟩:=bS F21
          obtain⟨C4,c_4,qG,-,D4,R6⟩:=Sli.at_ (B1.mono ((J1.trans J2).trans J3)) S6
          obtain⟨Z5,P5,rfl,B12⟩:=TG0.opn D4
          refine Y2 (v:=.pointer (some (C4.add (K1.2.toNat*3)))) f (λ_ pq=>Y34 qG rfl (len:=d0.fL.length) (cap:=P1) (k:=.i64) (i:=K1.2) (e:=44) (sz:=3) (aF S6) (aE S6)) λ_ f=>Y5 default f 1 λ_ f=>Y4 f R6 2 rfl λ_ f=>?_
          obtain⟨X7,S7,F23⟩:=bS F22
          refine Y3 f (kP n _ (GL.mono ((J1.trans J2).trans J3) hG) Z5 P5 X6.ai B12 X7 S7) λ_ f=>Y5 default f 2 λ_ f=>bW rfl ?_
          intro W11 N11
          refine aH ?_
          exact⟨(!X7),(sI F23).symm,V3,(mR _),f.kp,N11⟩
     ·rintro a_57 W12 ⟨G2,hZ,V4,J4,f,N12⟩
      subst jd
      refine aH (RcF f F10 (λB13 F24=>?_) λB13 F25=>?_)
      ·refine RR (Y f 1 λ_ f=>eT (wp_ret (aS (bV (aS (aS ?_))))))
       obtain rfl:=sI F24
       exact .inl ⟨rfl,(),(sI T1).symm,V4,(J3.trans J4),f.kp,N12⟩
      ·refine wp_skip (aH (aI (Y f 2 λ_ f=>aA rfl (cG (aH (aI (Y f 1 λ_ f=>?_)))))))
       obtain⟨O1,F26⟩:=nS F25
       refine Y f 1 λ_ f=>?_
       have f:=f.st 21 (iW O1)
       refine Y f 1 λ_ f=>eT ?_
       obtain rfl:=sI F26
       exact⟨⟨I2,(X2.1,K1.2+1)⟩,Nat.lt_succ_self _,V4,(J3.trans J4),T1,f.kp,N12⟩
    ·have U16:=ap dI B4
     refine wp_exit (co (co ?_))
     obtain rfl:=sI F27
     exact .inr ⟨rfl,(),(sI T1).symm,V3,J3,f.kp,N3⟩
   ·rintro _ _ W15 (⟨rfl,G3,rfl,V5,J5,f,N13⟩|⟨rfl,G4,rfl,V6,J6,f,N14⟩)
    ·refine bV (aS (ao f rfl (by kernel_rfl:Vc.look _ 2=some (iL 2)) ?_))
     obtain rfl:=sI F6
     exact⟨_,rfl,V5,((J1.trans J2).trans J5),N13,rfl⟩
    ·refine iq (aH (RR (Y f 1 λ_ f=>eT (wp_ret (ao f rfl (by kernel_rfl:Vc.look _ 2=some (iL 0)) ?_)))))
     obtain rfl:=sI F6
     exact⟨_,rfl,V6,((J1.trans J2).trans J6),N14,rfl⟩
def hP (n:Nat) (d0:TA0) (d1:Bs) (K1:Int×Bs×Bs×List TE0):Option (Lp (Int×Bs×Bs×List TE0) (Sum (Bs×Bs×List TE0) (Bs×Bs×List TE0))):=
    bif(decide (K1.1<((d0.fL.length:Nat):Int))) then
     ((aR d0.fL K1.1).bind λX1=>
     bif(decide (X1.af=d1)) then
      ((aR d0.fL K1.1).bind λX2=>
      some (.br (.inl (X2.af,X2.am,X2.ai))))
     else
      aZ (inR .i64 (K1.1+1))<|
      some (.nx (K1.1+1,K1.2.1,K1.2.2.1,K1.2.2.2)))
    else
     some (.br (.inr (K1.2.1,K1.2.2.1,K1.2.2.2)))
def jl (n:Nat) (d0:TA0) (d1:Bs):Option (TG0×Bool):=
 (aN (hP n d0 d1) n ((0:Int),([]:Bs),([]:Bs),([]:List TE0))).bind λQ3=>
 (match Q3 with
 |.inl G1=>some (((⟨G1.1,G1.2.1,G1.2.2⟩:TG0),(true)))
 |.inr G2=>some ((dU,(false))))
set_option maxRecDepth 20000 in
theorem me (n:Nat) (M:Mem) (hG:GL M) (c0:List Value) (d0:TA0) (h0:Rep M (eb d0) c0) (d1:List UInt8) (r:TG0×Bool) (hF:jl n d0 d1=some r):Ok Tryz.prog M 37 [.agg c0.toArray,S d1] (λM' v=>∃ (c0:List Value),v=.tuple #[.agg c0.toArray,bO r.2]∧Rep M' (aK r.1) c0):=by
 unfold jl at hF
 intro M1 hM0 w0 H w p0
 replace hG:=GL.mono hM0 hG
 replace h0:=Rep.mono hM0 _ _ h0
 obtain⟨Z1,P1,rfl,B1⟩:=TA0.opn h0
 refine aD 28 Tryz.func37 rfl rfl (by simp) λa0 f0=>RR (Y13 (cs:=#[sL Z1 d0.fL P1,iL d0.au]) (T:=63) f0 p0 λQ1 V1 W1 J1 R1 N1 _ f=>?_)
 have R2:=bR R1
 refine Y12 f N1 (.cells #[S [],S [],.slice none 0 0] 44 (0,0)) λQ2 W2 N2 _ f=>Y f 1 λ_ f=>eT (ag (RR (Y f 1 λ_ f=>eT (wp_block ?_))))
 obtain⟨Q3,bH,F1⟩:=bS hF
 refine wp_mono (Q:=λe a w=>(e=.ret∧(∃G1:List UInt8×List UInt8×List TE0,Q3=.inl G1∧∃V3:Mem,V1.le V3∧∃ (Z5:Option Addr),∃ (P5:Nat),Sli V3 8 aY Z5 P5 G1.2.2∧Frm 28 [(4,pP Q2),(5,bO true)] a∧Hp w0 V3 ((oC Q2 #[S G1.1,S G1.2.1,sL Z5 G1.2.2 P5] 44)::H) w))∨(e=.exit 0∧(∃G2:List UInt8×List UInt8×List TE0,Q3=.inr G2∧∃V4:Mem,V1.le V4∧∃ (Z6:Option Addr),∃ (P6:Nat),Sli V4 8 aY Z6 P6 G2.2.2∧Frm 28 [(4,pP Q2)] a∧Hp w0 V4 ((oC Q2 #[S G2.1,S G2.2.1,sL Z6 G2.2.2 P6] 44)::H) w))) (bu (n:=28) (w0:=w0) (M:=V1) (λ (I1,K1,Z2,P2)=>[(1,S d1),(2,pP Q1),(4,pP Q2),(6,iL K1.1)]) (λ (I1,K1,Z2,P2)=>((oC Q2 #[S K1.2.1,S K1.2.2.1,sL Z2 K1.t3 P2] 44)::H)) (λ (I1,K1,Z2,P2) MM=>aN (hP n d0 d1) I1 K1=some Q3∧Sli MM 8 aY Z2 P2 K1.t3) (λ (I1,K1,Z2,P2)=>I1) (n,((0:Int),([]:List UInt8),([]:List UInt8),([]:List TE0)),none,0) (f.kp) N2 ⟨bH,Sli.nil⟩ ?_) ?_
 ·rintro⟨I1,K1,Z2,P2⟩ V2 _ W3 J2 dc f N3
  obtain⟨bI,B2⟩:=dc
  obtain⟨I2,jP,rfl,be,T1⟩:=aT bI
  unfold hP at be
  refine ag (RR (Y f 2 λ_ f=>Y15 f N3 (fzu J2 R2) 0 rfl λ_ f=>Y f 2 λ_ f=>eT (RcF f be (λB3 F2=>?_) λB3 F8=>?_)))
  ·have U1:=dI.1 B3
   refine wp_skip (aH (ag (wp_block (RR (Y f 1 λ_ f=>Y15 f N3 (fzu J2 R2) 0 rfl λ_ f=>Y f 1 λ_ f=>?_)))))
   obtain⟨X1,S1,F3⟩:=bS F2
   obtain⟨C1,cP,dS,-,D1,R3⟩:=Sli.at_ (B1.mono (J1.trans J2)) S1
   obtain⟨Z3,P3,rfl,B4⟩:=TG0.opn D1
   refine Z f (Y34 dS rfl (len:=d0.fL.length) (cap:=P1) (k:=.i64) (i:=K1.1) (e:=44) (sz:=3) (aF S1) (aE S1)) λ_ f=>Y f 1 λ_ f=>Y15 f N3 R3 0 rfl λ_ f=>Y f 1 λ_ f=>Z f (Y42 rfl (l:=X1.af) (m:=d1)) λ_ f=>eT (RcF f F3 (λB5 F4=>?_) λB5 F6=>?_)
   ·have U2:=dI.1 B5
    refine RR (Y f 1 λ_ f=>Y15 f N3 (fzu J2 R2) 0 rfl λ_ f=>Y f 1 λ_ f=>?_)
    obtain⟨X2,S2,F5⟩:=bS F4
    obtain⟨C2,jX,lp,-,D2,R4⟩:=Sli.at_ (B1.mono (J1.trans J2)) S2
    obtain⟨Z4,P4,rfl,B6⟩:=TG0.opn D2
    refine Z f (Y34 lp rfl (len:=d0.fL.length) (cap:=P1) (k:=.i64) (i:=K1.1) (e:=44) (sz:=3) (aF S2) (aE S2)) λ_ f=>Z (v:=.agg #[S X2.af,S X2.am,sL Z4 X2.ai P4]) f (Y36 (cs:=[S X2.af,S X2.am,sL Z4 X2.ai P4]) rfl (ad:=C2.add (K1.1.toNat*3)) (λj v h=>N3.cell (R4 j v h))) λ_ f=>Y29 (vs:=[S X2.af,S X2.am,sL Z4 X2.ai P4]) (j:=0) f N3 rfl rfl (by simp[Value.oneCell',S]) (by simp) (by decide) (cs':=#[S X2.af,S X2.am,sL Z4 X2.ai P4]) kr λW4 N4 _ f=>Y f 1 λ_ f=>eT (wp_ret (bV (aS (aS ?_))))
    obtain rfl:=sI F5
    exact .inl ⟨rfl,(X2.af,X2.am,X2.ai),(sI T1).symm,V2,J2,Z4,P4,B6,f.kp,N4⟩
   ·have U3:=ap dI B5
    refine wp_skip (cG (aH (aI (Y f 1 λ_ f=>?_))))
    obtain⟨O1,F7⟩:=nS F6
    refine Y f 1 λ_ f=>?_
    have f:=f.st 13 (iW O1)
    refine Y f 1 λ_ f=>eT ?_
    obtain rfl:=sI F7
    exact⟨⟨I2,(K1.1+1,K1.2.1,K1.2.2.1,K1.t3),Z2,P2⟩,Nat.lt_succ_self _,V2,J2,⟨T1,B2⟩,f.kp,N3⟩
  ·have U4:=ap dI B3
   refine wp_exit (co (co ?_))
   obtain rfl:=sI F8
   exact .inr ⟨rfl,(K1.2.1,K1.2.2.1,K1.t3),(sI T1).symm,V2,J2,Z2,P2,B2,f.kp,N3⟩
 ·rintro _ _ W7 (⟨rfl,G1,rfl,V3,J3,Z5,P5,B7,f,N5⟩|⟨rfl,G2,rfl,V4,J4,Z6,P6,B8,f,N6⟩)
  ·refine bV (aS (dB f rfl (Y10 (cs:=[S G1.1,S G1.2.1,sL Z5 G1.2.2 P5]) (ad:=⟨Q2,0,none⟩) f (al (N5.ownCell 0 rfl) 0 rfl)) (Y11 (v:=bO true) f) ?_))
   obtain rfl:=sI F1
   exact⟨_,rfl,V3,(J1.trans J3),(N5.dropN 1),⟨[S G1.1,S G1.2.1,sL Z5 G1.2.2 P5],rfl,(TG0.shut B7)⟩⟩
  ·refine iq (aH (RR (Y f 1 λ_ f=>Y29 (vs:=[S [],S [],.slice none 0 0]) (j:=0) f N6 rfl rfl (by simp[Value.oneCell',S]) (by simp) (by decide) (cs':=#[S [],S [],.slice none 0 0]) kr λW8 N7 _ f=>Y f 1 λ_ f=>eT (wp_ret (dB f rfl (Y10 (cs:=[S [],S [],.slice none 0 0]) (ad:=⟨Q2,0,none⟩) f (al (N7.ownCell 0 rfl) 0 rfl)) (Y11 (v:=bO false) f) ?_)))))
   obtain rfl:=sI F1
   exact⟨_,rfl,V4,(J1.trans J4),(N7.dropN 1),⟨[S [],S [],.slice none 0 0],rfl,(TG0.shut Sli.nil)⟩⟩
def iZ (n:Nat) (d0:TA0) (d1:Bs) (d2:List TE0):Option (TA0×Bs×Int):=
 (gU n d0).bind λX1=>
 bif(!(decide (X1=0))) then
  (some ((nN,([]:Bs),(2:Int))))
 else
  (dp n d1 d2).bind λX2=>
  bif(!(decide (X2=0))) then
   (some ((nN,([]:Bs),X2)))
  else
   (gT n d2).bind λX3=>
   bif !X3 then
    (some ((nN,([]:Bs),(91:Int))))
   else
    bif(decide ((1099511627776:Int)≤d0.au)) then
     (some ((nN,([]:Bs),(3:Int))))
    else
     aZ (inR .i64 (d0.au+1))<|
     aZ ((([]:List TG0).length+d0.fL.length)*56≤140737488355328)<|
     (kO n (d0.au+1)).bind λX4=>
     aZ (((([]:List TG0)++d0.fL).length+1)*56≤140737488355328)<|
     some (((⟨(([]:List TG0)++d0.fL)++[(⟨X4.1,d1,d2⟩:TG0)],d0.au+1⟩:TA0),X4.1,(0:Int)))
set_option maxRecDepth 20000 in
theorem ml (n:Nat) (M:Mem) (hG:GL M) (c0:List Value) (d0:TA0) (h0:Rep M (eb d0) c0) (d1:List UInt8) (A2:Option Addr) (cap2:Nat) (d2:List TE0) (h2:Sli M 8 aY A2 cap2 d2) (r:TA0×List UInt8×Int) (hF:iZ n d0 d1 d2=some r):Ok Tryz.prog M 33 [.agg c0.toArray,S d1,.slice A2 d2.length cap2] (λM' v=>∃ (c0:List Value),v=.tuple #[.agg c0.toArray,S r.2.1,.int .i64 r.2.2]∧Rep M' (eb r.1) c0):=by
 unfold iZ at hF
 intro M1 hM0 w0 H w p0
 replace hG:=GL.mono hM0 hG
 replace h0:=Rep.mono hM0 _ _ h0
 replace h2:=h2.mono hM0
 obtain⟨Z1,P1,rfl,B1⟩:=TA0.opn h0
 refine aD 59 Tryz.func33 rfl rfl (by simp) λa0 f0=>RR (Y13 (cs:=#[.slice Z1 d0.fL.length P1,.int .i64 d0.au]) (T:=63) f0 p0 λQ1 V1 W1 J1 R1 N1 _ f=>?_)
 have R2:=bR R1
 refine Y12 f N1 (.cells #[.slice none 0 0,.int .i64 0] 63 (0,0)) λQ2 W2 N2 _ f=>Y f 2 λ_ f=>eT (ag (RR (Z (v:=.agg #[.slice Z1 d0.fL.length P1,.int .i64 d0.au]) f (Y36 (cs:=[.slice Z1 d0.fL.length P1,.int .i64 d0.au]) rfl (ad:=⟨Q1,0,none⟩) (λj v h=>N2.cell (R2 j v h))) λ_ f=>?_)))
 obtain⟨X1,S1,F1⟩:=bS hF
 refine Y18 f N2 (kQ n _ (GL.mono J1 hG) _ d0 (TA0.shutx (x:=d0) (B1.mono J1)) X1 S1) λW3 N3 _ f=>Y f 1 λ_ f=>eT (RcF f F1 (λB2 F2=>?_) λB2 F3=>?_)
 ·have U1: ¬ (X1=0):=(av dI).1 B2
  refine RR (Y f 1 λ_ f=>Y29 (vs:=[.slice none 0 0,.int .i64 0]) (j:=0) f N3 rfl rfl (by simp[Value.oneCell',S]) (by simp) (by decide) (cs':=#[.slice none 0 0,.int .i64 0]) (by kernel_rfl) λW4 N4 _ f=>Y f 2 λ_ f=>eT (wp_ret (aS (lw f rfl (Y10 (cs:=[.slice none 0 0,.int .i64 0]) (ad:=⟨Q2,0,none⟩) f (al (N4.ownCell 0 rfl) 0 rfl)) (Y11 (v:=S []) f) (Y11 (v:=.int .i64 2) f) ?_))))
  obtain rfl:=sI F2
  exact⟨_,rfl,V1,J1,(N4.dropN 1),⟨[.slice none 0 0,.int .i64 0],rfl,(TA0.shut Sli.nil)⟩⟩
 ·have U2: ¬ (¬ (X1=0)):=ap (av dI) B2
  refine wp_skip (aH (RR (Y f 2 λ_ f=>?_)))
  obtain⟨X2,S2,F4⟩:=bS F3
  refine Y18 f N3 (eC n _ (GL.mono J1 hG) d1 A2 cap2 d2 (h2.mono J1) X2 S2) λW5 N5 _ f=>Y f 1 λ_ f=>eT (ag (RR (Y f 2 λ_ f=>eT (RcF f F4 (λB3 F5=>?_) λB3 F6=>?_))))
  ·have U3: ¬ (X2=0):=(av dI).1 B3
   refine RR (Y f 2 λ_ f=>Y29 (vs:=[.slice none 0 0,.int .i64 0]) (j:=0) f N5 rfl rfl (by simp[Value.oneCell',S]) (by simp) (by decide) (cs':=#[.slice none 0 0,.int .i64 0]) (by kernel_rfl) λW6 N6 _ f=>Y f 2 λ_ f=>eT (wp_ret (aS (lw f rfl (Y10 (cs:=[.slice none 0 0,.int .i64 0]) (ad:=⟨Q2,0,none⟩) f (al (N6.ownCell 0 rfl) 0 rfl)) (Y11 (v:=S []) f) (Y11 (v:=.int .i64 X2) f) ?_))))
   obtain rfl:=sI F5
   exact⟨_,rfl,V1,J1,(N6.dropN 1),⟨[.slice none 0 0,.int .i64 0],rfl,(TA0.shut Sli.nil)⟩⟩
  ·have U4: ¬ (¬ (X2=0)):=ap (av dI) B3
   refine wp_skip (aH (ag (RR (Y f 1 λ_ f=>?_))))
   obtain⟨X3,S3,F7⟩:=bS F6
   refine Y18 f N5 (kP n _ (GL.mono J1 hG) A2 cap2 d2 (h2.mono J1) X3 S3) λW7 N7 _ f=>Y f 1 λ_ f=>eT (RcF f F7 (λB4 F8=>?_) λB4 F9=>?_)
   ·have U5: (X3)=false:=by simpa using B4
    refine RR (Y f 1 λ_ f=>Y29 (vs:=[.slice none 0 0,.int .i64 0]) (j:=0) f N7 rfl rfl (by simp[Value.oneCell',S]) (by simp) (by decide) (cs':=#[.slice none 0 0,.int .i64 0]) (by kernel_rfl) λW8 N8 _ f=>Y f 2 λ_ f=>eT (wp_ret (aS (lw f rfl (Y10 (cs:=[.slice none 0 0,.int .i64 0]) (ad:=⟨Q2,0,none⟩) f (al (N8.ownCell 0 rfl) 0 rfl)) (Y11 (v:=S []) f) (Y11 (v:=.int .i64 91) f) ?_))))
    obtain rfl:=sI F8
    exact⟨_,rfl,V1,J1,(N8.dropN 1),⟨[.slice none 0 0,.int .i64 0],rfl,(TA0.shut Sli.nil)⟩⟩
   ·have U6: (X3)=true:=by simpa using B4
    refine wp_skip (aH (ag (RR (Y f 1 λ_ f=>Y15 f N7 R2 1 rfl λ_ f=>Y f 1 λ_ f=>eT (RcF f F9 (λB5 F10=>?_) λB5 F11=>?_)))))
    ·have U7:=dI.1 B5
     refine RR (Y f 1 λ_ f=>Y29 (vs:=[.slice none 0 0,.int .i64 0]) (j:=0) f N7 rfl rfl (by simp[Value.oneCell',S]) (by simp) (by decide) (cs':=#[.slice none 0 0,.int .i64 0]) (by kernel_rfl) λW9 N9 _ f=>Y f 2 λ_ f=>eT (wp_ret (aS (lw f rfl (Y10 (cs:=[.slice none 0 0,.int .i64 0]) (ad:=⟨Q2,0,none⟩) f (al (N9.ownCell 0 rfl) 0 rfl)) (Y11 (v:=S []) f) (Y11 (v:=.int .i64 3) f) ?_))))
     obtain rfl:=sI F10
     exact⟨_,rfl,V1,J1,(N9.dropN 1),⟨[.slice none 0 0,.int .i64 0],rfl,(TA0.shut Sli.nil)⟩⟩
    ·have U8:=ap dI B5
     refine wp_skip (aH (RR (Y f 1 λ_ f=>Y15 f N7 R2 1 rfl λ_ f=>?_)))
     obtain⟨O1,F12⟩:=nS F11
     refine Y f 1 λ_ f=>?_
     have f:=f.st 34 (iW O1)
     refine Y f 1 λ_ f=>Y12 f N7 (.cells #[.slice none 0 0,.int .i64 0] 63 (0,0)) λQ3 W10 N10 _ f=>Y29 (vs:=[.slice none 0 0,.int .i64 (d0.au+1)]) (j:=0) f N10 rfl rfl (by simp[Value.oneCell',S]) (by simp) (by decide) (cs':=#[.slice none 0 0,.int .i64 (d0.au+1)]) (by kernel_rfl) λW11 N11 _ f=>eT (RR (Y f 1 λ_ f=>Z f (Y35 (v:=.slice none 0 0) rfl (ad:=⟨Q3,0,none⟩) (N11.ownCell 0 rfl 0)) λ_ f=>Y f 1 λ_ f=>Y15 f N11 R2 0 rfl λ_ f=>?_))
     obtain⟨Z2,P2,H1⟩: ∃A cap,Value.slice none 0 0=.slice A ([]:List TG0).length cap:=⟨none,0,rfl⟩
     have N12:Hp w0 V1 ((Ent.row 44 3 (.slice Z2 ([]:List TG0).length P2) ([]:List TG0).length [])::(Ent.obj Q3 (.cells #[.slice none 0 0,.int .i64 (d0.au+1)] 63 (0,0)))::(Ent.obj Q2 (.cells #[.slice none 0 0,.int .i64 0] 63 (0,0)))::H) W11:=by rw[←H1];exact N11.nilRow 44 3
     have f:=f.st 37 (H1)
     have D1:aa V1 (([]:List TG0).map aK) []:=rfl
     obtain⟨O2,F13⟩:=nS F12
     refine Y24 (z:=.agg #[S [],S [],.slice none 0 0]) (f:=aK) (xs:=([]:List TG0)) (ys:=d0.fL) (c:=P1) f N12 D1 (B1.mono J1) rfl rfl rfl O2 (by omega) λZ3 P3 L1 W12 N13 D2 _ f=>Y f 1 λ_ f=>Y28 f N13 1 rfl rfl (b:=Q3) (j:=0) (v:=.slice Z3 (([]:List TG0)++d0.fL).length P3) rfl (by exact rfl) (by simp) (by simp) ((Ent.row 44 3 (.slice Z3 (([]:List TG0)++d0.fL).length P3) (([]:List TG0)++d0.fL).length L1)::(Ent.obj Q3 (.cells #[.slice Z3 (([]:List TG0)++d0.fL).length P3,.int .i64 (d0.au+1)] 63 (0,0)))::(Ent.obj Q2 (.cells #[.slice none 0 0,.int .i64 0] 63 (0,0)))::H) rfl λW13 N14 _ f=>eT (RR (Y f 1 λ_ f=>Z f (Y35 (v:=.int .i64 (d0.au+1)) rfl (ad:=⟨Q3,1,none⟩) (N14.ownCell 1 rfl 1)) λ_ f=>?_))
     obtain⟨X4,S4,F14⟩:=bS F13
     refine Y18 f N14 (sD n _ (GL.mono J1 hG) (d0.au+1) X4 S4) λW14 N15 _ f=>Y f 5 λ_ f=>eT (RR (Y f 1 λ_ f=>Z f (Y35 (v:=.slice Z3 (([]:List TG0)++d0.fL).length P3) rfl (ad:=⟨Q3,0,none⟩) (N15.ownCell 1 rfl 0)) λ_ f=>Y f 4 λ_ f=>bg (k:=1) (c:=1) f N15 (.cells #[S X4.1,S d1,.slice A2 d2.length cap2] 44 (0,0)) (by kernel_rfl) (λ_=>by kernel_rfl) λQ4 W15 N16 _ f=>?_))
     have N17:=N16.pl [1]
     obtain⟨O3,F15⟩:=nS F14
     refine Y22 (z:=.agg #[S [],S [],.slice none 0 0]) (f:=aK) (xs:=([]:List TG0)++d0.fL) (ys:=[(⟨X4.1,d1,d2⟩:TG0)]) (news:=[S X4.1,S d1,.slice A2 d2.length cap2]) (ad:=⟨Q4,0,none⟩) (m:=1) (c:=1) f N17 D2 (by exact⟨_,_,rfl,TG0.shut (h2.mono J1),rfl⟩) rfl rfl rfl rfl (al (N17.ownCell 1 rfl) 0 rfl) (by exact O3) (by have hg_:=O3;first|omega|(simp only[List.length_cons,List.length_nil] at*;omega)) λZ4 P4 L2 W16 N18 D3 _ f=>?_
     have N19:=N18.pl [1]
     have N20:=N19.drop
     refine Y f 1 λ_ f=>Y28 f N20 1 rfl rfl (b:=Q3) (j:=0) (v:=.slice Z4 ((([]:List TG0)++d0.fL)++[(⟨X4.1,d1,d2⟩:TG0)]).length P4) rfl (by exact rfl) (by simp) (by simp) ((Ent.row 44 3 (.slice Z4 ((([]:List TG0)++d0.fL)++[(⟨X4.1,d1,d2⟩:TG0)]).length P4) ((([]:List TG0)++d0.fL)++[(⟨X4.1,d1,d2⟩:TG0)]).length L2)::(Ent.obj Q3 (.cells #[.slice Z4 ((([]:List TG0)++d0.fL)++[(⟨X4.1,d1,d2⟩:TG0)]).length P4,.int .i64 (d0.au+1)] 63 (0,0)))::(Ent.obj Q2 (.cells #[.slice none 0 0,.int .i64 0] 63 (0,0)))::H) rfl λW17 N21 _ f=>eT (RR (Z (v:=.agg #[.slice Z4 ((([]:List TG0)++d0.fL)++[(⟨X4.1,d1,d2⟩:TG0)]).length P4,.int .i64 (d0.au+1)]) f (Y36 (cs:=[.slice Z4 ((([]:List TG0)++d0.fL)++[(⟨X4.1,d1,d2⟩:TG0)]).length P4,.int .i64 (d0.au+1)]) rfl (ad:=⟨Q3,0,none⟩) (al (N21.ownCell 1 rfl) 0 rfl)) λ_ f=>Y f 1 λ_ f=>?_))
     obtain⟨Z5,P5,V2,H2,J2,N22,B6⟩:=N21.rowSli (f:=aK) (xs:=(([]:List TG0)++d0.fL)++[(⟨X4.1,d1,d2⟩:TG0)]) jn D3
     have f:=Frm.set f 57 (v:=.agg #[.slice Z4 ((([]:List TG0)++d0.fL)++[(⟨X4.1,d1,d2⟩:TG0)]).length P4,.int .i64 (d0.au+1)]) (v':=.agg #[.slice Z5 ((([]:List TG0)++d0.fL)++[(⟨X4.1,d1,d2⟩:TG0)]).length P5,.int .i64 (d0.au+1)]) (by kernel_rfl) (by rw[H2])
     have N23:Hp w0 V2 ((Ent.obj Q3 (.cells #[.slice Z5 ((([]:List TG0)++d0.fL)++[(⟨X4.1,d1,d2⟩:TG0)]).length P5,.int .i64 (d0.au+1)] 63 (0,0)))::(Ent.obj Q2 (.cells #[.slice none 0 0,.int .i64 0] 63 (0,0)))::H) W17:=by rw[H2] at N22;exact N22
     have N24:=N23.pl [1]
     refine Y29 (vs:=[.slice Z5 ((([]:List TG0)++d0.fL)++[(⟨X4.1,d1,d2⟩:TG0)]).length P5,.int .i64 (d0.au+1)]) (j:=0) f N24 rfl rfl (by simp[Value.oneCell',S]) (by simp) (by decide) (cs':=#[.slice Z5 ((([]:List TG0)++d0.fL)++[(⟨X4.1,d1,d2⟩:TG0)]).length P5,.int .i64 (d0.au+1)]) (by kernel_rfl) λW18 N25 _ f=>Y f 2 λ_ f=>eT (wp_ret (lw f rfl (Y10 (cs:=[.slice Z5 ((([]:List TG0)++d0.fL)++[(⟨X4.1,d1,d2⟩:TG0)]).length P5,.int .i64 (d0.au+1)]) (ad:=⟨Q2,0,none⟩) f (al (N25.ownCell 0 rfl) 0 rfl)) (Y11 (v:=S X4.1) f) (Y11 (v:=.int .i64 0) f) ?_))
     obtain rfl:=sI F15
     exact⟨_,rfl,V2,(J1.trans J2),(N25.dropN 2),⟨[.slice Z5 ((([]:List TG0)++d0.fL)++[(⟨X4.1,d1,d2⟩:TG0)]).length P5,.int .i64 (d0.au+1)],rfl,(TA0.shut B6)⟩⟩
def da (n:Nat) (d0:TA0) (d1:Bs) (d2:List TE0) (K1:Int×List TG0):Option (Lp (Int×List TG0) (List TG0)):=
    bif(decide (K1.1<((d0.fL.length:Nat):Int))) then
     ((aR d0.fL K1.1).bind λX6=>
     ((bif(decide (X6.af=d1)) then
      (some (d2))
       else
        some (X6.ai):Option (List TE0))).bind λG2=>
     aZ ((K1.2.length+1)*56≤140737488355328)<|
     aZ (inR .i64 (K1.1+1))<|
     some (.nx (K1.1+1,K1.2++[(⟨X6.af,X6.am,G2⟩:TG0)])))
    else
     some (.br K1.2)
def ja (n:Nat) (d0:TA0) (d1:Bs) (d2:List TE0):Option (TA0×Int):=
 (gU n d0).bind λX1=>
 bif(!(decide (X1=0))) then
  (some ((nN,(2:Int))))
 else
  (jl n d0 d1).bind λX2=>
  bif !X2.2 then
   (some ((nN,(4:Int))))
  else
   (dp n X2.1.am d2).bind λX3=>
   bif(!(decide (X3=0))) then
    (some ((nN,X3)))
   else
    (iS n X2.1.am X2.1.ai d2).bind λX4=>
    (((gT n d2).bind λX5=>
      bif !X5 then
       (some ((true)))
      else
       bif(!(decide (X4.2=0))) then
        (some ((true)))
       else
        some ((decide (X4.1=3))):Option Bool)).bind λG1=>
    bif G1 then
     (some ((nN,(91:Int))))
    else
     (aN (da n d0 d1 d2) n ((0:Int),([]:List TG0))).bind λG3=>
     some (((⟨G3,d0.au⟩:TA0),(0:Int)))
set_option maxRecDepth 20000 in
theorem mm (n:Nat) (M:Mem) (hG:GL M) (c0:List Value) (d0:TA0) (h0:Rep M (eb d0) c0) (d1:List UInt8) (A2:Option Addr) (cap2:Nat) (d2:List TE0) (h2:Sli M 8 aY A2 cap2 d2) (r:TA0×Int) (hF:ja n d0 d1 d2=some r):Ok Tryz.prog M 34 [.agg c0.toArray,S d1,.slice A2 d2.length cap2] (λM' v=>∃ (c0:List Value),v=.tuple #[.agg c0.toArray,.int .i64 r.2]∧Rep M' (eb r.1) c0):=by
 unfold ja at hF
 intro M1 hM0 w0 H w p0
 replace hG:=GL.mono hM0 hG
 replace h0:=Rep.mono hM0 _ _ h0
 replace h2:=h2.mono hM0
 obtain⟨Z1,P1,rfl,B1⟩:=TA0.opn h0
 refine aD 85 Tryz.func34 rfl rfl (by simp) λa0 f0=>RR (Y13 (cs:=#[.slice Z1 d0.fL.length P1,.int .i64 d0.au]) (T:=63) f0 p0 λQ1 V1 W1 J1 R1 N1 _ f=>?_)
 have R2:=bR R1
 refine Y12 f N1 (.cells #[.slice none 0 0,.int .i64 0] 63 (0,0)) λQ2 W2 N2 _ f=>Y f 1 λ_ f=>eT (ag (RR (Z (v:=.agg #[.slice Z1 d0.fL.length P1,.int .i64 d0.au]) f (Y36 (cs:=[.slice Z1 d0.fL.length P1,.int .i64 d0.au]) rfl (ad:=⟨Q1,0,none⟩) (λj v h=>N2.cell (R2 j v h))) λ_ f=>?_)))
 obtain⟨X1,S1,F1⟩:=bS hF
 refine Y18 f N2 (kQ n _ (GL.mono J1 hG) _ d0 (TA0.shutx (x:=d0) (B1.mono J1)) X1 S1) λW3 N3 _ f=>Y f 1 λ_ f=>eT (RcF f F1 (λB2 F2=>?_) λB2 F3=>?_)
 ·have U1: ¬ (X1=0):=(av dI).1 B2
  refine RR (Y f 1 λ_ f=>Y29 (vs:=[.slice none 0 0,.int .i64 0]) (j:=0) f N3 rfl rfl (by simp[Value.oneCell',S]) (by simp) (by decide) (cs':=#[.slice none 0 0,.int .i64 0]) (by kernel_rfl) λW4 N4 _ f=>Y f 1 λ_ f=>eT (wp_ret (aS (dB f rfl (Y10 (cs:=[.slice none 0 0,.int .i64 0]) (ad:=⟨Q2,0,none⟩) f (al (N4.ownCell 0 rfl) 0 rfl)) (Y11 (v:=.int .i64 2) f) ?_))))
  obtain rfl:=sI F2
  exact⟨_,rfl,V1,J1,(N4.dropN 1),⟨[.slice none 0 0,.int .i64 0],rfl,(TA0.shut Sli.nil)⟩⟩
 ·have U2: ¬ (¬ (X1=0)):=ap (av dI) B2
  refine wp_skip (aH (RR (Z (v:=.agg #[.slice Z1 d0.fL.length P1,.int .i64 d0.au]) f (Y36 (cs:=[.slice Z1 d0.fL.length P1,.int .i64 d0.au]) rfl (ad:=⟨Q1,0,none⟩) (λj v h=>N3.cell (R2 j v h))) λ_ f=>Y f 1 λ_ f=>?_)))
  obtain⟨X2,S2,F4⟩:=bS F3
  refine Y16 f N3 (me n _ (GL.mono J1 hG) _ d0 (TA0.shutx (x:=d0) (B1.mono J1)) d1 X2 S2) λ_ V2 W5 J2 N5 jO _ f=>?_
  obtain⟨cP,rfl,D1⟩:=jO
  obtain⟨Z2,P2,rfl,B3⟩:=TG0.opn D1
  refine Y f 3 λ_ f=>Y12 f N5 (.cells #[S [],S [],.slice none 0 0] 44 (0,0)) λQ3 W6 N6 _ f=>Y29 (vs:=[S X2.1.af,S X2.1.am,.slice Z2 X2.1.ai.length P2]) (j:=0) f N6 rfl rfl (by simp[Value.oneCell',S]) (by simp) (by decide) (cs':=#[S X2.1.af,S X2.1.am,.slice Z2 X2.1.ai.length P2]) (by kernel_rfl) λW7 N7 _ f=>Y f 1 λ_ f=>eT (ag (RR (Y f 2 λ_ f=>eT (RcF f F4 (λB4 F5=>?_) λB4 F6=>?_))))
  ·have U3: (X2.2)=false:=by simpa using B4
   refine RR (Y f 1 λ_ f=>?_)
   have N8:=N7.pl [1]
   refine Y29 (vs:=[.slice none 0 0,.int .i64 0]) (j:=0) f N8 rfl rfl (by simp[Value.oneCell',S]) (by simp) (by decide) (cs':=#[.slice none 0 0,.int .i64 0]) (by kernel_rfl) λW8 N9 _ f=>Y f 1 λ_ f=>eT (wp_ret (aS (dB f rfl (Y10 (cs:=[.slice none 0 0,.int .i64 0]) (ad:=⟨Q2,0,none⟩) f (al (N9.ownCell 0 rfl) 0 rfl)) (Y11 (v:=.int .i64 4) f) ?_)))
   obtain rfl:=sI F5
   exact⟨_,rfl,V2,(J1.trans J2),(N9.dropN 2),⟨[.slice none 0 0,.int .i64 0],rfl,(TA0.shut Sli.nil)⟩⟩
  ·have U4: (X2.2)=true:=by simpa using B4
   refine wp_skip (aH (RR (Y f 1 λ_ f=>Z f (Y35 (v:=S X2.1.am) rfl (ad:=⟨Q3,1,none⟩) (N7.ownCell 0 rfl 1)) λ_ f=>Y f 1 λ_ f=>?_)))
   obtain⟨X3,S3,F7⟩:=bS F6
   refine Y18 f N7 (eC n _ (GL.mono (J1.trans J2) hG) X2.1.am A2 cap2 d2 (h2.mono (J1.trans J2)) X3 S3) λW9 N10 _ f=>Y f 1 λ_ f=>eT (ag (RR (Y f 2 λ_ f=>eT (RcF f F7 (λB5 F8=>?_) λB5 F9=>?_))))
   ·have U5: ¬ (X3=0):=(av dI).1 B5
    refine RR (Y f 2 λ_ f=>?_)
    have N11:=N10.pl [1]
    refine Y29 (vs:=[.slice none 0 0,.int .i64 0]) (j:=0) f N11 rfl rfl (by simp[Value.oneCell',S]) (by simp) (by decide) (cs':=#[.slice none 0 0,.int .i64 0]) (by kernel_rfl) λW10 N12 _ f=>Y f 1 λ_ f=>eT (wp_ret (aS (dB f rfl (Y10 (cs:=[.slice none 0 0,.int .i64 0]) (ad:=⟨Q2,0,none⟩) f (al (N12.ownCell 0 rfl) 0 rfl)) (Y11 (v:=.int .i64 X3) f) ?_)))
    obtain rfl:=sI F8
    exact⟨_,rfl,V2,(J1.trans J2),(N12.dropN 2),⟨[.slice none 0 0,.int .i64 0],rfl,(TA0.shut Sli.nil)⟩⟩
   ·have U6: ¬ (¬ (X3=0)):=ap (av dI) B5
    refine wp_skip (aH (RR (Y f 1 λ_ f=>Z f (Y35 (v:=S X2.1.am) rfl (ad:=⟨Q3,1,none⟩) (N10.ownCell 0 rfl 1)) λ_ f=>Y f 1 λ_ f=>Z f (Y35 (v:=.slice Z2 X2.1.ai.length P2) rfl (ad:=⟨Q3,2,none⟩) (N10.ownCell 0 rfl 2)) λ_ f=>Y f 1 λ_ f=>?_)))
    obtain⟨X4,S4,F10⟩:=bS F9
    refine Y18 f N10 (qy n _ (GL.mono (J1.trans J2) hG) X2.1.am Z2 P2 X2.1.ai B3 A2 cap2 d2 (h2.mono (J1.trans J2)) X4 S4) λW11 N13 _ f=>Y f 5 λ_ f=>eT (ag (ag ?_))
    obtain⟨cX,bX,F11⟩:=bS F10
    refine bj (λa_44 W13=>∃G1:Bool,cX=G1∧∃V3:Mem,V2.le V3∧Frm 85 [(1,S d1),(2,.slice A2 d2.length cap2),(3,.pointer (some (⟨Q1,0,none⟩))),(6,.pointer (some (⟨Q2,0,none⟩))),(55,.bool G1)] a_44∧Hp w0 V3 ((Ent.obj Q3 (.cells #[S X2.1.af,S X2.1.am,.slice Z2 X2.1.ai.length P2] 44 (0,0)))::(Ent.obj Q2 (.cells #[.slice none 0 0,.int .i64 0] 63 (0,0)))::H) W13) ?_ ?_
    ·refine aI (Y f 1 λ_ f=>?_)
     obtain⟨X5,S5,F12⟩:=bS bX
     refine Y18 f N13 (kP n _ (GL.mono (J1.trans J2) hG) A2 cap2 d2 (h2.mono (J1.trans J2)) X5 S5) λW12 N14 _ f=>Y f 2 λ_ f=>?_
     rcases cE F12 with⟨B6,F13⟩|⟨B6,F14⟩
     ·have U7: (X5)=false:=by simpa using B6
      have f:=f.st 48 (cB B6)
      refine Y f 7 λ_ f=>eT ?_
      exact⟨(true),(sI F13).symm,V2,(mR _),f.kp,N14⟩
     ·have U8: (X5)=true:=by simpa using B6
      have f:=f.st 48 (cB B6)
      refine Y f 4 λ_ f=>?_
      rcases cE F14 with⟨B7,F15⟩|⟨B7,F16⟩
      ·have U9: ¬ (X4.2=0):=(av dI).1 B7
       have f:=f.st 52 (cB B7)
       refine Y f 3 λ_ f=>eT ?_
       exact⟨(true),(sI F15).symm,V2,(mR _),f.kp,N14⟩
      ·have U10: ¬ (¬ (X4.2=0)):=ap (av dI) B7
       have f:=f.st 52 (cB B7)
       refine Y f 3 λ_ f=>eT ?_
       exact⟨(decide (X4.1=3)),(sI F16).symm,V2,(mR _),f.kp,N14⟩
    ·rintro a_44 W13 ⟨G1,dg,V3,J3,f,N15⟩
     subst cX
     refine aH (RcF f F11 (λB8 F17=>?_) λB8 F18=>?_)
     ·refine RR (Y f 1 λ_ f=>?_)
      have N16:=N15.pl [1]
      refine Y29 (vs:=[.slice none 0 0,.int .i64 0]) (j:=0) f N16 rfl rfl (by simp[Value.oneCell',S]) (by simp) (by decide) (cs':=#[.slice none 0 0,.int .i64 0]) (by kernel_rfl) λW14 N17 _ f=>Y f 1 λ_ f=>eT (wp_ret (aS (dB f rfl (Y10 (cs:=[.slice none 0 0,.int .i64 0]) (ad:=⟨Q2,0,none⟩) f (al (N17.ownCell 0 rfl) 0 rfl)) (Y11 (v:=.int .i64 91) f) ?_)))
      obtain rfl:=sI F17
      exact⟨_,rfl,V3,((J1.trans J2).trans J3),(N17.dropN 2),⟨[.slice none 0 0,.int .i64 0],rfl,(TA0.shut Sli.nil)⟩⟩
     ·refine wp_skip (aH (RR (Y f 1 λ_ f=>Y15 f N15 (fzu (J2.trans J3) R2) 1 rfl λ_ f=>Y f 1 λ_ f=>Y12 f N15 (.cells #[.slice none 0 0,.int .i64 0] 63 (0,0)) λQ4 W15 N18 _ f=>Y29 (vs:=[.slice none 0 0,.int .i64 d0.au]) (j:=0) f N18 rfl rfl (by simp[Value.oneCell',S]) (by simp) (by decide) (cs':=#[.slice none 0 0,.int .i64 d0.au]) (by kernel_rfl) λW16 N19 _ f=>eT (ag (RR (Y f 1 λ_ f=>eT (wp_block ?_)))))))
      obtain⟨Z3,P3,H1⟩: ∃A cap,Value.slice none 0 0=.slice A ([]:List TG0).length cap:=⟨none,0,rfl⟩
      have N20:Hp w0 V3 ((Ent.row 44 3 (.slice Z3 ([]:List TG0).length P3) ([]:List TG0).length [])::(Ent.obj Q4 (.cells #[.slice Z3 ([]:List TG0).length P3,.int .i64 d0.au] 63 (0,0)))::(Ent.obj Q3 (.cells #[S X2.1.af,S X2.1.am,.slice Z2 X2.1.ai.length P2] 44 (0,0)))::(Ent.obj Q2 (.cells #[.slice none 0 0,.int .i64 0] 63 (0,0)))::H) W16:=by rw[←H1];exact N19.nilRow 44 3
      have D2:aa V3 (([]:List TG0).map aK) []:=rfl
      obtain⟨Q5,bH,F19⟩:=bS F18
      refine wp_mono (Q:=λe a w=>(e=.exit 0∧(∃G3:List TG0,Q5=G3∧∃V6:Mem,V3.le V6∧∃ (Z8:Option Addr),∃ (P8:Nat),∃ (L3:List Value),aa V6 (G3.map aK) L3∧Frm 85 [(6,.pointer (some (⟨Q2,0,none⟩))),(12,.pointer (some (⟨Q4,0,none⟩)))] a∧Hp w0 V6 ((Ent.row 44 3 (.slice Z8 G3.length P8) G3.length L3)::(Ent.obj Q4 (.cells #[.slice Z8 G3.length P8,.int .i64 d0.au] 63 (0,0)))::(Ent.obj Q3 (.cells #[S X2.1.af,S X2.1.am,.slice Z2 X2.1.ai.length P2] 44 (0,0)))::(Ent.obj Q2 (.cells #[.slice none 0 0,.int .i64 0] 63 (0,0)))::H) w))) (bu (n:=85) (w0:=w0) (M:=V3) (λ (x:Nat× (Int×List TG0)× (Option Addr)×Nat× (List Value))=>match x with|(I1,K1,Z4,P4,L1)=>[(1,S d1),(2,.slice A2 d2.length cap2),(3,.pointer (some (⟨Q1,0,none⟩))),(6,.pointer (some (⟨Q2,0,none⟩))),(12,.pointer (some (⟨Q4,0,none⟩))),(13,.int .i64 K1.1)]) (λ (x:Nat× (Int×List TG0)× (Option Addr)×Nat× (List Value))=>match x with|(I1,K1,Z4,P4,L1)=>((Ent.row 44 3 (.slice Z4 K1.2.length P4) K1.2.length L1)::(Ent.obj Q4 (.cells #[.slice Z4 K1.2.length P4,.int .i64 d0.au] 63 (0,0)))::(Ent.obj Q3 (.cells #[S X2.1.af,S X2.1.am,.slice Z2 X2.1.ai.length P2] 44 (0,0)))::(Ent.obj Q2 (.cells #[.slice none 0 0,.int .i64 0] 63 (0,0)))::H)) (λ (x:Nat× (Int×List TG0)× (Option Addr)×Nat× (List Value)) (MM:Mem)=>match x with|(I1,K1,Z4,P4,L1)=>aN (da n d0 d1 d2) I1 K1=some Q5∧aa MM (K1.2.map aK) L1) (λ (x:Nat× (Int×List TG0)× (Option Addr)×Nat× (List Value))=>match x with|(I1,K1,Z4,P4,L1)=>I1) (n,((0:Int),([]:List TG0)),Z3,P3,[]) (f.kp) N20 ⟨bH,D2⟩ ?_) ?_
      ·rintro⟨I1,K1,Z4,P4,L1⟩ V4 _ W17 J4 dc f N21
       obtain⟨bI,D3⟩:=dc
       obtain⟨I2,jP,rfl,be,T1⟩:=aT bI
       unfold da at be
       refine ag (RR (Y f 2 λ_ f=>Y15 f N21 (fzu ((J2.trans J3).trans J4) R2) 0 rfl λ_ f=>Y f 2 λ_ f=>eT (RcF f be (λB9 F20=>?_) λB9 F27=>?_)))
       ·have U13:=dI.1 B9
        refine wp_skip (aH (ag (wp_block (RR (Y f 1 λ_ f=>Y15 f N21 (fzu ((J2.trans J3).trans J4) R2) 0 rfl λ_ f=>Y f 1 λ_ f=>?_)))))
        obtain⟨X6,S6,F21⟩:=bS F20
        obtain⟨C1,jX,dS,-,D4,R3⟩:=Sli.at_ (B1.mono (((J1.trans J2).trans J3).trans J4)) S6
        obtain⟨Z5,P5,rfl,B10⟩:=TG0.opn D4
        refine Z f (Y34 dS rfl (len:=d0.fL.length) (cap:=P1) (k:=.i64) (i:=K1.1) (e:=44) (sz:=3) (aF S6) (aE S6)) λ_ f=>Z (v:=.agg #[S X6.af,S X6.am,.slice Z5 X6.ai.length P5]) f (Y36 (cs:=[S X6.af,S X6.am,.slice Z5 X6.ai.length P5]) rfl (ad:=C1.add (K1.1.toNat*3)) (λj v h=>N21.cell (R3 j v h))) λ_ f=>Y12 f N21 (.cells #[S [],S [],.slice none 0 0] 44 (0,0)) λQ6 W18 N22 _ f=>Y29 (vs:=[S X6.af,S X6.am,.slice Z5 X6.ai.length P5]) (j:=0) f N22 rfl rfl (by simp[Value.oneCell',S]) (by simp) (by decide) (cs':=#[S X6.af,S X6.am,.slice Z5 X6.ai.length P5]) (by kernel_rfl) λW19 N23 _ f=>eT (ag (RR (Y f 1 λ_ f=>Z f (Y35 (v:=S X6.af) rfl (ad:=⟨Q6,0,none⟩) (N23.ownCell 0 rfl 0)) λ_ f=>Y f 1 λ_ f=>Z f (Y42 rfl (l:=X6.af) (m:=d1)) λ_ f=>eT ?_)))
        obtain⟨jd,eW,F22⟩:=bS F21
        refine bj (λa_71 W21=>∃G2:List TE0,jd=G2∧∃V5:Mem,V4.le V5∧∃ (Z6:Option Addr),∃ (P6:Nat),Sli V5 8 aY Z6 P6 G2∧Frm 85 [(1,S d1),(2,.slice A2 d2.length cap2),(3,.pointer (some (⟨Q1,0,none⟩))),(6,.pointer (some (⟨Q2,0,none⟩))),(12,.pointer (some (⟨Q4,0,none⟩))),(13,.int .i64 K1.1),(14,.pointer (some (⟨Q6,0,none⟩)))] a_71∧Hp w0 V5 ((Ent.obj Q6 (.cells #[S X6.af,S X6.am,.slice Z6 G2.length P6] 44 (0,0)))::(Ent.row 44 3 (.slice Z4 K1.2.length P4) K1.2.length L1)::(Ent.obj Q4 (.cells #[.slice Z4 K1.2.length P4,.int .i64 d0.au] 63 (0,0)))::(Ent.obj Q3 (.cells #[S X2.1.af,S X2.1.am,.slice Z2 X2.1.ai.length P2] 44 (0,0)))::(Ent.obj Q2 (.cells #[.slice none 0 0,.int .i64 0] 63 (0,0)))::H) W21) ?_ ?_
        ·refine RcF f eW (λB11 F23=>?_) λB11 F24=>?_
         ·have U14:=dI.1 B11
          refine aI (Y f 2 λ_ f=>Y28 f N23 0 rfl rfl (b:=Q6) (j:=2) (v:=.slice A2 d2.length cap2) rfl (by exact rfl) (by simp) (by simp) ((Ent.obj Q6 (.cells #[S X6.af,S X6.am,.slice A2 d2.length cap2] 44 (0,0)))::(Ent.row 44 3 (.slice Z4 K1.2.length P4) K1.2.length L1)::(Ent.obj Q4 (.cells #[.slice Z4 K1.2.length P4,.int .i64 d0.au] 63 (0,0)))::(Ent.obj Q3 (.cells #[S X2.1.af,S X2.1.am,.slice Z2 X2.1.ai.length P2] 44 (0,0)))::(Ent.obj Q2 (.cells #[.slice none 0 0,.int .i64 0] 63 (0,0)))::H) rfl λW20 N24 _ f=>eT ?_)
          exact⟨d2,(sI F23).symm,V4,(mR _),A2,cap2,(h2.mono (((J1.trans J2).trans J3).trans J4)),f.kp,N24⟩
         ·have U15:=ap dI B11
          refine wp_skip (aH ?_)
          exact⟨X6.ai,(sI F24).symm,V4,(mR _),Z5,P5,B10,f.kp,N23⟩
        ·rintro a_71 W21 ⟨G2,hZ,V5,J5,Z6,P6,B12,f,N25⟩
         subst jd
         refine aH (aI (Y f 1 λ_ f=>Z f (Y35 (v:=.slice Z4 K1.2.length P4) rfl (ad:=⟨Q4,0,none⟩) (N25.ownCell 2 rfl 0)) λ_ f=>Z (v:=.agg #[S X6.af,S X6.am,.slice Z6 G2.length P6]) f (Y36 (cs:=[S X6.af,S X6.am,.slice Z6 G2.length P6]) rfl (ad:=⟨Q6,0,none⟩) (al (N25.ownCell 0 rfl) 0 rfl)) λ_ f=>bg (k:=1) (c:=1) f N25 (.cells #[S X6.af,S X6.am,.slice Z6 G2.length P6] 44 (0,0)) (by kernel_rfl) (λ_=>by kernel_rfl) λQ7 W22 N26 _ f=>?_))
         have N27:=N26.pl [2]
         obtain⟨O1,F25⟩:=nS F22
         refine Y22 (z:=.agg #[S [],S [],.slice none 0 0]) (f:=aK) (xs:=K1.2) (ys:=[(⟨X6.af,X6.am,G2⟩:TG0)]) (news:=[S X6.af,S X6.am,.slice Z6 G2.length P6]) (ad:=⟨Q7,0,none⟩) (m:=1) (c:=1) f N27 (aa.mono J5 _ _ D3) (by exact⟨_,_,rfl,TG0.shut B12,rfl⟩) rfl rfl rfl rfl (al (N27.ownCell 1 rfl) 0 rfl) (by exact O1) (by have hg_:=O1;first|omega|(simp only[List.length_cons,List.length_nil] at*;omega)) λZ7 P7 L2 W23 N28 D5 _ f=>?_
         have N29:=N28.pl [1]
         have N30:=N29.drop
         refine Y f 1 λ_ f=>Y28 f N30 2 rfl rfl (b:=Q4) (j:=0) (v:=.slice Z7 (K1.2++[(⟨X6.af,X6.am,G2⟩:TG0)]).length P7) rfl (by exact rfl) (by simp) (by simp) ((Ent.row 44 3 (.slice Z7 (K1.2++[(⟨X6.af,X6.am,G2⟩:TG0)]).length P7) (K1.2++[(⟨X6.af,X6.am,G2⟩:TG0)]).length L2)::(Ent.obj Q6 (.cells #[S X6.af,S X6.am,.slice Z6 G2.length P6] 44 (0,0)))::(Ent.obj Q4 (.cells #[.slice Z7 (K1.2++[(⟨X6.af,X6.am,G2⟩:TG0)]).length P7,.int .i64 d0.au] 63 (0,0)))::(Ent.obj Q3 (.cells #[S X2.1.af,S X2.1.am,.slice Z2 X2.1.ai.length P2] 44 (0,0)))::(Ent.obj Q2 (.cells #[.slice none 0 0,.int .i64 0] 63 (0,0)))::H) rfl λW24 N31 _ f=>aA rfl (cG (aH (aI (Y f 1 λ_ f=>?_))))
         obtain⟨O2,F26⟩:=nS F25
         refine Y f 1 λ_ f=>?_
         have f:=f.st 66 (iW O2)
         refine Y f 1 λ_ f=>aA rfl ?_
         have N37:=N31.pl [4,4,4,3,4]
         refine aH ?_
         obtain rfl:=sI F26
         exact⟨⟨I2,(K1.1+1,K1.2++[(⟨X6.af,X6.am,G2⟩:TG0)]),Z7,P7,L2⟩,Nat.lt_succ_self _,V5,(J4.trans J5),⟨T1,D5⟩,f.kp,(N37.dropN 1)⟩
       ·have U16:=ap dI B9
        refine wp_exit (co (co ?_))
        obtain rfl:=sI F27
        exact⟨rfl,K1.2,(sI T1).symm,V4,J4,Z4,P4,L1,D3,f.kp,N21⟩
      ·rintro _ _ W26 ⟨rfl,G3,hq_,V6,J6,Z8,P8,L3,D6,f,N32⟩
       subst Q5
       refine iq (aH (RR (Z (v:=.agg #[.slice Z8 G3.length P8,.int .i64 d0.au]) f (Y36 (cs:=[.slice Z8 G3.length P8,.int .i64 d0.au]) rfl (ad:=⟨Q4,0,none⟩) (al (N32.ownCell 1 rfl) 0 rfl)) λ_ f=>?_)))
       obtain⟨Z9,P9,V7,H2,J7,N38,B13⟩:=N32.rowSli (f:=aK) (xs:=G3) jn D6
       have f:=Frm.set f 84 (v:=.agg #[.slice Z8 G3.length P8,.int .i64 d0.au]) (v':=.agg #[.slice Z9 G3.length P9,.int .i64 d0.au]) (by kernel_rfl) (by rw[H2])
       have N39:Hp w0 V7 ((Ent.obj Q4 (.cells #[.slice Z9 G3.length P9,.int .i64 d0.au] 63 (0,0)))::(Ent.obj Q3 (.cells #[S X2.1.af,S X2.1.am,.slice Z2 X2.1.ai.length P2] 44 (0,0)))::(Ent.obj Q2 (.cells #[.slice none 0 0,.int .i64 0] 63 (0,0)))::H) W26:=by rw[H2] at N38;exact N38
       have N40:=N39.pl [2]
       refine Y29 (vs:=[.slice Z9 G3.length P9,.int .i64 d0.au]) (j:=0) f N40 rfl rfl (by simp[Value.oneCell',S]) (by simp) (by decide) (cs':=#[.slice Z9 G3.length P9,.int .i64 d0.au]) (by kernel_rfl) λW27 N41 _ f=>Y f 1 λ_ f=>eT (wp_ret (dB f rfl (Y10 (cs:=[.slice Z9 G3.length P9,.int .i64 d0.au]) (ad:=⟨Q2,0,none⟩) f (al (N41.ownCell 0 rfl) 0 rfl)) (Y11 (v:=.int .i64 0) f) ?_))
       obtain rfl:=sI F19
       exact⟨_,rfl,V7,((((J1.trans J2).trans J3).trans J6).trans J7),(N41.dropN 3),⟨[.slice Z9 G3.length P9,.int .i64 d0.au],rfl,(TA0.shut B13)⟩⟩
def db (n:Nat) (d0:TA0) (d1:Bs) (K1:Int×List TG0):Option (Lp (Int×List TG0) (List TG0)):=
    bif(decide (K1.1<((d0.fL.length:Nat):Int))) then
     ((aR d0.fL K1.1).bind λX3=>
     bif(!(decide (X3.af=d1))) then
      ((((aR d0.fL K1.1).bind λX4=>
        aZ ((K1.2.length+1)*56≤140737488355328)<|
        some (K1.2++[(⟨X4.af,X4.am,X4.ai⟩:TG0)]):Option (List TG0))).bind λG1=>
      aZ (inR .i64 (K1.1+1))<|
      some (.nx (K1.1+1,G1)))
     else
      aZ (inR .i64 (K1.1+1))<|
      some (.nx (K1.1+1,K1.2)))
    else
     some (.br K1.2)
def jb (n:Nat) (d0:TA0) (d1:Bs):Option (TA0×Int):=
 (gU n d0).bind λX1=>
 bif(!(decide (X1=0))) then
  (some ((nN,(2:Int))))
 else
  (jl n d0 d1).bind λX2=>
  bif !X2.2 then
   (some ((nN,(4:Int))))
  else
   (aN (db n d0 d1) n ((0:Int),([]:List TG0))).bind λG2=>
   some (((⟨G2,d0.au⟩:TA0),(0:Int)))
set_option maxRecDepth 20000 in
theorem mn (n:Nat) (M:Mem) (hG:GL M) (c0:List Value) (d0:TA0) (h0:Rep M (eb d0) c0) (d1:List UInt8) (r:TA0×Int) (hF:jb n d0 d1=some r):Ok Tryz.prog M 35 [.agg c0.toArray,S d1] (λM' v=>∃ (c0:List Value),v=.tuple #[.agg c0.toArray,.int .i64 r.2]∧Rep M' (eb r.1) c0):=by
 unfold jb at hF
 intro M1 hM0 w0 H w p0
 replace hG:=GL.mono hM0 hG
 replace h0:=Rep.mono hM0 _ _ h0
 obtain⟨Z1,P1,rfl,B1⟩:=TA0.opn h0
 refine aD 52 Tryz.func35 rfl rfl (by simp) λa0 f0=>RR (Y13 (cs:=#[.slice Z1 d0.fL.length P1,.int .i64 d0.au]) (T:=63) f0 p0 λQ1 V1 W1 J1 R1 N1 _ f=>?_)
 have R2:=bR R1
 refine Y12 f N1 (.cells #[.slice none 0 0,.int .i64 0] 63 (0,0)) λQ2 W2 N2 _ f=>Y f 1 λ_ f=>eT (ag (RR (Z (v:=.agg #[.slice Z1 d0.fL.length P1,.int .i64 d0.au]) f (Y36 (cs:=[.slice Z1 d0.fL.length P1,.int .i64 d0.au]) rfl (ad:=⟨Q1,0,none⟩) (λj v h=>N2.cell (R2 j v h))) λ_ f=>?_)))
 obtain⟨X1,S1,F1⟩:=bS hF
 refine Y18 f N2 (kQ n _ (GL.mono J1 hG) _ d0 (TA0.shutx (x:=d0) (B1.mono J1)) X1 S1) λW3 N3 _ f=>Y f 1 λ_ f=>eT (RcF f F1 (λB2 F2=>?_) λB2 F3=>?_)
 ·have U1: ¬ (X1=0):=(av dI).1 B2
  refine RR (Y f 1 λ_ f=>Y29 (vs:=[.slice none 0 0,.int .i64 0]) (j:=0) f N3 rfl rfl (by simp[Value.oneCell',S]) (by simp) (by decide) (cs':=#[.slice none 0 0,.int .i64 0]) (by kernel_rfl) λW4 N4 _ f=>Y f 1 λ_ f=>eT (wp_ret (aS (dB f rfl (Y10 (cs:=[.slice none 0 0,.int .i64 0]) (ad:=⟨Q2,0,none⟩) f (al (N4.ownCell 0 rfl) 0 rfl)) (Y11 (v:=.int .i64 2) f) ?_))))
  obtain rfl:=sI F2
  exact⟨_,rfl,V1,J1,(N4.dropN 1),⟨[.slice none 0 0,.int .i64 0],rfl,(TA0.shut Sli.nil)⟩⟩
 ·have U2: ¬ (¬ (X1=0)):=ap (av dI) B2
  refine wp_skip (aH (RR (Z (v:=.agg #[.slice Z1 d0.fL.length P1,.int .i64 d0.au]) f (Y36 (cs:=[.slice Z1 d0.fL.length P1,.int .i64 d0.au]) rfl (ad:=⟨Q1,0,none⟩) (λj v h=>N3.cell (R2 j v h))) λ_ f=>Y f 1 λ_ f=>?_)))
  obtain⟨X2,S2,F4⟩:=bS F3
  refine Y16 f N3 (me n _ (GL.mono J1 hG) _ d0 (TA0.shutx (x:=d0) (B1.mono J1)) d1 X2 S2) λ_ V2 W5 J2 N5 jO _ f=>?_
  obtain⟨cP,rfl,D1⟩:=jO
  obtain⟨Z2,P2,rfl,B3⟩:=TG0.opn D1
  refine Y f 3 λ_ f=>Y12 f N5 (.cells #[S [],S [],.slice none 0 0] 44 (0,0)) λQ3 W6 N6 _ f=>Y29 (vs:=[S X2.1.af,S X2.1.am,.slice Z2 X2.1.ai.length P2]) (j:=0) f N6 rfl rfl (by simp[Value.oneCell',S]) (by simp) (by decide) (cs':=#[S X2.1.af,S X2.1.am,.slice Z2 X2.1.ai.length P2]) (by kernel_rfl) λW7 N7 _ f=>Y f 1 λ_ f=>eT (ag (RR (Y f 2 λ_ f=>eT (RcF f F4 (λB4 F5=>?_) λB4 F6=>?_))))
  ·have U3: (X2.2)=false:=by simpa using B4
   refine RR (Y f 1 λ_ f=>?_)
   have N8:=N7.pl [1]
   refine Y29 (vs:=[.slice none 0 0,.int .i64 0]) (j:=0) f N8 rfl rfl (by simp[Value.oneCell',S]) (by simp) (by decide) (cs':=#[.slice none 0 0,.int .i64 0]) (by kernel_rfl) λW8 N9 _ f=>Y f 1 λ_ f=>eT (wp_ret (aS (dB f rfl (Y10 (cs:=[.slice none 0 0,.int .i64 0]) (ad:=⟨Q2,0,none⟩) f (al (N9.ownCell 0 rfl) 0 rfl)) (Y11 (v:=.int .i64 4) f) ?_)))
   obtain rfl:=sI F5
   exact⟨_,rfl,V2,(J1.trans J2),(N9.dropN 2),⟨[.slice none 0 0,.int .i64 0],rfl,(TA0.shut Sli.nil)⟩⟩
  ·have U4: (X2.2)=true:=by simpa using B4
   refine wp_skip (aH (RR (Y f 1 λ_ f=>Y15 f N7 (fzu J2 R2) 1 rfl λ_ f=>Y f 1 λ_ f=>Y12 f N7 (.cells #[.slice none 0 0,.int .i64 0] 63 (0,0)) λQ4 W9 N10 _ f=>Y29 (vs:=[.slice none 0 0,.int .i64 d0.au]) (j:=0) f N10 rfl rfl (by simp[Value.oneCell',S]) (by simp) (by decide) (cs':=#[.slice none 0 0,.int .i64 d0.au]) (by kernel_rfl) λW10 N11 _ f=>eT (ag (RR (Y f 1 λ_ f=>eT (wp_block ?_)))))))
   obtain⟨Z3,P3,H1⟩: ∃A cap,Value.slice none 0 0=.slice A ([]:List TG0).length cap:=⟨none,0,rfl⟩
   have N12:Hp w0 V2 ((Ent.row 44 3 (.slice Z3 ([]:List TG0).length P3) ([]:List TG0).length [])::(Ent.obj Q4 (.cells #[.slice Z3 ([]:List TG0).length P3,.int .i64 d0.au] 63 (0,0)))::(Ent.obj Q3 (.cells #[S X2.1.af,S X2.1.am,.slice Z2 X2.1.ai.length P2] 44 (0,0)))::(Ent.obj Q2 (.cells #[.slice none 0 0,.int .i64 0] 63 (0,0)))::H) W10:=by rw[←H1];exact N11.nilRow 44 3
   have D2:aa V2 (([]:List TG0).map aK) []:=rfl
   obtain⟨Q5,bH,F7⟩:=bS F6
   refine wp_mono (Q:=λe a w=>(e=.exit 0∧(∃G2:List TG0,Q5=G2∧∃V5:Mem,V2.le V5∧∃ (Z11:Option Addr),∃ (P11:Nat),∃ (L5:List Value),aa V5 (G2.map aK) L5∧Frm 52 [(4,.pointer (some (⟨Q2,0,none⟩))),(8,.pointer (some (⟨Q4,0,none⟩)))] a∧Hp w0 V5 ((Ent.row 44 3 (.slice Z11 G2.length P11) G2.length L5)::(Ent.obj Q4 (.cells #[.slice Z11 G2.length P11,.int .i64 d0.au] 63 (0,0)))::(Ent.obj Q3 (.cells #[S X2.1.af,S X2.1.am,.slice Z2 X2.1.ai.length P2] 44 (0,0)))::(Ent.obj Q2 (.cells #[.slice none 0 0,.int .i64 0] 63 (0,0)))::H) w))) (bu (n:=52) (w0:=w0) (M:=V2) (λ (x:Nat× (Int×List TG0)× (Option Addr)×Nat× (List Value))=>match x with|(I1,K1,Z4,P4,L1)=>[(1,S d1),(2,.pointer (some (⟨Q1,0,none⟩))),(4,.pointer (some (⟨Q2,0,none⟩))),(8,.pointer (some (⟨Q4,0,none⟩))),(9,.int .i64 K1.1)]) (λ (x:Nat× (Int×List TG0)× (Option Addr)×Nat× (List Value))=>match x with|(I1,K1,Z4,P4,L1)=>((Ent.row 44 3 (.slice Z4 K1.2.length P4) K1.2.length L1)::(Ent.obj Q4 (.cells #[.slice Z4 K1.2.length P4,.int .i64 d0.au] 63 (0,0)))::(Ent.obj Q3 (.cells #[S X2.1.af,S X2.1.am,.slice Z2 X2.1.ai.length P2] 44 (0,0)))::(Ent.obj Q2 (.cells #[.slice none 0 0,.int .i64 0] 63 (0,0)))::H)) (λ (x:Nat× (Int×List TG0)× (Option Addr)×Nat× (List Value)) (MM:Mem)=>match x with|(I1,K1,Z4,P4,L1)=>aN (db n d0 d1) I1 K1=some Q5∧aa MM (K1.2.map aK) L1) (λ (x:Nat× (Int×List TG0)× (Option Addr)×Nat× (List Value))=>match x with|(I1,K1,Z4,P4,L1)=>I1) (n,((0:Int),([]:List TG0)),Z3,P3,[]) (f.kp) N12 ⟨bH,D2⟩ ?_) ?_
   ·rintro⟨I1,K1,Z4,P4,L1⟩ V3 _ W11 J3 dc f N13
    obtain⟨bI,D3⟩:=dc
    obtain⟨I2,jP,rfl,be,T1⟩:=aT bI
    unfold db at be
    refine ag (RR (Y f 2 λ_ f=>Y15 f N13 (fzu (J2.trans J3) R2) 0 rfl λ_ f=>Y f 2 λ_ f=>eT (RcF f be (λB5 F8=>?_) λB5 F17=>?_)))
    ·have U5:=dI.1 B5
     refine wp_skip (aH (ag (wp_block (RR (Y f 1 λ_ f=>Y15 f N13 (fzu (J2.trans J3) R2) 0 rfl λ_ f=>Y f 1 λ_ f=>?_)))))
     obtain⟨X3,S3,F9⟩:=bS F8
     obtain⟨C1,jX,dS,-,D4,R3⟩:=Sli.at_ (B1.mono ((J1.trans J2).trans J3)) S3
     obtain⟨Z5,P5,rfl,B6⟩:=TG0.opn D4
     refine Z f (Y34 dS rfl (len:=d0.fL.length) (cap:=P1) (k:=.i64) (i:=K1.1) (e:=44) (sz:=3) (aF S3) (aE S3)) λ_ f=>Y f 1 λ_ f=>Y15 f N13 R3 0 rfl λ_ f=>Y f 1 λ_ f=>Z f (Y43 rfl (l:=X3.af) (m:=d1)) λ_ f=>eT (RcF f F9 (λB7 F10=>?_) λB7 F15=>?_)
     ·have U6: ¬ (X3.af=d1):=(av dI).1 B7
      obtain⟨cX,bX,F11⟩:=bS F10
      refine bj (λa_59 W20=>∃G1:List TG0,cX=G1∧∃V4:Mem,V3.le V4∧∃ (Z10:Option Addr),∃ (P10:Nat),∃ (L4:List Value),aa V4 (G1.map aK) L4∧Frm 52 [(1,S d1),(2,.pointer (some (⟨Q1,0,none⟩))),(4,.pointer (some (⟨Q2,0,none⟩))),(8,.pointer (some (⟨Q4,0,none⟩))),(9,.int .i64 K1.1)] a_59∧Hp w0 V4 ((Ent.row 44 3 (.slice Z10 G1.length P10) G1.length L4)::(Ent.obj Q4 (.cells #[.slice Z10 G1.length P10,.int .i64 d0.au] 63 (0,0)))::(Ent.obj Q3 (.cells #[S X2.1.af,S X2.1.am,.slice Z2 X2.1.ai.length P2] 44 (0,0)))::(Ent.obj Q2 (.cells #[.slice none 0 0,.int .i64 0] 63 (0,0)))::H) W20) ?_ ?_
      ·obtain⟨X4,S4,F12⟩:=bS bX
       obtain⟨O1,F13⟩:=nS F12
       refine iz (ks:=[9,10]) (E:=[Ent.row 44 3 (.slice Z4 K1.2.length P4) K1.2.length L1]) (Hr:=((Ent.obj Q4 (.cells #[.slice Z4 K1.2.length P4,.int .i64 d0.au] 63 (0,0)))::(Ent.obj Q3 (.cells #[S X2.1.af,S X2.1.am,.slice Z2 X2.1.ai.length P2] 44 (0,0)))::(Ent.obj Q2 (.cells #[.slice none 0 0,.int .i64 0] 63 (0,0)))::H)) (.quiet 0 (.quiet 1 (.quiet 2 (.quiet 3 (.quiet 4 (.quiet 5 (.quiet 6 (.alt 7 (.alt 8 .done .none) .none)))))))) N13 (by kernel_rfl) (by kernel_rfl) (by kernel_rfl) (Y1 (v:=.pointer (some (⟨Q4,0,none⟩))) rfl f rfl rfl (λ_ _=>by kernel_rfl) λ_ f=>Y1 (v:=.slice Z4 K1.2.length P4) rfl f rfl rfl (λ_ pq=>Y35 (v:=.slice Z4 K1.2.length P4) rfl (ad:=⟨Q4,0,none⟩) (pq.ownCell 0 rfl 0)) λ_ f=>Y1 (v:=.pointer (some ((⟨Q1,0,none⟩:Addr).add 0))) rfl f rfl rfl (λ_ _=>by kernel_rfl) λ_ f=>Y1 (v:=.slice Z1 d0.fL.length P1) rfl f rfl rfl (λ_ pq=>Y35 (v:=.slice Z1 d0.fL.length P1) rfl (ad:=(⟨Q1,0,none⟩:Addr).add 0) (pq.cell ((fzu (J2.trans J3) R2) 0 _ rfl))) λ_ f=>Y1 (v:=.int .i64 K1.1) rfl f rfl rfl (λ_ _=>by kernel_rfl) λ_ f=>?_)
       obtain⟨C3,c_4,sh,-,D7,R5⟩:=Sli.at_ (B1.mono ((J1.trans J2).trans J3)) S4
       obtain⟨Z8,P8,rfl,B9⟩:=TG0.opn D7
       refine Y1 (v:=.pointer (some (C3.add (K1.1.toNat*3)))) rfl f rfl rfl (λ_ pq=>Y34 sh rfl (len:=d0.fL.length) (cap:=P1) (k:=.i64) (i:=K1.1) (e:=44) (sz:=3) (aF S4) (aE S4)) λ_ f=>Y1 (v:=.agg #[S X4.af,S X4.am,.slice Z8 X4.ai.length P8]) rfl f rfl rfl (λ_ pq=>Y36 (cs:=[S X4.af,S X4.am,.slice Z8 X4.ai.length P8]) rfl (ad:=C3.add (K1.1.toNat*3)) (λj v h=>pq.cell (R5 j v h))) λ_ f=>aV rfl (λW14 N19=>?_) ?_
       ·refine bg (k:=1) (c:=1) f N19 (.cells #[S X4.af,S X4.am,.slice Z8 X4.ai.length P8] 44 (0,0)) (by kernel_rfl) (λ_=>by kernel_rfl) λQ7 W15 N20 _ f=>aA rfl (aW 2 (mR _) N20 rfl (aV rfl (λW16 N21=>?_) ?_))
        ·have N22:=N21.pl [1]
         refine Y22 (z:=.agg #[S [],S [],.slice none 0 0]) (f:=aK) (xs:=K1.2) (ys:=[(⟨X4.af,X4.am,X4.ai⟩:TG0)]) (news:=[S X4.af,S X4.am,.slice Z8 X4.ai.length P8]) (ad:=⟨Q7,0,none⟩) (m:=1) (c:=1) f N22 D3 (by exact⟨_,_,rfl,TG0.shut B9,rfl⟩) rfl rfl rfl rfl (al (N22.ownCell 1 rfl) 0 rfl) (by exact O1) (by have hg_:=O1;first|omega|(simp only[List.length_cons,List.length_nil] at*;omega)) λZ9 P9 L3 W17 N23 D8 _ f=>?_
         have N24:=N23.pl [1]
         have N25:=N24.drop
         refine aA rfl (aW 1 (mR _) N25 rfl (iA λW18 N26=>Y f 1 λ_ f=>Y28 f N26 1 rfl rfl (b:=Q4) (j:=0) (v:=.slice Z9 (K1.2++[(⟨X4.af,X4.am,X4.ai⟩:TG0)]).length P9) rfl (by exact rfl) (by simp) (by simp) ((Ent.row 44 3 (.slice Z9 (K1.2++[(⟨X4.af,X4.am,X4.ai⟩:TG0)]).length P9) (K1.2++[(⟨X4.af,X4.am,X4.ai⟩:TG0)]).length L3)::(Ent.obj Q4 (.cells #[.slice Z9 (K1.2++[(⟨X4.af,X4.am,X4.ai⟩:TG0)]).length P9,.int .i64 d0.au] 63 (0,0)))::(Ent.obj Q3 (.cells #[S X2.1.af,S X2.1.am,.slice Z2 X2.1.ai.length P2] 44 (0,0)))::(Ent.obj Q2 (.cells #[.slice none 0 0,.int .i64 0] 63 (0,0)))::H) rfl λW19 N27 _ f=>aA rfl (nW (aH ?_))))
         exact⟨K1.2++[(⟨X4.af,X4.am,X4.ai⟩:TG0)],(sI F13).symm,V3,(mR _),Z9,P9,L3,D8,f.kp,N27⟩
        exact aQ
       exact aQ
      ·rintro a_59 W20 ⟨G1,dg,V4,J4,Z10,P10,L4,D9,f,N28⟩
       subst cX
       refine cG (aH (aI (Y f 1 λ_ f=>?_)))
       obtain⟨O2,F14⟩:=nS F11
       refine Y f 1 λ_ f=>?_
       have f:=f.st 32 (iW O2)
       refine Y f 1 λ_ f=>eT ?_
       obtain rfl:=sI F14
       exact⟨⟨I2,(K1.1+1,G1),Z10,P10,L4⟩,Nat.lt_succ_self _,V4,(J3.trans J4),⟨T1,D9⟩,f.kp,N28⟩
     ·have U7: ¬ (¬ (X3.af=d1)):=ap (av dI) B7
      refine wp_skip (cG (aH (aI (Y f 1 λ_ f=>?_))))
      obtain⟨O3,F16⟩:=nS F15
      refine Y f 1 λ_ f=>?_
      have f:=f.st 32 (iW O3)
      refine Y f 1 λ_ f=>eT ?_
      obtain rfl:=sI F16
      exact⟨⟨I2,(K1.1+1,K1.2),Z4,P4,L1⟩,Nat.lt_succ_self _,V3,J3,⟨T1,D3⟩,f.kp,N13⟩
    ·have U8:=ap dI B5
     refine wp_exit (co (co ?_))
     obtain rfl:=sI F17
     exact⟨rfl,K1.2,(sI T1).symm,V3,J3,Z4,P4,L1,D3,f.kp,N13⟩
   ·rintro _ _ W22 ⟨rfl,G2,hq_,V5,J5,Z11,P11,L5,D10,f,N29⟩
    subst Q5
    refine iq (aH (RR (Z (v:=.agg #[.slice Z11 G2.length P11,.int .i64 d0.au]) f (Y36 (cs:=[.slice Z11 G2.length P11,.int .i64 d0.au]) rfl (ad:=⟨Q4,0,none⟩) (al (N29.ownCell 1 rfl) 0 rfl)) λ_ f=>?_)))
    obtain⟨Z12,P12,V6,H2,J6,N30,B10⟩:=N29.rowSli (f:=aK) (xs:=G2) jn D10
    have f:=Frm.set f 51 (v:=.agg #[.slice Z11 G2.length P11,.int .i64 d0.au]) (v':=.agg #[.slice Z12 G2.length P12,.int .i64 d0.au]) (by kernel_rfl) (by rw[H2])
    have N31:Hp w0 V6 ((Ent.obj Q4 (.cells #[.slice Z12 G2.length P12,.int .i64 d0.au] 63 (0,0)))::(Ent.obj Q3 (.cells #[S X2.1.af,S X2.1.am,.slice Z2 X2.1.ai.length P2] 44 (0,0)))::(Ent.obj Q2 (.cells #[.slice none 0 0,.int .i64 0] 63 (0,0)))::H) W22:=by rw[H2] at N30;exact N30
    have N32:=N31.pl [2]
    refine Y29 (vs:=[.slice Z12 G2.length P12,.int .i64 d0.au]) (j:=0) f N32 rfl rfl (by simp[Value.oneCell',S]) (by simp) (by decide) (cs':=#[.slice Z12 G2.length P12,.int .i64 d0.au]) (by kernel_rfl) λW23 N33 _ f=>Y f 1 λ_ f=>eT (wp_ret (dB f rfl (Y10 (cs:=[.slice Z12 G2.length P12,.int .i64 d0.au]) (ad:=⟨Q2,0,none⟩) f (al (N33.ownCell 0 rfl) 0 rfl)) (Y11 (v:=.int .i64 0) f) ?_))
    obtain rfl:=sI F7
    exact⟨_,rfl,V6,(((J1.trans J2).trans J5).trans J6),(N33.dropN 3),⟨[.slice Z12 G2.length P12,.int .i64 d0.au],rfl,(TA0.shut B10)⟩⟩
def numR (d:Bs):Int×Bool:=if (Go.Num.read (d.drop 1)).2=0∧1≤(Go.Num.read (d.drop 1)).1∧(Go.Num.read (d.drop 1)).1≤1099511627776 then((Go.Num.read (d.drop 1)).1,true) else(0,false)
def numV (d:Bs):Int×Bool:=if d=[]∨d.getD 0 0≠112 then(0,false) else numR d
def physV (m:Int):Bs:=112::(Go.Num.text m).1
theorem lE {m:Int} (h0:1≤m) (h1:m≤1099511627776):Go.Num.fitsB m=true:=Go.Num.fitsB_iff.2 ⟨by omega,by omega⟩
theorem byte_eq (c:UInt8): (!decide (((c).toNat:Int)=112))=decide (c≠112):=by
 by_cases h:c=112
 ·subst h;rfl
 ·have: ¬ ((c.toNat:Int)=112):=λe=>h (UInt8.toNat_inj.1 (show c.toNat=112 by omega))
  rw[dF this,dT h];rfl
theorem num_tail {n:Nat} {d:Bs} {r:Int×Int} (hr:r=Go.Num.read (d.drop 1)):
 (bif(!(decide (r.2=0))) then(some (((0:Int),(false)))) else bif(decide (r.1<1)) then(some (((0:Int),(false)))) else bif(decide ((1099511627776:Int)<r.1)) then(some (((0:Int),(false)))) else some ((r.1,(true))):Option (Int×Bool))=some (numR d):=by
 subst hr
 unfold numR
 by_cases h1: (Go.Num.read (d.drop 1)).2=0
 ·rw[dT h1,nT,cF]
  by_cases h2: (Go.Num.read (d.drop 1)).1<1
  ·rw[dT h2,cT,if_neg (by omega)]
  ·rw[dF h2,cF]
   by_cases h3: (1099511627776:Int)<(Go.Num.read (d.drop 1)).1
   ·rw[dT h3,cT,if_neg (by omega)]
   ·rw[dF h3,cF,if_pos ⟨h1,by omega,by omega⟩]
 ·rw[dF h1,nF,cT,if_neg (λh=>h1 h.1)]
theorem one_nat: (1:Int).toNat=1:=rfl
theorem number_run {n:Nat} {d:Bs} (hd:d.length≤1000):iT n d=some (numV d):=by
 unfold iT numV nD
 cases d with
 |nil=>rw[dT rfl,cT,bnd,cT,if_pos (.inl rfl)]
 |cons c d=>
  have hg:aR (c::d) (0:Int)=some c:=rfl
  rw[dF (by simp),cF,hg,bnd,bnd,byte_eq]
  by_cases hc:c=112
  ·rw[dF (λh=>h hc),cF,bn (by simp only[List.length_cons] at*;omega),bn (by rw[List.length_drop];omega),bnd,if_neg (by simp[hc]),one_nat]
   exact num_tail (n:=n) rfl
  ·rw[dT hc,cT,if_pos (.inr hc)]
theorem read_len {s:Bs} (h: (Go.Num.read s).2=0) (h0:1≤(Go.Num.read s).1) (h1: (Go.Num.read s).1≤1099511627776):1≤s.length∧s.length≤17:=by
 have h2:=Go.Num.text_read h
 have h3:=Go.Num.text_len (lE h0 h1)
 rw[h2] at h3
 refine⟨?_,h3⟩
 rcases Nat.eq_zero_or_pos s.length with e|e
 ·have:s=[]:=List.length_eq_zero_iff.1 e
  subst this
  exact absurd h (by decide)
 ·exact e
theorem numberR_run {n:Nat} {d:Bs} (hd:d.length≤1000):iY n d=some (numV d):=by
 unfold iY numV ma
 cases d with
 |nil=>rw[dT (by simp),cT,bnd,cT,if_pos (.inl rfl)]
 |cons c d=>
  have hbad: ¬ (1≤d.length∧d.length≤17)→numR (c::d)=(0,false):=λhl=>by
   unfold numR
   have e: (c::d).drop 1=d:=rfl
   rw[e,if_neg (λh=>hl (read_len h.1 h.2.1 h.2.2))]
  have hg:aR (c::d) (0:Int)=some c:=rfl
  by_cases h2: ((c::d).length:Int)<2
  ·rw[dT h2,cT,bnd,cT]
   simp only[List.length_cons] at h2
   split
   ·rfl
   ·rw[hbad (by omega)]
  ·rw[dF h2,cF]
   by_cases h3: (20:Int)<((c::d).length:Int)
   ·rw[dT h3,cT,bnd,cT]
    simp only[List.length_cons] at h3
    split
    ·rfl
    ·rw[hbad (by omega)]
   ·rw[dF h3,cF,hg,bnd,bnd,byte_eq]
    by_cases hc:c=112
    ·rw[dF (λh=>h hc),cF,bn (by simp only[List.length_cons] at*;omega),bn (by rw[List.length_drop];omega),bnd,if_neg (by simp[hc]),one_nat]
     exact num_tail (n:=n) rfl
    ·rw[dT hc,cT,if_pos (.inr hc)]
theorem Phys_run {n:Nat} {m:Int} (h0:1≤m) (h1:m≤1099511627776):kK n m=some (physV m,0):=by
 unfold kK pO physV
 have hl:=Go.Num.text_len (lE h0 h1)
 rw[dF (by omega),cF,bnd,dF (by omega),cF,bnd,bn (by simp only[List.length_cons,List.length_nil];omega),(Go.Num.text_zero m).2 (lE h0 h1)]
 rfl
theorem PhysR_run {n:Nat} {m:Int} (h0:1≤m) (h1:m≤1099511627776):kO n m=some (physV m,0):=by
 unfold kO ot physV
 have hl:=Go.Num.text_len (lE h0 h1)
 rw[dF (by omega),cF,bnd,dF (by omega),cF,bnd,bn (by simp only[List.length_cons,List.length_nil];omega)]
 rfl
theorem phys_len {m:Int} (h0:1≤m) (h1:m≤1099511627776): (physV m).length≤18:=by
 unfold physV
 have hl:=Go.Num.text_len (lE h0 h1)
 rw[List.length_cons];omega
def knownV (l:List TE0):Bool:= !l.any (·.az)
theorem pR {n:Nat} (hn:6000<n) {l:List TE0} (hl:l.length≤60):gR n l=some (knownV l):=by
 unfold gR mb knownV
 obtain⟨b,hb,hp⟩:=pK (n:=n) aC (·.az) l (step:=gp n l) (λk hk=>by
  unfold gp jq
  rw[dT (by omega),cT,bf aC hk,bnd,bnd]
  cases (l.getD k aC).az with
  |false=>rw[cF,aU (by omega) (by omega)];rfl
  |true=>rw[cT];rfl) (by
  unfold gp
  rw[dF (by omega),cF]) (by omega)
 rw[hb,bnd]
 cases b with
 |inl i=>
  obtain⟨h0,h1⟩:=hp
  dsimp only
  rw[bnd,h1,dF (by omega)];rfl
 |inr u=>
  have h1:l.any (·.az)=false:=hp
  dsimp only
  rw[bnd,h1];rfl
theorem ou {n:Nat} (hn:6000<n) {l:List TE0} (hl:l.length≤60):gT n l=some (knownV l):=by
 unfold gT knownV
 have:=jv (n:=n) (step:=eE n l) (λk=>(l.getD k aC).az) l.length (.inl ()) (.inr ()) (λk hk=>by
  unfold eE
  rw[dT (by omega),cT,bf aC hk,bnd,aU (by omega) (by omega)]
  cases (l.getD k aC).az<;>rfl) (by
  unfold eE
  rw[dF (by omega),cF]) (by omega)
 rw[this,bnd,nr aC (·.az)]
 cases l.any (·.az)<;>rfl
structure GoodT (x:TG0):Prop where
 few:x.ai.length≤60
 fine: ∀g∈x.ai,Fine g.fV
 short:x.af.length≤1000
structure GoodL (L:List TG0):Prop where
 few:L.length≤200
 each: ∀x∈L,GoodT x
def okT (x:TG0) (last:Int):Bool:=(numV x.af).2&& (decide (last<(numV x.af).1)&& (decide (checkG x.am x.ai=0)&&knownV x.ai))
def scanS:List TG0→Int→Option Int
 |[],last=>some last
 |x::r,last=>bif okT x last then scanS r (numV x.af).1 else none
theorem pS: ∀ (l m:List TG0) (z:Int),scanS (l++m) z=(scanS l z).bind (scanS m)
 |[],m,z=>rfl
 |x::l,m,z=>by
  rw[List.cons_append,scanS,scanS]
  cases okT x z with
  |true=>rw[cT,cT,pS l m]
  |false=>rfl
theorem okT_spec {x:TG0} {z:Int} (h:okT x z=true): (numV x.af).2=true∧z<(numV x.af).1∧checkG x.am x.ai=0∧knownV x.ai=true:=by
 unfold okT at h
 simp only[Bool.and_eq_true,decide_eq_true_eq] at h
 exact⟨h.1,h.2.1,h.2.2.1,h.2.2.2⟩
theorem pi: ∀ {l:List TG0} {z y:Int},scanS l z=some y→z≤y
 |[],z,y,h=>by cases h;omega
 |x::l,z,y,h=>by
  rw[scanS] at h
  cases hk:okT x z with
  |false=>rw[hk] at h;cases h
  |true=>
   rw[hk,cT] at h
   have:=pi h
   have:=(okT_spec hk).2.1
   omega
theorem pT: ∀ {l:List TG0} {z y:Int},scanS l z=some y→∀x∈l,(numV x.af).2=true∧z<(numV x.af).1∧(numV x.af).1≤y∧checkG x.am x.ai=0∧knownV x.ai=true
 |[],z,y,h,x,hx=>by cases hx
 |w::l,z,y,h,x,hx=>by
  rw[scanS] at h
  cases hk:okT w z with
  |false=>rw[hk] at h;cases h
  |true=>
   rw[hk,cT] at h
   obtain⟨h1,h2,h3,h4⟩:=okT_spec hk
   rcases List.mem_cons.1 hx with rfl|hx
   ·exact⟨h1,h2,pi h,h3,h4⟩
   ·obtain⟨k1,k2,k3,k4⟩:=pT h x hx
    exact⟨k1,by omega,k3,k4⟩
theorem mS: ∀ {l:List TG0} {z y:Int},scanS l z=some y→(l.map (·.af)).Nodup
 |[],z,y,h=>by simp
 |w::l,z,y,h=>by
  rw[scanS] at h
  cases hk:okT w z with
  |false=>rw[hk] at h;cases h
  |true=>
   rw[hk,cT] at h
   rw[List.map_cons,List.nodup_cons]
   refine⟨λhm=>?_,mS h⟩
   obtain⟨x,hx,e⟩:=List.mem_map.1 hm
   have:=(pT h x hx).2.1
   rw[e] at this;omega
def checkS (L:List TG0) (made:Int):Int:=match scanS L 0 with
 |none=>2
 |some last=>if made<last∨1099511627776<made then 2 else 0
theorem jF {L:List TG0} {made:Int} (h:checkS L made=0): ∃last,scanS L 0=some last∧0≤last∧last≤made∧made≤1099511627776:=by
 unfold checkS at h
 cases hs:scanS L 0 with
 |none=>rw[hs] at h;cases h
 |some last=>
  rw[hs] at h
  dsimp only at h
  by_cases h1:made<last∨1099511627776<made
  ·rw[if_pos h1] at h;cases h
  ·exact⟨last,rfl,pi hs,by omega,by omega⟩
theorem checkS_of {L:List TG0} {made last:Int} (h:scanS L 0=some last) (h1:last≤made) (h2:made≤1099511627776):checkS L made=0:=by
 unfold checkS
 rw[h]
 dsimp only
 rw[if_neg (by omega)]
theorem checkS_two {L:List TG0} {made:Int} (h:checkS L made≠0):checkS L made=2:=by
 unfold checkS at h ⊢
 cases hs:scanS L 0 with
 |none=>rfl
 |some last=>
  rw[hs] at h
  dsimp only at h ⊢
  by_cases h1:made<last∨1099511627776<made
  ·rw[if_pos h1]
  ·rw[if_neg h1] at h;exact absurd rfl h
theorem evS (s:TC0): (⟨s.fL,s.au⟩:TC0)=s:=by cases s;rfl
theorem getT {L:List TG0} {k:Nat} (hk:k<L.length):L.getD k dU=L[k]:=by simp[List.getD,hk]
theorem tq {L:List TG0} {k:Nat} (hk:k<L.length) {z:Int} (h:scanS (L.take k) 0=some z):scanS (L.take (k+1)) 0=bif okT L[k] z then some (numV L[k].af).1 else none:=by
 rw[List.take_add_one,List.getElem?_eq_getElem hk,Option.toList_some,pS,h,bnd]
 rfl
theorem tr {L:List TG0} {k:Nat} (h:scanS (L.take k) 0=none):scanS L 0=none:=by
 have:=pS (L.take k) (L.drop k) 0
 rw[List.take_append_drop,h] at this
 exact this
theorem pU {n:Nat} (hn:6000<n) {s:TC0} (hg:GoodL s.fL):gS n s=some (checkS s.fL s.au):=by
 unfold gS checkS
 obtain⟨b,hb,hp⟩:=cj (n:=n) (step:=eD n s) (s0:=((0:Int),(0:Int))) (λk q=>q.2=(k:Int)∧scanS (s.fL.take k) 0=some q.1)
  (λb=>match b with|.inl _=>scanS s.fL 0=none|.inr y=>scanS s.fL 0=some y) s.fL.length ⟨rfl,rfl⟩ (λk q hk hI=>by
   obtain⟨last,i⟩:=q
   obtain⟨e,hs⟩:=hI
   dsimp only at e hs
   subst e
   have gt:=hg.each _ (List.getElem_mem hk)
   have hst:=tq hk hs
   unfold eD
   dsimp only
   rw[dT (by have:=hg.few;omega),cT,bf dU hk,bnd,getT hk,number_run gt.short,bnd]
   have hbad:okT s.fL[k] last=false→scanS s.fL 0=none:=λh=>tr (k:=k+1) (by rw[hst,h];rfl)
   cases h1: (numV s.fL[k].af).2 with
   |false=>exact .inr ⟨_,by rw[nF,cT],hbad (by unfold okT;rw[h1];rfl)⟩
   |true=>
    rw[nT,cF]
    by_cases h2: (numV s.fL[k].af).1≤last
    ·exact .inr ⟨_,by rw[dT h2,cT],hbad (by unfold okT;rw[dF (by omega)];simp)⟩
    ·rw[dF h2,cF,dJ hn _ gt.few gt.fine,bnd]
     by_cases h3:checkG s.fL[k].am s.fL[k].ai=0
     ·rw[dT h3,nT,cF,pR hn gt.few,bnd]
      cases h4:knownV s.fL[k].ai with
      |false=>exact .inr ⟨_,by rw[nF,cT],hbad (by unfold okT;rw[h4];simp)⟩
      |true=>
       refine .inl ⟨_,by rw[nT,cF,aU (by have:=hg.few;omega) (by have:=hg.few;omega)],?_,?_⟩
       ·dsimp only;omega
       ·rw[hst]
        have:okT s.fL[k] last=true:=by
         unfold okT
         rw[h1,dT (by omega),dT h3,h4];rfl
        rw[this,cT]
     ·exact .inr ⟨_,by rw[dF h3,nF,cT],hbad (by unfold okT;rw[dF h3];simp)⟩) (λq hI=>by
   obtain⟨last,i⟩:=q
   obtain⟨e,hs⟩:=hI
   dsimp only at e hs
   subst e
   rw[List.take_length] at hs
   unfold eD
   dsimp only
   rw[dF (by omega),cF]
   exact⟨_,rfl,hs⟩) (by have:=hg.few;omega)
 rw[hb,bnd]
 cases b with
 |inl u=>
  have hp':scanS s.fL 0=none:=hp
  rw[hp']
 |inr y=>
  have hp':scanS s.fL 0=some y:=hp
  rw[hp']
  dsimp only
  by_cases h1:s.au<y
  ·rw[dT h1,cT,if_pos (.inl h1)]
  ·rw[dF h1,cF]
   by_cases h2: (1099511627776:Int)<s.au
   ·rw[dT h2,cT,if_pos (.inr h2)]
   ·rw[dF h2,cF,if_neg (by omega)]
theorem ov {n : Nat} (hn : 6000 < n) {s : TA0} (hg : GoodL s.fL) : gU n s = some (checkS s.fL s.au) := by
  unfold gU
  by_cases m0 : s.au < 0
  · have : checkS s.fL s.au = 2 := by
      unfold checkS
      cases hs : scanS s.fL 0 with
      | none => rfl
      | some y => dsimp only; rw [if_pos (.inl (by have := pi hs; omega))]
    rw [decide_eq_true m0, cT, bnd, cT, this]
  · rw [decide_eq_false m0, cF, bnd]
    by_cases m1 : (1099511627776 : Int) < s.au
    · have : checkS s.fL s.au = 2 := by
        unfold checkS
        cases hs : scanS s.fL 0 with
        | none => rfl
        | some y => dsimp only; rw [if_pos (.inr m1)]
      rw [decide_eq_true m1, cT, this]
    · rw [decide_eq_false m1, cF]
      obtain ⟨b, hb, hp⟩ := cj (n := n) (step := eF n s) (s0 := ((0 : Int), (0 : Int))) (fun k q => q.2 = (k : Int) ∧ scanS (s.fL.take k) 0 = some q.1 ∧ q.1 ≤ s.au)
        (fun b => match b with | .inl _ => checkS s.fL s.au = 2 | .inr _ => checkS s.fL s.au = 0) s.fL.length ⟨rfl, rfl, by dsimp only; omega⟩ (fun k q hk hI => by
          obtain ⟨last, i⟩ := q
          obtain ⟨e, hs, hle⟩ := hI
          dsimp only at e hs hle
          subst e
          have gt := hg.each _ (List.getElem_mem hk)
          have hst := tq hk hs
          unfold eF
          dsimp only
          rw [decide_eq_true (by have := hg.few; omega), cT, bf dU hk, bnd, getT hk, numberR_run gt.short, bnd]
          have hbad : okT s.fL[k] last = false → checkS s.fL s.au = 2 := fun h => by
            have : scanS s.fL 0 = none := tr (k := k + 1) (by rw [hst, h]; rfl)
            unfold checkS; rw [this]
          cases h1 : (numV s.fL[k].af).2 with
          | false => exact .inr ⟨_, by rw [Bool.not_false, cT, bnd, cT], hbad (by unfold okT; rw [h1]; rfl)⟩
          | true =>
            rw [Bool.not_true, cF]
            by_cases h2 : (numV s.fL[k].af).1 ≤ last
            · exact .inr ⟨_, by rw [decide_eq_true h2, cT, bnd, cT], hbad (by unfold okT; rw [decide_eq_false (by omega)]; simp)⟩
            · rw [decide_eq_false h2, cF]
              by_cases h5 : s.au < (numV s.fL[k].af).1
              · refine .inr ⟨_, by rw [decide_eq_true h5, cT, bnd, cT], ?_⟩
                cases hok : okT s.fL[k] last with
                | false => exact hbad hok
                | true =>
                  unfold checkS
                  cases hs2 : scanS s.fL 0 with
                  | none => rfl
                  | some y =>
                    dsimp only
                    have := (pT hs2 _ (List.getElem_mem hk)).2.2.1
                    rw [if_pos (.inl (by omega))]
              · rw [decide_eq_false h5, cF, bnd, bnd, kl hn _ gt.few gt.fine, bnd]
                by_cases h3 : checkG s.fL[k].am s.fL[k].ai = 0
                · rw [decide_eq_true h3, Bool.not_true, cF, bnd, ou hn gt.few, bnd]
                  cases h4 : knownV s.fL[k].ai with
                  | false => exact .inr ⟨_, by rw [Bool.not_false, bnd, cT], hbad (by unfold okT; rw [h4]; simp)⟩
                  | true =>
                    refine .inl ⟨_, by rw [Bool.not_true, bnd, cF, aU (by have := hg.few; omega) (by have := hg.few; omega)], ?_, ?_, ?_⟩
                    · dsimp only; omega
                    · rw [hst]
                      have : okT s.fL[k] last = true := by
                        unfold okT
                        rw [h1, decide_eq_true (by omega), decide_eq_true h3, h4]; rfl
                      rw [this, cT]
                    · dsimp only; omega
                · exact .inr ⟨_, by rw [decide_eq_false h3, Bool.not_false, cT, bnd, cT], hbad (by unfold okT; rw [decide_eq_false h3]; simp)⟩) (fun q hI => by
          obtain ⟨last, i⟩ := q
          obtain ⟨e, hs, hle⟩ := hI
          dsimp only at e hs hle
          subst e
          rw [List.take_length] at hs
          unfold eF
          dsimp only
          rw [decide_eq_false (by omega), cF]
          exact ⟨_, rfl, checkS_of hs hle (by omega)⟩) (by have := hg.few; omega)
      rw [hb, bnd]
      cases b with
      | inl u => have hp' : checkS s.fL s.au = 2 := hp
                 rw [hp']
      | inr u => have hp' : checkS s.fL s.au = 0 := hp
                 rw [hp']
def placeT (phys:Bs) (L:List TG0):Option Nat:=placeV phys (L.map (·.af))
def findT (L:List TG0) (phys:Bs):Option TG0:=(placeT phys L).map λk=>L.getD k dU
theorem km {phys:Bs} {L:List TG0} {k:Nat} (h:placeT phys L=some k):k<L.length:=by
 have:=place_lt h
 simpa using this
theorem placeT_at {phys:Bs} {L:List TG0} {k:Nat} (h:placeT phys L=some k): (L.getD k dU).af=phys:=by
 have h1:=(kF h).1
 have hk:=km h
 rw[getT hk]
 simpa [hk] using h1
theorem at_run {n:Nat} (hn:6000<n) {s:TC0} (hl:s.fL.length≤200) (phys:Bs):kN n s phys=some (match placeT phys s.fL with|some i=>(i:Int)|none=> -1):=by
 unfold kN kh
 obtain⟨b,hb,hp⟩:=cj (n:=n) (step:=dM n s.fL phys) (s0:=(0:Int)) (λk q=>q=(k:Int)∧∀j,j<k→(s.fL.map (·.af))[j]? ≠some phys)
  (λb=>match b with|.inl i=>∃k,i=((k:Nat):Int)∧placeT phys s.fL=some k|.inr _=>placeT phys s.fL=none) s.fL.length ⟨rfl,λj hj=>absurd hj (by omega)⟩ (λk q hk hI=>by
   obtain⟨rfl,hf⟩:=hI
   unfold dM mc
   rw[dT (by omega),cT,bf dU hk,bnd,bnd,getT hk]
   by_cases hp:s.fL[k].af=phys
   ·exact .inr ⟨.inl ((k:Nat):Int),by rw[dT hp,cT],k,rfl,place_first (by simp[hk,hp]) hf⟩
   ·refine .inl ⟨_,by rw[dF hp,cF,aU (by omega) (by omega)],by omega,λj hj=>?_⟩
    by_cases e:j=k
    ·subst e
     simp[hk,hp]
    ·exact hf j (by omega)) (λq hI=>by
   obtain⟨rfl,hf⟩:=hI
   unfold dM
   rw[dF (by omega),cF]
   refine⟨_,rfl,?_⟩
   dsimp only
   cases h:placeT phys s.fL with
   |none=>rfl
   |some k=>exact absurd (kF h).1 (hf k (km h))) (by omega)
 rw[hb,bnd]
 cases b with
 |inl i=>
  obtain⟨k,rfl,h⟩:=hp
  rw[h];rfl
 |inr u=>
  have h:placeT phys s.fL=none:=hp
  rw[h];rfl
theorem Get_run10 {n:Nat} (hn:6000<n) {s:TC0} (hl:s.fL.length≤200) (phys:Bs):lD n s phys=some ((findT s.fL phys).getD dU,(findT s.fL phys).isSome):=by
 unfold lD findT
 rw[at_run hn hl,bnd]
 cases h:placeT phys s.fL with
 |none=>rfl
 |some k=>
  dsimp only
  rw[dT (Int.natCast_nonneg k),cT,bf dU (km h),bnd]
  rfl
theorem rS (phys:Bs): ∀L:List TG0,L.find? (λx=>decide (x.af=phys))=findT L phys
 |[]=>rfl
 |x::L=>by
  unfold findT placeT
  rw[List.find?_cons,List.map_cons,placeV]
  by_cases h:x.af=phys
  ·rw[if_pos h,dT h];rfl
  ·rw[if_neg h,dF h]
   have:=rS phys L
   unfold findT placeT at this
   rw[this,Option.map_map]
   congr 1
theorem ow {n:Nat} (hn:6000<n) {s:TA0} (hl:s.fL.length≤200) (phys:Bs):jl n s phys=some ((findT s.fL phys).getD dU,(findT s.fL phys).isSome):=by
 unfold jl
 have:=lv (n:=n) (step:=hP n s phys) (λk=>((k:Int),([]:Bs),([]:Bs),([]:List TE0)))
  (λk=>if decide ((s.fL.getD k dU).af=phys)=true then some (.inl ((s.fL.getD k dU).af,(s.fL.getD k dU).am,(s.fL.getD k dU).ai)) else none) s.fL.length (.inr ([],[],[])) (λk hk=>by
  unfold hP
  dsimp only
  rw[dT (by omega),cT,bf dU hk,bnd,bnd,aU (by omega) (by omega)]
  by_cases hp: (s.fL.getD k dU).af=phys
  ·rw[dT hp,cT,if_pos rfl]
  ·rw[dF hp,cF,if_neg (by decide)];rfl) (by
  unfold hP
  dsimp only
  rw[dF (by omega),cF]) (by omega)
 have e0: (((0:Nat):Int),([]:Bs),([]:Bs),([]:List TE0))=((0:Int),([]:Bs),([]:Bs),([]:List TE0)):=rfl
 rw[e0] at this
 have e:=mO dU (λx=>decide (x.af=phys)) (λx=>(Sum.inl (x.af,x.am,x.ai):Sum (Bs×Bs×List TE0) (Bs×Bs×List TE0))) s.fL
 rw[this,bnd,e,rS]
 cases findT s.fL phys with
 |none=>rfl
 |some x=>cases x;rfl
def updT (L:List TG0) (phys:Bs) (props:List TE0):List TG0:=L.map λy=>if y.af=phys then⟨y.af,y.am,props⟩ else y
def delT (L:List TG0) (phys:Bs):List TG0:=L.filter λy=> !decide (y.af=phys)
theorem upd_none {L:List TG0} {phys:Bs} {props:List TE0} (h:phys∉L.map (·.af)):updT L phys props=L:=by
 unfold updT
 have: ∀y∈L,(if y.af=phys then(⟨y.af,y.am,props⟩:TG0) else y)=id y:=λy hy=>by
  rw[if_neg (λe=>h (List.mem_map.2 ⟨y,hy,e⟩))];rfl
 rw[List.map_congr_left this,List.map_id]
theorem del_none {L:List TG0} {phys:Bs} (h:phys∉L.map (·.af)):delT L phys=L:=by
 unfold delT
 exact List.filter_eq_self.2 λy hy=>by rw[dF (λe=>h (List.mem_map.2 ⟨y,hy,e⟩))];rfl
theorem pV {phys : List UInt8} {props : List TE0} : ∀ {L : List TG0} {k : Nat}, (L.map (·.af)).Nodup → placeT phys L = some k →
  (L.take k ++ [(⟨(L.getD k dU).af, (L.getD k dU).am, props⟩ : TG0)]) ++ L.drop (k + 1) = updT L phys props ∧ L.take k ++ L.drop (k + 1) = delT L phys
 | [], k, _, h => by cases h
 | x :: L, k, hd, h => by
  rw [List.map_cons, List.nodup_cons] at hd
  unfold placeT at h
  rw [List.map_cons, placeV] at h
  by_cases hx : x.af = phys
  ·rw [if_pos hx] at h
   obtain rfl := Option.some.inj h
   have hno : phys ∉ L.map (·.af) := hx ▸ hd.1
   have e1 := upd_none (props := props) hno
   have e2 := del_none hno
   refine ⟨?_, ?_⟩
   ·unfold updT at e1 ⊢
    rw [List.map_cons, if_pos hx, e1]; rfl
   ·unfold delT at e2 ⊢
    rw [List.filter_cons_of_neg (by simp [hx]), e2]; rfl
  ·rw [if_neg hx] at h
   obtain ⟨j, hj, rfl⟩ := Option.map_eq_some_iff.1 h
   obtain ⟨e1, e2⟩ := pV (props := props) hd.2 hj
   refine ⟨?_, ?_⟩
   ·have : updT (x :: L) phys props = x :: updT L phys props := by
     unfold updT; rw [List.map_cons, if_neg hx]
    rw [this, ← e1]; rfl
   ·have : delT (x :: L) phys = x :: delT L phys := by
     unfold delT; rw [List.filter_cons_of_pos (by simp [hx])]
    rw [this, ← e2]; rfl
theorem mf {L:List TG0} {phys:Bs} {x:TG0} (h:findT L phys=some x):x∈L∧x.af=phys∧∃k,placeT phys L=some k∧L.getD k dU=x:=by
 unfold findT at h
 obtain⟨k,hk,rfl⟩:=Option.map_eq_some_iff.1 h
 refine⟨?_,placeT_at hk,k,hk,rfl⟩
 rw[getT (km hk)]
 exact List.getElem_mem _
theorem rT {L:List TG0} {phys:Bs} (h:findT L phys=none):placeT phys L=none∧phys∉L.map (·.af):=by
 unfold findT at h
 have:=Option.map_eq_none_iff.1 h
 exact⟨this,ol this⟩
def ownS (s:TC0):TA0:=⟨s.fL,s.au⟩
def createS (s:TC0) (kind:Bs) (props:List TE0):TC0×Bs×Int:=
 if checkS s.fL s.au≠0 then(iH,[],2) else if checkG kind props≠0 then(iH,[],checkG kind props) else if knownV props=false then(iH,[],91) else
 if s.au=1099511627776 then(iH,[],3) else(⟨s.fL++[⟨physV (s.au+1),kind,props⟩],s.au+1⟩,physV (s.au+1),0)
def badU (x:TG0) (props:List TE0):Bool:= !knownV props|| (!decide ((differV x.am x.ai props).2=0)||decide ((differV x.am x.ai props).1=3))
def updateS (s:TC0) (phys:Bs) (props:List TE0):TC0×Int:=
 if checkS s.fL s.au≠0 then(iH,2) else match findT s.fL phys with
 |none=>(iH,4)
 |some x=>if checkG x.am props≠0 then(iH,checkG x.am props) else if badU x props=true then(iH,91) else(⟨updT s.fL phys props,s.au⟩,0)
def deleteS (s:TC0) (phys:Bs):TC0×Int:=
 if checkS s.fL s.au≠0 then(iH,2) else match findT s.fL phys with
 |none=>(iH,4)
 |some x=>(⟨delT s.fL phys,s.au⟩,0)
structure GoodP (l:List TE0):Prop where
 few:l.length≤60
 fine: ∀g∈l,Fine g.fV
theorem Create_run {n:Nat} (hn:6000<n) {s:TC0} (hg:GoodL s.fL) (kind:Bs) {props:List TE0} (hp:GoodP props):iU n s kind props=some (createS s kind props):=by
 unfold iU createS
 rw[evS,pU hn hg,bnd]
 by_cases h1:checkS s.fL s.au=0
 ·obtain⟨last,hs,hl0,hl1,hl2⟩:=jF h1
  rw[dT h1,cT,dJ hn kind hp.few hp.fine,bnd,bnd,if_neg (λh=>h h1)]
  by_cases h2:checkG kind props=0
  ·rw[dT h2,nT,cF,pR hn hp.few,bnd,if_neg (λh=>h h2)]
   cases h3:knownV props with
   |false=>rw[nF,cT,if_pos rfl]
   |true=>
    rw[nT,cF,if_neg (by decide)]
    by_cases h4:s.au=1099511627776
    ·rw[dT h4,cT,if_pos h4]
    ·have hf:=hg.few
     rw[dF h4,cF,if_neg h4,bn (inR_mk.2 ⟨by omega,by omega⟩),Phys_run (by omega) (by omega),bnd,bn (by omega),bn (by rw[List.length_take];omega)]
     have e:s.fL.take (((s.fL.length:Nat):Int)).toNat=s.fL:=by rw[Int.toNat_natCast,List.take_length]
     rw[e]
  ·rw[dF h2,nF,cT,if_pos h2]
 ·rw[dF h1,cF,bnd,dF h1,nF,cT,if_pos h1,checkS_two h1]
theorem CreateR_run {n:Nat} (hn:6000<n) {s:TC0} (hg:GoodL s.fL) (kind:Bs) {props:List TE0} (hp:GoodP props):iZ n (ownS s) kind props=some (ownS (createS s kind props).1,(createS s kind props).2.1,(createS s kind props).2.2):=by
 unfold iZ createS
 rw[ov hn (s:=ownS s) hg,bnd]
 have e1:checkS (ownS s).fL (ownS s).au=checkS s.fL s.au:=rfl
 rw[e1]
 by_cases h1:checkS s.fL s.au=0
 ·obtain⟨last,hs,hl0,hl1,hl2⟩:=jF h1
  rw[dT h1,nT,cF,kl hn kind hp.few hp.fine,bnd,if_neg (λh=>h h1)]
  by_cases h2:checkG kind props=0
  ·rw[dT h2,nT,cF,ou hn hp.few,bnd,if_neg (λh=>h h2)]
   cases h3:knownV props with
   |false=>rw[nF,cT,if_pos rfl];rfl
   |true=>
    rw[nT,cF,if_neg (by decide)]
    have em: (ownS s).au=s.au:=rfl
    have el: (ownS s).fL=s.fL:=rfl
    rw[em,el]
    by_cases h4:s.au=1099511627776
    ·rw[dT (by omega),cT,if_pos h4];rfl
    ·have hf:=hg.few
     rw[dF (by omega),cF,if_neg h4,bn (inR_mk.2 ⟨by omega,by omega⟩),bn (by simp only[List.length_nil];omega),PhysR_run (by omega) (by omega),bnd,List.nil_append,bn (by omega)]
     rfl
  ·rw[dF h2,nF,cT,if_pos h2];rfl
 ·rw[dF h1,nF,cT,if_pos h1];rfl
theorem bad_run {n:Nat} {kn:Bool} {d:Int×Int} (x:TG0) {props:List TE0} (hk:kn=knownV props) (hd:d=differV x.am x.ai props):
 (bif !kn then(some ((true))) else bif(!(decide (d.2=0))) then(some ((true))) else some ((decide (d.1=3))):Option Bool)=some (badU x props):=by
 subst hk;subst hd
 unfold badU
 cases knownV props<;>cases decide ((differV x.am x.ai props).2=0)<;>rfl
theorem Update_run {n:Nat} (hn:6000<n) {s:TC0} (hg:GoodL s.fL) (phys:Bs) {props:List TE0} (hp:GoodP props):iV n s phys props=some (updateS s phys props):=by
 unfold iV updateS
 have hf:=hg.few
 rw[evS,pU hn hg,bnd]
 by_cases h1:checkS s.fL s.au=0
 ·obtain⟨last,hs,hl0,hl1,hl2⟩:=jF h1
  rw[dT h1,nT,cF,at_run hn hf,bnd,if_neg (λh=>h h1)]
  cases hfd:findT s.fL phys with
  |none=>rw[(rT hfd).1];rfl
  |some x=>
   obtain⟨hm,hph,k,hk,hx⟩:=mf hfd
   have hkl:=km hk
   have gx:=hg.each _ hm
   rw[hk]
   dsimp only
   rw[dF (by omega),cF,bf dU hkl,bnd,hx,dJ hn _ hp.few hp.fine,bnd]
   by_cases h2:checkG x.am props=0
   ·rw[dT h2,nT,cF,if_neg (λh=>h h2),Differ_run hn _ gx.few hp.few gx.fine hp.fine,bnd,pR hn hp.few,bnd,bad_run (n:=n) x rfl rfl,bnd]
    cases badU x props with
    |true=>rw[cT,if_pos rfl]
    |false=>
     have e1: ((k:Nat):Int).toNat=k:=Int.toNat_natCast k
     have e2: (((k:Nat):Int)+1).toNat=k+1:=by omega
     obtain⟨pu,_⟩:=pV (props:=props) (mS hs) hk
     rw[hx] at pu
     rw[cF,if_neg (by decide),e1,e2,bn ⟨by omega,by omega⟩,aU (by omega) (by omega),bn ⟨by omega,by omega⟩,bn (by rw[List.length_take];omega),bn (by simp only[List.length_append,List.length_take,List.length_cons,List.length_nil,List.length_drop];omega),pu,bnd]
   ·rw[dF h2,nF,cT,if_pos h2]
 ·rw[dF h1,nF,cT,if_pos h1]
theorem updR_loop {n:Nat} (hn:6000<n) {s:TA0} (hl:s.fL.length≤200) (phys:Bs) (props:List TE0):aN (da n s phys props) n (0,[])=some (updT s.fL phys props):=by
 have:=cD (n:=n) (step:=da n s phys props) (λk=>((k:Int),updT (s.fL.take k) phys props)) s.fL.length (updT s.fL phys props) (λk hk=>by
  unfold da
  dsimp only
  have hx:s.fL[k]? =some s.fL[k]:=List.getElem?_eq_getElem hk
  have hlen: (updT (s.fL.take k) phys props).length≤200:=by unfold updT;rw[List.length_map,List.length_take];omega
  rw[dT (by omega),cT,bf dU hk,bnd,getT hk]
  have e:updT (s.fL.take (k+1)) phys props=updT (s.fL.take k) phys props++[if s.fL[k].af=phys then⟨s.fL[k].af,s.fL[k].am,props⟩ else s.fL[k]]:=by
   unfold updT
   rw[List.take_add_one,hx,Option.toList_some,List.map_append];rfl
  rw[e]
  by_cases hp:s.fL[k].af=phys
  ·rw[dT hp,cT,bnd,bn (by omega),aU (by omega) (by omega),if_pos hp];rfl
  ·rw[dF hp,cF,bnd,bn (by omega),aU (by omega) (by omega),if_neg hp];rfl) (by
  unfold da
  dsimp only
  rw[dF (by omega),cF,List.take_length]) (by omega)
 exact this
theorem UpdateR_run {n:Nat} (hn:6000<n) {s:TC0} (hg:GoodL s.fL) (phys:Bs) {props:List TE0} (hp:GoodP props):ja n (ownS s) phys props=some (ownS (updateS s phys props).1,(updateS s phys props).2):=by
 unfold ja updateS
 have hf:=hg.few
 rw[ov hn (s:=ownS s) hg,bnd]
 have e1:checkS (ownS s).fL (ownS s).au=checkS s.fL s.au:=rfl
 have el: (ownS s).fL=s.fL:=rfl
 rw[e1]
 by_cases h1:checkS s.fL s.au=0
 ·rw[dT h1,nT,cF,ow hn (s:=ownS s) hf,bnd,if_neg (λh=>h h1),el]
  cases hfd:findT s.fL phys with
  |none=>rfl
  |some x=>
   obtain⟨hm,hph,k,hk,hx⟩:=mf hfd
   have gx:=hg.each _ hm
   dsimp only[Option.isSome_some,Option.getD_some]
   rw[nT,cF,kl hn _ hp.few hp.fine,bnd]
   by_cases h2:checkG x.am props=0
   ·rw[dT h2,nT,cF,if_neg (λh=>h h2),Differ_ref hn _ gx.few hp.few gx.fine hp.fine,bnd,ou hn hp.few,bnd,bad_run (n:=n) x rfl rfl,bnd]
    cases badU x props with
    |true=>rw[cT,if_pos rfl];rfl
    |false=>
     rw[cF,if_neg (by decide),updR_loop hn (s:=ownS s) hf,bnd];rfl
   ·rw[dF h2,nF,cT,if_pos h2];rfl
 ·rw[dF h1,nF,cT,if_pos h1];rfl
theorem Delete_run {n:Nat} (hn:6000<n) {s:TC0} (hg:GoodL s.fL) (phys:Bs):iX n s phys=some (deleteS s phys):=by
 unfold iX deleteS
 have hf:=hg.few
 rw[evS,pU hn hg,bnd]
 by_cases h1:checkS s.fL s.au=0
 ·obtain⟨last,hs,hl0,hl1,hl2⟩:=jF h1
  rw[dT h1,nT,cF,at_run hn hf,bnd,if_neg (λh=>h h1)]
  cases hfd:findT s.fL phys with
  |none=>rw[(rT hfd).1];rfl
  |some x=>
   obtain⟨hm,hph,k,hk,hx⟩:=mf hfd
   have hkl:=km hk
   rw[hk]
   dsimp only
   have e1: ((k:Nat):Int).toNat=k:=Int.toNat_natCast k
   have e2: (((k:Nat):Int)+1).toNat=k+1:=by omega
   obtain⟨_,pd⟩:=pV (props:=[]) (mS hs) hk
   rw[dF (by omega),cF,e1,e2,bn ⟨by omega,by omega⟩,aU (by omega) (by omega),bn ⟨by omega,by omega⟩,bn (by simp only[List.length_take,List.length_drop];omega),pd]
 ·rw[dF h1,nF,cT,if_pos h1]
theorem delR_loop {n:Nat} (hn:6000<n) {s:TA0} (hl:s.fL.length≤200) (phys:Bs):aN (db n s phys) n (0,[])=some (delT s.fL phys):=by
 have:=cD (n:=n) (step:=db n s phys) (λk=>((k:Int),delT (s.fL.take k) phys)) s.fL.length (delT s.fL phys) (λk hk=>by
  unfold db
  dsimp only
  have hx:s.fL[k]? =some s.fL[k]:=List.getElem?_eq_getElem hk
  have hlen: (delT (s.fL.take k) phys).length≤200:=by
   unfold delT
   have:=List.length_filter_le (λy:TG0=> !decide (y.af=phys)) (s.fL.take k)
   rw[List.length_take] at this;omega
  rw[dT (by omega),cT,bf dU hk,bnd,bnd,getT hk,aU (by omega) (by omega),bn (by omega),bnd,aU (by omega) (by omega)]
  have e:delT (s.fL.take (k+1)) phys=delT (s.fL.take k) phys++(if s.fL[k].af=phys then [] else [s.fL[k]]):=by
   unfold delT
   rw[List.take_add_one,hx,Option.toList_some,List.filter_append]
   by_cases hp:s.fL[k].af=phys
   ·rw[if_pos hp,List.filter_cons_of_neg (by simp[hp])];rfl
   ·rw[if_neg hp,List.filter_cons_of_pos (by simp[hp])];rfl
  rw[e]
  by_cases hp:s.fL[k].af=phys
  ·rw[dT hp,nT,cF,if_pos hp,List.append_nil];rfl
  ·rw[dF hp,nF,cT,if_neg hp];rfl) (by
  unfold db
  dsimp only
  rw[dF (by omega),cF,List.take_length]) (by omega)
 exact this
theorem DeleteR_run {n:Nat} (hn:6000<n) {s:TC0} (hg:GoodL s.fL) (phys:Bs):jb n (ownS s) phys=some (ownS (deleteS s phys).1,(deleteS s phys).2):=by
 unfold jb deleteS
 have hf:=hg.few
 rw[ov hn (s:=ownS s) hg,bnd]
 have e1:checkS (ownS s).fL (ownS s).au=checkS s.fL s.au:=rfl
 have el: (ownS s).fL=s.fL:=rfl
 rw[e1]
 by_cases h1:checkS s.fL s.au=0
 ·rw[dT h1,nT,cF,ow hn (s:=ownS s) hf,bnd,if_neg (λh=>h h1),el]
  cases hfd:findT s.fL phys with
  |none=>rfl
  |some x=>
   dsimp only[Option.isSome_some]
   rw[nT,cF,delR_loop hn (s:=ownS s) hf,bnd];rfl
 ·rw[dF h1,nF,cT,if_pos h1];rfl
theorem sameG_self (x:TE0):sameG x x=true:=by
 unfold sameG
 rw[dT rfl,dT rfl,beq_self_eq_true,Bool.or_true];rfl
theorem same_self9 {l:List TE0}: (decide (l.length=l.length)&& !((List.range l.length).any λk=> !sameG (l.getD k aC) (l.getD k aC)))=true:=by
 rw[dT rfl,Bool.true_and]
 have: ((List.range l.length).any λk=> !sameG (l.getD k aC) (l.getD k aC))=false:=by
  rw[List.any_eq_false];intro k _;rw[sameG_self];simp
 rw[this];rfl
theorem rU {n:Nat} (hn:6000<n) {l:List TE0} (hp:GoodP l):iD n l l=some true:=by
 rw[Same_ref hn hp.few hp.fine hp.fine,same_self9]
theorem GoodT.props {x:TG0} (h:GoodT x):GoodP x.ai:=⟨h.few,h.fine⟩
theorem ln:GoodL iH.fL:=⟨by decide,λx hx=>by cases hx⟩
theorem good_create {s:TC0} (hg:GoodL s.fL) (hl:s.fL.length<200) (kind:Bs) {props:List TE0} (hp:GoodP props):GoodL (createS s kind props).1.fL:=by
 unfold createS
 by_cases h1:checkS s.fL s.au=0
 ·obtain⟨last,hs,hl0,hl1,hl2⟩:=jF h1
  rw[if_neg (λh=>h h1)]
  split
  ·exact ln
  ·split
   ·exact ln
   ·split
    ·exact ln
    ·refine⟨by simp only[List.length_append,List.length_cons,List.length_nil];omega,λx hx=>?_⟩
     rcases List.mem_append.1 hx with h|h
     ·exact hg.each x h
     ·rw[List.mem_singleton.1 h]
      exact⟨hp.few,hp.fine,by have:=phys_len (m:=s.au+1) (by omega) (by omega);show(physV (s.au+1)).length≤1000;omega⟩
 ·rw[if_pos h1];exact ln
theorem good_upd {L:List TG0} (hg:GoodL L) (phys:Bs) {props:List TE0} (hp:GoodP props):GoodL (updT L phys props):=by
 refine⟨by unfold updT;rw[List.length_map];exact hg.few,λx hx=>?_⟩
 unfold updT at hx
 obtain⟨y,hy,rfl⟩:=List.mem_map.1 hx
 have gy:=hg.each y hy
 split
 ·exact⟨hp.few,hp.fine,gy.short⟩
 ·exact gy
theorem good_del {L:List TG0} (hg:GoodL L) (phys:Bs):GoodL (delT L phys):=by
 unfold delT
 refine⟨by have:=List.length_filter_le (λy:TG0=> !decide (y.af=phys)) L;have:=hg.few;omega,λx hx=>hg.each x (List.mem_filter.1 hx).1⟩
theorem good_update {s:TC0} (hg:GoodL s.fL) (phys:Bs) {props:List TE0} (hp:GoodP props):GoodL (updateS s phys props).1.fL:=by
 unfold updateS
 split
 ·exact ln
 ·split
  ·exact ln
  ·split
   ·exact ln
   ·split
    ·exact ln
    ·exact good_upd hg phys hp
theorem good_delete {s:TC0} (hg:GoodL s.fL) (phys:Bs):GoodL (deleteS s phys).1.fL:=by
 unfold deleteS
 split
 ·exact ln
 ·split
  ·exact ln
  ·exact good_del hg phys
end Go.Proofs.YtkhdpnamfndonaaGreatDoor
