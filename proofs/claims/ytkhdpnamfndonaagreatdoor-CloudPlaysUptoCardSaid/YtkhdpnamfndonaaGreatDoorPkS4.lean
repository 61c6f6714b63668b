/-
  Texts of this claim, packed (what nothing names is left out): S2, S3, SchemaP2, S5, SchemaP3, SchemaP4, SchemaP5, Q2h, Q2g, Q2i, TreeR, R1, R2. Own work, partly printed by own programs. No condition.
-/
import Derived.Test.YtkhdpnamfndonaaGreatDoorPkS2
import Derived.Test.YtkhdpnamfndonaaGreatDoorPkS3
import Derived.Test.YtkhdpnamfndonaaGreatDoorPkS1
set_option linter.unusedVariables false
set_option linter.unusedSimpArgs false
set_option maxHeartbeats 2000000
namespace Go.Proofs.YtkhdpnamfndonaaGreatDoor
open Go Go.Vc Go.RowKit
def kG (n:Nat) (d0:Bs):Option Bool:=
 bif(decide ((d0.length:Int)≤64)) then
  ((eN n d0).bind λX1=>
  some ((X1)))
 else
  some ((false))
theorem su (n:Nat) (M:Mem) (hG:GL M) (d0:Bs) (r:Bool) (hF:kG n d0=some r):Ok Tryz.prog M 79 [S d0] (λ_ v=>v=bO r):=by
 unfold kG at hF
 intro M1 hM0 w0 H w p0
 replace hG:=GL.mono hM0 hG
 refine Re 10 Tryz.func79 rfl λa0 f0=>RR (Ye f0 1 λ_ f=>RR (Y f 4 λ_ f=>?_))
 rcases cE hF with⟨B1,F1⟩|⟨B1,F3⟩
 ·have U1:=dI.1 B1
  have f:=f.st 6 (cB B1)
  refine Y f 1 λ_ f=>?_
  obtain⟨X1,S1,F2⟩:=bS F1
  refine Y18 f p0 (kB n _ hG d0 X1 S1) λW1 N1 _ f=>Ye f 2 λ_ f=>wp_ret (ao f rfl (Lk 2 (bO X1)) ?_)
  cases sI F2
  exact⟨_,rfl,M1,(mR _),N1,rfl⟩
 ·have U2:=ap dI B1
  have f:=f.st 6 (cB B1)
  refine Ye f 4 λ_ f=>wp_ret (ao f rfl (Lk 2 (bO false)) ?_)
  cases sI F3
  exact⟨_,rfl,M1,(mR _),p0,rfl⟩
def gX (n:Nat) (rec_schema_value:TF0→Int→Option Bool) (d0:TF0):Option Bool:=
 (rec_schema_value d0 (3:Int)).bind λX1=>
 some ((!X1))
theorem nI (n:Nat) (rec_schema_value:TF0→Int→Option Bool) (hrec_schema_value: ∀ (M:Mem) (hG:GL M) (ad0:Addr) (c0:Lv) (d0:TF0) (h0:Rep M (ay d0) c0) (q0: ∀j v,c0[j]? =some v→M.cell? (ad0.add j)=some v) (d1:Int) (r:Bool) (hF:rec_schema_value d0 d1=some r),Ok Tryz.prog M 60 [Pa ad0,iB d1] (λ_ v=>v=bO r)) (M:Mem) (hG:GL M) (c0:Lv) (d0:TF0) (h0:Rep M (ay d0) c0) (r:Bool) (hF:gX n rec_schema_value d0=some r):Ok Tryz.prog M 81 [.agg c0.toArray] (λ_ v=>v=bO r):=by
 unfold gX at hF
 intro M1 hM0 w0 H w p0
 replace hG:=GL.mono hM0 hG
 replace h0:=Rep.mono hM0 _ _ h0
 obtain⟨Z1,P1,Z2,P2,rfl,B1,B2⟩:=TF0.opn h0
 refine Re 5 Tryz.func81 rfl λa0 f0=>RR (Y13 (cs:=(aTF0 d0 Z1 P1 Z2 P2)) (T:=73) f0 p0 λQ1 V1 W1 J1 R1 N1 _ f=>?_)
 have R2:=bR R1
 refine Ye f 1 λ_ f=>RR ?_
 obtain⟨X1,S1,F1⟩:=bS hF
 refine Y18 f N1 (hrec_schema_value _ (GL.mono J1 hG) (⟨Q1,0,none⟩) (lTF0 d0 Z1 P1 Z2 P2) d0 (TF0.shutx (x:=d0) (B1.mono J1) (B2.mono J1)) (gE (R2) 0 rfl) (3:Int) X1 S1) λW2 N2 _ f=>Ye f 2 λ_ f=>wp_ret (ao f rfl (Lk 2 (.bool !X1)) ?_)
 cases sI F1
 exact⟨_,rfl,V1,J1,N2,rfl⟩
def bl (n:Nat) (rec_schema_value:TF0→Int→Option Bool) (d0:List TF0) (K1:Int):Option (Lp Int (Sum Int Unit)):=
    bif(decide (K1<((d0.length:Nat):Int))) then
     ((aR d0 K1).bind λX1=>
     (gX n rec_schema_value X1).bind λX2=>
     bif X2 then
      (some (.br (.inl K1)))
     else
      aZ (inR .i64 (K1+1))<|
      some (.nx (K1+1)))
    else
     some (.br (.inr ()))
def bM (n:Nat) (rec_schema_value:TF0→Int→Option Bool) (d0:List TF0):Option Int:=
 (aN (bl n rec_schema_value d0) n (0:Int)).bind λQ1=>
 (match Q1 with
 |.inl G1=>some (G1)
 |.inr G2=>some ((-1:Int)))
theorem gu (n:Nat) (rec_schema_value:TF0→Int→Option Bool) (hrec_schema_value: ∀ (M:Mem) (hG:GL M) (ad0:Addr) (c0:Lv) (d0:TF0) (h0:Rep M (ay d0) c0) (q0: ∀j v,c0[j]? =some v→M.cell? (ad0.add j)=some v) (d1:Int) (r:Bool) (hF:rec_schema_value d0 d1=some r),Ok Tryz.prog M 60 [Pa ad0,iB d1] (λ_ v=>v=bO r)) (M:Mem) (hG:GL M) (A0:Oa) (cap0:Nat) (d0:List TF0) (h0:Sli M 6 ay A0 cap0 d0) (r:Int) (hF:bM n rec_schema_value d0=some r):Ok Tryz.prog M 101 [sL A0 d0 cap0,.func (.func 81) #[] #[]] (λ_ v=>v=iL r):=by
 unfold bM at hF
 intro M1 hM0 w0 H w p0
 replace hG:=GL.mono hM0 hG
 replace h0:=h0.mono hM0
 refine Re 19 Tryz.func101 rfl λa0 f0=>RR (Ye f0 1 λ_ f=>ag (RR (Ye f 3 λ_ f=>wp_block ?_)))
 obtain⟨Q1,bH,F1⟩:=bS hF
 refine wp_mono (Q:=λe a w=>(e=.ret∧(∃G1:Int,Q1=.inl G1∧∃V2:Mem,M1.le V2∧Frm 19 [(4,iL G1)] a∧Hp w0 V2 (H) w))∨(e=.exit 0∧(∃G2:Unit,Q1=.inr G2∧∃V3:Mem,M1.le V3∧Frm 19 [] a∧Hp w0 V3 (H) w))) (bu (n:=19) (w0:=w0) (M:=M1) (λ (I1,K1)=>[(0,sL A0 d0 cap0),(1,.func (.func 81) #[] #[]),(7,iL ((d0.length:Nat):Int)),(8,iL K1)]) (λ (I1,K1)=>(H)) (λ (I1,K1) MM=>aN (bl n rec_schema_value d0) I1 K1=some Q1) (λ (I1,K1)=>I1) (n,(0:Int)) (f.kp) p0 bH ?_) ?_
 ·rintro⟨I1,K1⟩ V1 _ W1 J1 dc f N1
  have bI:=dc
  obtain⟨I2,jP,rfl,be,T1⟩:=aT bI
  unfold bl at be
  refine RR (Ye f 1 λ_ f=>ag (RcF f be (λB1 F2=>?_) λB1 F8=>?_))
  ·have U1:=dI.1 B1
   refine St (ag (wp_block (RR (Ye f 2 λ_ f=>RR (Y f 3 λ_ f=>?_)))))
   obtain⟨X1,S1,F3⟩:=bS F2
   obtain⟨C1,cP,dS,-,D1,R1⟩:=Sli.at_ (h0.mono J1) S1
   obtain⟨Z1,P1,Z2,P2,rfl,B2,B3⟩:=TF0.opn D1
   refine Z f (Y34 dS rfl (len:=d0.length) (cap:=cap0) (k:=.i64) (i:=K1) (e:=73) (sz:=6) (aF S1) (aE S1)) λ_ f=>Z f (Y36 (cs:=(lTF0 X1 Z1 P1 Z2 P2)) rfl (ad:=C1.add (K1.toNat*6)) (λj v h=>N1.cell (R1 j v h))) λ_ f=>?_
   obtain⟨X2,S2,F4⟩:=bS F3
   refine Y18 f N1 (nI n rec_schema_value hrec_schema_value _ (GL.mono J1 hG) _ X1 (TF0.shutx (x:=X1) B2 B3) X2 S2) λW2 N2 _ f=>eT (RcF f F4 (λB4 F5=>?_) λB4 F6=>?_)
   ·refine RR (Ye f 2 λ_ f=>wp_ret (bV (aS (aS ?_))))
    cases sI F5
    exact .inl ⟨rfl,K1,(sI T1).symm,V1,J1,f.kp,N2⟩
   ·refine wp_skip (cG (aH (aI ?_)))
    obtain⟨O1,F7⟩:=nS F6
    refine Y f 1 λ_ f=>?_
    have f:=f.st 18 (iW O1)
    refine Ye f 1 λ_ f=>?_
    cases sI F7
    exact⟨⟨I2,K1+1⟩,Nat.lt_succ_self _,V1,J1,T1,f.kp,N2⟩
  ·have U4:=ap dI B1
   refine wp_exit (co (co ?_))
   cases sI F8
   exact .inr ⟨rfl,(),(sI T1).symm,V1,J1,f.kp,N1⟩
 ·rintro _ _ W5 (⟨rfl,G1,rfl,V2,J2,f,N3⟩|⟨rfl,G2,rfl,V3,J3,f,N4⟩)
  ·refine bV (aS (ao f rfl (Lk 4 (iL G1)) ?_))
   cases sI F1
   exact⟨_,rfl,V2,J2,N3,rfl⟩
  ·refine iq (aH (RR (Ye f 1 λ_ f=>wp_ret (ao f rfl (Lk 4 (iL (-1))) ?_))))
   cases sI F1
   exact⟨_,rfl,V3,J3,N4,rfl⟩
def bx (n:Nat) (rec_schema_value:TF0→Int→Option Bool) (d0:List TF0):Option Bool:=
 (bM n rec_schema_value d0).bind λX1=>
 some ((decide ((0:Int)≤X1)))
theorem eK (n:Nat) (rec_schema_value:TF0→Int→Option Bool) (hrec_schema_value: ∀ (M:Mem) (hG:GL M) (ad0:Addr) (c0:Lv) (d0:TF0) (h0:Rep M (ay d0) c0) (q0: ∀j v,c0[j]? =some v→M.cell? (ad0.add j)=some v) (d1:Int) (r:Bool) (hF:rec_schema_value d0 d1=some r),Ok Tryz.prog M 60 [Pa ad0,iB d1] (λ_ v=>v=bO r)) (M:Mem) (hG:GL M) (A0:Oa) (cap0:Nat) (d0:List TF0) (h0:Sli M 6 ay A0 cap0 d0) (r:Bool) (hF:bx n rec_schema_value d0=some r):Ok Tryz.prog M 80 [sL A0 d0 cap0,.func (.func 81) #[] #[]] (λ_ v=>v=bO r):=by
 unfold bx at hF
 intro M1 hM0 w0 H w p0
 replace hG:=GL.mono hM0 hG
 replace h0:=h0.mono hM0
 refine Re 9 Tryz.func80 rfl λa0 f0=>RR (Ye f0 1 λ_ f=>RR (Y f 2 λ_ f=>?_))
 obtain⟨X1,S1,F1⟩:=bS hF
 refine Y18 f p0 (gu n rec_schema_value hrec_schema_value _ hG A0 cap0 d0 h0 X1 S1) λW1 N1 _ f=>Ye f 2 λ_ f=>wp_ret (ao f rfl (Lk 4 (bO (decide ((0:Int)≤X1)))) ?_)
 cases sI F1
 exact⟨_,rfl,M1,(mR _),N1,rfl⟩
def gL (n:Nat) (rec_schema_value:TF0→Int→Option Bool) (d0:TF0) (d1:Int):Option Bool:=
 ((bif(!(decide (d0.ab=d1))) then
  (some ((true)))
   else
    (gK n d0).bind λX1=>
    some ((!(decide (X1=0)))):Option Bool)).bind λG1=>
 bif G1 then
  (some ((false)))
 else
  bif(decide (d1=3)) then
   ((kG n d0.ah).bind λX2=>
   some ((X2)))
  else
   bif(decide (d1=4)) then
    (bif(decide (((d0.ac.length:Nat):Int)≤8)) then
     ((bx n rec_schema_value d0.ac).bind λX3=>
     some ((!X3)))
    else
     some ((false)))
   else
    some ((true))
set_option maxRecDepth 20000 in
theorem oY (n:Nat) (rec_schema_value:TF0→Int→Option Bool) (hrec_schema_value: ∀ (M:Mem) (hG:GL M) (ad0:Addr) (c0:Lv) (d0:TF0) (h0:Rep M (ay d0) c0) (q0: ∀j v,c0[j]? =some v→M.cell? (ad0.add j)=some v) (d1:Int) (r:Bool) (hF:rec_schema_value d0 d1=some r),Ok Tryz.prog M 60 [Pa ad0,iB d1] (λ_ v=>v=bO r)) (M:Mem) (hG:GL M) (ad0:Addr) (c0:Lv) (d0:TF0) (h0:Rep M (ay d0) c0) (q0: ∀j v,c0[j]? =some v→M.cell? (ad0.add j)=some v) (d1:Int) (r:Bool) (hF:gL n rec_schema_value d0 d1=some r):Ok Tryz.prog M 60 [Pa ad0,iB d1] (λ_ v=>v=bO r):=by
 unfold gL at hF
 intro M1 hM0 w0 H w p0
 replace hG:=GL.mono hM0 hG
 replace h0:=Rep.mono hM0 _ _ h0
 replace q0:=λj v h=>hM0.cell (q0 j v h)
 obtain⟨Z1,P1,Z2,P2,rfl,B1,B2⟩:=TF0.opn h0
 refine Re 42 Tryz.func60 rfl λa0 f0=>RR (Ye f0 1 λ_ f=>ag (ag ?_))
 obtain⟨cX,bX,F1⟩:=bS hF
 refine bj (λqa W2=>∃G1:Bool,cX=G1∧∃V1:Mem,M1.le V1∧Frm 42 [(0,Pa ad0),(1,iB d1),(17,bO G1)] qa∧Hp w0 V1 (H) W2) ?_ ?_
 ·refine aI (Y f 3 λ_ f=>Y15 f p0 q0 0 rfl λ_ f=>Y f 3 λ_ f=>?_)
  rcases cE bX with⟨B3,F2⟩|⟨B3,F3⟩
  ·have U1: ¬ (d0.ab=d1):=(av dI).1 B3
   have f:=f.st 11 (cB B3)
   refine Ye f 6 λ_ f=>?_
   exact⟨(true),(sI F2).symm,M1,(mR _),f.kp,p0⟩
  ·have U2: ¬ (¬ (d0.ab=d1)):=ap (av dI) B3
   have f:=f.st 11 (cB B3)
   refine Y f 2 λ_ f=>Z f (Y36 (cs:=(lTF0 d0 Z1 P1 Z2 P2)) rfl (ad:=ad0) (λj v h=>p0.cell (q0 j v h))) λ_ f=>?_
   obtain⟨X1,S1,F4⟩:=bS F3
   refine Y18 f p0 (jp n _ hG _ d0 (TF0.shutx (x:=d0) B1 B2) X1 S1) λW1 N1 _ f=>Ye f 2 λ_ f=>?_
   exact⟨(!(decide (X1=0))),(sI F4).symm,M1,(mR _),f.kp,N1⟩
 ·rintro qa W2 ⟨G1,dg,V1,J1,f,N2⟩
  subst cX
  refine aH (RcF f F1 (λB4 F5=>?_) λB4 F6=>?_)
  ·refine RR (Ye f 1 λ_ f=>wp_ret (aS (ao f rfl (Lk 4 (bO false)) ?_)))
   cases sI F5
   exact⟨_,rfl,V1,J1,N2,rfl⟩
  ·refine St (ag (RR (Ye f 1 λ_ f=>wp_block (RR (Ye f 2 λ_ f=>RcF f F6 (λB5 F7=>?_) λB5 F9=>?_)))))
   ·have U5:=dI.1 B5
    refine RR (Y f 3 λ_ f=>Y15 f N2 (fzu J1 q0) 3 rfl λ_ f=>?_)
    obtain⟨X2,S2,F8⟩:=bS F7
    refine Y18 f N2 (su n _ (GL.mono J1 hG) d0.ah X2 S2) λW3 N3 _ f=>Ye f 1 λ_ f=>wp_ret (bV (aS (ao f rfl (Lk 4 (bO X2)) ?_)))
    cases sI F8
    exact⟨_,rfl,V1,J1,N3,rfl⟩
   ·have U6:=ap dI B5
    refine RR (Ye f 2 λ_ f=>RcF f F9 (λB6 F10=>?_) λB6 F14=>?_)
    ·have U7:=dI.1 B6
     refine RR (Y f 3 λ_ f=>Y15 f N2 (fzu J1 q0) 4 rfl λ_ f=>Y f 3 λ_ f=>?_)
     rcases cE F10 with⟨B7,F11⟩|⟨B7,F13⟩
     ·have U8:=dI.1 B7
      have f:=f.st 34 (cB B7)
      refine Y f 3 λ_ f=>Y15 f N2 (fzu J1 q0) 4 rfl λ_ f=>?_
      obtain⟨X3,S3,F12⟩:=bS F11
      refine Y18 f N2 (eK n rec_schema_value hrec_schema_value _ (GL.mono J1 hG) Z1 P1 d0.ac (B1.mono J1) X3 S3) λW4 N4 _ f=>Ye f 3 λ_ f=>wp_ret (bV (aS (ao f rfl (Lk 4 (.bool !X3)) ?_)))
      cases sI F12
      exact⟨_,rfl,V1,J1,N4,rfl⟩
     ·have U9:=ap dI B7
      have f:=f.st 34 (cB B7)
      refine Ye f 8 λ_ f=>wp_ret (bV (aS (ao f rfl (Lk 4 (bO false)) ?_)))
      cases sI F13
      exact⟨_,rfl,V1,J1,N2,rfl⟩
    ·have U10:=ap dI B6
     refine wp_skip (cG (aH (RR (Ye f 1 λ_ f=>wp_ret (ao f rfl (Lk 4 (bO true)) ?_)))))
     cases sI F14
     exact⟨_,rfl,V1,J1,N2,rfl⟩
def gM (n:Nat):Nat→TF0→Int→Option Bool
 |0=>λ_ _=>none
 |k+1=>gL n (gM n k)
def kf (n:Nat) (d0:TF0) (d1:Int):Option Bool:=gM n n d0 d1
theorem qw (n:Nat) (M:Mem) (hG:GL M) (ad0:Addr) (c0:Lv) (d0:TF0) (h0:Rep M (ay d0) c0) (q0: ∀j v,c0[j]? =some v→M.cell? (ad0.add j)=some v) (d1:Int) (r:Bool) (hF:kf n d0 d1=some r):Ok Tryz.prog M 60 [Pa ad0,iB d1] (λ_ v=>v=bO r):=by
 have key: ∀ (k:Nat) (M:Mem) (hG:GL M) (ad0:Addr) (c0:Lv) (d0:TF0) (h0:Rep M (ay d0) c0) (q0: ∀j v,c0[j]? =some v→M.cell? (ad0.add j)=some v) (d1:Int) (r:Bool) (hF:gM n k d0 d1=some r),Ok Tryz.prog M 60 [Pa ad0,iB d1] (λ_ v=>v=bO r):=by
  intro k
  induction k with
  |zero=>intro M hG ad0 c0 d0 h0 q0 d1 r hF;simp[gM] at hF
  |succ k ih=>intro M hG ad0 c0 d0 h0 q0 d1 r hF;exact oY n (gM n k) ih M hG ad0 c0 d0 h0 q0 d1 r hF
 exact key n M hG ad0 c0 d0 h0 q0 d1 r hF
def gY (n:Nat) (d0:TF0):Option Bool:=
 bif(decide (d0.ab=0)) then
  ((gK n d0).bind λX1=>
  some ((decide (X1=0))))
 else
  some ((false))
theorem qx (n:Nat) (M:Mem) (hG:GL M) (ad0:Addr) (c0:Lv) (d0:TF0) (h0:Rep M (ay d0) c0) (q0: ∀j v,c0[j]? =some v→M.cell? (ad0.add j)=some v) (r:Bool) (hF:gY n d0=some r):Ok Tryz.prog M 61 [Pa ad0] (λ_ v=>v=bO r):=by
 unfold gY at hF
 intro M1 hM0 w0 H w p0
 replace hG:=GL.mono hM0 hG
 replace h0:=Rep.mono hM0 _ _ h0
 replace q0:=λj v h=>hM0.cell (q0 j v h)
 obtain⟨Z1,P1,Z2,P2,rfl,B1,B2⟩:=TF0.opn h0
 refine Re 15 Tryz.func61 rfl λa0 f0=>RR (Ye f0 1 λ_ f=>RR (Y f 3 λ_ f=>Y15 f p0 q0 0 rfl λ_ f=>Y f 2 λ_ f=>?_))
 rcases cE hF with⟨B3,F1⟩|⟨B3,F3⟩
 ·have U1:=dI.1 B3
  have f:=f.st 8 (cB B3)
  refine Y f 2 λ_ f=>Z f (Y36 (cs:=(lTF0 d0 Z1 P1 Z2 P2)) rfl (ad:=ad0) (λj v h=>p0.cell (q0 j v h))) λ_ f=>?_
  obtain⟨X1,S1,F2⟩:=bS F1
  refine Y18 f p0 (jp n _ hG _ d0 (TF0.shutx (x:=d0) B1 B2) X1 S1) λW1 N1 _ f=>Ye f 3 λ_ f=>wp_ret (ao f rfl (Lk 2 (bO (decide (X1=0)))) ?_)
  cases sI F2
  exact⟨_,rfl,M1,(mR _),N1,rfl⟩
 ·have U2:=ap dI B3
  have f:=f.st 8 (cB B3)
  refine Ye f 7 λ_ f=>wp_ret (ao f rfl (Lk 2 (bO false)) ?_)
  cases sI F3
  exact⟨_,rfl,M1,(mR _),p0,rfl⟩
def dG (n:Nat) (d0:Bs) (d1:List TE0) (K1:Int):Option (Lp Int (Sum Unit Unit)):=
    bif(decide (K1<((d1.length:Nat):Int))) then
     ((aR d1 K1).bind λX1=>
     (lf n d0 X1.aB).bind λX2=>
     (kf n X1.fV X2.1.ab).bind λX3=>
     ((bif X1.az then
      (bif(!(decide (X2.1.ab=2))) then
       ((gY n X1.fV).bind λX4=>
       some ((X4)))
      else
       some ((false)))
       else
        some ((X3)):Option Bool)).bind λG1=>
     bif !X2.2 then
      (some (.br (.inl ())))
     else
      bif !G1 then
       (some (.br (.inl ())))
      else
       bif(decide ((0:Int)<K1)) then
        (aZ (inR .i64 (K1-1))<|
        (aR d1 (K1-1)).bind λX5=>
        bif(Op.bytesLess X1.aB X5.aB||X1.aB==X5.aB) then
         (some (.br (.inl ())))
        else
         aZ (inR .i64 (K1+1))<|
         some (.nx (K1+1)))
       else
        aZ (inR .i64 (K1+1))<|
        some (.nx (K1+1)))
    else
     some (.br (.inr ()))
def cO (n:Nat) (d0:Bs) (d1:List TE0):Option Int:=
 bif(!(kindIn d0)) then
  (some ((90:Int)))
 else
  (aN (dG n d0 d1) n (0:Int)).bind λQ6=>
  (match Q6 with
  |.inl G2=>some ((91:Int))
  |.inr G3=>some ((0:Int)))
set_option maxRecDepth 20000 in
theorem dH (n:Nat) (M:Mem) (hG:GL M) (d0:Bs) (A1:Oa) (cap1:Nat) (d1:List TE0) (h1:Sli M 8 aY A1 cap1 d1) (r:Int) (hF:cO n d0 d1=some r):Ok Tryz.prog M 44 [S d0,sL A1 d1 cap1] (λ_ v=>v=iL r):=by
 unfold cO at hF
 intro M1 hM0 w0 H w p0
 replace hG:=GL.mono hM0 hG
 replace h1:=h1.mono hM0
 refine Re 69 Tryz.func44 rfl λa0 f0=>RR (Ye f0 1 λ_ f=>ag (RR (Y16 f p0 (all_ok _) λ_ V1 W1 J1 N1 jO _ f=>?_)))
 obtain⟨Q1,Q2,Q3,Q4,Q5,rfl,hA_1⟩:=jO
 refine Y f 1 λ_ f=>Z (v:=.tuple #[.map (blkOf Q2 Q3 Q4 Q5 d0),bO (kindIn d0)]) f (X_all2 (k:=d0) (kt:=9) (et:=106) hA_1 N1 rfl kr kr kr (strKey kr) kr) λ_ f=>Ye f 5 λ_ f=>RR (Ye f 2 λ_ f=>RcF f hF (λB1 F1=>?_) λB1 F2=>?_)
 ·have U1: (kindIn d0)=false:=by simpa using B1
  refine RR (Ye f 1 λ_ f=>wp_ret (aS (ao f rfl (Lk 4 (iL 90)) ?_)))
  cases sI F1
  exact⟨_,rfl,V1,J1,N1,rfl⟩
 ·have U2: (kindIn d0)=true:=by simpa using B1
  refine St (ag (RR (Ye f 3 λ_ f=>wp_block ?_)))
  obtain⟨Q6,bH,F3⟩:=bS F2
  refine wp_mono (Q:=λe a w=>(e=.ret∧(∃G2:Unit,Q6=.inl G2∧∃V6:Mem,V1.le V6∧Frm 69 [(4,iL 91)] a∧Hp w0 V6 (H) w))∨(e=.exit 0∧(∃G3:Unit,Q6=.inr G3∧∃V7:Mem,V1.le V7∧Frm 69 [] a∧Hp w0 V7 (H) w))) (bu (n:=69) (w0:=w0) (M:=V1) (λ (I1,K1)=>[(0,S d0),(1,sL A1 d1 cap1),(20,sL A1 d1 cap1),(21,iL ((d1.length:Nat):Int)),(22,iL K1)]) (λ (I1,K1)=>(H)) (λ (I1,K1) MM=>aN (dG n d0 d1) I1 K1=some Q6) (λ (I1,K1)=>I1) (n,(0:Int)) (f.kp) N1 bH ?_) ?_
  ·rintro⟨I1,K1⟩ V2 _ W2 J2 dc f N2
   have bI:=dc
   obtain⟨I2,jP,rfl,be,T1⟩:=aT bI
   unfold dG at be
   refine RR (Ye f 1 λ_ f=>ag (RcF f be (λB2 F4=>?_) λB2 F26=>?_))
   ·have U3:=dI.1 B2
    refine St (ag (wp_block (RR (Y f 1 λ_ f=>?_))))
    obtain⟨X1,S1,F5⟩:=bS F4
    obtain⟨C1,cP,dS,-,D1,R1⟩:=Sli.at_ (h1.mono (J1.trans J2)) S1
    obtain⟨Z1,P1,Z2,P2,rfl,B3,B4⟩:=TE0.opn D1
    refine Z f (Y34 dS rfl (len:=d1.length) (cap:=cap1) (k:=.i64) (i:=K1) (e:=75) (sz:=8) (aF S1) (aE S1)) λ_ f=>Z f (Y36 (cs:=(lTE0 X1 Z1 P1 Z2 P2)) rfl (ad:=C1.add (K1.toNat*8)) (λj v h=>N2.cell (R1 j v h))) λ_ f=>Y12 f N2 (.cells #[S [],bO false,iB 0,bO false,iL 0,S [],Sn,Sn] 75 (0,0)) λQ7 W3 N3 _ f=>Y f 1 λ_ f=>Ys (lTE0 X1 Z1 P1 Z2 P2) (aTE0 X1 Z1 P1 Z2 P2) f N3 rfl rfl λW4 N4 _ f=>eT (RR (Y f 2 λ_ f=>Z f (Y35 (v:=S X1.aB) rfl (ad:=⟨Q7,0,none⟩) (N4.ownCell 0 rfl 0)) λ_ f=>?_))
    obtain⟨X2,S2,F6⟩:=bS F5
    refine Y16 f N4 (rF n _ (GL.mono (J1.trans J2) hG) d0 X1.aB X2 S2) λ_ V3 W5 J3 N5 sj _ f=>?_
    obtain⟨jX,rfl,D2⟩:=sj
    obtain rfl:=TH0.opn D2
    refine Y f 3 λ_ f=>Y12 f N5 (.cells #[S [],iB 0,bO false] 111 (0,0)) λQ8 W6 N6 _ f=>Ys (lTH0 X2.1) (aTH0 X2.1) f N6 rfl rfl λW7 N7 _ f=>Ye f 1 λ_ f=>RR (Y f 2 λ_ f=>Z f (Y35 (v:=iB X2.1.ab) rfl (ad:=⟨Q8,1,none⟩) (N7.ownCell 0 rfl 1)) λ_ f=>?_)
    have N8:=N7.pl [1]
    obtain⟨V4,J4,N9,R2⟩:=N8.fzOwn
    obtain⟨X3,S3,F7⟩:=bS F6
    refine Y18 f N9 (qw n _ (GL.mono (((J1.trans J2).trans J3).trans J4) hG) (⟨Q7,2,none⟩) (lTF0 X1.fV Z1 P1 Z2 P2) X1.fV (TF0.shutx (x:=X1.fV) (B3.mono (J3.trans J4)) (B4.mono (J3.trans J4))) (gE (R2) 2 rfl) X2.1.ab X3 S3) λW8 N10 _ f=>Ye f 1 λ_ f=>ag (RR (Y f 1 λ_ f=>Y15 f N10 R2 1 rfl λ_ f=>eT ?_))
    obtain⟨cX,bX,F8⟩:=bS F7
    refine bj (λa_37 W10=>∃G1:Bool,cX=G1∧∃V5:Mem,V4.le V5∧Frm 69 [(0,S d0),(1,sL A1 d1 cap1),(7,iL K1),(8,pP Q7),(10,bO X2.2),(11,bO G1),(20,sL A1 d1 cap1),(21,iL ((d1.length:Nat):Int)),(22,iL K1)] a_37∧Hp w0 V5 ((Ent.obj Q8 (.cells (aTH0 X2.1) 111 (0,0)))::H) W10) ?_ ?_
    ·refine RcF f bX (λB5 F9=>?_) λB5 F13=>?_
     ·refine aI (Y f 1 λ_ f=>Z f (Y35 (v:=iB X2.1.ab) rfl (ad:=⟨Q8,1,none⟩) (N10.ownCell 0 rfl 1)) λ_ f=>Y f 2 λ_ f=>?_)
      rcases cE F9 with⟨B6,F10⟩|⟨B6,F12⟩
      ·have U5: ¬ (X2.1.ab=2):=(av dI).1 B6
       have f:=f.st 43 (cB B6)
       refine Y f 1 λ_ f=>?_
       obtain⟨X4,S4,F11⟩:=bS F10
       refine Y18 f N10 (qx n _ (GL.mono (((J1.trans J2).trans J3).trans J4) hG) ((⟨Q7,0,none⟩:Addr).add 2) (lTF0 X1.fV Z1 P1 Z2 P2) X1.fV (TF0.shutx (x:=X1.fV) (B3.mono (J3.trans J4)) (B4.mono (J3.trans J4))) (gE (R2) 2 rfl) X4 S4) λW9 N11 _ f=>Ye f 2 λ_ f=>?_
       exact⟨(X4),(sI F11).symm,V4,(mR _),f.kp,N11⟩
      ·have U6: ¬ (¬ (X2.1.ab=2)):=ap (av dI) B6
       have f:=f.st 43 (cB B6)
       refine Ye f 4 λ_ f=>?_
       exact⟨(false),(sI F12).symm,V4,(mR _),f.kp,N10⟩
     ·refine St ?_
      exact⟨(X3),(sI F13).symm,V4,(mR _),f.kp,N10⟩
    ·rintro a_37 W10 ⟨G1,dg,V5,J5,f,N12⟩
     subst cX
     refine aH (ag (cR N12 kr kr (Y5 default f 3 λ_ f=>?_)))
     rcases cE F8 with⟨B7,F14⟩|⟨B7,F15⟩
     ·have U8: (X2.2)=false:=by simpa using B7
      have f:=f.st 49 (cB B7)
      refine Y5 default f 18 λ_ f=>bW rfl ?_
      intro W11 N13
      refine aH (Y8 f (RR (Ye f 1 λ_ f=>wp_ret (bV (aS (aS ?_))))))
      cases sI F14
      exact .inl ⟨rfl,(),(sI T1).symm,V5,(((J2.trans J3).trans J4).trans J5),f.kp,(N13.dropN 1)⟩
     ·have U9: (X2.2)=true:=by simpa using B7
      have f:=f.st 49 (cB B7)
      refine Y5 default f 4 λ_ f=>?_
      rcases cE F15 with⟨B8,F16⟩|⟨B8,F17⟩
      ·have U10: (G1)=false:=by simpa using B8
       have f:=f.st 53 (cB B8)
       refine Y5 default f 14 λ_ f=>bW rfl ?_
       intro W12 N14
       refine aH (Y8 f (RR (Ye f 1 λ_ f=>wp_ret (bV (aS (aS ?_))))))
       cases sI F16
       exact .inl ⟨rfl,(),(sI T1).symm,V5,(((J2.trans J3).trans J4).trans J5),f.kp,(N14.dropN 1)⟩
      ·have U11: (G1)=true:=by simpa using B8
       have f:=f.st 53 (cB B8)
       refine Y5 default f 3 λ_ f=>?_
       rcases cE F17 with⟨B9,F18⟩|⟨B9,F24⟩
       ·have U12:=dI.1 B9
        have f:=f.st 56 (cB B9)
        refine Y5 default f 1 λ_ f=>Y4 f (fzu J5 R2) 0 rfl λ_ f=>Y5 default f 2 λ_ f=>?_
        obtain⟨O1,F19⟩:=nS F18
        refine Y2 (v:=iL (IntKind.wrap .i64 (K1-1))) f (λ_ pq=>by kernel_rfl) λ_ f=>?_
        have f:=f.st 61 (iW O1)
        obtain⟨X5,S5,F20⟩:=bS F19
        obtain⟨C2,c_3,lp,-,D3,R3⟩:=Sli.at_ (h1.mono ((((J1.trans J2).trans J3).trans J4).trans J5)) S5
        obtain⟨Z3,P3,Z4,P4,rfl,B10,B11⟩:=TE0.opn D3
        refine Y2 (v:=Pa (C2.add ((K1-1).toNat*8))) f (λ_ pq=>Y34 lp rfl (len:=d1.length) (cap:=cap1) (k:=.i64) (i:=K1-1) (e:=75) (sz:=8) (aF S5) (aE S5)) λ_ f=>Y5 default f 1 λ_ f=>Y4 f R3 0 rfl λ_ f=>Y2 (v:=bO (Op.bytesLess X1.aB X5.aB||X1.aB==X5.aB)) f (λ_ pq=>X_strle rfl (l:=X1.aB) (m:=X5.aB) kr kr) λ_ f=>Y5 default f 2 λ_ f=>bW rfl ?_
        intro W13 N15
        refine aH (RcF f F20 (λB12 F21=>?_) λB12 F22=>?_)
        ·refine RR (Ye f 1 λ_ f=>wp_ret (bV (aS (aS ?_))))
         cases sI F21
         exact .inl ⟨rfl,(),(sI T1).symm,V5,(((J2.trans J3).trans J4).trans J5),f.kp,(N15.dropN 1)⟩
        ·refine wp_skip (cG (aH (aI ?_)))
         obtain⟨O2,F23⟩:=nS F22
         refine Y f 1 λ_ f=>?_
         have f:=f.st 68 (iW O2)
         refine Ye f 1 λ_ f=>?_
         cases sI F23
         exact⟨⟨I2,K1+1⟩,Nat.lt_succ_self _,V5,(((J2.trans J3).trans J4).trans J5),T1,f.kp,(N15.dropN 1)⟩
       ·have U15:=ap dI B9
        have f:=f.st 56 (cB B9)
        refine Y5 default f 11 λ_ f=>bW rfl ?_
        intro W14 N16
        refine aH (Y7 f (wp_skip (cG (aH (aI ?_)))))
        obtain⟨O3,F25⟩:=nS F24
        refine Y f 1 λ_ f=>?_
        have f:=f.st 68 (iW O3)
        refine Ye f 1 λ_ f=>?_
        cases sI F25
        exact⟨⟨I2,K1+1⟩,Nat.lt_succ_self _,V5,(((J2.trans J3).trans J4).trans J5),T1,f.kp,(N16.dropN 1)⟩
   ·have U16:=ap dI B2
    refine wp_exit (co (co ?_))
    cases sI F26
    exact .inr ⟨rfl,(),(sI T1).symm,V2,J2,f.kp,N2⟩
  ·rintro _ _ W17 (⟨rfl,G2,rfl,V6,J6,f,N17⟩|⟨rfl,G3,rfl,V7,J7,f,N18⟩)
   ·refine bV (aS (ao f rfl (Lk 4 (iL 91)) ?_))
    cases sI F3
    exact⟨_,rfl,V6,(J1.trans J6),N17,rfl⟩
   ·refine iq (aH (RR (Ye f 1 λ_ f=>wp_ret (ao f rfl (Lk 4 (iL 0)) ?_))))
    cases sI F3
    exact⟨_,rfl,V7,(J1.trans J7),N18,rfl⟩
theorem pK {n:Nat} {α:Type} (d:α) (q:α→Bool) (xs:List α) {step:Int→Option (Lp Int (Sum Int Unit))} (hd: ∀k:Nat,k<xs.length→step (k:Int)=some (if q (xs.getD k d) then .br (.inl (k:Int)) else .nx ((k:Int)+1))) (he:step ((xs.length:Nat):Int)=some (.br (.inr ()))) (hn:xs.length<n):
 ∃b,aN step n 0=some b∧(match b with|.inl i=>0≤i∧xs.any q=true|.inr ()=>xs.any q=false):=by
 refine cj (λk s=>s=(k:Int)∧∀x∈xs.take k,q x=false) _ xs.length ⟨rfl,by simp⟩ (λk s hk hI=>?_) (λs hI=>?_) hn
 ·obtain⟨rfl,hf⟩:=hI
  have hx:xs[k]? =some xs[k]:=List.getElem?_eq_getElem hk
  have hg:xs.getD k d=xs[k]:=by simp[List.getD,hk]
  rw[hd k hk,hg]
  cases hv:q xs[k] with
  |false=>
   refine .inl ⟨_,rfl,by omega,λy hy=>?_⟩
   rcases(dm hx y).1 hy with h|h
   ·exact hf y h
   ·rw[h];exact hv
  |true=>exact .inr ⟨_,rfl,by omega,List.any_eq_true.2 ⟨_,List.getElem_mem hk,hv⟩⟩
 ·obtain⟨rfl,hf⟩:=hI
  rw[List.take_length] at hf
  refine⟨_,he,?_⟩
  dsimp only
  rw[List.any_eq_false]
  intro x hx
  simp[hf x hx]
def wordV (t:Bs):Bool:=bif decide ((t.length:Int)≤64) then Lib.validD t else false
theorem word_run {n:Nat} {t:Bs}:kG n t=some (wordV t):=by
 unfold kG wordV
 by_cases h: (t.length:Int)≤64
 ·rw[dT h,cT,cT,pF (by omega),bnd]
 ·rw[dF h,cF,cF]
def fitV (v:TF0) (k:Int):Bool:=bif !decide (v.ab=k) then false else decide (checkV v=0)
def wordy (v:TF0):Bool:=bif fitV v 3 then wordV v.ah else false
def valueV (v:TF0) (k:Int):Bool:=bif fitV v k then(bif decide (k=3) then wordV v.ah else bif decide (k=4) then(bif decide (((v.ac.length:Nat):Int)≤8) then !(v.ac.any λx=> !wordy x) else false) else true) else false
theorem sv {n:Nat} (hn:6000<n) {rc:TF0→Int→Option Bool} {l:List TF0} (hl:l.length≤8) (h: ∀x∈l,rc x 3=some (wordy x)):bx n rc l=some (l.any λx=> !wordy x):=by
 unfold bx bM
 obtain⟨b,hb,hp⟩:=pK (n:=n) jU (λx=> !wordy x) l (step:=bl n rc l) (λk hk=>by
  unfold bl gX
  have hm:l.getD k jU∈l:=by simp[List.getD,hk]
  rw[dT (by omega),cT,bf jU hk,bnd,h _ hm,bnd,bnd]
  cases wordy (l.getD k jU) with
  |true=>rw[nT,cF,aU (by omega) (by omega)];rfl
  |false=>rw[nF,cT];rfl) (by
  unfold bl
  rw[dF (by omega),cF]) (by omega)
 rw[hb,bnd]
 cases b with
 |inl i=>
  obtain⟨h0,h1⟩:=hp
  dsimp only
  rw[bnd,h1,dT h0]
 |inr u=>
  have h1:l.any (λx=> !wordy x)=false:=hp
  dsimp only
  rw[bnd,h1]
  rfl
theorem qm {n:Nat} (hn:6000<n) {v:TF0} (h:Fine v) (k:Int) {rc:TF0→Int→Option Bool} (hrec:k=4→∀x∈v.ac,rc x 3=some (wordy x)):gL n rc v k=some (valueV v k):=by
 unfold gL valueV fitV
 by_cases hk:v.ab=k
 ·rw[dT hk,nT,cF,cF,nv hn h,bnd,bnd]
  by_cases hc:checkV v=0
  ·rw[dT hc,nT,cF,cT]
   by_cases h3:k=3
   ·rw[dT h3,cT,cT,word_run,bnd]
   ·rw[dF h3,cF,cF]
    by_cases h4:k=4
    ·rw[dT h4,cT,cT]
     by_cases h8: ((v.ac.length:Nat):Int)≤8
     ·rw[dT h8,cT,cT,sv hn (by omega) (hrec h4),bnd]
     ·rw[dF h8,cF,cF]
    ·rw[dF h4,cF,cF]
  ·rw[dF hc,nF,cT,cF]
 ·rw[dF hk,nF,cT,cT,bnd,cT,cF]
theorem value_run {n:Nat} (hn:6000<n) {v:TF0} (h:Fine v) (k:Int):kf n v k=some (valueV v k):=by
 unfold kf
 obtain⟨m,rfl⟩: ∃m,n=m+2:=⟨n-2,by omega⟩
 refine qm hn h k λ_ x hx=>?_
 exact qm hn (h.part hx) 3 (λe=>absurd e (by decide))
def emptyV (v:TF0):Bool:=bif decide (v.ab=0) then decide (checkV v=0) else false
theorem empty_run {n:Nat} (hn:6000<n) {v:TF0} (h:Fine v):gY n v=some (emptyV v):=by
 unfold gY emptyV
 by_cases hk:v.ab=0
 ·rw[dT hk,cT,cT,nv hn h,bnd]
 ·rw[dF hk,cF,cF]
def specOf (kind prop:Bs):TH0:=(bG kind prop).getD cd
def fitG (kind:Bs) (g:TE0):Bool:=bif g.az then(bif !decide ((specOf kind g.aB).ab=2) then emptyV g.fV else false) else valueV g.fV (specOf kind g.aB).ab
def okG (kind:Bs) (g:TE0):Bool:=(bG kind g.aB).isSome&&fitG kind g
def upG (gs:List TE0) (k:Nat):Bool:=decide (k=0)||Op.bytesLess (gs.getD (k-1) aC).aB (gs.getD k aC).aB
theorem cb_flip (a b:Bs): (Lib.compareBytes a b<0∨a=b)↔ ¬Lib.compareBytes b a<0:=by
 have h:=iu a b
 constructor
 ·rintro(h1|rfl)
  ·omega
  ·rw[nt];omega
 ·intro h1
  by_cases e:Lib.compareBytes a b=0
  ·exact .inr (rd _ _ e)
  ·exact .inl (by omega)
theorem ti (a b:Bs): (Op.bytesLess a b||a==b)= !Op.bytesLess b a:=by
 have h1:=kY a b
 have h2:=kY b a
 rw[h1,h2]
 rw[Bool.eq_iff_iff]
 simp only[Bool.or_eq_true,decide_eq_true_eq,beq_iff_eq,Bool.not_eq_true',decide_eq_false_iff_not]
 exact cb_flip a b
def checkG (kind:Bs) (gs:List TE0):Int:=bif !kindIn kind then 90 else bif(List.range gs.length).any (λk=> !(okG kind (gs.getD k aC)&&upG gs k)) then 91 else 0
theorem dJ {n:Nat} (hn:6000<n) (kind:Bs) {gs:List TE0} (hl:gs.length≤60) (hf: ∀g∈gs,Fine g.fV):cO n kind gs=some (checkG kind gs):=by
 unfold cO checkG
 cases hk:kindIn kind with
 |false=>rw[nF,cT,cT]
 |true=>
  rw[nT,cF,cF]
  have hlp:=jv (n:=n) (step:=dG n kind gs) (λk=> !(okG kind (gs.getD k aC)&&upG gs k)) gs.length (.inl ()) (.inr ()) (λk hk=>by
   unfold dG lf
   have hm:gs.getD k aC∈gs:=by simp[List.getD,hk]
   rw[dT (by omega),cT,bf aC hk,bnd,bnd,value_run hn (hf _ hm),bnd]
   have e: (bif(gs.getD k aC).az then(bif !decide ((specOf kind (gs.getD k aC).aB).ab=2) then(gY n (gs.getD k aC).fV).bind λx=>some x else some false) else some (valueV (gs.getD k aC).fV (specOf kind (gs.getD k aC).aB).ab):Option Bool)=some (fitG kind (gs.getD k aC)):=by
    unfold fitG
    cases (gs.getD k aC).az with
    |false=>rw[cF,cF]
    |true=>
     rw[cT,cT]
     cases decide ((specOf kind (gs.getD k aC).aB).ab=2) with
     |true=>rw[nT,cF,cF]
     |false=>rw[nF,cT,cT,empty_run hn (hf _ hm),bnd]
   unfold specOf at e
   dsimp only
   rw[e,bnd]
   unfold okG
   cases (bG kind (gs.getD k aC).aB).isSome with
   |false=>rw[nF,cT];rfl
   |true=>
    rw[nT,cF]
    cases fitG kind (gs.getD k aC) with
    |false=>rw[nF,cT];rfl
    |true=>
     rw[nT,cF]
     unfold upG
     by_cases h0:k=0
     ·subst h0
      rw[dF (by decide),cF,aU (by omega) (by omega)]
      rfl
     ·have hk1:k-1<gs.length:=by omega
      have e1: (k:Int)-1=((k-1:Nat):Int):=by omega
      rw[dT (by omega: (0:Int)<(k:Int)),cT,aU (by omega) (by omega),e1,bf aC hk1,bnd,ti,dF h0]
      cases Op.bytesLess (gs.getD (k-1) aC).aB (gs.getD k aC).aB with
      |true=>rw[nT,cF,aU (by omega) (by omega)];rfl
      |false=>rw[nF,cT];rfl) (by
   unfold dG
   rw[dF (by omega),cF]) (by omega)
  rw[hlp,bnd]
  cases (List.range gs.length).any (λk=> !(okG kind (gs.getD k aC)&&upG gs k)) with
  |true=>rw[cT,cT]
  |false=>rw[cF,cF]
theorem great9 {n:Nat} (hn:6000<n) (gs:List TE0): ∃g,jD n gs=some g∧(g=false→gs.length≤60∧∀x∈gs,x.aB.length≤200∧Fine x.fV):=by
 unfold jD
 by_cases hl: (60:Int)<((gs.length:Nat):Int)
 ·exact⟨true,by rw[dT hl,cT],λh=>by cases h⟩
 rw[dF hl,cF]
 obtain⟨b,hb,hp⟩:=cj (step:=ey n gs) (n:=n) (s0:=(0:Int)) (λk s=>s=(k:Int)∧∀x∈gs.take k,x.aB.length≤200∧Fine x.fV)
  (λb=>match b with|.inl _=>True|.inr _=>∀x∈gs,x.aB.length≤200∧Fine x.fV) gs.length ⟨rfl,by simp⟩
  (λk s hk hI=>by
   obtain⟨rfl,hf⟩:=hI
   have hx:gs[k]? =some gs[k]:=List.getElem?_eq_getElem hk
   have hg:gs.getD k aC=gs[k]:=by simp[List.getD,hk]
   unfold ey
   rw[dT (by omega),cT,bf aC hk,bnd,hg]
   by_cases h2: (200:Int)<(gs[k].aB.length:Int)
   ·exact .inr ⟨_,by rw[dT h2,cT],trivial⟩
   obtain⟨g,hg1,hg2⟩:=great_fine hn gs[k].fV
   rw[dF h2,cF,bnd]
   have ex: (⟨gs[k].fV.ab,(gs[k].fV.ak),gs[k].fV.an,gs[k].fV.ah,gs[k].fV.ac,gs[k].fV.ae⟩:TF0)=gs[k].fV:=by cases gs[k].fV;rfl
   rw[ex,hg1,bnd]
   cases g with
   |true=>exact .inr ⟨_,cT _ _,trivial⟩
   |false=>
    rw[cF,aU (by omega) (by omega)]
    refine .inl ⟨_,rfl,by omega,λy hy=>?_⟩
    rcases(dm hx y).1 hy with h|h
    ·exact hf y h
    ·rw[h];exact⟨by omega,(hg2 rfl).1⟩)
  (λs hI=>by
   obtain⟨rfl,hf⟩:=hI
   rw[List.take_length] at hf
   unfold ey
   rw[dF (by omega),cF]
   exact⟨_,rfl,hf⟩) (by omega)
 rw[hb,bnd]
 cases b with
 |inl u=>exact⟨true,rfl,λh=>by cases h⟩
 |inr u=>exact⟨false,rfl,λ_=>⟨by omega,hp⟩⟩
def dn (n:Nat) (d0:List Int) (K1:Int):Option (Lp Int (Sum Int Unit)):=
    bif(decide (K1<((d0.length:Nat):Int))) then
     ((aR d0 K1).bind λX1=>
     bif(!(decide (X1=0))) then
      (some (.br (.inl X1)))
     else
      aZ (inR .i64 (K1+1))<|
      some (.nx (K1+1)))
    else
     some (.br (.inr ()))
def mM (n:Nat) (d0:List Int):Option Int:=
 (aN (dn n d0) n (0:Int)).bind λQ1=>
 (match Q1 with
 |.inl G1=>some (G1)
 |.inr G2=>some ((0:Int)))
theorem cmp_Or_2_ok (n:Nat) (M:Mem) (hG:GL M) (A0:Oa) (cap0:Nat) (d0:List Int) (h0:Sli M 1 (Dat.int .i64) A0 cap0 d0) (r:Int) (hF:mM n d0=some r):Ok Tryz.prog M 87 [sL A0 d0 cap0] (λ_ v=>v=iL r):=by
 unfold mM at hF
 intro M1 hM0 w0 H w p0
 replace hG:=GL.mono hM0 hG
 replace h0:=h0.mono hM0
 refine Re 18 Tryz.func87 rfl λa0 f0=>RR (Ye f0 1 λ_ f=>RR (Ye f 1 λ_ f=>ag (RR (Ye f 3 λ_ f=>wp_block ?_))))
 obtain⟨Q1,bH,F1⟩:=bS hF
 refine wp_mono (Q:=λe a w=>(e=.ret∧(∃G1:Int,Q1=.inl G1∧∃V2:Mem,M1.le V2∧Frm 18 [(2,iL G1)] a∧Hp w0 V2 (H) w))∨(e=.exit 0∧(∃G2:Unit,Q1=.inr G2∧∃V3:Mem,M1.le V3∧Frm 18 [(3,iL 0)] a∧Hp w0 V3 (H) w))) (bu (n:=18) (w0:=w0) (M:=M1) (λ (I1,K1)=>[(3,iL 0),(6,sL A0 d0 cap0),(7,iL ((d0.length:Nat):Int)),(8,iL K1)]) (λ (I1,K1)=>(H)) (λ (I1,K1) MM=>aN (dn n d0) I1 K1=some Q1) (λ (I1,K1)=>I1) (n,(0:Int)) (f.kp) p0 bH ?_) ?_
 ·rintro⟨I1,K1⟩ V1 _ W1 J1 dc f N1
  have bI:=dc
  obtain⟨I2,jP,rfl,be,T1⟩:=aT bI
  unfold dn at be
  refine RR (Ye f 1 λ_ f=>ag (RcF f be (λB1 F2=>?_) λB1 F7=>?_))
  ·have U1:=dI.1 B1
   refine St (ag (wp_block (RR ?_)))
   obtain⟨X1,S1,F3⟩:=bS F2
   obtain⟨C1,cP,dS,-,D1,R1⟩:=Sli.at_ (h0.mono J1) S1
   obtain rfl:cP=[iL X1]:=D1
   refine Z f (Y34 dS rfl (len:=d0.length) (cap:=cap0) (k:=.i64) (i:=K1) (e:=35) (sz:=1) (aF S1) (aE S1)) λ_ f=>Y15 f N1 R1 0 rfl λ_ f=>Ye f 1 λ_ f=>RR (Ye f 3 λ_ f=>RcF f F3 (λB2 F4=>?_) λB2 F5=>?_)
   ·have U2: ¬ (X1=0):=(av dI).1 B2
    refine RR (Ye f 2 λ_ f=>wp_ret (bV (aS (aS ?_))))
    cases sI F4
    exact .inl ⟨rfl,X1,(sI T1).symm,V1,J1,f.kp,N1⟩
   ·have U3: ¬ (¬ (X1=0)):=ap (av dI) B2
    refine wp_skip (cG (aH (aI ?_)))
    obtain⟨O1,F6⟩:=nS F5
    refine Y f 1 λ_ f=>?_
    have f:=f.st 16 (iW O1)
    refine Ye f 1 λ_ f=>?_
    cases sI F6
    exact⟨⟨I2,K1+1⟩,Nat.lt_succ_self _,V1,J1,T1,f.kp,N1⟩
  ·have U4:=ap dI B1
   refine wp_exit (co (co ?_))
   cases sI F7
   exact .inr ⟨rfl,(),(sI T1).symm,V1,J1,f.kp,N1⟩
 ·rintro _ _ W4 (⟨rfl,G1,rfl,V2,J2,f,N2⟩|⟨rfl,G2,rfl,V3,J3,f,N3⟩)
  ·refine bV (aS (ao f rfl (Lk 2 (iL G1)) ?_))
   cases sI F1
   exact⟨_,rfl,V2,J2,N2,rfl⟩
  ·refine iq (aH (RR (Ye f 2 λ_ f=>wp_ret (ao f rfl (Lk 2 (iL 0)) ?_))))
   cases sI F1
   exact⟨_,rfl,V3,J3,N3,rfl⟩
def iw (n:Nat) (d0:TE0):Option Bool:=
 some ((d0.az))
theorem oo (n:Nat) (M:Mem) (hG:GL M) (c0:Lv) (d0:TE0) (h0:Rep M (aY d0) c0) (r:Bool) (hF:iw n d0=some r):Ok Tryz.prog M 88 [.agg c0.toArray] (λ_ v=>v=bO r):=by
 unfold iw at hF
 intro M1 hM0 w0 H w p0
 replace hG:=GL.mono hM0 hG
 replace h0:=Rep.mono hM0 _ _ h0
 obtain⟨Z1,P1,Z2,P2,rfl,B1,B2⟩:=TE0.opn h0
 refine Re 5 Tryz.func88 rfl λa0 f0=>RR (Y13 (cs:=(aTE0 d0 Z1 P1 Z2 P2)) (T:=75) f0 p0 λQ1 V1 W1 J1 R1 N1 _ f=>?_)
 have R2:=bR R1
 refine Ye f 1 λ_ f=>RR (Y f 1 λ_ f=>Y15 f N1 R2 1 rfl λ_ f=>Ye f 1 λ_ f=>wp_ret (ao f rfl (Lk 2 (bO d0.az)) ?_))
 cases sI hF
 exact⟨_,rfl,V1,J1,N1,rfl⟩
def bt (n:Nat) (d0:List TE0) (K1:Int):Option (Lp Int (Sum Int Unit)):=
    bif(decide (K1<((d0.length:Nat):Int))) then
     ((aR d0 K1).bind λX1=>
     (iw n X1).bind λX2=>
     bif X2 then
      (some (.br (.inl K1)))
     else
      aZ (inR .i64 (K1+1))<|
      some (.nx (K1+1)))
    else
     some (.br (.inr ()))
def bQ (n:Nat) (d0:List TE0):Option Int:=
 (aN (bt n d0) n (0:Int)).bind λQ1=>
 (match Q1 with
 |.inl G1=>some (G1)
 |.inr G2=>some ((-1:Int)))
theorem gN (n:Nat) (M:Mem) (hG:GL M) (A0:Oa) (cap0:Nat) (d0:List TE0) (h0:Sli M 8 aY A0 cap0 d0) (r:Int) (hF:bQ n d0=some r):Ok Tryz.prog M 57 [sL A0 d0 cap0,.func (.func 88) #[] #[]] (λ_ v=>v=iL r):=by
 unfold bQ at hF
 intro M1 hM0 w0 H w p0
 replace hG:=GL.mono hM0 hG
 replace h0:=h0.mono hM0
 refine Re 19 Tryz.func57 rfl λa0 f0=>RR (Ye f0 1 λ_ f=>ag (RR (Ye f 3 λ_ f=>wp_block ?_)))
 obtain⟨Q1,bH,F1⟩:=bS hF
 refine wp_mono (Q:=λe a w=>(e=.ret∧(∃G1:Int,Q1=.inl G1∧∃V2:Mem,M1.le V2∧Frm 19 [(4,iL G1)] a∧Hp w0 V2 (H) w))∨(e=.exit 0∧(∃G2:Unit,Q1=.inr G2∧∃V3:Mem,M1.le V3∧Frm 19 [] a∧Hp w0 V3 (H) w))) (bu (n:=19) (w0:=w0) (M:=M1) (λ (I1,K1)=>[(0,sL A0 d0 cap0),(1,.func (.func 88) #[] #[]),(7,iL ((d0.length:Nat):Int)),(8,iL K1)]) (λ (I1,K1)=>(H)) (λ (I1,K1) MM=>aN (bt n d0) I1 K1=some Q1) (λ (I1,K1)=>I1) (n,(0:Int)) (f.kp) p0 bH ?_) ?_
 ·rintro⟨I1,K1⟩ V1 _ W1 J1 dc f N1
  have bI:=dc
  obtain⟨I2,jP,rfl,be,T1⟩:=aT bI
  unfold bt at be
  refine RR (Ye f 1 λ_ f=>ag (RcF f be (λB1 F2=>?_) λB1 F8=>?_))
  ·have U1:=dI.1 B1
   refine St (ag (wp_block (RR (Ye f 2 λ_ f=>RR (Y f 3 λ_ f=>?_)))))
   obtain⟨X1,S1,F3⟩:=bS F2
   obtain⟨C1,cP,dS,-,D1,R1⟩:=Sli.at_ (h0.mono J1) S1
   obtain⟨Z1,P1,Z2,P2,rfl,B2,B3⟩:=TE0.opn D1
   refine Z f (Y34 dS rfl (len:=d0.length) (cap:=cap0) (k:=.i64) (i:=K1) (e:=75) (sz:=8) (aF S1) (aE S1)) λ_ f=>Z f (Y36 (cs:=(lTE0 X1 Z1 P1 Z2 P2)) rfl (ad:=C1.add (K1.toNat*8)) (λj v h=>N1.cell (R1 j v h))) λ_ f=>?_
   obtain⟨X2,S2,F4⟩:=bS F3
   refine Y18 f N1 (oo n _ (GL.mono J1 hG) _ X1 (TE0.shutx (x:=X1) B2 B3) X2 S2) λW2 N2 _ f=>eT (RcF f F4 (λB4 F5=>?_) λB4 F6=>?_)
   ·refine RR (Ye f 2 λ_ f=>wp_ret (bV (aS (aS ?_))))
    cases sI F5
    exact .inl ⟨rfl,K1,(sI T1).symm,V1,J1,f.kp,N2⟩
   ·refine wp_skip (cG (aH (aI ?_)))
    obtain⟨O1,F7⟩:=nS F6
    refine Y f 1 λ_ f=>?_
    have f:=f.st 18 (iW O1)
    refine Ye f 1 λ_ f=>?_
    cases sI F7
    exact⟨⟨I2,K1+1⟩,Nat.lt_succ_self _,V1,J1,T1,f.kp,N2⟩
  ·have U4:=ap dI B1
   refine wp_exit (co (co ?_))
   cases sI F8
   exact .inr ⟨rfl,(),(sI T1).symm,V1,J1,f.kp,N1⟩
 ·rintro _ _ W5 (⟨rfl,G1,rfl,V2,J2,f,N3⟩|⟨rfl,G2,rfl,V3,J3,f,N4⟩)
  ·refine bV (aS (ao f rfl (Lk 4 (iL G1)) ?_))
   cases sI F1
   exact⟨_,rfl,V2,J2,N3,rfl⟩
  ·refine iq (aH (RR (Ye f 1 λ_ f=>wp_ret (ao f rfl (Lk 4 (iL (-1))) ?_))))
   cases sI F1
   exact⟨_,rfl,V3,J3,N4,rfl⟩
def bB (n:Nat) (d0:List TE0):Option Bool:=
 (bQ n d0).bind λX1=>
 some ((decide ((0:Int)≤X1)))
theorem eZ (n:Nat) (M:Mem) (hG:GL M) (A0:Oa) (cap0:Nat) (d0:List TE0) (h0:Sli M 8 aY A0 cap0 d0) (r:Bool) (hF:bB n d0=some r):Ok Tryz.prog M 42 [sL A0 d0 cap0,.func (.func 88) #[] #[]] (λ_ v=>v=bO r):=by
 unfold bB at hF
 intro M1 hM0 w0 H w p0
 replace hG:=GL.mono hM0 hG
 replace h0:=h0.mono hM0
 refine Re 9 Tryz.func42 rfl λa0 f0=>RR (Ye f0 1 λ_ f=>RR (Y f 2 λ_ f=>?_))
 obtain⟨X1,S1,F1⟩:=bS hF
 refine Y18 f p0 (gN n _ hG A0 cap0 d0 h0 X1 S1) λW1 N1 _ f=>Ye f 2 λ_ f=>wp_ret (ao f rfl (Lk 4 (bO (decide ((0:Int)≤X1)))) ?_)
 cases sI F1
 exact⟨_,rfl,M1,(mR _),N1,rfl⟩
def dq (n:Nat) (d0:List TE0) (K1:Int× (List (Bs×TE0))):Option (Lp (Int× (List (Bs×TE0))) (List (Bs×TE0))):=
    bif(decide (K1.1<((d0.length:Nat):Int))) then
     ((aR d0 K1.1).bind λX1=>
     aZ (inR .i64 (K1.1+1))<|
     some (.nx (K1.1+1,de K1.2 X1.aB X1)))
    else
     some (.br K1.2)
def gl (n:Nat) (d0:List TE0):Option (List (Bs×TE0)):=
 (aN (dq n d0) n ((0:Int),([]:List (Bs×TE0)))).bind λG1=>
 some (G1)
theorem lC (n:Nat) (M:Mem) (hG:GL M) (A0:Oa) (cap0:Nat) (d0:List TE0) (h0:Sli M 8 aY A0 cap0 d0) (r: (List (Bs×TE0))) (hF:gl n d0=some r):Ok Tryz.prog M 89 [sL A0 d0 cap0] (λM' v=>∃ (b0:Nat) (m0:List (Bs×Value)),v=.map (some b0)∧M' b0=some (bh S idV m0)∧RepMap M' aY r m0):=by
 unfold gl at hF
 intro M1 hM0 w0 H w p0
 replace hG:=GL.mono hM0 hG
 replace h0:=h0.mono hM0
 refine Re 19 Tryz.func89 rfl λa0 f0=>RR (Ye f0 1 λ_ f=>RR (ju S idV f p0 kr kr rfl rfl rfl λo1 W1 N1 _ f=>?_))
 have hm_1:RepMap M1 aY ([]:List (Bs×TE0)) ([]:List (Bs×Value)):=RepMap.nil
 refine Ye f 1 λ_ f=>ag (RR (Ye f 3 λ_ f=>wp_block ?_))
 obtain⟨Q1,bH,F1⟩:=bS hF
 refine wp_mono (Q:=λe a w=>(e=.exit 0∧(∃G1: (List (Bs×TE0)),Q1=G1∧∃V2:Mem,M1.le V2∧∃ (I4:List (Bs×Value)),RepMap V2 aY G1 I4∧Frm 19 [(3,.map (some o1))] a∧Hp w0 V2 ((Ent.obj o1 (bh S idV I4))::H) w))) (bu (n:=19) (w0:=w0) (M:=M1) (λ (I1,K1,I2)=>[(3,.map (some o1)),(7,sL A0 d0 cap0),(8,iL ((d0.length:Nat):Int)),(9,iL K1.1)]) (λ (I1,K1,I2)=>((Ent.obj o1 (bh S idV I2))::H)) (λ (I1,K1,I2) MM=>aN (dq n d0) I1 K1=some Q1∧RepMap MM aY K1.2 I2) (λ (I1,K1,I2)=>I1) (n,((0:Int),([]:List (Bs×TE0))),([]:List (Bs×Value))) (f.kp) N1 ⟨bH,hm_1⟩ ?_) ?_
 ·rintro⟨I1,K1,I2⟩ V1 _ W2 J1 dc f N2
  obtain⟨bI,hm_2⟩:=dc
  obtain⟨I3,jP,rfl,be,T1⟩:=aT bI
  unfold dq at be
  refine RR (Ye f 1 λ_ f=>ag (RcF f be (λB1 F2=>?_) λB1 F5=>?_))
  ·have U1:=dI.1 B1
   refine St (ag (wp_block (RR ?_)))
   obtain⟨X1,S1,F3⟩:=bS F2
   obtain⟨C1,cP,dS,-,D1,R1⟩:=Sli.at_ (h0.mono J1) S1
   obtain⟨Z1,P1,Z2,P2,rfl,B2,B3⟩:=TE0.opn D1
   refine Z f (Y34 dS rfl (len:=d0.length) (cap:=cap0) (k:=.i64) (i:=K1.1) (e:=75) (sz:=8) (aF S1) (aE S1)) λ_ f=>Z f (Y36 (cs:=(lTE0 X1 Z1 P1 Z2 P2)) rfl (ad:=C1.add (K1.1.toNat*8)) (λj v h=>N2.cell (R1 j v h))) λ_ f=>Y12 f N2 (.cells #[S [],bO false,iB 0,bO false,iL 0,S [],Sn,Sn] 75 (0,0)) λQ2 W3 N3 _ f=>Ys (lTE0 X1 Z1 P1 Z2 P2) (aTE0 X1 Z1 P1 Z2 P2) f N3 rfl rfl λW4 N4 _ f=>eT (aI (Y f 2 λ_ f=>Z f (Y35 (v:=S X1.aB) rfl (ad:=⟨Q2,0,none⟩) (N4.ownCell 0 rfl 0)) λ_ f=>Z f (Y36 (cs:=(lTE0 X1 Z1 P1 Z2 P2)) rfl (ad:=⟨Q2,0,none⟩) (al (N4.ownCell 0 rfl) 0 rfl)) λ_ f=>?_))
   have N5:=N4.pl [1]
   have hm_3:=RepMap.put (k:=X1.aB) (x:=X1) (cs:=(lTE0 X1 Z1 P1 Z2 P2)) (TE0.shutx (x:=X1) B2 B3) hm_2
   refine my (ek:=S) (ev:=idV) (m:=I2) (k:=X1.aB) (v:=.agg (lTE0 X1 Z1 P1 Z2 P2).toArray) (kt:=9) (et:=75) f N5 kr kr rfl (.inl rfl) kr kr kr kr (strKey kr) λW5 N6 _ f=>aA rfl (cG (aH (aI ?_)))
   obtain⟨O1,F4⟩:=nS F3
   refine Y f 1 λ_ f=>?_
   have f:=f.st 17 (iW O1)
   refine Y f 1 λ_ f=>aA rfl ?_
   have N8:=N6.pl [1]
   refine aH ?_
   cases sI F4
   exact⟨⟨I3,(K1.1+1,de K1.2 X1.aB X1),de I2 X1.aB (.agg (lTE0 X1 Z1 P1 Z2 P2).toArray)⟩,Nat.lt_succ_self _,V1,J1,⟨T1,hm_3⟩,f.kp,(N8.dropN 1)⟩
  ·have U2:=ap dI B1
   refine wp_exit (co (co ?_))
   cases sI F5
   exact⟨rfl,K1.2,(sI T1).symm,V1,J1,I2,hm_2,f.kp,N2⟩
 ·rintro _ _ W7 ⟨rfl,G1,hq_,V2,J2,I4,hm_4,f,N7⟩
  subst Q1
  refine iq (aH (RR (Ye f 2 λ_ f=>wp_ret ?_)))
  obtain⟨V3,J3,N9,B4⟩:=N7.fzObj
  refine ao f rfl (Lk 2 (.map (some o1))) ?_
  cases sI F1
  exact⟨_,rfl,V3,(J2.trans J3),N9,⟨o1,I4,rfl,B4,(hm_4.mono J3)⟩⟩
def eV (n:Nat) (X5: (List (Bs×TE0))) (X6: (List (Bs×TE0))) (K1:Int):Option (Lp Int (Sum Int Unit)):=
    some (.br (.inl K1))
def cI (n:Nat) (X5: (List (Bs×TE0))) (X6: (List (Bs×TE0))) (j1:Bs×TH0) (K1:Int):Option (Lp Int (Sum Int Unit)):=
    ((bif((aG X5 j1.1).isSome== (aG X6 j1.1).isSome) then
     (bif(!((aG X6 j1.1).getD aC).az) then
      (bif(!(aG X5 j1.1).isSome) then
       (some ((true)))
      else
       (kE n (⟨((aG X5 j1.1).getD aC).fV.ab,(((aG X5 j1.1).getD aC).fV.ak),((aG X5 j1.1).getD aC).fV.an,((aG X5 j1.1).getD aC).fV.ah,((aG X5 j1.1).getD aC).fV.ac,((aG X5 j1.1).getD aC).fV.ae⟩:TF0) (⟨((aG X6 j1.1).getD aC).fV.ab,(((aG X6 j1.1).getD aC).fV.ak),((aG X6 j1.1).getD aC).fV.an,((aG X6 j1.1).getD aC).fV.ah,((aG X6 j1.1).getD aC).fV.ac,((aG X6 j1.1).getD aC).fV.ae⟩:TF0)).bind λX7=>
       some ((X7)))
     else
      some ((false)))
      else
       some ((false)):Option Bool)).bind λG1=>
    bif G1 then
     (some (.nx K1))
    else
     bif j1.2.bc then
      (some (.br (.inr ())))
     else
      some (.nx (2:Int))
def ip (n:Nat) (d0:Bs) (d1:List TE0) (d2:List TE0):Option (Int×Int):=
 (cO n d0 d1).bind λX1=>
 (cO n d0 d2).bind λX2=>
 (mM n [X1,X2]).bind λX3=>
 bif(!(decide (X3=0))) then
  (some (((0:Int),X3)))
 else
  (bB n d1).bind λX4=>
  bif X4 then
   (some (((0:Int),(91:Int))))
  else
   (gl n d1).bind λX5=>
   (gl n d2).bind λX6=>
   (foldP (eV n X5 X6) (cI n X5 X6) (propsD d0) (0:Int)).bind λQ7=>
   (match Q7 with
   |.inl G2=>some ((G2,(0:Int)))
   |.inr G3=>some (((3:Int),(0:Int))))
set_option maxRecDepth 20000 in
theorem pL (n:Nat) (M:Mem) (hG:GL M) (d0:Bs) (A1:Oa) (cap1:Nat) (d1:List TE0) (h1:Sli M 8 aY A1 cap1 d1) (A2:Oa) (cap2:Nat) (d2:List TE0) (h2:Sli M 8 aY A2 cap2 d2) (r:Int×Int) (hF:ip n d0 d1 d2=some r):Ok Tryz.prog M 68 [S d0,sL A1 d1 cap1,sL A2 d2 cap2] (λ_ v=>v=.tuple #[iB r.1,iL r.2]):=by
 unfold ip at hF
 intro M1 hM0 w0 H w p0
 replace hG:=GL.mono hM0 hG
 replace h1:=h1.mono hM0
 replace h2:=h2.mono hM0
 refine Re 78 Tryz.func68 rfl λa0 f0=>RR (Ye f0 2 λ_ f=>ag (RR (Y f 2 λ_ f=>?_)))
 obtain⟨X1,S1,F1⟩:=bS hF
 refine Y18 f p0 (dH n _ hG d0 A1 cap1 d1 h1 X1 S1) λW1 N1 _ f=>Y f 2 λ_ f=>?_
 obtain⟨X2,S2,F2⟩:=bS F1
 refine Y18 f N1 (dH n _ hG d0 A2 cap2 d2 h2 X2 S2) λW2 N2 _ f=>bg (k:=2) (c:=2) f N2 (.cells #[iL X1,iL X2] 35 (0,0)) kr (λ_=>by kernel_rfl) λQ1 W3 N3 _ f=>?_
 have D1:aa M1 ([X1,X2].map (Dat.int .i64)) [iL X1,iL X2]:=⟨_,_,rfl,rfl,⟨_,_,rfl,rfl,rfl⟩⟩
 have N4:Hp w0 M1 ((Ent.row 35 1 (.slice (some ⟨Q1,0,none⟩) 2 2) [X1,X2].length [iL X1,iL X2])::H) W3:=N3.objRow (n:=2) (cap:=2) (size:=1) (by decide) (by decide) (eO (by decide) rfl) rfl rfl
 obtain⟨V1,Z1,P1,J1,H1,N5,B1,hb_1⟩:=N4.lend (f:=(Dat.int .i64)) (xs:=[X1,X2]) (dX .i64) D1
 have f:=f.st 24 (H1)
 obtain⟨X3,S3,F3⟩:=bS F2
 refine Y18 f N5 (cmp_Or_2_ok n _ (GL.mono J1 hG) Z1 P1 [X1,X2] B1 X3 S3) λW4 N6 _ f=>?_
 obtain⟨V2,J2,N7⟩:=hb_1 _ _ _ (mR _) N6
 have f:=f.st 24 (H1.symm)
 refine Ye f 1 λ_ f=>RR (Ye f 2 λ_ f=>RcF f F3 (λB2 F4=>?_) λB2 F5=>?_)
 ·have U1: ¬ (X3=0):=(av dI).1 B2
  refine RR (Ye f 3 λ_ f=>wp_ret (aS (bJ f rfl (Lk 6 (iB 0)) (Lk 7 (iL X3)) ?_)))
  cases sI F4
  exact⟨_,rfl,V2,J2,(N7.dropN 1),rfl⟩
 ·have U2: ¬ (¬ (X3=0)):=ap (av dI) B2
  refine St (ag (RR (Y f 1 λ_ f=>?_)))
  obtain⟨X4,S4,F6⟩:=bS F5
  refine Y18 f N7 (eZ n _ (GL.mono J2 hG) A1 cap1 d1 (h1.mono J2) X4 S4) λW5 N8 _ f=>eT (RcF f F6 (λB3 F7=>?_) λB3 F8=>?_)
  ·refine RR (Ye f 2 λ_ f=>wp_ret (aS (bJ f rfl (Lk 6 (iB 0)) (Lk 7 (iL 91)) ?_)))
   cases sI F7
   exact⟨_,rfl,V2,J2,(N8.dropN 1),rfl⟩
  ·refine St (RR (Y f 1 λ_ f=>?_))
   obtain⟨X5,S5,F9⟩:=bS F8
   refine Y16 f N8 (lC n _ (GL.mono J2 hG) A1 cap1 d1 (h1.mono J2) X5 S5) λ_ V3 W6 J3 N9 jO _ f=>?_
   obtain⟨bk_1,I1,rfl,h0_1,hm_1⟩:=jO
   refine Y f 1 λ_ f=>?_
   obtain⟨X6,S6,F10⟩:=bS F9
   refine Y16 f N9 (lC n _ (GL.mono (J2.trans J3) hG) A2 cap2 d2 (h2.mono (J2.trans J3)) X6 S6) λ_ V4 W7 J4 N10 sj _ f=>?_
   obtain⟨bk_2,I2,rfl,h0_2,hm_2⟩:=sj
   refine Ye f 2 λ_ f=>RR (Ye f 1 λ_ f=>ag (RR (Y16 f N10 (all_ok _) λ_ V5 W8 J5 N11 q_3 _ f=>?_)))
   obtain⟨Q2,Q3,Q4,Q5,Q6,rfl,hA_1⟩:=q_3
   refine Y f 1 λ_ f=>Z (v:=.map (blkOf Q3 Q4 Q5 Q6 d0)) f (X_all1 (k:=d0) (kt:=9) (et:=106) hA_1 N11 rfl kr kr kr (strKey kr) kr) λ_ f=>W_rangeM (kt:=9) (et:=111) (kmap_of hA_1 d0) f N11 kr kr rfl rfl rfl kr kr λjP W9 N12 _ f=>eT (wp_block ?_)
   obtain⟨Q7,bH,F11⟩:=bS F10
   refine wp_mono (Q:=λe a w=>(e=.exit 0∧(∃G2:Int,Q7=.inl G2∧∃V8:Mem,V5.le V8∧Frm 78 [(11,iB G2)] a∧Hp w0 V8 ((Ent.row 35 1 (.slice (some ⟨Q1,0,none⟩) 2 2) [X1,X2].length [iL X1,iL X2])::H) w))∨(e=.ret∧(∃G3:Unit,Q7=.inr G3∧∃V9:Mem,V5.le V9∧Frm 78 [(6,iB 3),(7,iL 0)] a∧Hp w0 V9 ((Ent.row 35 1 (.slice (some ⟨Q1,0,none⟩) 2 2) [X1,X2].length [iL X1,iL X2])::H) w))) (bu (n:=78) (w0:=w0) (M:=V5) (λ (K1,sJ)=>[(9,.map (some bk_1)),(10,.map (some bk_2)),(11,iB K1),(38,pP jP)]) (λ (K1,sJ)=>((Ent.obj jP (.mapIter (blkOf Q3 Q4 Q5 Q6 d0) (propsD d0).length sJ (propsD d0).length))::(Ent.row 35 1 (.slice (some ⟨Q1,0,none⟩) 2 2) [X1,X2].length [iL X1,iL X2])::H)) (λ (K1,sJ) MM=>(∀l,l.Perm (leftD (propsD d0) sJ)→foldO (eV n X5 X6) (cI n X5 X6) l K1=some Q7)) (λ (K1,sJ)=>(leftD (propsD d0) sJ).length) ((0:Int),#[]) (f.kp) N12 (foldP_start bH) ?_) ?_
   ·rintro⟨K1,sJ⟩ V6 _ W10 J6 dc f N13
    have bI:=dc
    refine RR (W_nextM (kmap_of (hA_1.mono J6) d0) f N13 kr kr rfl rfl rfl kr (λho_1 W11 N14 _ f=>?_) λj1 cX bX W12 N15 _ f=>?_)
    ·obtain⟨r_2,be,T1⟩:=foldO_end bI ho_1
     unfold eV at be
     refine Ye f 1 λ_ f=>ag (Y7 f (wp_exit (co (co ?_))))
     cases sI be
     exact .inl ⟨rfl,K1,(sI T1).symm,V6,J6,f.kp,(N14.dropN 1)⟩
    ·obtain⟨r_2,be,T1⟩:=foldO_go bX bI
     unfold cI at be
     refine Ye f 1 λ_ f=>ag (Y8 f (St (wp_block (RR (Z (v:=.tuple #[S j1.1,.agg (aTH0 j1.2)]) f (X_entryM (m:=propsD d0) (kmap_of (hA_1.mono J6) d0) N15 bX 0 rfl rfl kr) λ_ f=>Y f 2 λ_ f=>Y12 f N15 (.cells #[S [],iB 0,bO false] 111 (0,0)) λQ8 W13 N16 _ f=>Y f 1 λ_ f=>Ys (lTH0 j1.2) (aTH0 j1.2) f N16 rfl rfl λW14 N17 _ f=>eT (RR (Y f 2 λ_ f=>?_)))))))
     obtain⟨cP,R1,D2⟩:=RepMap.get (k:=j1.1) (z:=aC) (zc:=[S [],bO false,iB 0,bO false,iL 0,S [],Sn,Sn]) (TE0.shutx (x:=aC) Sli.nil Sli.nil) (hm_1.mono ((J4.trans J5).trans J6))
     obtain⟨Z2,P2,Z3,P3,rfl,B4,B5⟩:=TE0.opn D2
     refine Z (v:=.tuple #[.agg #[S ((aG X5 j1.1).getD aC).aB,bO ((aG X5 j1.1).getD aC).az,iB ((aG X5 j1.1).getD aC).fV.ab,bO ((aG X5 j1.1).getD aC).fV.ak,iL ((aG X5 j1.1).getD aC).fV.an,S ((aG X5 j1.1).getD aC).fV.ah,sL Z2 ((aG X5 j1.1).getD aC).fV.ac P2,sL Z3 ((aG X5 j1.1).getD aC).fV.ae P3],bO (aG X5 j1.1).isSome]) f (rC (ek:=S) (kt:=9) (et:=75) R1 (RepMap.isSome (hm_1.mono ((J4.trans J5).trans J6))) rfl kr kr kr (strKey kr) kr (N17.mem _ _ (((J4.trans J5).trans J6) _ _ h0_1))) λ_ f=>Y f 3 λ_ f=>Y12 f N17 (.cells #[S [],bO false,iB 0,bO false,iL 0,S [],Sn,Sn] 75 (0,0)) λQ9 W15 N18 _ f=>Ys [S ((aG X5 j1.1).getD aC).aB,bO ((aG X5 j1.1).getD aC).az,iB ((aG X5 j1.1).getD aC).fV.ab,bO ((aG X5 j1.1).getD aC).fV.ak,iL ((aG X5 j1.1).getD aC).fV.an,S ((aG X5 j1.1).getD aC).fV.ah,sL Z2 ((aG X5 j1.1).getD aC).fV.ac P2,sL Z3 ((aG X5 j1.1).getD aC).fV.ae P3] #[S ((aG X5 j1.1).getD aC).aB,bO ((aG X5 j1.1).getD aC).az,iB ((aG X5 j1.1).getD aC).fV.ab,bO ((aG X5 j1.1).getD aC).fV.ak,iL ((aG X5 j1.1).getD aC).fV.an,S ((aG X5 j1.1).getD aC).fV.ah,sL Z2 ((aG X5 j1.1).getD aC).fV.ac P2,sL Z3 ((aG X5 j1.1).getD aC).fV.ae P3] f N18 rfl rfl λW16 N19 _ f=>Ye f 1 λ_ f=>RR (Y f 2 λ_ f=>?_)
     obtain⟨jX,R2,D3⟩:=RepMap.get (k:=j1.1) (z:=aC) (zc:=[S [],bO false,iB 0,bO false,iL 0,S [],Sn,Sn]) (TE0.shutx (x:=aC) Sli.nil Sli.nil) (hm_2.mono (J5.trans J6))
     obtain⟨Z4,P4,Z5,P5,rfl,B6,B7⟩:=TE0.opn D3
     refine Z (v:=.tuple #[.agg #[S ((aG X6 j1.1).getD aC).aB,bO ((aG X6 j1.1).getD aC).az,iB ((aG X6 j1.1).getD aC).fV.ab,bO ((aG X6 j1.1).getD aC).fV.ak,iL ((aG X6 j1.1).getD aC).fV.an,S ((aG X6 j1.1).getD aC).fV.ah,sL Z4 ((aG X6 j1.1).getD aC).fV.ac P4,sL Z5 ((aG X6 j1.1).getD aC).fV.ae P5],bO (aG X6 j1.1).isSome]) f (rC (ek:=S) (kt:=9) (et:=75) R2 (RepMap.isSome (hm_2.mono (J5.trans J6))) rfl kr kr kr (strKey kr) kr (N19.mem _ _ ((J5.trans J6) _ _ h0_2))) λ_ f=>Y f 3 λ_ f=>Y12 f N19 (.cells #[S [],bO false,iB 0,bO false,iL 0,S [],Sn,Sn] 75 (0,0)) λQ10 W17 N20 _ f=>Ys [S ((aG X6 j1.1).getD aC).aB,bO ((aG X6 j1.1).getD aC).az,iB ((aG X6 j1.1).getD aC).fV.ab,bO ((aG X6 j1.1).getD aC).fV.ak,iL ((aG X6 j1.1).getD aC).fV.an,S ((aG X6 j1.1).getD aC).fV.ah,sL Z4 ((aG X6 j1.1).getD aC).fV.ac P4,sL Z5 ((aG X6 j1.1).getD aC).fV.ae P5] #[S ((aG X6 j1.1).getD aC).aB,bO ((aG X6 j1.1).getD aC).az,iB ((aG X6 j1.1).getD aC).fV.ab,bO ((aG X6 j1.1).getD aC).fV.ak,iL ((aG X6 j1.1).getD aC).fV.an,S ((aG X6 j1.1).getD aC).fV.ah,sL Z4 ((aG X6 j1.1).getD aC).fV.ac P4,sL Z5 ((aG X6 j1.1).getD aC).fV.ae P5] f N20 rfl rfl λW18 N21 _ f=>Ye f 1 λ_ f=>ag (ag ?_)
     obtain⟨jd,eW,F12⟩:=bS be
     refine bj (λa_60 W20=>∃G1:Bool,jd=G1∧∃V7:Mem,V6.le V7∧Frm 78 [(9,.map (some bk_1)),(10,.map (some bk_2)),(11,iB K1),(13,pP Q8),(38,pP jP),(74,bO G1)] a_60∧Hp w0 V7 ((oC Q10 #[S ((aG X6 j1.1).getD aC).aB,bO ((aG X6 j1.1).getD aC).az,iB ((aG X6 j1.1).getD aC).fV.ab,bO ((aG X6 j1.1).getD aC).fV.ak,iL ((aG X6 j1.1).getD aC).fV.an,S ((aG X6 j1.1).getD aC).fV.ah,sL Z4 ((aG X6 j1.1).getD aC).fV.ac P4,sL Z5 ((aG X6 j1.1).getD aC).fV.ae P5] 75)::(oC Q9 #[S ((aG X5 j1.1).getD aC).aB,bO ((aG X5 j1.1).getD aC).az,iB ((aG X5 j1.1).getD aC).fV.ab,bO ((aG X5 j1.1).getD aC).fV.ak,iL ((aG X5 j1.1).getD aC).fV.an,S ((aG X5 j1.1).getD aC).fV.ah,sL Z2 ((aG X5 j1.1).getD aC).fV.ac P2,sL Z3 ((aG X5 j1.1).getD aC).fV.ae P3] 75)::(Ent.obj Q8 (.cells (aTH0 j1.2) 111 (0,0)))::(Ent.obj jP (.mapIter (blkOf Q3 Q4 Q5 Q6 d0) (propsD d0).length (sJ.push cX) (propsD d0).length))::(Ent.row 35 1 (.slice (some ⟨Q1,0,none⟩) 2 2) [X1,X2].length [iL X1,iL X2])::H) W20) ?_ ?_
     ·refine aI (Y f 4 λ_ f=>?_)
      rcases cE eW with⟨B8,F13⟩|⟨B8,F19⟩
      ·have f:=f.st 59 (cB B8)
       refine Y f 1 λ_ f=>Z f (Y35 (v:=bO ((aG X6 j1.1).getD aC).az) rfl (ad:=⟨Q10,1,none⟩) (N21.ownCell 0 rfl 1)) λ_ f=>Y f 3 λ_ f=>?_
       rcases cE F13 with⟨B9,F14⟩|⟨B9,F18⟩
       ·have U6: (((aG X6 j1.1).getD aC).az)=false:=by simpa using B9
        have f:=f.st 64 (cB B9)
        refine Y f 3 λ_ f=>?_
        rcases cE F14 with⟨B10,F15⟩|⟨B10,F16⟩
        ·have U7: ((aG X5 j1.1).isSome)=false:=by simpa using B10
         have f:=f.st 67 (cB B10)
         refine Ye f 7 λ_ f=>?_
         exact⟨(true),(sI F15).symm,V6,(mR _),f.kp,N21⟩
        ·have U8: ((aG X5 j1.1).isSome)=true:=by simpa using B10
         have f:=f.st 67 (cB B10)
         refine Y f 1 λ_ f=>Z f (Y36 (cs:=[iB ((aG X5 j1.1).getD aC).fV.ab,bO ((aG X5 j1.1).getD aC).fV.ak,iL ((aG X5 j1.1).getD aC).fV.an,S ((aG X5 j1.1).getD aC).fV.ah,sL Z2 ((aG X5 j1.1).getD aC).fV.ac P2,sL Z3 ((aG X5 j1.1).getD aC).fV.ae P3]) rfl (ad:=⟨Q9,2,none⟩) (al (N21.ownCell 1 rfl) 2 rfl)) λ_ f=>Y f 1 λ_ f=>Z f (Y36 (cs:=[iB ((aG X6 j1.1).getD aC).fV.ab,bO ((aG X6 j1.1).getD aC).fV.ak,iL ((aG X6 j1.1).getD aC).fV.an,S ((aG X6 j1.1).getD aC).fV.ah,sL Z4 ((aG X6 j1.1).getD aC).fV.ac P4,sL Z5 ((aG X6 j1.1).getD aC).fV.ae P5]) rfl (ad:=⟨Q10,2,none⟩) (al (N21.ownCell 0 rfl) 2 rfl)) λ_ f=>?_
         obtain⟨X7,S7,F17⟩:=bS F16
         refine Y18 f N21 (ss n _ (GL.mono ((((J2.trans J3).trans J4).trans J5).trans J6) hG) _ (⟨((aG X5 j1.1).getD aC).fV.ab,(((aG X5 j1.1).getD aC).fV.ak),((aG X5 j1.1).getD aC).fV.an,((aG X5 j1.1).getD aC).fV.ah,((aG X5 j1.1).getD aC).fV.ac,((aG X5 j1.1).getD aC).fV.ae⟩:TF0) (TF0.shut B4 B5) _ (⟨((aG X6 j1.1).getD aC).fV.ab,(((aG X6 j1.1).getD aC).fV.ak),((aG X6 j1.1).getD aC).fV.an,((aG X6 j1.1).getD aC).fV.ah,((aG X6 j1.1).getD aC).fV.ac,((aG X6 j1.1).getD aC).fV.ae⟩:TF0) (TF0.shut B6 B7) X7 S7) λW19 N22 _ f=>Ye f 2 λ_ f=>?_
         exact⟨(X7),(sI F17).symm,V6,(mR _),f.kp,N22⟩
       ·have U9: (((aG X6 j1.1).getD aC).az)=true:=by simpa using B9
        have f:=f.st 64 (cB B9)
        refine Ye f 10 λ_ f=>?_
        exact⟨(false),(sI F18).symm,V6,(mR _),f.kp,N21⟩
      ·have f:=f.st 59 (cB B8)
       refine Ye f 15 λ_ f=>?_
       exact⟨(false),(sI F19).symm,V6,(mR _),f.kp,N21⟩
     ·rintro a_60 W20 ⟨G1,dg,V7,J7,f,N23⟩
      subst jd
      refine aH (RcF f F12 (λB11 F20=>?_) λB11 F21=>?_)
      ·refine wp_exit (co (iq (aH ?_)))
       cases sI F20
       exact⟨⟨K1,sJ.push cX⟩,leftD_lt bX,V7,(J6.trans J7),T1,f.kp,(N23.dropN 3)⟩
      ·refine St (ag (RR (Y f 1 λ_ f=>Z f (Y35 (v:=bO j1.2.bc) rfl (ad:=⟨Q8,2,none⟩) (N23.ownCell 2 rfl 2)) λ_ f=>eT (RcF f F21 (λB12 F22=>?_) λB12 F23=>?_))))
       ·refine RR (Ye f 2 λ_ f=>wp_ret (aS (bV (aS ?_))))
        cases sI F22
        exact .inr ⟨rfl,(),(sI T1).symm,V7,(J6.trans J7),f.kp,(N23.dropN 4)⟩
       ·refine St (aI (Y f 1 λ_ f=>aA rfl (cG (aH ?_))))
        cases sI F23
        exact⟨⟨(2:Int),sJ.push cX⟩,leftD_lt bX,V7,(J6.trans J7),T1,f.kp,(N23.dropN 3)⟩
   ·rintro _ _ W23 (⟨rfl,G2,rfl,V8,J8,f,N24⟩|⟨rfl,G3,rfl,V9,J9,f,N25⟩)
    ·refine iq (aH (RR (Ye f 3 λ_ f=>wp_ret (bJ f rfl (Lk 6 (iB G2)) (Lk 7 (iL 0)) ?_))))
     cases sI F11
     exact⟨_,rfl,V8,((((J2.trans J3).trans J4).trans J5).trans J8),(N24.dropN 1),rfl⟩
    ·refine bV (aS (bJ f rfl (Lk 6 (iB 3)) (Lk 7 (iL 0)) ?_))
     cases sI F11
     exact⟨_,rfl,V9,((((J2.trans J3).trans J4).trans J5).trans J9),(N25.dropN 1),rfl⟩
def byN (gs:List TE0):List (Bs×TE0):=gs.foldl (λm g=>de m g.aB g) []
theorem rG (gs:List TE0) (g:TE0):byN (gs++[g])=de (byN gs) g.aB g:=by unfold byN;rw[List.foldl_append];rfl
theorem rH {n:Nat} (gs:List TE0) (hl:gs.length≤60) (hn:6000<n):gl n gs=some (byN gs):=by
 unfold gl
 have:=cD (n:=n) (step:=dq n gs) (λk=>((k:Int),byN (gs.take k))) gs.length (byN gs) (λk hk=>by
  unfold dq
  have hx:gs[k]? =some gs[k]:=List.getElem?_eq_getElem hk
  have hg:gs.getD k aC=gs[k]:=by simp[List.getD,hk]
  dsimp only
  rw[dT (by omega),cT,bf aC hk,bnd,aU (by omega) (by omega),hg,List.take_add_one,hx]
  have e:byN (gs.take k++(some gs[k]).toList)=de (byN (gs.take k)) gs[k].aB gs[k]:=rG _ _
  rw[e];rfl) (by
  unfold dq
  dsimp only
  rw[dF (by omega),cF,List.take_length]) (by omega)
 have e0: (((0:Nat):Int),byN (gs.take 0))=((0:Int),([]:List (Bs×TE0))):=rfl
 rw[e0] at this
 rw[this,bnd]
theorem kH {k:Bs} {g:TE0}: ∀ {m:Nat} {gs:List TE0},gs.length=m→aG (byN gs) k=some g→g∈gs∧g.aB=k
 |0,gs,hm,h=>by
  have:gs=[]:=List.length_eq_zero_iff.1 hm
  subst this;cases h
 |m+1,gs,hm,h=>by
  obtain⟨l,x,rfl⟩: ∃l x,gs=l++[x]:=⟨gs.dropLast,gs.getLast (by intro e;subst e;cases hm),(List.dropLast_concat_getLast _).symm⟩
  rw[rG,jg] at h
  by_cases hx:x.aB=k
  ·rw[if_pos hx] at h
   cases h
   exact⟨by simp,hx⟩
  ·rw[if_neg hx] at h
   obtain⟨h1,h2⟩:=kH (m:=m) (by simpa using hm) h
   exact⟨by simp[h1],h2⟩
theorem rI {k:Bs}: ∀ {m:Nat} {gs:List TE0},gs.length=m→((aG (byN gs) k).isSome=true↔ ∃g∈gs,g.aB=k)
 |0,gs,hm=>by
  have:gs=[]:=List.length_eq_zero_iff.1 hm
  subst this;simp[byN,aG]
 |m+1,gs,hm=>by
  obtain⟨l,x,rfl⟩: ∃l x,gs=l++[x]:=⟨gs.dropLast,gs.getLast (by intro e;subst e;cases hm),(List.dropLast_concat_getLast _).symm⟩
  have ih:=rI (k:=k) (m:=m) (gs:=l) (by simpa using hm)
  rw[rG,jg]
  by_cases hx:x.aB=k
  ·rw[if_pos hx];simp[hx]
  ·rw[if_neg hx,ih];simp[hx]
theorem byN_mem {gs:List TE0} (hd: (gs.map (·.aB)).Nodup) {g:TE0} (hg:g∈gs):aG (byN gs) g.aB=some g:=by
 have h1:=(rI (k:=g.aB) (gs:=gs) rfl).2 ⟨g,hg,rfl⟩
 obtain⟨x,hx⟩:=Option.isSome_iff_exists.1 h1
 obtain⟨h2,h3⟩:=kH rfl hx
 rw[hx]
 have:x=g:=by
  obtain⟨i,hi,rfl⟩:=List.mem_iff_getElem.1 h2
  obtain⟨j,hj,rfl⟩:=List.mem_iff_getElem.1 hg
  have e: (gs.map (·.aB))[i]'(by simpa using hi)=(gs.map (·.aB))[j]'(by simpa using hj):=by simpa using h3
  have hp:=List.pairwise_iff_getElem.1 hd
  rcases Nat.lt_trichotomy i j with h|h|h
  ·exact absurd e (hp i j _ _ h)
  ·subst h;rfl
  ·exact absurd e.symm (hp j i _ _ h)
 rw[this]
def sameK (a b:List TE0) (k:Bs):Bool:=
 bif(aG (byN a) k).isSome== (aG (byN b) k).isSome then
  bif !((aG (byN b) k).getD aC).az then
   bif !(aG (byN a) k).isSome then true else eqV ((aG (byN a) k).getD aC).fV ((aG (byN b) k).getD aC).fV
  else false
 else false
def stepK (a b:List TE0) (p:Bs×TH0) (s:Int):Lp Int (Sum Int Unit):=bif sameK a b p.1 then .nx s else bif p.2.bc then .br (.inr ()) else .nx 2
def endK (a b:List TE0) (l:List (Bs×TH0)) (s:Int):Sum Int Unit:=bif l.any (λp=> !sameK a b p.1&&p.2.bc) then .inr () else .inl (bif l.any (λp=> !sameK a b p.1) then 2 else s)
theorem step_run {n:Nat} (hn:6000<n) {a b:List TE0} (ha: ∀g∈a,Fine g.fV) (hb: ∀g∈b,Fine g.fV) (p:Bs×TH0) (s:Int):cI n (byN a) (byN b) p s=some (stepK a b p s):=by
 unfold cI stepK sameK
 cases h1: (aG (byN a) p.1).isSome== (aG (byN b) p.1).isSome with
 |false=>
  rw[cF,cF,bnd,cF,cF]
  cases p.2.bc<;>rfl
 |true=>
  rw[cT,cT]
  cases h2: ((aG (byN b) p.1).getD aC).az with
  |true=>
   rw[nT,cF,cF,bnd,cF,cF]
   cases p.2.bc<;>rfl
  |false=>
   rw[nF,cT,cT]
   cases h3: (aG (byN a) p.1).isSome with
   |false=>rw[nF,cT,cT,bnd,cT,cT]
   |true=>
    rw[nT,cF,cF]
    have h4: (aG (byN b) p.1).isSome=true:=by rw[h3] at h1;simpa using h1.symm
    obtain⟨x,hx⟩:=Option.isSome_iff_exists.1 h3
    obtain⟨y,hy⟩:=Option.isSome_iff_exists.1 h4
    have fx:=ha x (kH rfl hx).1
    have fy:=hb y (kH rfl hy).1
    have ex: ∀v:TF0,(⟨v.ab,(v.ak),v.an,v.ah,v.ac,v.ae⟩:TF0)=v:=λv=>by cases v;rfl
    rw[hx,hy,Option.getD_some,Option.getD_some,ex,ex,Equal_run hn fx fy,bnd,bnd]
    cases eqV x.fV y.fV with
    |true=>rw[cT,cT]
    |false=>
     rw[cF,cF]
     cases p.2.bc<;>rfl
theorem rJ {n:Nat} (hn:6000<n) {a b:List TE0} (ha: ∀g∈a,Fine g.fV) (hb: ∀g∈b,Fine g.fV): ∀ (l:List (Bs×TH0)) (s:Int),foldO (eV n (byN a) (byN b)) (cI n (byN a) (byN b)) l s=some (endK a b l s)
 |[],s=>rfl
 |p::l,s=>by
  unfold foldO
  rw[step_run hn ha hb,bnd]
  unfold stepK endK
  rw[List.any_cons,List.any_cons]
  cases sameK a b p.1 with
  |true=>
   rw[cT]
   dsimp only
   rw[rJ hn ha hb l s]
   unfold endK
   rw[nT,Bool.false_and,Bool.false_or,Bool.false_or]
  |false=>
   rw[cF]
   cases p.2.bc with
   |true=>rfl
   |false=>
    rw[cF]
    dsimp only
    rw[rJ hn ha hb l 2]
    unfold endK
    rw[nF,Bool.and_false,Bool.false_or,Bool.true_or,cT]
    cases l.any (λp=> !sameK a b p.1)<;>rfl
theorem tj (a b:List TE0) {l l':List (Bs×TH0)} (h:l.Perm l') (s:Int):endK a b l s=endK a b l' s:=by
 have e: ∀q:Bs×TH0→Bool,l.any q=l'.any q:=λq=>by
  rw[Bool.eq_iff_iff,List.any_eq_true,List.any_eq_true]
  exact⟨λ ⟨x,h1,h2⟩=>⟨x,h.mem_iff.1 h1,h2⟩,λ ⟨x,h1,h2⟩=>⟨x,h.mem_iff.2 h1,h2⟩⟩
 unfold endK
 rw[e,e]
def differV (kind:Bs) (a b:List TE0):Int×Int:=
 bif !decide (checkG kind a=0) then(0,checkG kind a) else bif !decide (checkG kind b=0) then(0,checkG kind b) else
 bif a.any (·.az) then(0,91) else match endK a b (propsD kind) 0 with|.inl y=>(y,0)|.inr _=>(3,0)
theorem or2_run {n:Nat} (hn:6000<n) (x y:Int):mM n [x,y]=some (bif !decide (x=0) then x else y):=by
 obtain⟨n,rfl⟩: ∃m,n=m+3:=⟨n-3,by omega⟩
 unfold mM
 have s0:dn (n+3) [x,y] 0=bif !decide (x=0) then some (.br (.inl x)) else some (.nx 1):=by
  unfold dn
  have e:aR [x,y] 0=some x:=rfl
  rw[dT (by simp only[List.length_cons,List.length_nil];omega),cT,e,bnd,aU (by omega) (by omega)];rfl
 have s1:dn (n+3) [x,y] 1=bif !decide (y=0) then some (.br (.inl y)) else some (.nx 2):=by
  unfold dn
  have e:aR [x,y] 1=some y:=rfl
  rw[dT (by simp only[List.length_cons,List.length_nil];omega),cT,e,bnd,aU (by omega) (by omega)];rfl
 have s2:dn (n+3) [x,y] 2=some (.br (.inr ())):=by
  unfold dn
  rw[dF (by simp only[List.length_cons,List.length_nil];omega),cF]
 have l0:aN (dn (n+3) [x,y]) (n+3) 0=some (bif !decide (x=0) then .inl x else bif !decide (y=0) then .inl y else .inr ()):=by
  unfold aN
  rw[s0]
  by_cases hx:x=0
  ·rw[dT hx,nT,cF,cF,bnd]
   dsimp only
   unfold aN
   rw[s1]
   by_cases hy:y=0
   ·rw[dT hy,nT,cF,cF,bnd]
    dsimp only
    unfold aN
    rw[s2,bnd]
   ·rw[dF hy,nF,cT,cT,bnd]
  ·rw[dF hx,nF,cT,cT,bnd]
 rw[l0,bnd]
 by_cases hx:x=0
 ·rw[dT hx,nT,cF,cF]
  by_cases hy:y=0
  ·rw[dT hy,nT,cF];rw[hy]
  ·rw[dF hy,nF,cT]
 ·rw[dF hx,nF,cT,cT]
theorem unknown_run {n:Nat} (hn:6000<n) (gs:List TE0) (hl:gs.length≤60):bB n gs=some (gs.any (·.az)):=by
 unfold bB bQ
 obtain⟨b,hb,hp⟩:=pK (n:=n) aC (·.az) gs (step:=bt n gs) (λk hk=>by
  unfold bt iw
  rw[dT (by omega),cT,bf aC hk,bnd,bnd]
  cases (gs.getD k aC).az with
  |false=>rw[cF,aU (by omega) (by omega)];rfl
  |true=>rw[cT];rfl) (by
  unfold bt
  rw[dF (by omega),cF]) (by omega)
 rw[hb,bnd]
 cases b with
 |inl i=>
  obtain⟨h0,h1⟩:=hp
  dsimp only
  rw[bnd,h1,dT h0]
 |inr u=>
  have h1:gs.any (·.az)=false:=hp
  dsimp only
  rw[bnd,h1]
  rfl
theorem Differ_run {n:Nat} (hn:6000<n) (kind:Bs) {a b:List TE0} (la:a.length≤60) (lb:b.length≤60) (ha: ∀g∈a,Fine g.fV) (hb: ∀g∈b,Fine g.fV):ip n kind a b=some (differV kind a b):=by
 unfold ip differV
 rw[dJ hn kind la ha,bnd,dJ hn kind lb hb,bnd,or2_run hn,bnd]
 by_cases h1:checkG kind a=0
 ·rw[dT h1,nT,cF,cF]
  by_cases h2:checkG kind b=0
  ·rw[dT h2,nT,cF,cF,unknown_run hn a la,bnd]
   cases a.any (·.az) with
   |true=>rw[cT,cT]
   |false=>
    rw[cF,cF,rH a la hn,bnd,rH b lb hn,bnd,foldP_run (b:=endK a b (propsD kind) 0) (λl hl=>by rw[rJ hn ha hb,tj a b hl]),bnd]
    cases endK a b (propsD kind) 0<;>rfl
  ·rw[dF h2,nF,cT,cT]
 ·rw[dF h1,nF,cT,cT,dF h1,nF,cT]
theorem getD_in {gs:List TE0} {k:Nat} (hk:k<gs.length):gs.getD k aC=gs[k]:=by simp[List.getD,hk]
theorem rK {kind : List UInt8} {gs : List TE0} (h : checkG kind gs = 0) : kindIn kind = true ∧ (∀ g ∈ gs, okG kind g = true) ∧ (gs.map (·.aB)).Pairwise fun a b => Lib.compareBytes a b < 0 := by
 unfold checkG at h
 cases hk : kindIn kind with
 | false => rw [hk, Bool.not_false, cT] at h; omega
 | true =>
  rw [hk, Bool.not_true, cF] at h
  cases ha : (List.range gs.length).any (fun k => !(okG kind (gs.getD k aC) && upG gs k)) with
  | true => rw [ha, cT] at h; omega
  | false =>
   have hall : ∀ k, k < gs.length → okG kind (gs.getD k aC) = true ∧ upG gs k = true := fun k hk => by
    have := List.any_eq_false.1 ha k (List.mem_range.2 hk)
    simpa using this
   refine ⟨rfl, fun g hg => ?_, ?_⟩
   ·obtain ⟨k, hk, rfl⟩ := List.mem_iff_getElem.1 hg
    rw [← getD_in hk]; exact (hall k hk).1
   ·have hadj : ∀ k, k + 1 < gs.length → Lib.compareBytes (gs.getD k aC).aB (gs.getD (k + 1) aC).aB < 0 := fun k hk => by
     have := (hall (k + 1) hk).2
     unfold upG at this
     rw [decide_eq_false (by omega), Bool.false_or, Nat.add_sub_cancel, kY] at this
     exact of_decide_eq_true this
    have hlt : ∀ m i, i + m + 1 < gs.length → Lib.compareBytes (gs.getD i aC).aB (gs.getD (i + m + 1) aC).aB < 0 := by
     intro m
     induction m with
     | zero => intro i hi; exact hadj i hi
     | succ m ih =>
      intro i hi
      have h1 := ih i (by omega)
      have h2 := hadj (i + m + 1) hi
      exact (lz _ _ _ (Int.le_of_lt h1) (Int.le_of_lt h2)).2 (.inl h1)
    rw [List.pairwise_iff_getElem]
    intro i j hi hj hij
    have hi' : i < gs.length := by simpa using hi
    have hj' : j < gs.length := by simpa using hj
    have := hlt (j - i - 1) i (by omega)
    rw [show i + (j - i - 1) + 1 = j by omega, getD_in hi', getD_in hj'] at this
    simpa using this
theorem rL {l:List Bs} (h:l.Pairwise λa b=>Lib.compareBytes a b<0):l.Nodup:=h.imp λ {a b} hab e=>by subst e;rw[nt] at hab;omega
noncomputable instance decV:DecidableEq TF0:=λa b=>Classical.propDecidable _
noncomputable def sameG (x y:TE0):Bool:=decide (x.aB=y.aB)&& (x.az==y.az&& (eqV x.fV y.fV||decide (x.fV=y.fV)))
def dK (n:Nat) (d0:TF0) (K1:Int×List TF0×List Bs) (K2:Int):Option (Lp Int Int):=
    bif(decide (K2<((K1.2.2.length:Nat):Int))) then
     ((aR K1.2.2 K2).bind λX3=>
     (aR d0.ae K1.1).bind λX4=>
     bif(Op.bytesLess X3 X4) then
      (aZ (inR .i64 (K2+1))<|
      some (.nx (K2+1)))
     else
      some (.br K2))
    else
     some (.br K2)
def bU (n:Nat) (rec_ref03_sorted:TF0→Option TF0) (d0:TF0) (K1:Int×List TF0×List Bs):Option (Lp (Int×List TF0×List Bs) (List TF0×List Bs)):=
    bif(decide (K1.1<((d0.ac.length:Nat):Int))) then
     ((aR d0.ac K1.1).bind λX1=>
     (rec_ref03_sorted X1).bind λX2=>
     bif(decide (d0.ab=4)) then
      (aZ ((K1.2.1.length+1)*80≤140737488355328)<|
      aZ (inR .i64 (K1.1+1))<|
      some (.nx (K1.1+1,K1.2.1++[(⟨X2.ab,(X2.ak),X2.an,X2.ah,X2.ac,X2.ae⟩:TF0)],K1.2.2)))
     else
      (aN (dK n d0 K1) n (0:Int)).bind λG1=>
      aZ (0≤G1∧G1≤(K1.2.2.length:Int))<|
      aZ ((([]:List Bs).length+ (K1.2.2.length-G1.toNat))*16≤140737488355328)<|
      aZ (0≤G1∧G1≤(K1.2.1.length:Int))<|
      aZ ((([]:List TF0).length+ (K1.2.1.length-G1.toNat))*80≤140737488355328)<|
      (((aR d0.ae K1.1).bind λX5=>
        aZ (0≤G1∧G1≤(K1.2.2.length:Int))<|
        aZ (((K1.2.2.take G1.toNat).length+1)*16≤140737488355328)<|
        aZ ((((K1.2.2.take G1.toNat)++[X5]).length+ (([]:List Bs)++(K1.2.2.take K1.2.2.length).drop G1.toNat).length)*16≤140737488355328)<|
        some (((K1.2.2.take G1.toNat)++[X5])++(([]:List Bs)++(K1.2.2.take K1.2.2.length).drop G1.toNat)):Option (List Bs))).bind λG2=>
      ((aZ (0≤G1∧G1≤(K1.2.1.length:Int))<|
        aZ (((K1.2.1.take G1.toNat).length+1)*80≤140737488355328)<|
        aZ ((((K1.2.1.take G1.toNat)++[(⟨X2.ab,(X2.ak),X2.an,X2.ah,X2.ac,X2.ae⟩:TF0)]).length+ (([]:List TF0)++(K1.2.1.take K1.2.1.length).drop G1.toNat).length)*80≤140737488355328)<|
        some (((K1.2.1.take G1.toNat)++[(⟨X2.ab,(X2.ak),X2.an,X2.ah,X2.ac,X2.ae⟩:TF0)])++(([]:List TF0)++(K1.2.1.take K1.2.1.length).drop G1.toNat)):Option (List TF0))).bind λG3=>
      aZ (inR .i64 (K1.1+1))<|
      some (.nx (K1.1+1,G3,G2)))
    else
     some (.br (K1.2.1,K1.2.2))
def gO (n:Nat) (rec_ref03_sorted:TF0→Option TF0) (d0:TF0):Option TF0:=
 (aN (bU n rec_ref03_sorted d0) n ((0:Int),([]:List TF0),([]:List Bs))).bind λG4=>
 some ((⟨d0.ab,(d0.ak),d0.an,d0.ah,G4.1,G4.2⟩:TF0))
set_option maxRecDepth 20000 in
theorem oZ (n:Nat) (rec_ref03_sorted:TF0→Option TF0) (hrec_ref03_sorted: ∀ (M:Mem) (c0:Lv) (d0:TF0) (h0:Rep M (ay d0) c0) (r:TF0) (hF:rec_ref03_sorted d0=some r),Ok Tryz.prog M 76 [.agg c0.toArray] (λM' v=>∃ (c0:Lv),v=.agg c0.toArray∧Rep M' (ay r) c0)) (M:Mem) (c0:Lv) (d0:TF0) (h0:Rep M (ay d0) c0) (r:TF0) (hF:gO n rec_ref03_sorted d0=some r):Ok Tryz.prog M 76 [.agg c0.toArray] (λM' v=>∃ (c0:Lv),v=.agg c0.toArray∧Rep M' (ay r) c0):=by
 unfold gO at hF
 intro M1 hM0 w0 H w p0
 replace h0:=Rep.mono hM0 _ _ h0
 obtain⟨Z1,P1,Z2,P2,rfl,B1,B2⟩:=TF0.opn h0
 refine Re 97 Tryz.func76 rfl λa0 f0=>RR (Y13 (cs:=(aTF0 d0 Z1 P1 Z2 P2)) (T:=73) f0 p0 λQ1 V1 W1 J1 R1 N1 _ f=>?_)
 have R2:=bR R1
 refine Y12 f N1 (.cells #[iB 0,bO false,iL 0,S [],Sn,Sn] 73 (0,0)) λQ2 W2 N2 _ f=>eT (RR (Y f 1 λ_ f=>Y15 f N2 R2 0 rfl λ_ f=>Y f 1 λ_ f=>Y15 f N2 R2 1 rfl λ_ f=>Y f 1 λ_ f=>Y15 f N2 R2 2 rfl λ_ f=>Y f 1 λ_ f=>Y15 f N2 R2 3 rfl λ_ f=>Y f 1 λ_ f=>Y12 f N2 (.cells #[iB 0,bO false,iL 0,S [],Sn,Sn] 73 (0,0)) λQ3 W3 N3 _ f=>Ys [iB d0.ab,bO d0.ak,iL d0.an,S d0.ah,Sn,Sn] #[iB d0.ab,bO d0.ak,iL d0.an,S d0.ah,Sn,Sn] f N3 rfl rfl λW4 N4 _ f=>eT (ag (RR (Ye f 1 λ_ f=>wp_block ?_)))))
 obtain⟨Z3,P3,H1⟩: ∃A cap,Value.slice none 0 0=.slice A ([]:List TF0).length cap:=⟨none,0,rfl⟩
 have N5:Hp w0 V1 ((Ent.row 73 6 (.slice Z3 ([]:List TF0).length P3) ([]:List TF0).length [])::(Ent.obj Q3 (.cells #[.int .i8 d0.ab,.bool d0.ak,.int .i64 d0.an,S d0.ah,.slice Z3 ([]:List TF0).length P3,.slice none 0 0] 73 (0,0)))::(Ent.obj Q2 (.cells #[.int .i8 0,.bool false,.int .i64 0,S [],.slice none 0 0,.slice none 0 0] 73 (0,0)))::H) W4:=by rw[←H1];exact N4.nilRow 73 6
 have D1:aa V1 (([]:List TF0).map ay) []:=rfl
 obtain⟨Z4,P4,H2⟩: ∃A cap,Value.slice none 0 0=.slice A ([]:List (List UInt8)).length cap:=⟨none,0,rfl⟩
 have N6:Hp w0 V1 ((Ent.row 9 1 (.slice Z4 ([]:List (List UInt8)).length P4) ([]:List (List UInt8)).length [])::(Ent.row 73 6 (.slice Z3 ([]:List TF0).length P3) ([]:List TF0).length [])::(Ent.obj Q3 (.cells #[.int .i8 d0.ab,.bool d0.ak,.int .i64 d0.an,S d0.ah,.slice Z3 ([]:List TF0).length P3,.slice Z4 ([]:List (List UInt8)).length P4] 73 (0,0)))::(Ent.obj Q2 (.cells #[.int .i8 0,.bool false,.int .i64 0,S [],.slice none 0 0,.slice none 0 0] 73 (0,0)))::H) W4:=by rw[←H2];exact N5.nilRow 9 1
 have D2:aa V1 (([]:List Bs).map Dat.str) []:=rfl
 have N10:=N6.pl [3,3,2,3]
 obtain⟨Q4,bH,F1⟩:=bS hF
 refine wp_mono (Q:=λe a w=>(e=.exit 0∧(∃G4:List TF0×List Bs,Q4=G4∧∃V14:Mem,V1.le V14∧∃ (Z44:Oa),∃ (P45:Nat),∃ (L20:Lv),∃ (Z45:Oa),∃ (P46:Nat),∃ (L21:Lv),aa V14 (G4.1.map ay) L20∧aa V14 (G4.2.map Dat.str) L21∧Frm 97 [(2,pP Q2),(3,pP Q3)] a∧Hp w0 V14 ((rO 73 6 Z44 G4.1 P45 L20)::(rO 9 1 Z45 G4.2 P46 L21)::(oC Q3 #[iB d0.ab,bO d0.ak,iL d0.an,S d0.ah,sL Z44 G4.1 P45,sL Z45 G4.2 P46] 73)::(oC Q2 #[iB 0,bO false,iL 0,S [],Sn,Sn] 73)::H) w))) (bu (n:=97) (w0:=w0) (M:=V1) (λ (I1,K1,Z5,P5,L1,Z6,P6,L2)=>[(1,pP Q1),(2,pP Q2),(3,pP Q3),(4,iL K1.1)]) (λ (I1,K1,Z5,P5,L1,Z6,P6,L2)=>((rO 73 6 Z5 K1.2.1 P5 L1)::(rO 9 1 Z6 K1.2.2 P6 L2)::(oC Q3 #[iB d0.ab,bO d0.ak,iL d0.an,S d0.ah,sL Z5 K1.2.1 P5,sL Z6 K1.2.2 P6] 73)::(oC Q2 #[iB 0,bO false,iL 0,S [],Sn,Sn] 73)::H)) (λ (I1,K1,Z5,P5,L1,Z6,P6,L2) MM=>aN (bU n rec_ref03_sorted d0) I1 K1=some Q4∧aa MM (K1.2.1.map ay) L1∧aa MM (K1.2.2.map Dat.str) L2) (λ (I1,K1,Z5,P5,L1,Z6,P6,L2)=>I1) (n,((0:Int),([]:List TF0),([]:List Bs)),Z3,P3,[],Z4,P4,[]) (f.kp) N10 ⟨bH,D1,D2⟩ ?_) ?_
 ·rintro⟨I1,K1,Z5,P5,L1,Z6,P6,L2⟩ V2 _ W5 J2 dc f N11
  obtain⟨bI,D3,D4⟩:=dc
  obtain⟨I2,jP,rfl,be,T1⟩:=aT bI
  unfold bU at be
  refine ag (RR (Y f 2 λ_ f=>Y15 f N11 (fzu J2 R2) 4 rfl λ_ f=>Ye f 2 λ_ f=>RcF f be (λB3 F2=>?_) λB3 F31=>?_))
  ·have U1:=dI.1 B3
   refine St (ag (wp_block (RR (Y f 1 λ_ f=>Y15 f N11 (fzu J2 R2) 4 rfl λ_ f=>Y f 1 λ_ f=>?_))))
   obtain⟨X1,S1,F3⟩:=bS F2
   obtain⟨C1,cP,dS,-,D5,R3⟩:=Sli.at_ (B1.mono (J1.trans J2)) S1
   obtain⟨Z7,P7,Z8,P8,rfl,B4,B5⟩:=TF0.opn D5
   refine Z f (Y34 dS rfl (len:=d0.ac.length) (cap:=P1) (k:=.i64) (i:=K1.1) (e:=73) (sz:=6) (aF S1) (aE S1)) λ_ f=>Z f (Y36 (cs:=(lTF0 X1 Z7 P7 Z8 P8)) rfl (ad:=C1.add (K1.1.toNat*6)) (λj v h=>N11.cell (R3 j v h))) λ_ f=>?_
   obtain⟨X2,S2,F4⟩:=bS F3
   refine Y16 f N11 (hrec_ref03_sorted _ _ X1 (TF0.shutx (x:=X1) B4 B5) X2 S2) λ_ V3 W6 J3 N12 jO _ f=>?_
   obtain⟨jX,rfl,D6⟩:=jO
   obtain⟨Z9,P9,Z10,P10,rfl,B6,B7⟩:=TF0.opn D6
   refine Y12 f N12 (.cells #[iB 0,bO false,iL 0,S [],Sn,Sn] 73 (0,0)) λQ5 W7 N13 _ f=>Ys (lTF0 X2 Z9 P9 Z10 P10) (aTF0 X2 Z9 P9 Z10 P10) f N13 rfl rfl λW8 N14 _ f=>eT (ag (RR (Y f 1 λ_ f=>Y15 f N14 (fzu (J2.trans J3) R2) 0 rfl λ_ f=>Ye f 1 λ_ f=>RcF f F4 (λB8 F5=>?_) λB8 F8=>?_)))
   ·have U2:=dI.1 B8
    refine RR (Y f 1 λ_ f=>Z f (Y35 (v:=sL Z5 K1.2.1 P5) rfl (ad:=⟨Q3,4,none⟩) (N14.ownCell 3 rfl 4)) λ_ f=>Z f (Y36 (cs:=(lTF0 X2 Z9 P9 Z10 P10)) rfl (ad:=⟨Q5,0,none⟩) (al (N14.ownCell 0 rfl) 0 rfl)) λ_ f=>bg (k:=1) (c:=1) f N14 (.cells (aTF0 X2 Z9 P9 Z10 P10) 73 (0,0)) kr (λ_=>by kernel_rfl) λQ6 W9 N15 _ f=>?_)
    have N16:=N15.pl [2]
    obtain⟨O1,F6⟩:=nS F5
    refine Y22 (z:=.agg #[iB 0,bO false,iL 0,S [],Sn,Sn]) (f:=ay) (xs:=K1.2.1) (ys:=[(⟨X2.ab,(X2.ak),X2.an,X2.ah,X2.ac,X2.ae⟩:TF0)]) (news:=(lTF0 X2 Z9 P9 Z10 P10)) (ad:=⟨Q6,0,none⟩) (m:=1) (c:=1) f N16 (aa.mono J3 _ _ D3) (by exact⟨_,_,rfl,TF0.shut B6 B7,rfl⟩) rfl rfl rfl rfl (al (N16.ownCell 1 rfl) 0 rfl) (by exact O1) (by have hg_:=O1;first|omega|(simp only[List.length_cons,List.length_nil] at*;omega)) λZ11 P11 L3 W10 N17 D7 _ f=>?_
    have N18:=N17.pl [1]
    have N19:=N18.drop
    refine Y f 1 λ_ f=>Y28 f N19 3 rfl rfl (b:=Q3) (j:=4) (v:=sL Z11 (K1.2.1++[(⟨X2.ab,(X2.ak),X2.an,X2.ah,X2.ac,X2.ae⟩:TF0)]) P11) rfl (by exact rfl) (by simp) (by simp) _ rfl λW11 N20 _ f=>eT (wp_exit (co (iq (aH (aI (Y f 1 λ_ f=>?_))))))
    obtain⟨O2,F7⟩:=nS F6
    refine Y f 1 λ_ f=>?_
    have f:=f.st 24 (iW O2)
    refine Y f 1 λ_ f=>aA rfl ?_
    have N127:=N20.pl [4,4,4,3,4]
    refine aH ?_
    cases sI F7
    exact⟨⟨I2,(K1.1+1,K1.2.1++[(⟨X2.ab,(X2.ak),X2.an,X2.ah,X2.ac,X2.ae⟩:TF0)],K1.2.2),Z11,P11,L3,Z6,P6,L2⟩,Nat.lt_succ_self _,V3,(J2.trans J3),⟨T1,D7,(aa.mono J3 _ _ D4)⟩,f.kp,(N127.dropN 1)⟩
   ·have U3:=ap dI B8
    refine St (RR (Ye f 1 λ_ f=>ag (wp_block ?_)))
    obtain⟨Q7,sf,F9⟩:=bS F8
    refine wp_mono (Q:=λe a w=>(e=.exit 2∧(∃G1:Int,Q7=G1∧∃V5:Mem,V3.le V5∧Frm 97 [(1,pP Q1),(2,pP Q2),(3,pP Q3),(4,iL K1.1),(5,pP Q5),(6,iL G1)] a∧Hp w0 V5 ((Ent.obj Q5 (.cells (aTF0 X2 Z9 P9 Z10 P10) 73 (0,0)))::(rO 73 6 Z5 K1.2.1 P5 L1)::(rO 9 1 Z6 K1.2.2 P6 L2)::(oC Q3 #[iB d0.ab,bO d0.ak,iL d0.an,S d0.ah,sL Z5 K1.2.1 P5,sL Z6 K1.2.2 P6] 73)::(oC Q2 #[iB 0,bO false,iL 0,S [],Sn,Sn] 73)::H) w))) (bu (n:=97) (w0:=w0) (M:=V3) (λ (I3,K2)=>[(1,pP Q1),(2,pP Q2),(3,pP Q3),(4,iL K1.1),(5,pP Q5),(6,iL K2)]) (λ (I3,K2)=>((Ent.obj Q5 (.cells (aTF0 X2 Z9 P9 Z10 P10) 73 (0,0)))::(rO 73 6 Z5 K1.2.1 P5 L1)::(rO 9 1 Z6 K1.2.2 P6 L2)::(oC Q3 #[iB d0.ab,bO d0.ak,iL d0.an,S d0.ah,sL Z5 K1.2.1 P5,sL Z6 K1.2.2 P6] 73)::(oC Q2 #[iB 0,bO false,iL 0,S [],Sn,Sn] 73)::H)) (λ (I3,K2) MM=>aN (dK n d0 K1) I3 K2=some Q7) (λ (I3,K2)=>I3) (n,(0:Int)) (f.kp) N14 sf ?_) ?_
    ·rintro⟨I3,K2⟩ V4 _ W12 J4 I_2 f N21
     have sg:=I_2
     obtain⟨I4,r_2,rfl,nj,T2⟩:=aT sg
     unfold dK at nj
     refine ag (ag (cR N21 kr kr (Y5 default f 2 λ_ f=>Y2 f (λ_ pq=>Y35 (v:=sL Z6 K1.2.2 P6) rfl (ad:=⟨Q3,5,none⟩) (pq.ownCell 3 rfl 5)) λ_ f=>Y5 default f 3 λ_ f=>?_)))
     rcases cE nj with⟨B9,F10⟩|⟨B9,F16⟩
     ·have U4:=dI.1 B9
      have f:=f.st 45 (cB B9)
      refine Y5 default f 1 λ_ f=>Y2 f (λ_ pq=>Y35 (v:=sL Z6 K1.2.2 P6) rfl (ad:=⟨Q3,5,none⟩) (pq.ownCell 3 rfl 5)) λ_ f=>Y5 default f 1 λ_ f=>?_
      obtain⟨X3,S3,F11⟩:=bS F10
      obtain⟨Q8,P12,H3,mh⟩:=N21.rowAddr 2 rfl (eX S3)
      have f:=f.st 47 (H3)
      refine Y2 (v:=Pa ((⟨Q8,0,none⟩:Addr).add (K2.toNat*1))) f (λ_ pq=>Y33 rfl (ad:=⟨Q8,0,none⟩) (len:=K1.2.2.length) (cap:=P12) (k:=.i64) (i:=K2) (e:=9) (sz:=1) (aF S3) (aE S3)) λ_ f=>?_
      have f:=f.st 47 (H3.symm)
      obtain⟨c_3,-,D8,R4⟩:=aa.get K2.toNat (bY dY) (aa.mono (J3.trans J4) _ _ D4) (ij S3)
      obtain rfl:c_3=[S X3]:=D8
      refine Y2 f (λ_ pq=>Y35 (v:=S X3) rfl (ad:=(⟨Q8,0,none⟩:Addr).add (K2.toNat*1)) (by simpa [Addr.add] using (λj v h=>lj (pq.rowCell 2 rfl H3) R4 j v h) 0 _ rfl)) λ_ f=>Y5 default f 1 λ_ f=>Y4 f (fzu ((J2.trans J3).trans J4) R2) 5 rfl λ_ f=>Y5 default f 1 λ_ f=>?_
      obtain⟨X4,S4,F12⟩:=bS F11
      obtain⟨C2,c_4,lp,-,D9,R5⟩:=Sli.at_ (B2.mono (((J1.trans J2).trans J3).trans J4)) S4
      obtain rfl:c_4=[S X4]:=D9
      refine Y2 (v:=Pa (C2.add (K1.1.toNat*1))) f (λ_ pq=>Y34 lp rfl (len:=d0.ae.length) (cap:=P2) (k:=.i64) (i:=K1.1) (e:=9) (sz:=1) (aF S4) (aE S4)) λ_ f=>Y4 f R5 0 rfl λ_ f=>Y2 (v:=bO (Op.bytesLess X3 X4)) f (λ_ pq=>X_strlt rfl (l:=X3) (m:=X4) kr kr) λ_ f=>Y5 default f 1 λ_ f=>bW rfl ?_
      intro W13 N22
      refine aH (RcF f F12 (λB10 F13=>?_) λB10 F15=>?_)
      ·refine St (wp_block (aI (Y f 1 λ_ f=>?_)))
       obtain⟨O3,F14⟩:=nS F13
       refine Y f 1 λ_ f=>?_
       have f:=f.st 59 (iW O3)
       refine Y f 1 λ_ f=>aA rfl (cG (aH ?_))
       cases sI F14
       exact⟨⟨I4,K2+1⟩,Nat.lt_succ_self _,V4,J4,T2,f.kp,N22⟩
      ·refine wp_exit (co (co ?_))
       cases sI F15
       exact⟨rfl,K2,(sI T2).symm,V4,J4,f.kp,N22⟩
     ·have U7:=ap dI B9
      have f:=f.st 45 (cB B9)
      refine Y5 default f 12 λ_ f=>bW rfl ?_
      intro W14 N23
      refine aH (Y7 f (wp_exit (co (co ?_))))
      cases sI F16
      exact⟨rfl,K2,(sI T2).symm,V4,J4,f.kp,N23⟩
    ·rintro _ _ W16 ⟨rfl,G1,hq_,V5,J5,f,N24⟩
     subst Q7
     refine iq (aH (RR (Ye f 1 λ_ f=>RR (Ye f 1 λ_ f=>RR (Y f 2 λ_ f=>Z f (Y35 (v:=sL Z6 K1.2.2 P6) rfl (ad:=⟨Q3,5,none⟩) (N24.ownCell 3 rfl 5)) λ_ f=>Y f 1 λ_ f=>?_)))))
     obtain⟨O4,F17⟩:=nS F9
     obtain⟨Z12,P13,H4,hcap_2,hcn_1⟩:=N24.rowShape 2 rfl
     have f:=f.st 62 (H4)
     refine Z f (Y39 rfl (A:=Z12) (len:=K1.2.2.length) (cap:=P13) (k:=.i64) (a:=G1) (e:=9) (sz:=1) (by omega) (by omega)) λ_ f=>?_
     have f:=f.st 62 (H4.symm)
     obtain⟨Z13,P14,H5,N25⟩:=N24.nilR 9 1 Bs
     have f:=f.st 60 (H5)
     have D10:aa V5 (([]:List Bs).map Dat.str) []:=rfl
     obtain⟨O5,F18⟩:=nS F17
     refine Y23 (z:=S []) (f:=Dat.str) (xs:=([]:List Bs)) (ys:=K1.2.2) (lo:=G1.toNat) (hi:=K1.2.2.length) f N25 dY D10 (aa.mono (J3.trans J5) _ _ D4) 3 rfl H4 (by omega) (by omega) rfl rfl rfl O5 (by omega) λZ14 P15 L4 W17 N26 D11 _ f=>Ye f 1 λ_ f=>RR (Y f 2 λ_ f=>Z f (Y35 (v:=sL Z5 K1.2.1 P5) rfl (ad:=⟨Q3,4,none⟩) (N26.ownCell 4 rfl 4)) λ_ f=>Y f 1 λ_ f=>?_)
     obtain⟨O6,F19⟩:=nS F18
     obtain⟨Z15,P16,H6,hcap_3,hcn_2⟩:=N26.rowShape 2 rfl
     have f:=f.st 68 (H6)
     refine Z f (Y39 rfl (A:=Z15) (len:=K1.2.1.length) (cap:=P16) (k:=.i64) (a:=G1) (e:=73) (sz:=6) (by omega) (by omega)) λ_ f=>?_
     have f:=f.st 68 (H6.symm)
     obtain⟨Z16,P17,H7,N27⟩:=N26.nilR 73 6 TF0
     have f:=f.st 66 (H7)
     have D12:aa V5 (([]:List TF0).map ay) []:=rfl
     obtain⟨O7,F20⟩:=nS F19
     refine Y23 (z:=.agg #[iB 0,bO false,iL 0,S [],Sn,Sn]) (f:=ay) (xs:=([]:List TF0)) (ys:=K1.2.1) (lo:=G1.toNat) (hi:=K1.2.1.length) f N27 ka D12 (aa.mono (J3.trans J5) _ _ D3) 3 rfl H6 (by omega) (by omega) rfl rfl rfl O7 (by omega) λZ17 P18 L5 W18 N28 D13 _ f=>Ye f 1 λ_ f=>ag ?_
     obtain⟨cX,bX,F21⟩:=bS F20
     refine bj (λa_110 W40=>∃G2:List Bs,cX=G2∧∃V9:Mem,V5.le V9∧∃ (Z30:Oa),∃ (P31:Nat),∃ (L12:Lv),aa V9 (G2.map Dat.str) L12∧Frm 97 [(1,pP Q1),(2,pP Q2),(3,pP Q3),(4,iL K1.1),(5,pP Q5),(6,iL G1),(8,sL Z17 (([]:List TF0)++(K1.2.1.take K1.2.1.length).drop G1.toNat) P18)] a_110∧Hp w0 V9 ((rO 9 1 Z30 G2 P31 L12)::(rO 73 6 Z17 (([]:List TF0)++(K1.2.1.take K1.2.1.length).drop G1.toNat) P18 L5)::(Ent.obj Q5 (.cells (aTF0 X2 Z9 P9 Z10 P10) 73 (0,0)))::(rO 73 6 Z5 K1.2.1 P5 L1)::(oC Q3 #[iB d0.ab,bO d0.ak,iL d0.an,S d0.ah,sL Z5 K1.2.1 P5,sL Z30 G2 P31] 73)::(oC Q2 #[iB 0,bO false,iL 0,S [],Sn,Sn] 73)::H) W40) ?_ ?_
     ·have N44:=N28.pl [6,6,5,5,4,6,6]
      obtain⟨X5,S5,F22⟩:=bS bX
      obtain⟨O8,F23⟩:=nS F22
      obtain⟨O9,F24⟩:=nS F23
      obtain⟨O10,F25⟩:=nS F24
      refine iz (ks:=[13,14]) (E:=[rO 9 1 Z14 (([]:List Bs)++(K1.2.2.take K1.2.2.length).drop G1.toNat) P15 L4,rO 9 1 Z6 K1.2.2 P6 L2]) (Hr:=((rO 73 6 Z17 (([]:List TF0)++(K1.2.1.take K1.2.1.length).drop G1.toNat) P18 L5)::(Ent.obj Q5 (.cells (aTF0 X2 Z9 P9 Z10 P10) 73 (0,0)))::(rO 73 6 Z5 K1.2.1 P5 L1)::(oC Q3 #[iB d0.ab,bO d0.ak,iL d0.an,S d0.ah,sL Z5 K1.2.1 P5,sL Z6 K1.2.2 P6] 73)::(oC Q2 #[iB 0,bO false,iL 0,S [],Sn,Sn] 73)::H)) (.quiet 0 (.quiet 1 (.quiet 2 (.quiet 4 (.quiet 5 (.quiet 6 (.quiet 7 (.quiet 8 (.quiet 11 (.alt 3 (.alt 9 (.alt 10 (.alt 12 .done .none) .none) .none) (.alt 9 (.alt 3 (.alt 10 (.alt 12 .done .none) .none) .none) .none))))))))))) N44 kr kr kr (Y1 (v:=Pa (⟨Q3,5,none⟩)) rfl f rfl rfl (λ_ _=>by kernel_rfl) λ_ f=>Y1 (v:=sL Z6 K1.2.2 P6) rfl f rfl rfl (λ_ pq=>Y35 (v:=sL Z6 K1.2.2 P6) rfl (ad:=⟨Q3,5,none⟩) (pq.ownCell 3 rfl 5)) λ_ f=>Y1 (v:=iL G1) rfl f rfl rfl (λ_ _=>by kernel_rfl) λ_ f=>Y1 (v:=Pa ((⟨Q1,0,none⟩:Addr).add 5)) rfl f rfl rfl (λ_ _=>by kernel_rfl) λ_ f=>Y1 (v:=sL Z2 d0.ae P2) rfl f rfl rfl (λ_ pq=>Y35 (v:=sL Z2 d0.ae P2) rfl (ad:=(⟨Q1,0,none⟩:Addr).add 5) (pq.cell ((fzu ((J2.trans J3).trans J5) R2) 5 _ rfl))) λ_ f=>Y1 (v:=iL K1.1) rfl f rfl rfl (λ_ _=>by kernel_rfl) λ_ f=>?_)
      obtain⟨C4,c_6,qG,-,D18,R7⟩:=Sli.at_ (B2.mono (((J1.trans J2).trans J3).trans J5)) S5
      obtain rfl:c_6=[S X5]:=D18
      refine Y1 (v:=Pa (C4.add (K1.1.toNat*1))) rfl f rfl rfl (λ_ pq=>Y34 qG rfl (len:=d0.ae.length) (cap:=P2) (k:=.i64) (i:=K1.1) (e:=9) (sz:=1) (aF S5) (aE S5)) λ_ f=>Y1 (v:=S X5) rfl f rfl rfl (λ_ pq=>Y35 (v:=S X5) rfl (ad:=C4.add (K1.1.toNat*1)) (pq.cell (R7 0 _ rfl))) λ_ f=>Y1 (v:=sL Z14 (([]:List Bs)++(K1.2.2.take K1.2.2.length).drop G1.toNat) P15) rfl f rfl rfl (λ_ _=>by kernel_rfl) λ_ f=>aV rfl (λW22 N45=>?_) ?_
      ·obtain⟨Z22,P23,H10,hcap_5,hcn_4⟩:=N45.rowShape 1 rfl
       have f:=f.st 73 (H10)
       refine Z f (Y40 rfl (A:=Z22) (len:=K1.2.2.length) (cap:=P23) (k':=.i64) (b:=G1) (e:=9) (sz:=1) (by omega) (by omega)) λ_ f=>?_
       have f:=f.st 73 (H10.symm)
       refine aA rfl (aW 2 (mR _) N45 rfl (aV rfl (λW23 N46=>?_) ?_))
       ·refine bg (k:=1) (c:=1) f N46 (.cells #[S X5] 9 (0,0)) kr (λ_=>by kernel_rfl) λQ10 W24 N47 _ f=>aA rfl (aW 3 (mR _) N47 rfl (aV rfl (λW25 N48=>?_) ?_))
        ·have N49:=N48.pl [2]
         have D19:aa V5 ((K1.2.2.take G1.toNat).map Dat.str) (L2.take (G1.toNat*1)):=by rw[List.map_take];exact aa.takeD _ (bY dY) (aa.mono (J3.trans J5) _ _ D4)
         have hl_7: (K1.2.2.take G1.toNat).length=G1.toNat:=by rw[List.length_take];omega
         have N50:Hp w0 V5 ((Ent.row 9 1 (.slice (cutA Z22 1 0 P23) (K1.2.2.take G1.toNat).length P23) (K1.2.2.take G1.toNat).length (L2.take (G1.toNat*1)))::(oC Q10 #[S X5] 9)::(rO 9 1 Z14 (([]:List Bs)++(K1.2.2.take K1.2.2.length).drop G1.toNat) P15 L4)::(rO 73 6 Z17 (([]:List TF0)++(K1.2.1.take K1.2.1.length).drop G1.toNat) P18 L5)::(Ent.obj Q5 (.cells (aTF0 X2 Z9 P9 Z10 P10) 73 (0,0)))::(rO 73 6 Z5 K1.2.1 P5 L1)::(oC Q3 #[iB d0.ab,bO d0.ak,iL d0.an,S d0.ah,sL Z5 K1.2.1 P5,sL Z6 K1.2.2 P6] 73)::(oC Q2 #[iB 0,bO false,iL 0,S [],Sn,Sn] 73)::H) W25:=by rw[hl_7];exact N49.rowFront H10 (by omega)
         have f:=Frm.set f 75 (v:=.slice (cutA Z22 1 0 P23) G1.toNat P23) (v':=.slice (cutA Z22 1 0 P23) (K1.2.2.take G1.toNat).length P23) (by kernel_rfl) (by rw[hl_7])
         refine Y22 (z:=S []) (f:=Dat.str) (xs:=K1.2.2.take G1.toNat) (ys:=[X5]) (news:=[S X5]) (ad:=⟨Q10,0,none⟩) (m:=1) (c:=1) f N50 D19 (by exact⟨_,_,rfl,rfl,rfl⟩) rfl rfl rfl rfl (al (N50.ownCell 1 rfl) 0 rfl) (by exact O9) (by have hg_:=O9;first|omega|(simp only[List.length_cons,List.length_nil] at*;omega)) λZ23 P24 L8 W26 N51 D20 _ f=>?_
         have N52:=N51.pl [1]
         have N53:=N52.drop
         refine aA rfl (aW 2 (mR _) N53 rfl (aV rfl (λW27 N54=>?_) ?_))
         ·have N55:=N54.pl [1]
          obtain⟨Z24,P25,V7,H11,J7,N56,B12⟩:=N55.rowSli (f:=Dat.str) (xs:=([]:List Bs)++(K1.2.2.take K1.2.2.length).drop G1.toNat) dY D11
          have f:=f.st 83 (H11)
          refine Y24 (z:=S []) (f:=Dat.str) (xs:=(K1.2.2.take G1.toNat)++[X5]) (ys:=([]:List Bs)++(K1.2.2.take K1.2.2.length).drop G1.toNat) (c:=P25) f N56 (aa.mono J7 _ _ D20) B12 rfl rfl rfl O10 (by omega) λZ25 P26 L9 W28 N57 D21 _ f=>aA rfl (aW 1 J7 N57 rfl (iA λW29 N58=>Y f 1 λ_ f=>Y28 f N58 4 rfl rfl (b:=Q3) (j:=5) (v:=sL Z25 (((K1.2.2.take G1.toNat)++[X5])++(([]:List Bs)++(K1.2.2.take K1.2.2.length).drop G1.toNat)) P26) rfl (by exact rfl) (by simp) (by simp) _ rfl λW30 N59 _ f=>aA rfl (nW (aH ?_))))
          exact⟨((K1.2.2.take G1.toNat)++[X5])++(([]:List Bs)++(K1.2.2.take K1.2.2.length).drop G1.toNat),(sI F25).symm,V7,J7,Z25,P26,L9,D21,f.kp,N59⟩
         exact aQ
        exact aQ
       exact aQ
      refine aV rfl (λW31 N60=>?_) ?_
      ·refine bg (k:=1) (c:=1) f N60 (.cells #[S X5] 9 (0,0)) kr (λ_=>by kernel_rfl) λQ11 W32 N61 _ f=>aA rfl (aW 3 (mR _) N61 rfl (aV rfl (λW33 N62=>?_) ?_))
       ·obtain⟨Z26,P27,H12,hcap_6,hcn_5⟩:=N62.rowShape 2 rfl
        have f:=f.st 73 (H12)
        refine Z f (Y40 rfl (A:=Z26) (len:=K1.2.2.length) (cap:=P27) (k':=.i64) (b:=G1) (e:=9) (sz:=1) (by omega) (by omega)) λ_ f=>?_
        have f:=f.st 73 (H12.symm)
        refine aA rfl (aW 3 (mR _) N62 rfl (aV rfl (λW34 N63=>?_) ?_))
        ·have N64:=N63.pl [2]
         have D22:aa V5 ((K1.2.2.take G1.toNat).map Dat.str) (L2.take (G1.toNat*1)):=by rw[List.map_take];exact aa.takeD _ (bY dY) (aa.mono (J3.trans J5) _ _ D4)
         have hl_8: (K1.2.2.take G1.toNat).length=G1.toNat:=by rw[List.length_take];omega
         have N65:Hp w0 V5 ((Ent.row 9 1 (.slice (cutA Z26 1 0 P27) (K1.2.2.take G1.toNat).length P27) (K1.2.2.take G1.toNat).length (L2.take (G1.toNat*1)))::(oC Q11 #[S X5] 9)::(rO 9 1 Z14 (([]:List Bs)++(K1.2.2.take K1.2.2.length).drop G1.toNat) P15 L4)::(rO 73 6 Z17 (([]:List TF0)++(K1.2.1.take K1.2.1.length).drop G1.toNat) P18 L5)::(Ent.obj Q5 (.cells (aTF0 X2 Z9 P9 Z10 P10) 73 (0,0)))::(rO 73 6 Z5 K1.2.1 P5 L1)::(oC Q3 #[iB d0.ab,bO d0.ak,iL d0.an,S d0.ah,sL Z5 K1.2.1 P5,sL Z6 K1.2.2 P6] 73)::(oC Q2 #[iB 0,bO false,iL 0,S [],Sn,Sn] 73)::H) W34:=by rw[hl_8];exact N64.rowFront H12 (by omega)
         have f:=Frm.set f 75 (v:=.slice (cutA Z26 1 0 P27) G1.toNat P27) (v':=.slice (cutA Z26 1 0 P27) (K1.2.2.take G1.toNat).length P27) (by kernel_rfl) (by rw[hl_8])
         refine Y22 (z:=S []) (f:=Dat.str) (xs:=K1.2.2.take G1.toNat) (ys:=[X5]) (news:=[S X5]) (ad:=⟨Q11,0,none⟩) (m:=1) (c:=1) f N65 D22 (by exact⟨_,_,rfl,rfl,rfl⟩) rfl rfl rfl rfl (al (N65.ownCell 1 rfl) 0 rfl) (by exact O9) (by have hg_:=O9;first|omega|(simp only[List.length_cons,List.length_nil] at*;omega)) λZ27 P28 L10 W35 N66 D23 _ f=>?_
         have N67:=N66.pl [1]
         have N68:=N67.drop
         refine aA rfl (aW 2 (mR _) N68 rfl (aV rfl (λW36 N69=>?_) ?_))
         ·have N70:=N69.pl [1]
          obtain⟨Z28,P29,V8,H13,J8,N71,B13⟩:=N70.rowSli (f:=Dat.str) (xs:=([]:List Bs)++(K1.2.2.take K1.2.2.length).drop G1.toNat) dY D11
          have f:=f.st 83 (H13)
          refine Y24 (z:=S []) (f:=Dat.str) (xs:=(K1.2.2.take G1.toNat)++[X5]) (ys:=([]:List Bs)++(K1.2.2.take K1.2.2.length).drop G1.toNat) (c:=P29) f N71 (aa.mono J8 _ _ D23) B13 rfl rfl rfl O10 (by omega) λZ29 P30 L11 W37 N72 D24 _ f=>aA rfl (aW 1 J8 N72 rfl (iA λW38 N73=>Y f 1 λ_ f=>Y28 f N73 4 rfl rfl (b:=Q3) (j:=5) (v:=sL Z29 (((K1.2.2.take G1.toNat)++[X5])++(([]:List Bs)++(K1.2.2.take K1.2.2.length).drop G1.toNat)) P30) rfl (by exact rfl) (by simp) (by simp) _ rfl λW39 N74 _ f=>aA rfl (nW (aH ?_))))
          exact⟨((K1.2.2.take G1.toNat)++[X5])++(([]:List Bs)++(K1.2.2.take K1.2.2.length).drop G1.toNat),(sI F25).symm,V8,J8,Z29,P30,L11,D24,f.kp,N74⟩
         exact aQ
        exact aQ
       exact aQ
      exact aQ
     ·rintro a_110 W40 ⟨G2,dg,V9,J9,Z30,P31,L12,D25,f,N75⟩
      subst cX
      refine aH ?_
      obtain⟨jd,eW,F26⟩:=bS F21
      refine bj (λa_137 W62=>∃G3:List TF0,jd=G3∧∃V13:Mem,V9.le V13∧∃ (Z43:Oa),∃ (P44:Nat),∃ (L19:Lv),aa V13 (G3.map ay) L19∧Frm 97 [(1,pP Q1),(2,pP Q2),(3,pP Q3),(4,iL K1.1)] a_137∧Hp w0 V13 ((rO 73 6 Z43 G3 P44 L19)::(rO 9 1 Z30 G2 P31 L12)::(Ent.obj Q5 (.cells (aTF0 X2 Z9 P9 Z10 P10) 73 (0,0)))::(oC Q3 #[iB d0.ab,bO d0.ak,iL d0.an,S d0.ah,sL Z43 G3 P44,sL Z30 G2 P31] 73)::(oC Q2 #[iB 0,bO false,iL 0,S [],Sn,Sn] 73)::H) W62) ?_ ?_
      ·have N90:=N75.pl [5,5,4,3,5,5]
       obtain⟨O11,F27⟩:=nS eW
       obtain⟨O12,F28⟩:=nS F27
       obtain⟨O13,F29⟩:=nS F28
       refine iz (ks:=[9,10]) (E:=[rO 73 6 Z17 (([]:List TF0)++(K1.2.1.take K1.2.1.length).drop G1.toNat) P18 L5,rO 73 6 Z5 K1.2.1 P5 L1]) (Hr:=((rO 9 1 Z30 G2 P31 L12)::(Ent.obj Q5 (.cells (aTF0 X2 Z9 P9 Z10 P10) 73 (0,0)))::(oC Q3 #[iB d0.ab,bO d0.ak,iL d0.an,S d0.ah,sL Z5 K1.2.1 P5,sL Z30 G2 P31] 73)::(oC Q2 #[iB 0,bO false,iL 0,S [],Sn,Sn] 73)::H)) (.quiet 0 (.quiet 1 (.quiet 2 (.quiet 4 (.quiet 7 (.alt 3 (.alt 5 (.alt 6 (.alt 8 .done .none) .none) .none) (.alt 5 (.alt 3 (.alt 6 (.alt 8 .done .none) .none) .none) .none))))))) N90 kr kr kr (Y1 (v:=Pa (⟨Q3,4,none⟩)) rfl f rfl rfl (λ_ _=>by kernel_rfl) λ_ f=>Y1 (v:=sL Z5 K1.2.1 P5) rfl f rfl rfl (λ_ pq=>Y35 (v:=sL Z5 K1.2.1 P5) rfl (ad:=⟨Q3,4,none⟩) (pq.ownCell 2 rfl 4)) λ_ f=>Y1 (v:=iL G1) rfl f rfl rfl (λ_ _=>by kernel_rfl) λ_ f=>Y1 (v:=.agg (aTF0 X2 Z9 P9 Z10 P10)) rfl f rfl rfl (λ_ pq=>Y36 (cs:=(lTF0 X2 Z9 P9 Z10 P10)) rfl (ad:=⟨Q5,0,none⟩) (al (pq.ownCell 1 rfl) 0 rfl)) λ_ f=>Y1 (v:=sL Z17 (([]:List TF0)++(K1.2.1.take K1.2.1.length).drop G1.toNat) P18) rfl f rfl rfl (λ_ _=>by kernel_rfl) λ_ f=>aV rfl (λW44 N91=>?_) ?_)
       ·obtain⟨Z35,P36,H16,hcap_8,hcn_7⟩:=N91.rowShape 1 rfl
        have f:=f.st 87 (H16)
        refine Z f (Y40 rfl (A:=Z35) (len:=K1.2.1.length) (cap:=P36) (k':=.i64) (b:=G1) (e:=73) (sz:=6) (by omega) (by omega)) λ_ f=>?_
        have f:=f.st 87 (H16.symm)
        refine aA rfl (aW 2 (mR _) N91 rfl (aV rfl (λW45 N92=>?_) ?_))
        ·refine bg (k:=1) (c:=1) f N92 (.cells (aTF0 X2 Z9 P9 Z10 P10) 73 (0,0)) kr (λ_=>by kernel_rfl) λQ13 W46 N93 _ f=>aA rfl (aW 3 (mR _) N93 rfl (aV rfl (λW47 N94=>?_) ?_))
         ·have N95:=N94.pl [2]
          have D29:aa V9 ((K1.2.1.take G1.toNat).map ay) (L1.take (G1.toNat*6)):=by rw[List.map_take];exact aa.takeD _ (bY ka) (aa.mono ((J3.trans J5).trans J9) _ _ D3)
          have hl_10: (K1.2.1.take G1.toNat).length=G1.toNat:=by rw[List.length_take];omega
          have N96:Hp w0 V9 ((Ent.row 73 6 (.slice (cutA Z35 6 0 P36) (K1.2.1.take G1.toNat).length P36) (K1.2.1.take G1.toNat).length (L1.take (G1.toNat*6)))::(Ent.obj Q13 (.cells (aTF0 X2 Z9 P9 Z10 P10) 73 (0,0)))::(rO 73 6 Z17 (([]:List TF0)++(K1.2.1.take K1.2.1.length).drop G1.toNat) P18 L5)::(rO 9 1 Z30 G2 P31 L12)::(Ent.obj Q5 (.cells (aTF0 X2 Z9 P9 Z10 P10) 73 (0,0)))::(oC Q3 #[iB d0.ab,bO d0.ak,iL d0.an,S d0.ah,sL Z5 K1.2.1 P5,sL Z30 G2 P31] 73)::(oC Q2 #[iB 0,bO false,iL 0,S [],Sn,Sn] 73)::H) W47:=by rw[hl_10];exact N95.rowFront H16 (by omega)
          have f:=Frm.set f 89 (v:=.slice (cutA Z35 6 0 P36) G1.toNat P36) (v':=.slice (cutA Z35 6 0 P36) (K1.2.1.take G1.toNat).length P36) (by kernel_rfl) (by rw[hl_10])
          refine Y22 (z:=.agg #[iB 0,bO false,iL 0,S [],Sn,Sn]) (f:=ay) (xs:=K1.2.1.take G1.toNat) (ys:=[(⟨X2.ab,(X2.ak),X2.an,X2.ah,X2.ac,X2.ae⟩:TF0)]) (news:=(lTF0 X2 Z9 P9 Z10 P10)) (ad:=⟨Q13,0,none⟩) (m:=1) (c:=1) f N96 D29 (by exact⟨_,_,rfl,TF0.shut (B6.mono (J5.trans J9)) (B7.mono (J5.trans J9)),rfl⟩) rfl rfl rfl rfl (al (N96.ownCell 1 rfl) 0 rfl) (by exact O12) (by have hg_:=O12;first|omega|(simp only[List.length_cons,List.length_nil] at*;omega)) λZ36 P37 L15 W48 N97 D30 _ f=>?_
          have N98:=N97.pl [1]
          have N99:=N98.drop
          refine aA rfl (aW 2 (mR _) N99 rfl (aV rfl (λW49 N100=>?_) ?_))
          ·have N101:=N100.pl [1]
           obtain⟨Z37,P38,V11,H17,J11,N102,B15⟩:=N101.rowSli (f:=ay) (xs:=([]:List TF0)++(K1.2.1.take K1.2.1.length).drop G1.toNat) ka (aa.mono J9 _ _ D13)
           have f:=f.st 93 (H17)
           refine Y24 (z:=.agg #[iB 0,bO false,iL 0,S [],Sn,Sn]) (f:=ay) (xs:=(K1.2.1.take G1.toNat)++[(⟨X2.ab,(X2.ak),X2.an,X2.ah,X2.ac,X2.ae⟩:TF0)]) (ys:=([]:List TF0)++(K1.2.1.take K1.2.1.length).drop G1.toNat) (c:=P38) f N102 (aa.mono J11 _ _ D30) B15 rfl rfl rfl O13 (by omega) λZ38 P39 L16 W50 N103 D31 _ f=>aA rfl (aW 1 J11 N103 rfl (iA λW51 N104=>Y f 1 λ_ f=>Y28 f N104 3 rfl rfl (b:=Q3) (j:=4) (v:=sL Z38 (((K1.2.1.take G1.toNat)++[(⟨X2.ab,(X2.ak),X2.an,X2.ah,X2.ac,X2.ae⟩:TF0)])++(([]:List TF0)++(K1.2.1.take K1.2.1.length).drop G1.toNat)) P39) rfl (by exact rfl) (by simp) (by simp) _ rfl λW52 N105 _ f=>aA rfl (nW (aH ?_))))
           exact⟨((K1.2.1.take G1.toNat)++[(⟨X2.ab,(X2.ak),X2.an,X2.ah,X2.ac,X2.ae⟩:TF0)])++(([]:List TF0)++(K1.2.1.take K1.2.1.length).drop G1.toNat),(sI F29).symm,V11,J11,Z38,P39,L16,D31,f.kp,N105⟩
          exact aQ
         exact aQ
        exact aQ
       refine aV rfl (λW53 N106=>?_) ?_
       ·refine bg (k:=1) (c:=1) f N106 (.cells (aTF0 X2 Z9 P9 Z10 P10) 73 (0,0)) kr (λ_=>by kernel_rfl) λQ14 W54 N107 _ f=>aA rfl (aW 3 (mR _) N107 rfl (aV rfl (λW55 N108=>?_) ?_))
        ·obtain⟨Z39,P40,H18,hcap_9,hcn_8⟩:=N108.rowShape 2 rfl
         have f:=f.st 87 (H18)
         refine Z f (Y40 rfl (A:=Z39) (len:=K1.2.1.length) (cap:=P40) (k':=.i64) (b:=G1) (e:=73) (sz:=6) (by omega) (by omega)) λ_ f=>?_
         have f:=f.st 87 (H18.symm)
         refine aA rfl (aW 3 (mR _) N108 rfl (aV rfl (λW56 N109=>?_) ?_))
         ·have N110:=N109.pl [2]
          have D32:aa V9 ((K1.2.1.take G1.toNat).map ay) (L1.take (G1.toNat*6)):=by rw[List.map_take];exact aa.takeD _ (bY ka) (aa.mono ((J3.trans J5).trans J9) _ _ D3)
          have hl_11: (K1.2.1.take G1.toNat).length=G1.toNat:=by rw[List.length_take];omega
          have N111:Hp w0 V9 ((Ent.row 73 6 (.slice (cutA Z39 6 0 P40) (K1.2.1.take G1.toNat).length P40) (K1.2.1.take G1.toNat).length (L1.take (G1.toNat*6)))::(Ent.obj Q14 (.cells (aTF0 X2 Z9 P9 Z10 P10) 73 (0,0)))::(rO 73 6 Z17 (([]:List TF0)++(K1.2.1.take K1.2.1.length).drop G1.toNat) P18 L5)::(rO 9 1 Z30 G2 P31 L12)::(Ent.obj Q5 (.cells (aTF0 X2 Z9 P9 Z10 P10) 73 (0,0)))::(oC Q3 #[iB d0.ab,bO d0.ak,iL d0.an,S d0.ah,sL Z5 K1.2.1 P5,sL Z30 G2 P31] 73)::(oC Q2 #[iB 0,bO false,iL 0,S [],Sn,Sn] 73)::H) W56:=by rw[hl_11];exact N110.rowFront H18 (by omega)
          have f:=Frm.set f 89 (v:=.slice (cutA Z39 6 0 P40) G1.toNat P40) (v':=.slice (cutA Z39 6 0 P40) (K1.2.1.take G1.toNat).length P40) (by kernel_rfl) (by rw[hl_11])
          refine Y22 (z:=.agg #[iB 0,bO false,iL 0,S [],Sn,Sn]) (f:=ay) (xs:=K1.2.1.take G1.toNat) (ys:=[(⟨X2.ab,(X2.ak),X2.an,X2.ah,X2.ac,X2.ae⟩:TF0)]) (news:=(lTF0 X2 Z9 P9 Z10 P10)) (ad:=⟨Q14,0,none⟩) (m:=1) (c:=1) f N111 D32 (by exact⟨_,_,rfl,TF0.shut (B6.mono (J5.trans J9)) (B7.mono (J5.trans J9)),rfl⟩) rfl rfl rfl rfl (al (N111.ownCell 1 rfl) 0 rfl) (by exact O12) (by have hg_:=O12;first|omega|(simp only[List.length_cons,List.length_nil] at*;omega)) λZ40 P41 L17 W57 N112 D33 _ f=>?_
          have N113:=N112.pl [1]
          have N114:=N113.drop
          refine aA rfl (aW 2 (mR _) N114 rfl (aV rfl (λW58 N115=>?_) ?_))
          ·have N116:=N115.pl [1]
           obtain⟨Z41,P42,V12,H19,J12,N117,B16⟩:=N116.rowSli (f:=ay) (xs:=([]:List TF0)++(K1.2.1.take K1.2.1.length).drop G1.toNat) ka (aa.mono J9 _ _ D13)
           have f:=f.st 93 (H19)
           refine Y24 (z:=.agg #[iB 0,bO false,iL 0,S [],Sn,Sn]) (f:=ay) (xs:=(K1.2.1.take G1.toNat)++[(⟨X2.ab,(X2.ak),X2.an,X2.ah,X2.ac,X2.ae⟩:TF0)]) (ys:=([]:List TF0)++(K1.2.1.take K1.2.1.length).drop G1.toNat) (c:=P42) f N117 (aa.mono J12 _ _ D33) B16 rfl rfl rfl O13 (by omega) λZ42 P43 L18 W59 N118 D34 _ f=>aA rfl (aW 1 J12 N118 rfl (iA λW60 N119=>Y f 1 λ_ f=>Y28 f N119 3 rfl rfl (b:=Q3) (j:=4) (v:=sL Z42 (((K1.2.1.take G1.toNat)++[(⟨X2.ab,(X2.ak),X2.an,X2.ah,X2.ac,X2.ae⟩:TF0)])++(([]:List TF0)++(K1.2.1.take K1.2.1.length).drop G1.toNat)) P43) rfl (by exact rfl) (by simp) (by simp) _ rfl λW61 N120 _ f=>aA rfl (nW (aH ?_))))
           exact⟨((K1.2.1.take G1.toNat)++[(⟨X2.ab,(X2.ak),X2.an,X2.ah,X2.ac,X2.ae⟩:TF0)])++(([]:List TF0)++(K1.2.1.take K1.2.1.length).drop G1.toNat),(sI F29).symm,V12,J12,Z42,P43,L18,D34,f.kp,N120⟩
          exact aQ
         exact aQ
        exact aQ
       exact aQ
      ·rintro a_137 W62 ⟨G3,hZ,V13,J13,Z43,P44,L19,D35,f,N121⟩
       subst jd
       refine cG (aH (aI (Y f 1 λ_ f=>?_)))
       obtain⟨O14,F30⟩:=nS F26
       refine Y f 1 λ_ f=>?_
       have f:=f.st 24 (iW O14)
       refine Y f 1 λ_ f=>aA rfl ?_
       have N132:=N121.pl [4,4,3,3,4]
       refine aH ?_
       cases sI F30
       exact⟨⟨I2,(K1.1+1,G3,G2),Z43,P44,L19,Z30,P31,L12⟩,Nat.lt_succ_self _,V13,((((J2.trans J3).trans J5).trans J9).trans J13),⟨T1,D35,(aa.mono J13 _ _ D25)⟩,f.kp,(N132.dropN 1)⟩
  ·have U8:=ap dI B3
   refine wp_exit (co (co ?_))
   cases sI F31
   exact⟨rfl,(K1.2.1,K1.2.2),(sI T1).symm,V2,J2,Z5,P5,L1,Z6,P6,L2,D3,D4,f.kp,N11⟩
 ·rintro _ _ W64 ⟨rfl,G4,hq_,V14,J14,Z44,P45,L20,Z45,P46,L21,D36,D37,f,N122⟩
  subst Q4
  refine iq (aH (RR (Z f (Y36 (cs:=[iB d0.ab,bO d0.ak,iL d0.an,S d0.ah,sL Z44 G4.1 P45,sL Z45 G4.2 P46]) rfl (ad:=⟨Q3,0,none⟩) (al (N122.ownCell 2 rfl) 0 rfl)) λ_ f=>?_)))
  obtain⟨Z46,P47,V15,H20,J15,N133,B17⟩:=N122.rowSli (f:=ay) (xs:=G4.1) ka D36
  have f:=Frm.set f 96 (v:=.agg #[.int .i8 d0.ab,.bool d0.ak,.int .i64 d0.an,S d0.ah,.slice Z44 G4.1.length P45,.slice Z45 G4.2.length P46]) (v':=.agg #[.int .i8 d0.ab,.bool d0.ak,.int .i64 d0.an,S d0.ah,.slice Z46 G4.1.length P47,.slice Z45 G4.2.length P46]) (by kernel_rfl) (by rw[H20])
  have N134:Hp w0 V15 ((rO 9 1 Z45 G4.2 P46 L21)::(oC Q3 #[iB d0.ab,bO d0.ak,iL d0.an,S d0.ah,sL Z46 G4.1 P47,sL Z45 G4.2 P46] 73)::(oC Q2 #[iB 0,bO false,iL 0,S [],Sn,Sn] 73)::H) W64:=by unfold sL at N133;rw[H20] at N133;exact N133
  obtain⟨Z47,P48,V16,H21,J16,N135,B18⟩:=N134.rowSli (f:=Dat.str) (xs:=G4.2) dY (aa.mono J15 _ _ D37)
  have f:=Frm.set f 96 (v:=.agg #[.int .i8 d0.ab,.bool d0.ak,.int .i64 d0.an,S d0.ah,.slice Z46 G4.1.length P47,.slice Z45 G4.2.length P46]) (v':=.agg #[.int .i8 d0.ab,.bool d0.ak,.int .i64 d0.an,S d0.ah,.slice Z46 G4.1.length P47,.slice Z47 G4.2.length P48]) (by kernel_rfl) (by rw[H21])
  have N136:Hp w0 V16 ((oC Q3 #[iB d0.ab,bO d0.ak,iL d0.an,S d0.ah,sL Z46 G4.1 P47,sL Z47 G4.2 P48] 73)::(oC Q2 #[iB 0,bO false,iL 0,S [],Sn,Sn] 73)::H) W64:=by unfold sL at N135;rw[H21] at N135;exact N135
  have N137:=N136.pl [1]
  refine Ys [iB d0.ab,bO d0.ak,iL d0.an,S d0.ah,sL Z46 G4.1 P47,sL Z47 G4.2 P48] #[iB d0.ab,bO d0.ak,iL d0.an,S d0.ah,sL Z46 G4.1 P47,sL Z47 G4.2 P48] f N137 rfl rfl λW65 N138 _ f=>Er (sO f rfl (Y10 (cs:=[iB d0.ab,bO d0.ak,iL d0.an,S d0.ah,sL Z46 G4.1 P47,sL Z47 G4.2 P48]) (ad:=⟨Q2,0,none⟩) f (al (N138.ownCell 0 rfl) 0 rfl)) ?_)
  cases sI F1
  exact⟨_,rfl,V16,(((J1.trans J14).trans J15).trans J16),(N138.dropN 2),⟨[iB d0.ab,bO d0.ak,iL d0.an,S d0.ah,sL Z46 G4.1 P47,sL Z47 G4.2 P48],rfl,(TF0.shut (B17.mono J16) B18)⟩⟩
def cc (n:Nat):Nat→TF0→Option TF0
 |0=>λ_=>none
 |k+1=>gO n (cc n k)
def kg (n:Nat) (d0:TF0):Option TF0:=cc n n d0
theorem mj (n:Nat) (M:Mem) (c0:Lv) (d0:TF0) (h0:Rep M (ay d0) c0) (r:TF0) (hF:kg n d0=some r):Ok Tryz.prog M 76 [.agg c0.toArray] (λM' v=>∃ (c0:Lv),v=.agg c0.toArray∧Rep M' (ay r) c0):=by
 have key: ∀ (k:Nat) (M:Mem) (c0:Lv) (d0:TF0) (h0:Rep M (ay d0) c0) (r:TF0) (hF:cc n k d0=some r),Ok Tryz.prog M 76 [.agg c0.toArray] (λM' v=>∃ (c0:Lv),v=.agg c0.toArray∧Rep M' (ay r) c0):=by
  intro k
  induction k with
  |zero=>intro M c0 d0 h0 r hF;simp[cc] at hF
  |succ k ih=>intro M c0 d0 h0 r hF;exact oZ n (cc n k) ih M c0 d0 h0 r hF
 exact key n M c0 d0 h0 r hF
def dr (n:Nat) (rec_ref03_compare:TF0→TF0→Option Int) (d0:TF0) (d1:TF0) (K1:Int):Option (Lp Int (Sum Int Unit)):=
    ((bif(decide (K1<((d0.ac.length:Nat):Int))) then
     (some ((decide (K1<((d1.ac.length:Nat):Int)))))
      else
       some ((false)):Option Bool)).bind λG1=>
    bif G1 then
     (((bif(decide (d0.ab=5)) then
      ((aR d0.ae K1).bind λX1=>
      (aR d1.ae K1).bind λX2=>
      some ((!(decide (X1=X2)))))
       else
        some ((false)):Option Bool)).bind λG2=>
     bif G2 then
      ((aR d0.ae K1).bind λX3=>
      (aR d1.ae K1).bind λX4=>
      bif(Op.bytesLess X3 X4) then
       (some (.br (.inl (-1:Int))))
      else
       some (.br (.inl (1:Int))))
     else
      (aR d0.ac K1).bind λX5=>
      (aR d1.ac K1).bind λX6=>
      (rec_ref03_compare X5 X6).bind λX7=>
      bif(!(decide (X7=0))) then
       (some (.br (.inl X7)))
      else
       aZ (inR .i64 (K1+1))<|
       some (.nx (K1+1)))
    else
     some (.br (.inr ()))
def ga (n:Nat) (rec_ref03_compare:TF0→TF0→Option Int) (d0:TF0) (d1:TF0):Option Int:=
 bif(!(decide (d0.ab=d1.ab))) then
  (bif(decide (d0.ab<d1.ab)) then
   (some ((-1:Int)))
  else
   some ((1:Int)))
 else
  bif(!(d0.ak==d1.ak)) then
   (bif d1.ak then
    (some ((-1:Int)))
   else
    some ((1:Int)))
  else
   bif(!(decide (d0.an=d1.an))) then
    (bif(decide (d0.an<d1.an)) then
     (some ((-1:Int)))
    else
     some ((1:Int)))
   else
    bif(!(decide (d0.ah=d1.ah))) then
     (bif(Op.bytesLess d0.ah d1.ah) then
      (some ((-1:Int)))
     else
      some ((1:Int)))
    else
     (aN (dr n rec_ref03_compare d0 d1) n (0:Int)).bind λQ3=>
     (match Q3 with
     |.inl G3=>some (G3)
     |.inr G4=>bif(!(decide (((d0.ac.length:Nat):Int)=((d1.ac.length:Nat):Int)))) then
      (bif(decide (((d0.ac.length:Nat):Int)<((d1.ac.length:Nat):Int))) then
       (some ((-1:Int)))
      else
       some ((1:Int)))
      else
       some ((0:Int)))
set_option maxRecDepth 20000 in
theorem oq (n:Nat) (rec_ref03_compare:TF0→TF0→Option Int) (hrec_ref03_compare: ∀ (M:Mem) (c0:Lv) (d0:TF0) (h0:Rep M (ay d0) c0) (c1:Lv) (d1:TF0) (h1:Rep M (ay d1) c1) (r:Int) (hF:rec_ref03_compare d0 d1=some r),Ok Tryz.prog M 75 [.agg c0.toArray,.agg c1.toArray] (λ_ v=>v=iL r)) (M:Mem) (c0:Lv) (d0:TF0) (h0:Rep M (ay d0) c0) (c1:Lv) (d1:TF0) (h1:Rep M (ay d1) c1) (r:Int) (hF:ga n rec_ref03_compare d0 d1=some r):Ok Tryz.prog M 75 [.agg c0.toArray,.agg c1.toArray] (λ_ v=>v=iL r):=by
 unfold ga at hF
 intro M1 hM0 w0 H w p0
 replace h0:=Rep.mono hM0 _ _ h0
 replace h1:=Rep.mono hM0 _ _ h1
 obtain⟨Z1,P1,Z2,P2,rfl,B1,B2⟩:=TF0.opn h0
 obtain⟨Z3,P3,Z4,P4,rfl,B3,B4⟩:=TF0.opn h1
 refine Re 113 Tryz.func75 rfl λa0 f0=>RR (Y13 (cs:=(aTF0 d0 Z1 P1 Z2 P2)) (T:=73) f0 p0 λQ1 V1 W1 J1 R1 N1 _ f=>?_)
 have R2:=bR R1
 refine Y13 (cs:=(aTF0 d1 Z3 P3 Z4 P4)) (T:=73) f N1 λQ2 V2 W2 J2 R3 N2 _ f=>?_
 have R4:=bR R3
 refine Ye f 1 λ_ f=>ag (RR (Y f 1 λ_ f=>Y15 f N2 (fzu J2 R2) 0 rfl λ_ f=>Y f 1 λ_ f=>Y15 f N2 R4 0 rfl λ_ f=>Ye f 1 λ_ f=>RcF f hF (λB5 F1=>?_) λB5 F4=>?_))
 ·have U1: ¬ (d0.ab=d1.ab):=(av dI).1 B5
  refine ag (RR (Y f 1 λ_ f=>Y15 f N2 (fzu J2 R2) 0 rfl λ_ f=>Y f 1 λ_ f=>Y15 f N2 R4 0 rfl λ_ f=>Ye f 1 λ_ f=>RcF f F1 (λB6 F2=>?_) λB6 F3=>?_))
  ·have U2:=dI.1 B6
   refine RR (Ye f 1 λ_ f=>wp_ret (aS (aS (ao f rfl (Lk 4 (iL (-1))) ?_))))
   cases sI F2
   exact⟨_,rfl,V2,(J1.trans J2),N2,rfl⟩
  ·have U3:=ap dI B6
   refine St (RR (Ye f 1 λ_ f=>wp_ret (aS (ao f rfl (Lk 4 (iL 1)) ?_))))
   cases sI F3
   exact⟨_,rfl,V2,(J1.trans J2),N2,rfl⟩
 ·have U4: ¬ (¬ (d0.ab=d1.ab)):=ap (av dI) B5
  refine St (ag (RR (Y f 1 λ_ f=>Y15 f N2 (fzu J2 R2) 1 rfl λ_ f=>Y f 1 λ_ f=>Y15 f N2 R4 1 rfl λ_ f=>Ye f 1 λ_ f=>RcF f F4 (λB7 F5=>?_) λB7 F8=>?_)))
  ·have U5: (d0.ak==d1.ak)=false:=by simpa using B7
   refine ag (RR (Y f 1 λ_ f=>Y15 f N2 R4 1 rfl λ_ f=>eT (RcF f F5 (λB8 F6=>?_) λB8 F7=>?_)))
   ·refine RR (Ye f 1 λ_ f=>wp_ret (aS (aS (ao f rfl (Lk 4 (iL (-1))) ?_))))
    cases sI F6
    exact⟨_,rfl,V2,(J1.trans J2),N2,rfl⟩
   ·refine St (RR (Ye f 1 λ_ f=>wp_ret (aS (ao f rfl (Lk 4 (iL 1)) ?_))))
    cases sI F7
    exact⟨_,rfl,V2,(J1.trans J2),N2,rfl⟩
  ·have U8: (d0.ak==d1.ak)=true:=by simpa using B7
   refine St (ag (RR (Y f 1 λ_ f=>Y15 f N2 (fzu J2 R2) 2 rfl λ_ f=>Y f 1 λ_ f=>Y15 f N2 R4 2 rfl λ_ f=>Ye f 1 λ_ f=>RcF f F8 (λB9 F9=>?_) λB9 F12=>?_)))
   ·have U9: ¬ (d0.an=d1.an):=(av dI).1 B9
    refine ag (RR (Y f 1 λ_ f=>Y15 f N2 (fzu J2 R2) 2 rfl λ_ f=>Y f 1 λ_ f=>Y15 f N2 R4 2 rfl λ_ f=>Ye f 1 λ_ f=>RcF f F9 (λB10 F10=>?_) λB10 F11=>?_))
    ·have U10:=dI.1 B10
     refine RR (Ye f 1 λ_ f=>wp_ret (aS (aS (ao f rfl (Lk 4 (iL (-1))) ?_))))
     cases sI F10
     exact⟨_,rfl,V2,(J1.trans J2),N2,rfl⟩
    ·have U11:=ap dI B10
     refine St (RR (Ye f 1 λ_ f=>wp_ret (aS (ao f rfl (Lk 4 (iL 1)) ?_))))
     cases sI F11
     exact⟨_,rfl,V2,(J1.trans J2),N2,rfl⟩
   ·have U12: ¬ (¬ (d0.an=d1.an)):=ap (av dI) B9
    refine St (ag (RR (Y f 1 λ_ f=>Y15 f N2 (fzu J2 R2) 3 rfl λ_ f=>Y f 1 λ_ f=>Y15 f N2 R4 3 rfl λ_ f=>Z f (Y43 rfl (l:=d0.ah) (m:=d1.ah)) λ_ f=>eT (RcF f F12 (λB11 F13=>?_) λB11 F16=>?_))))
    ·have U13: ¬ (d0.ah=d1.ah):=(av dI).1 B11
     refine ag (RR (Y f 1 λ_ f=>Y15 f N2 (fzu J2 R2) 3 rfl λ_ f=>Y f 1 λ_ f=>Y15 f N2 R4 3 rfl λ_ f=>Z (v:=bO (Op.bytesLess d0.ah d1.ah)) f (X_strlt rfl (l:=d0.ah) (m:=d1.ah) kr kr) λ_ f=>eT (RcF f F13 (λB12 F14=>?_) λB12 F15=>?_)))
     ·refine RR (Ye f 1 λ_ f=>wp_ret (aS (aS (ao f rfl (Lk 4 (iL (-1))) ?_))))
      cases sI F14
      exact⟨_,rfl,V2,(J1.trans J2),N2,rfl⟩
     ·refine St (RR (Ye f 1 λ_ f=>wp_ret (aS (ao f rfl (Lk 4 (iL 1)) ?_))))
      cases sI F15
      exact⟨_,rfl,V2,(J1.trans J2),N2,rfl⟩
    ·have U16: ¬ (¬ (d0.ah=d1.ah)):=ap (av dI) B11
     refine St (ag (RR (Ye f 1 λ_ f=>wp_block ?_)))
     obtain⟨Q3,bH,F17⟩:=bS F16
     refine wp_mono (Q:=λe a w=>(e=.ret∧(∃G3:Int,Q3=.inl G3∧∃V6:Mem,V2.le V6∧Frm 113 [(4,iL G3)] a∧Hp w0 V6 (H) w))∨(e=.exit 0∧(∃G4:Unit,Q3=.inr G4∧∃V7:Mem,V2.le V7∧Frm 113 [(2,pP Q1),(3,pP Q2)] a∧Hp w0 V7 (H) w))) (bu (n:=113) (w0:=w0) (M:=V2) (λ (I1,K1)=>[(2,pP Q1),(3,pP Q2),(5,iL K1)]) (λ (I1,K1)=>(H)) (λ (I1,K1) MM=>aN (dr n rec_ref03_compare d0 d1) I1 K1=some Q3) (λ (I1,K1)=>I1) (n,(0:Int)) (f.kp) N2 bH ?_) ?_
     ·rintro⟨I1,K1⟩ V3 _ W3 J3 dc f N3
      have bI:=dc
      obtain⟨I2,jP,rfl,be,T1⟩:=aT bI
      unfold dr at be
      refine ag (ag ?_)
      obtain⟨cX,bX,F18⟩:=bS be
      refine bj (λa_58 W4=>∃G1:Bool,cX=G1∧∃V4:Mem,V3.le V4∧Frm 113 [(2,pP Q1),(3,pP Q2),(5,iL K1),(55,bO G1)] a_58∧Hp w0 V4 (H) W4) ?_ ?_
      ·refine aI (Y f 2 λ_ f=>Y15 f N3 (fzu (J2.trans J3) R2) 4 rfl λ_ f=>Y f 3 λ_ f=>?_)
       rcases cE bX with⟨B13,F19⟩|⟨B13,F20⟩
       ·have U17:=dI.1 B13
        have f:=f.st 49 (cB B13)
        refine Y f 2 λ_ f=>Y15 f N3 (fzu J3 R4) 4 rfl λ_ f=>Ye f 3 λ_ f=>?_
        exact⟨(decide (K1<((d1.ac.length:Nat):Int))),(sI F19).symm,V3,(mR _),f.kp,N3⟩
       ·have U18:=ap dI B13
        have f:=f.st 49 (cB B13)
        refine Ye f 6 λ_ f=>?_
        exact⟨(false),(sI F20).symm,V3,(mR _),f.kp,N3⟩
      ·rintro a_58 W4 ⟨G1,dg,V4,J4,f,N4⟩
       subst cX
       refine aH (RcF f F18 (λB14 F21=>?_) λB14 F39=>?_)
       ·refine St (ag (wp_block (ag (ag ?_))))
        obtain⟨jd,eW,F22⟩:=bS F21
        refine bj (λa_75 W7=>∃G2:Bool,jd=G2∧∃V5:Mem,V4.le V5∧Frm 113 [(2,pP Q1),(3,pP Q2),(5,iL K1),(73,bO G2)] a_75∧Hp w0 V5 (H) W7) ?_ ?_
        ·refine cR N4 kr kr (Y5 default f 1 λ_ f=>Y4 f (fzu ((J2.trans J3).trans J4) R2) 0 rfl λ_ f=>Y5 default f 2 λ_ f=>?_)
         rcases cE eW with⟨B15,F23⟩|⟨B15,F26⟩
         ·have U20:=dI.1 B15
          have f:=f.st 61 (cB B15)
          refine Y5 default f 1 λ_ f=>Y4 f (fzu ((J2.trans J3).trans J4) R2) 5 rfl λ_ f=>Y5 default f 1 λ_ f=>?_
          obtain⟨X1,S1,F24⟩:=bS F23
          obtain⟨C1,cP,dS,-,D1,R5⟩:=Sli.at_ (B2.mono (((J1.trans J2).trans J3).trans J4)) S1
          obtain rfl:cP=[S X1]:=D1
          refine Y2 (v:=Pa (C1.add (K1.toNat*1))) f (λ_ pq=>Y34 dS rfl (len:=d0.ae.length) (cap:=P2) (k:=.i64) (i:=K1) (e:=9) (sz:=1) (aF S1) (aE S1)) λ_ f=>Y4 f R5 0 rfl λ_ f=>Y5 default f 1 λ_ f=>Y4 f (fzu (J3.trans J4) R4) 5 rfl λ_ f=>Y5 default f 1 λ_ f=>?_
          obtain⟨X2,S2,F25⟩:=bS F24
          obtain⟨C2,jX,lp,-,D2,R6⟩:=Sli.at_ (B4.mono (((J1.trans J2).trans J3).trans J4)) S2
          obtain rfl:jX=[S X2]:=D2
          refine Y2 (v:=Pa (C2.add (K1.toNat*1))) f (λ_ pq=>Y34 lp rfl (len:=d1.ae.length) (cap:=P4) (k:=.i64) (i:=K1) (e:=9) (sz:=1) (aF S2) (aE S2)) λ_ f=>Y4 f R6 0 rfl λ_ f=>Y2 (v:=bO (!(decide (X1=X2)))) f (λ_ pq=>Y43 rfl (l:=X1) (m:=X2)) λ_ f=>Y5 default f 1 λ_ f=>bW rfl ?_
          intro W5 N5
          refine aH ?_
          exact⟨(!(decide (X1=X2))),(sI F25).symm,V4,(mR _),f.kp,N5⟩
         ·have U21:=ap dI B15
          have f:=f.st 61 (cB B15)
          refine Y5 default f 12 λ_ f=>bW rfl ?_
          intro W6 N6
          refine aH ?_
          exact⟨(false),(sI F26).symm,V4,(mR _),f.kp,N6⟩
        ·rintro a_75 W7 ⟨G2,hZ,V5,J5,f,N7⟩
         subst jd
         refine aH (RcF f F22 (λB16 F27=>?_) λB16 F32=>?_)
         ·refine ag (ag (cR N7 kr kr (Y5 default f 1 λ_ f=>Y4 f (fzu (((J2.trans J3).trans J4).trans J5) R2) 5 rfl λ_ f=>Y5 default f 1 λ_ f=>?_)))
          obtain⟨X3,S3,F28⟩:=bS F27
          obtain⟨C3,c_3,sh,-,D3,R7⟩:=Sli.at_ (B2.mono ((((J1.trans J2).trans J3).trans J4).trans J5)) S3
          obtain rfl:c_3=[S X3]:=D3
          refine Y2 (v:=Pa (C3.add (K1.toNat*1))) f (λ_ pq=>Y34 sh rfl (len:=d0.ae.length) (cap:=P2) (k:=.i64) (i:=K1) (e:=9) (sz:=1) (aF S3) (aE S3)) λ_ f=>Y4 f R7 0 rfl λ_ f=>Y5 default f 1 λ_ f=>Y4 f (fzu ((J3.trans J4).trans J5) R4) 5 rfl λ_ f=>Y5 default f 1 λ_ f=>?_
          obtain⟨X4,S4,F29⟩:=bS F28
          obtain⟨C4,c_4,qG,-,D4,R8⟩:=Sli.at_ (B4.mono ((((J1.trans J2).trans J3).trans J4).trans J5)) S4
          obtain rfl:c_4=[S X4]:=D4
          refine Y2 (v:=Pa (C4.add (K1.toNat*1))) f (λ_ pq=>Y34 qG rfl (len:=d1.ae.length) (cap:=P4) (k:=.i64) (i:=K1) (e:=9) (sz:=1) (aF S4) (aE S4)) λ_ f=>Y4 f R8 0 rfl λ_ f=>Y2 (v:=bO (Op.bytesLess X3 X4)) f (λ_ pq=>X_strlt rfl (l:=X3) (m:=X4) kr kr) λ_ f=>bW rfl ?_
          intro W8 N8
          refine aH (RcF f F29 (λB17 F30=>?_) λB17 F31=>?_)
          ·refine RR (Ye f 1 λ_ f=>wp_ret (aS (aS (bV (aS (aS ?_))))))
           cases sI F30
           exact .inl ⟨rfl,(-1:Int),(sI T1).symm,V5,((J3.trans J4).trans J5),f.kp,N8⟩
          ·refine St (RR (Ye f 1 λ_ f=>wp_ret (aS (bV (aS (aS ?_))))))
           cases sI F31
           exact .inl ⟨rfl,(1:Int),(sI T1).symm,V5,((J3.trans J4).trans J5),f.kp,N8⟩
         ·refine St (ag (cR N7 kr kr (Y5 default f 1 λ_ f=>Y4 f (fzu (((J2.trans J3).trans J4).trans J5) R2) 4 rfl λ_ f=>Y5 default f 1 λ_ f=>?_)))
          obtain⟨X5,S5,F33⟩:=bS F32
          obtain⟨C5,c_5,e_5,-,D5,R9⟩:=Sli.at_ (B1.mono ((((J1.trans J2).trans J3).trans J4).trans J5)) S5
          obtain⟨Z5,P5,Z6,P6,rfl,B18,B19⟩:=TF0.opn D5
          refine Y2 (v:=Pa (C5.add (K1.toNat*6))) f (λ_ pq=>Y34 e_5 rfl (len:=d0.ac.length) (cap:=P1) (k:=.i64) (i:=K1) (e:=73) (sz:=6) (aF S5) (aE S5)) λ_ f=>Y2 f (λ_ pq=>Y36 (cs:=(lTF0 X5 Z5 P5 Z6 P6)) rfl (ad:=C5.add (K1.toNat*6)) (λj v h=>pq.cell (R9 j v h))) λ_ f=>Y5 default f 1 λ_ f=>Y4 f (fzu ((J3.trans J4).trans J5) R4) 4 rfl λ_ f=>Y5 default f 1 λ_ f=>?_
          obtain⟨X6,S6,F34⟩:=bS F33
          obtain⟨C6,c_6,e_6,-,D6,R10⟩:=Sli.at_ (B3.mono ((((J1.trans J2).trans J3).trans J4).trans J5)) S6
          obtain⟨Z7,P7,Z8,P8,rfl,B20,B21⟩:=TF0.opn D6
          refine Y2 (v:=Pa (C6.add (K1.toNat*6))) f (λ_ pq=>Y34 e_6 rfl (len:=d1.ac.length) (cap:=P3) (k:=.i64) (i:=K1) (e:=73) (sz:=6) (aF S6) (aE S6)) λ_ f=>Y2 f (λ_ pq=>Y36 (cs:=(lTF0 X6 Z7 P7 Z8 P8)) rfl (ad:=C6.add (K1.toNat*6)) (λj v h=>pq.cell (R10 j v h))) λ_ f=>?_
          obtain⟨X7,S7,F35⟩:=bS F34
          refine Y3 f (hrec_ref03_compare _ _ X5 (TF0.shutx (x:=X5) B18 B19) _ X6 (TF0.shutx (x:=X6) B20 B21) X7 S7) λ_ f=>Y5 default f 1 λ_ f=>bW rfl ?_
          intro W10 N10
          refine aH (RR (Ye f 2 λ_ f=>RcF f F35 (λB22 F36=>?_) λB22 F37=>?_))
          ·have U26: ¬ (X7=0):=(av dI).1 B22
           refine RR (Ye f 2 λ_ f=>wp_ret (bV (aS (aS ?_))))
           cases sI F36
           exact .inl ⟨rfl,X7,(sI T1).symm,V5,((J3.trans J4).trans J5),f.kp,N10⟩
          ·have U27: ¬ (¬ (X7=0)):=ap (av dI) B22
           refine wp_skip (cG (aH (aI (Y f 1 λ_ f=>?_))))
           obtain⟨O1,F38⟩:=nS F37
           refine Y f 1 λ_ f=>?_
           have f:=f.st 57 (iW O1)
           refine Ye f 1 λ_ f=>?_
           cases sI F38
           exact⟨⟨I2,K1+1⟩,Nat.lt_succ_self _,V5,((J3.trans J4).trans J5),T1,f.kp,N10⟩
       ·refine wp_exit (co (co ?_))
        cases sI F39
        exact .inr ⟨rfl,(),(sI T1).symm,V4,(J3.trans J4),f.kp,N4⟩
     ·rintro _ _ W13 (⟨rfl,G3,rfl,V6,J6,f,N11⟩|⟨rfl,G4,rfl,V7,J7,f,N12⟩)
      ·refine bV (aS (ao f rfl (Lk 4 (iL G3)) ?_))
       cases sI F17
       exact⟨_,rfl,V6,((J1.trans J2).trans J6),N11,rfl⟩
      ·refine iq (aH (ag (RR (Y f 1 λ_ f=>Y15 f N12 (fzu (J2.trans J7) R2) 4 rfl λ_ f=>Y f 2 λ_ f=>Y15 f N12 (fzu J7 R4) 4 rfl λ_ f=>Ye f 2 λ_ f=>RcF f F17 (λB23 F40=>?_) λB23 F43=>?_))))
       ·have U29: ¬ (((d0.ac.length:Nat):Int)=((d1.ac.length:Nat):Int)):=(av dI).1 B23
        refine ag (RR (Y f 1 λ_ f=>Y15 f N12 (fzu (J2.trans J7) R2) 4 rfl λ_ f=>Y f 2 λ_ f=>Y15 f N12 (fzu J7 R4) 4 rfl λ_ f=>Ye f 2 λ_ f=>RcF f F40 (λB24 F41=>?_) λB24 F42=>?_))
        ·have U30:=dI.1 B24
         refine RR (Ye f 1 λ_ f=>wp_ret (aS (aS (ao f rfl (Lk 4 (iL (-1))) ?_))))
         cases sI F41
         exact⟨_,rfl,V7,((J1.trans J2).trans J7),N12,rfl⟩
        ·have U31:=ap dI B24
         refine St (RR (Ye f 1 λ_ f=>wp_ret (aS (ao f rfl (Lk 4 (iL 1)) ?_))))
         cases sI F42
         exact⟨_,rfl,V7,((J1.trans J2).trans J7),N12,rfl⟩
       ·have U32: ¬ (¬ (((d0.ac.length:Nat):Int)=((d1.ac.length:Nat):Int))):=ap (av dI) B23
        refine St (RR (Ye f 1 λ_ f=>wp_ret (ao f rfl (Lk 4 (iL 0)) ?_)))
        cases sI F43
        exact⟨_,rfl,V7,((J1.trans J2).trans J7),N12,rfl⟩
def cm (n:Nat):Nat→TF0→TF0→Option Int
 |0=>λ_ _=>none
 |k+1=>ga n (cm n k)
def lm (n:Nat) (d0:TF0) (d1:TF0):Option Int:=cm n n d0 d1
theorem pM (n:Nat) (M:Mem) (c0:Lv) (d0:TF0) (h0:Rep M (ay d0) c0) (c1:Lv) (d1:TF0) (h1:Rep M (ay d1) c1) (r:Int) (hF:lm n d0 d1=some r):Ok Tryz.prog M 75 [.agg c0.toArray,.agg c1.toArray] (λ_ v=>v=iL r):=by
 have key: ∀ (k:Nat) (M:Mem) (c0:Lv) (d0:TF0) (h0:Rep M (ay d0) c0) (c1:Lv) (d1:TF0) (h1:Rep M (ay d1) c1) (r:Int) (hF:cm n k d0 d1=some r),Ok Tryz.prog M 75 [.agg c0.toArray,.agg c1.toArray] (λ_ v=>v=iL r):=by
  intro k
  induction k with
  |zero=>intro M c0 d0 h0 c1 d1 h1 r hF;simp[cm] at hF
  |succ k ih=>intro M c0 d0 h0 c1 d1 h1 r hF;exact oq n (cm n k) ih M c0 d0 h0 c1 d1 h1 r hF
 exact key n M c0 d0 h0 c1 d1 h1 r hF
def gP (n:Nat) (d0:TF0) (d1:TF0):Option Bool:=
 (gJ n d0).bind λX1=>
 bif(decide (X1=0)) then
  ((gJ n d1).bind λX2=>
  bif(decide (X2=0)) then
   ((kg n d0).bind λX3=>
   (kg n d1).bind λX4=>
   (lm n X3 X4).bind λX5=>
   some ((decide (X5=0))))
  else
   some ((false)))
 else
  some ((false))
theorem mN (n:Nat) (M:Mem) (c0:Lv) (d0:TF0) (h0:Rep M (ay d0) c0) (c1:Lv) (d1:TF0) (h1:Rep M (ay d1) c1) (r:Bool) (hF:gP n d0 d1=some r):Ok Tryz.prog M 55 [.agg c0.toArray,.agg c1.toArray] (λ_ v=>v=bO r):=by
 unfold gP at hF
 intro M1 hM0 w0 H w p0
 replace h0:=Rep.mono hM0 _ _ h0
 replace h1:=Rep.mono hM0 _ _ h1
 obtain⟨Z1,P1,Z2,P2,rfl,B1,B2⟩:=TF0.opn h0
 obtain⟨Z3,P3,Z4,P4,rfl,B3,B4⟩:=TF0.opn h1
 refine Re 21 Tryz.func55 rfl λa0 f0=>RR (Y13 (cs:=(aTF0 d0 Z1 P1 Z2 P2)) (T:=73) f0 p0 λQ1 V1 W1 J1 R1 N1 _ f=>?_)
 have R2:=bR R1
 refine Y13 (cs:=(aTF0 d1 Z3 P3 Z4 P4)) (T:=73) f N1 λQ2 V2 W2 J2 R3 N2 _ f=>?_
 have R4:=bR R3
 refine Ye f 1 λ_ f=>ag (oL (E:=[]) (Hr:=(H)) [(0,true),(1,true),(2,true),(3,true),(4,true),(5,true),(6,true),(7,true),(8,true),(9,true),(11,true),(10,false),(12,false),(13,false),(14,true),(15,true),(16,true)] N2 kr kr rfl kr (iO (v:=.agg (aTF0 d0 Z1 P1 Z2 P2)) f kr kr rfl rfl (λ_ pq=>Y36 (cs:=(lTF0 d0 Z1 P1 Z2 P2)) rfl (ad:=⟨Q1,0,none⟩) (λj v h=>pq.cell ((fzu J2 R2) j v h))) λ_ f=>?_))
 obtain⟨X1,S1,F1⟩:=bS hF
 refine M_okv (v:=iL X1) f kr kr rfl rfl (λ_=>by kernel_rfl) (kA n _ _ d0 (TF0.shutx (x:=d0) (B1.mono (J1.trans J2)) (B2.mono (J1.trans J2))) X1 S1) λ_ f=>Y0 default f 2 λ_ f=>?_
 rcases cE F1 with⟨B5,F2⟩|⟨B5,F9⟩
 ·have U1:=dI.1 B5
  have f:=f.st 8 (cB B5)
  refine iO (v:=.agg (aTF0 d1 Z3 P3 Z4 P4)) f kr kr rfl rfl (λ_ pq=>Y36 (cs:=(lTF0 d1 Z3 P3 Z4 P4)) rfl (ad:=⟨Q2,0,none⟩) (λj v h=>pq.cell (R4 j v h))) λ_ f=>?_
  obtain⟨X2,S2,F3⟩:=bS F2
  refine M_okv (v:=iL X2) f kr kr rfl rfl (λ_=>by kernel_rfl) (kA n _ _ d1 (TF0.shutx (x:=d1) (B3.mono (J1.trans J2)) (B4.mono (J1.trans J2))) X2 S2) λ_ f=>Y0 default f 3 λ_ f=>?_
  rcases cE F3 with⟨B6,F4⟩|⟨B6,F8⟩
  ·have U2:=dI.1 B6
   have f:=f.st 13 (cB B6)
   refine iO (v:=.agg (aTF0 d0 Z1 P1 Z2 P2)) f kr kr rfl rfl (λ_ pq=>Y36 (cs:=(lTF0 d0 Z1 P1 Z2 P2)) rfl (ad:=⟨Q1,0,none⟩) (λj v h=>pq.cell ((fzu J2 R2) j v h))) λ_ f=>iO (v:=.agg (aTF0 d1 Z3 P3 Z4 P4)) f kr kr rfl rfl (λ_ pq=>Y36 (cs:=(lTF0 d1 Z3 P3 Z4 P4)) rfl (ad:=⟨Q2,0,none⟩) (λj v h=>pq.cell (R4 j v h))) λ_ f=>eY (E:=[]) λW5 N5=>?_
   obtain⟨X3,S3,F5⟩:=bS F4
   refine Y16 f N5 (mj n _ _ d0 (TF0.shutx (x:=d0) (B1.mono (J1.trans J2)) (B2.mono (J1.trans J2))) X3 S3) λ_ V3 W6 J3 N6 jO _ f=>?_
   obtain⟨cP,rfl,D1⟩:=jO
   obtain⟨Z5,P5,Z6,P6,rfl,B7,B8⟩:=TF0.opn D1
   refine aA rfl (jR (M1:=V3) (E:=[]) J3 N6 (eY (E:=[]) λW7 N7=>?_))
   obtain⟨X4,S4,F6⟩:=bS F5
   refine Y16 f N7 (mj n _ _ d1 (TF0.shutx (x:=d1) (B3.mono ((J1.trans J2).trans J3)) (B4.mono ((J1.trans J2).trans J3))) X4 S4) λ_ V4 W8 J4 N8 sj _ f=>?_
   obtain⟨jX,rfl,D2⟩:=sj
   obtain⟨Z7,P7,Z8,P8,rfl,B9,B10⟩:=TF0.opn D2
   refine aA rfl (jR (M1:=V4) (E:=[]) (J3.trans J4) N8 (eY (E:=[]) λW9 N9=>?_))
   obtain⟨X5,S5,F7⟩:=bS F6
   refine Y18 f N9 (pM n _ _ X3 (TF0.shutx (x:=X3) (B7.mono J4) (B8.mono J4)) _ X4 (TF0.shutx (x:=X4) B9 B10) X5 S5) λW10 N10 _ f=>aA rfl (jR (M1:=V4) (E:=[]) (J3.trans J4) N10 (Y0 default f 3 λ_ f=>mB rfl λW11 N11=>aH (wp_ret (ao f rfl (Lk 4 (bO (decide (X5=0)))) ?_))))
   cases sI F7
   exact⟨_,rfl,V4,(((J1.trans J2).trans J3).trans J4),N11,rfl⟩
  ·have U3:=ap dI B6
   have f:=f.st 13 (cB B6)
   refine Y0 default f 2 λ_ f=>eY (E:=[]) λW12 N12=>Y f 1 λ_ f=>aA rfl (jR (M1:=V2) (E:=[]) (mR _) N12 (eY (E:=[]) λW13 N13=>Y f 1 λ_ f=>aA rfl (jR (M1:=V2) (E:=[]) (mR _) N13 (eY (E:=[]) λW14 N14=>Y f 1 λ_ f=>aA rfl (jR (M1:=V2) (E:=[]) (mR _) N14 (Y0 default f 3 λ_ f=>mB rfl λW15 N15=>aH (wp_ret (ao f rfl (Lk 4 (bO false)) ?_))))))))
   cases sI F8
   exact⟨_,rfl,V2,(J1.trans J2),N15,rfl⟩
 ·have U4:=ap dI B5
  have f:=f.st 8 (cB B5)
  refine Y0 default f 7 λ_ f=>eY (E:=[]) λW16 N16=>Y f 1 λ_ f=>aA rfl (jR (M1:=V2) (E:=[]) (mR _) N16 (eY (E:=[]) λW17 N17=>Y f 1 λ_ f=>aA rfl (jR (M1:=V2) (E:=[]) (mR _) N17 (eY (E:=[]) λW18 N18=>Y f 1 λ_ f=>aA rfl (jR (M1:=V2) (E:=[]) (mR _) N18 (Y0 default f 3 λ_ f=>mB rfl λW19 N19=>aH (wp_ret (ao f rfl (Lk 4 (bO false)) ?_))))))))
  cases sI F9
  exact⟨_,rfl,V2,(J1.trans J2),N19,rfl⟩
def posP (p:KV):List KV→Nat
 |[]=>0
 |q::r=>bif leK p q then 0 else posP p r+1
theorem posP_le (p:KV): ∀l,posP p l≤l.length
 |[]=>Nat.le_refl _
 |q::r=>by
  have:=posP_le p r
  rw[posP,List.length_cons]
  cases leK p q with
  |true=>rw[cT];omega
  |false=>rw[cF];omega
theorem posP_lt (p:KV): ∀ (l:List KV) (i:Nat) (h:i<l.length),i<posP p l→leK p l[i]=false
 |q::r,i,h,hi=>by
  rw[posP] at hi
  cases hq:leK p q with
  |true=>rw[hq,cT] at hi;omega
  |false=>
   rw[hq,cF] at hi
   cases i with
   |zero=>exact hq
   |succ i=>exact posP_lt p r i (by rw[List.length_cons] at h;omega) (by omega)
theorem posP_at (p:KV): ∀ (l:List KV) (h:posP p l<l.length),leK p l[posP p l]=true
 |q::r,h=>by
  cases hq:leK p q with
  |true=>
   have e:posP p (q::r)=0:=by rw[posP,hq,cT]
   simp only[e]
   exact hq
  |false=>
   have e:posP p (q::r)=posP p r+1:=by rw[posP,hq,cF]
   simp only[e] at h ⊢
   rw[List.length_cons] at h
   exact posP_at p r (by omega)
theorem insP_pos (p:KV): ∀l,insP p l=l.take (posP p l)++p::l.drop (posP p l)
 |[]=>rfl
 |q::r=>by
  rw[insP,posP]
  cases leK p q with
  |true=>rw[cT,cT];rfl
  |false=>rw[cF,cF,insP_pos p r];rfl
def foldKV (l:List KV):List KV:=l.foldl (λacc p=>insP p acc) []
theorem foldKV_snoc (l:List KV) (p:KV):foldKV (l++[p])=insP p (foldKV l):=by unfold foldKV;rw[List.foldl_append];rfl
theorem jS: ∀ (l acc:List KV),(l.foldl (λacc p=>insP p acc) acc).Perm (l++acc)
 |[],acc=>List.Perm.refl _
 |p::r,acc=>by
  rw[List.foldl_cons]
  refine(jS r _).trans ?_
  refine((nw p acc).append_left r).trans ?_
  exact List.perm_middle
theorem lg: ∀ (l acc:List KV),acc.Pairwise (λa b=>leK a b=true)→(l.foldl (λacc p=>insP p acc) acc).Pairwise (λa b=>leK a b=true)
 |[],acc,h=>h
 |p::r,acc,h=>lg r _ (mL p acc h)
theorem foldKV_eq {l:List KV} (hn: (l.map (·.1)).Nodup):foldKV l=isortP l:=by
 refine sorted_one hn ?_ (lg l [] List.Pairwise.nil)
 have:=jS l []
 rwa [List.append_nil] at this
theorem foldKV_len (l:List KV): (foldKV l).length=l.length:=by
 have:=(jS l []).length_eq
 rwa [List.append_nil] at this
theorem rM {n : Nat} (hn : 6000 < n) : ∀ (k d : Nat) (v : TF0), d ≤ k → Small d v → OkV v → cc n k v = some (sortV v)
 | _, 0, v, _, h, _ => h.elim
 | 0, d + 1, v, h, _, _ => absurd h (by omega)
 | k + 1, d + 1, v, hk, hs, hok => by
  obtain ⟨h1, h2, h3, h4, h5⟩ := hs
  obtain ⟨ha, hl⟩ := ny.1 hok
  obtain ⟨hp, _, _, hnd⟩ := oV ha
  show gO n (cc n k) v = _
  unfold gO
  have ih : ∀ x ∈ v.ac, cc n k x = some (sortV x) := fun x hx => rM hn k d x (by omega) (h5 x hx) (hl x hx)
  have ev : ∀ x : TF0, (⟨x.ab, (x.ak), x.an, x.ah, x.ac, x.ae⟩ : TF0) = x := fun x => by cases x; rfl
  by_cases hkind : v.ab = 5
  ·have hkl : v.ae.length = v.ac.length := hp.2.2.2.2.2.2.1 hkind
   obtain ⟨ps, hps⟩ : ∃ ps : List KV, ps = v.ae.zip (v.ac.map sortV) := ⟨_, rfl⟩
   have hpl : ps.length = v.ac.length := by rw [hps]; simp [hkl]
   have := cD (step := bU n (cc n k) v) (n := n) (fun q => ((q : Int), (foldKV (ps.take q)).map (·.2), (foldKV (ps.take q)).map (·.1))) v.ac.length ((foldKV ps).map (·.2), (foldKV ps).map (·.1)) (fun q hq => by
    have hx : v.ac[q]? = some v.ac[q] := List.getElem?_eq_getElem hq
    have hg : aR v.ac (q : Int) = some v.ac[q] := by simp [aR]
    have hgk : aR v.ae (q : Int) = some (v.ae.getD q []) := bf [] (by omega)
    have hpq : ps[q]? = some (v.ae.getD q [], sortV v.ac[q]) := by
     rw [hps]
     simp [List.getElem?_zip_eq_some, hx, List.getD, (by omega : q < v.ae.length)]
    obtain ⟨p, hpe⟩ : ∃ p : KV, p = (v.ae.getD q [], sortV v.ac[q]) := ⟨_, rfl⟩
    rw [← hpe] at hpq
    have hp1 : v.ae.getD q [] = p.1 := by rw [hpe]
    have hp2 : sortV v.ac[q] = p.2 := by rw [hpe]
    have hfold : foldKV (ps.take (q + 1)) = insP p (foldKV (ps.take q)) := by rw [List.take_add_one, hpq]; exact foldKV_snoc _ _
    have hfl : (foldKV (ps.take q)).length = q := by rw [foldKV_len]; simp; omega
    rw [hp1] at hgk
    unfold bU
    dsimp only
    rw [decide_eq_true (by omega), cT, hg, bnd, ih _ (List.getElem_mem hq), bnd, decide_eq_false (by omega), cF, hfold]
    generalize foldKV (ps.take q) = L at hfl ⊢
    have hpos := posP_le p L
    have hin := cD (step := dK n v ((q : Int), L.map (·.2), L.map (·.1))) (n := n) (fun i => (i : Int)) (posP p L) ((posP p L : Nat) : Int) (fun i hi => by
     unfold dK
     dsimp only
     have hgi : aR (L.map (·.1)) (i : Int) = some (L[i]'(by omega)).1 := by simp [aR, (by omega : i < L.length)]
     have := posP_lt p L i (by omega) hi
     have hless : Op.bytesLess (L[i]'(by omega)).1 p.1 = true := by
      rw [kY]
      unfold leK at this
      simpa using this
     rw [decide_eq_true (by rw [List.length_map]; omega), cT, hgi, bnd, hgk, bnd, hless, cT, aU (by omega) (by omega)]
     rfl) (by
     unfold dK
     dsimp only
     by_cases he : posP p L = L.length
     ·rw [decide_eq_false (by rw [List.length_map]; omega), cF]
     ·have hlt : posP p L < L.length := by omega
      have hgi : aR (L.map (·.1)) ((posP p L : Nat) : Int) = some (L[posP p L]).1 := by simp [aR, hlt]
      have := posP_at p L hlt
      have hless : Op.bytesLess (L[posP p L]).1 p.1 = false := by
       rw [kY]
       unfold leK at this
       simpa using this
      rw [decide_eq_true (by rw [List.length_map]; omega), cT, hgi, bnd, hgk, bnd, hless, cF]) (by omega)
    have e0 : ((0 : Nat) : Int) = 0 := rfl
    rw [e0] at hin
    have hL1 : (L.map (·.1)).length = q := by rw [List.length_map, hfl]
    have hL2 : (L.map (·.2)).length = q := by rw [List.length_map, hfl]
    rw [hin, bnd, hL1, hL2, Int.toNat_natCast]
    rw [bn ⟨by omega, by omega⟩, bn (by simp; omega), bn ⟨by omega, by omega⟩, bn (by simp; omega), hgk, bnd, bn ⟨by omega, by omega⟩, bn (by simp; omega), bn (by simp; omega), bnd, bn ⟨by omega, by omega⟩, bn (by simp; omega), bn (by simp; omega), bnd, aU (by omega) (by omega), ev, hp2, insP_pos]
    congr 3
    ·simp [List.map_take, List.map_drop, List.take_of_length_le, hfl]
    ) (by
    unfold bU
    dsimp only
    rw [decide_eq_false (by omega), cF, List.take_of_length_le (by omega)]) (by omega)
   have e0 : ((0 : Nat) : Int) = 0 := rfl
   have e1 : foldKV [] = [] := rfl
   simp only [List.take_zero, e1, List.map_nil, e0] at this
   rw [this, bnd, lc hkind]
   have hkeys : ps.map (·.1) = v.ae := by rw [hps]; exact List.map_fst_zip (by simp [hkl])
   have e : foldKV ps = pairsV v := by
    rw [foldKV_eq (by rw [hkeys]; exact hnd), hps]; rfl
   rw [e]
  ·have hkeys : v.ae = [] := by
    have := hp.2.2.2.2.2.2.2 hkind
    simpa using this
   by_cases h4k : v.ab = 4
   ·have := cD (step := bU n (cc n k) v) (n := n) (fun q => ((q : Int), (v.ac.take q).map sortV, ([] : List (List UInt8)))) v.ac.length (v.ac.map sortV, []) (fun q hq => by
     have hx : v.ac[q]? = some v.ac[q] := List.getElem?_eq_getElem hq
     have hg : aR v.ac (q : Int) = some v.ac[q] := by simp [aR]
     unfold bU
     dsimp only
     rw [decide_eq_true (by omega), cT, hg, bnd, ih _ (List.getElem_mem hq), bnd, decide_eq_true h4k, cT, bn (by simp; omega), aU (by omega) (by omega), ev, ll sortV hx]
     rfl) (by
     unfold bU
     dsimp only
     rw [decide_eq_false (by omega), cF, List.take_length]) (by omega)
    have e0 : ((0 : Nat) : Int) = 0 := rfl
    simp only [List.take_zero, List.map_nil, e0] at this
    rw [this, bnd, ke hkind]
   ·have hl0 : v.ac = [] := by
     by_cases h0 : v.ac.length = 0
     ·simpa using h0
     ·have := hp.2.2.2.2.2.1 h0
      omega
    obtain ⟨m, rfl⟩ : ∃ m, n = m + 1 := ⟨n - 1, by omega⟩
    have : aN (bU (m + 1) (cc (m + 1) k) v) (m + 1) ((0 : Int), ([] : List TF0), ([] : List (List UInt8))) = some ([], []) := by
     unfold aN bU
     dsimp only
     rw [hl0, decide_eq_false (by simp), cF, bnd]
    rw [this, bnd, ke hkind, hl0]
    rfl
theorem qn {n:Nat} (hn:6000<n): ∀ (k d:Nat) (v w:TF0),d≤k→Small d v→OkV v→OkV w→cm n k v w=some (cmpV v w)
 |_,0,v,_,_,h,_,_=>h.elim
 |0,d+1,v,_,h,_,_,_=>absurd h (by omega)
 |k+1,d+1,v,w,hk,hs,hok,how=>by
  have ih: ∀x∈v.ac,∀y∈w.ac,cm n k x y=some (cmpV x y):=λx hx y hy=>qn hn k d x y (by omega) (hs.2.2.2.2 x hx) (hok.part hx) (how.part hy)
  have hv:=hs.1
  show ga n (cm n k) v w=_
  unfold ga
  rw[cmpV_eq]
  by_cases hA:v.ab=w.ab
  ·rw[dT hA,nT,cF,←hA,pD,thenC0]
   by_cases hB:v.ak=w.ak
   ·rw[hB,beq_self_eq_true,nT,cF,pD,thenC0]
    by_cases hC:v.an=w.an
    ·rw[dT hC,nT,cF,←hC,pD,thenC0]
     by_cases hD:v.ah=w.ah
     ·rw[dT hD,nT,cF,←hD,nt,thenC0]
      have hkl:v.ab=5→v.ae.length=v.ac.length∧w.ae.length=w.ac.length:=λh=>⟨kj hok.plain h,kj how.plain (by rw[←hA];exact h)⟩
      obtain⟨b,hb,hp⟩:=cj (step:=dr n (cm n k) v w) (n:=n) (s0:=(0:Int)) (λq s=>s=(q:Int)∧cmpVs (decide (v.ab=5)) v.ac v.ae w.ac w.ae=cmpVs (decide (v.ab=5)) (v.ac.drop q) (v.ae.drop q) (w.ac.drop q) (w.ae.drop q))
       (λb=>match b with|.inl c=>cmpVs (decide (v.ab=5)) v.ac v.ae w.ac w.ae=c|.inr _=>cmpVs (decide (v.ab=5)) v.ac v.ae w.ac w.ae=cmpI (v.ac.length:Int) (w.ac.length:Int)) (min v.ac.length w.ac.length) ⟨rfl,by simp only[List.drop_zero]⟩ (λq s hq hI=>by
        obtain⟨rfl,hI⟩:=hI
        have h1:q<v.ac.length:=by omega
        have h2:q<w.ac.length:=by omega
        rw[rA _ h1 h2] at hI
        have hg1:aR v.ac (q:Int)=some v.ac[q]:=by simp[aR]
        have hg2:aR w.ac (q:Int)=some w.ac[q]:=by simp[aR]
        unfold dr
        rw[dT (by omega),cT,dT (by omega),bnd,cT]
        by_cases hkind:v.ab=5
        ·obtain⟨k1,k2⟩:=hkl hkind
         rw[dT hkind,cT] at hI
         rw[dT hkind,cT,bf [] (by omega),bnd,bf [] (by omega),bnd,bnd]
         by_cases hc:v.ae.getD q []=w.ae.getD q []
         ·rw[dT hc,nT,cF,hg1,bnd,hg2,bnd,ih _ (List.getElem_mem h1) _ (List.getElem_mem h2),bnd]
          rw[hc,nt,thenC0] at hI
          by_cases he:cmpV v.ac[q] w.ac[q]=0
          ·rw[dT he,nT,cF,aU (by omega) (by omega)]
           rw[he,thenC0] at hI
           exact .inl ⟨_,rfl,by omega,hI⟩
          ·rw[dF he,nF,cT]
           rw[thenCn _ he] at hI
           exact .inr ⟨_,rfl,hI⟩
         ·rw[dF hc,nF,cT,bnd,bnd,kY]
          have hne:Lib.compareBytes (v.ae.getD q []) (w.ae.getD q [])≠0:=λe=>hc (rd _ _ e)
          have hrange:=rl (v.ae.getD q []) (w.ae.getD q [])
          rw[thenCn _ hne] at hI
          by_cases hl:Lib.compareBytes (v.ae.getD q []) (w.ae.getD q [])<0
          ·rw[dT hl,cT]
           refine .inr ⟨_,rfl,?_⟩
           dsimp only
           omega
          ·rw[dF hl,cF]
           refine .inr ⟨_,rfl,?_⟩
           dsimp only
           omega
        ·rw[dF hkind,cF] at hI
         rw[dF hkind,cF,bnd,cF,hg1,bnd,hg2,bnd,ih _ (List.getElem_mem h1) _ (List.getElem_mem h2),bnd]
         rw[thenC0] at hI
         by_cases he:cmpV v.ac[q] w.ac[q]=0
         ·rw[dT he,nT,cF,aU (by omega) (by omega)]
          rw[he,thenC0] at hI
          exact .inl ⟨_,rfl,by omega,hI⟩
         ·rw[dF he,nF,cT]
          rw[thenCn _ he] at hI
          exact .inr ⟨_,rfl,hI⟩) (λs hI=>by
        obtain⟨rfl,hI⟩:=hI
        refine⟨.inr (),?_,?_⟩
        ·unfold dr
         by_cases hvl:v.ac.length≤w.ac.length
         ·rw[dF (by omega),cF,bnd,cF]
         ·rw[dT (by omega),cT,dF (by omega),bnd,cF]
        ·dsimp only
         rw[hI,td _ rfl]) (by omega)
      rw[hb,bnd]
      cases b with
      |inl c=>dsimp only at hp ⊢;rw[hp]
      |inr u=>
       dsimp only at hp ⊢
       rw[hp]
       have hcc:=iC (v.ac.length:Int) (w.ac.length:Int)
       by_cases h1: (v.ac.length:Int)=(w.ac.length:Int)
       ·rw[dT h1,nT,cF]
        congr 1
        omega
       ·rw[dF h1,nF,cT]
        by_cases h2: (v.ac.length:Int)<(w.ac.length:Int)
        ·rw[dT h2,cT]
         congr 1
         omega
        ·rw[dF h2,cF]
         congr 1
         omega
     ·rw[dF hD,nF,cT,kY]
      have hne:Lib.compareBytes v.ah w.ah≠0:=λe=>hD (rd _ _ e)
      have hrange:=rl v.ah w.ah
      rw[thenCn _ hne]
      by_cases hl:Lib.compareBytes v.ah w.ah<0
      ·rw[dT hl,cT]
       congr 1
       omega
      ·rw[dF hl,cF]
       congr 1
       omega
    ·have hcc:=iC v.an w.an
     rw[dF hC,nF,cT,thenCn _ (by omega)]
     by_cases hl:v.an<w.an
     ·rw[dT hl,cT]
      congr 1
      omega
     ·rw[dF hl,cF]
      congr 1
      omega
   ·have hbe: (v.ak==w.ak)=false:=by simpa using hB
    rw[hbe,nF,cT]
    cases hv1:v.ak<;>cases hw1:w.ak
    ·rw[hv1,hw1] at hB;exact absurd rfl hB
    ·rfl
    ·rfl
    ·rw[hv1,hw1] at hB;exact absurd rfl hB
  ·have hcc:=iC v.ab w.ab
   rw[dF hA,nF,cT,thenCn _ (by omega)]
   by_cases hl:v.ab<w.ab
   ·rw[dT hl,cT]
    congr 1
    omega
   ·rw[dF hl,cF]
    congr 1
    omega
theorem qo {n:Nat} (hn:6000<n) {v:TF0} (h:Fine v) (hok:OkV v):kg n v=some (sortV v):=rM hn n 60 v (by omega) h.small hok
theorem compareT_ref {n:Nat} (hn:6000<n) {v w:TF0} (h:Fine v) (hok:OkV v) (how:OkV w):lm n v w=some (cmpV v w):=qn hn n 60 v w (by omega) h.small hok how
theorem tk {n:Nat} (hn:6000<n) {v w:TF0} (h:Fine v) (h':Fine w):gP n v w=some (eqV v w):=by
 unfold gP eqV
 rw[pG hn h,bnd]
 by_cases a:checkV v=0
 ·rw[dT a,cT,pG hn h',bnd]
  by_cases b:checkV w=0
  ·have oa:=(ki a).1
   have ob:=(ki b).1
   rw[dT b,cT,qo hn h oa,bnd,qo hn h' ob,bnd,compareT_ref hn (h.sort oa) oa.sort ob.sort,bnd];rfl
  ·rw[dF b,cF];rfl
 ·rw[dF a,cF];rfl
def jk (n:Nat) (d0:Bs):Option Bool:=
 bif(decide ((d0.length:Int)≤64)) then
  ((gG n d0).bind λX1=>
  some ((X1)))
 else
  some ((false))
theorem nR (n:Nat) (M:Mem) (hG:GL M) (d0:Bs) (r:Bool) (hF:jk n d0=some r):Ok Tryz.prog M 82 [S d0] (λ_ v=>v=bO r):=by
 unfold jk at hF
 intro M1 hM0 w0 H w p0
 replace hG:=GL.mono hM0 hG
 refine Re 10 Tryz.func82 rfl λa0 f0=>RR (Ye f0 1 λ_ f=>RR (Y f 4 λ_ f=>?_))
 rcases cE hF with⟨B1,F1⟩|⟨B1,F3⟩
 ·have U1:=dI.1 B1
  have f:=f.st 6 (cB B1)
  refine Y f 1 λ_ f=>?_
  obtain⟨X1,S1,F2⟩:=bS F1
  refine Y18 f p0 (kv n _ d0 X1 S1) λW1 N1 _ f=>Ye f 2 λ_ f=>wp_ret (ao f rfl (Lk 2 (bO X1)) ?_)
  cases sI F2
  exact⟨_,rfl,M1,(mR _),N1,rfl⟩
 ·have U2:=ap dI B1
  have f:=f.st 6 (cB B1)
  refine Ye f 4 λ_ f=>wp_ret (ao f rfl (Lk 2 (bO false)) ?_)
  cases sI F3
  exact⟨_,rfl,M1,(mR _),p0,rfl⟩
def gQ (n:Nat) (d0:Bs):Option (List TH0×Int):=
 bif(decide (d0=[68,105,115,107])) then
  (some (([(⟨[75,105,110,100],(3:Int),(true)⟩:TH0),(⟨[83,105,122,101],(2:Int),(false)⟩:TH0),(⟨[84,97,103,115],(4:Int),(false)⟩:TH0)],(0:Int))))
 else
  bif(decide (d0=[78,101,116])) then
   (some (([(⟨[76,97,98,101,108],(3:Int),(false)⟩:TH0),(⟨[82,97,110,103,101],(3:Int),(true)⟩:TH0)],(0:Int))))
  else
   bif(decide (d0=[78,111,100,101])) then
    (some (([(⟨[67,111,117,110,116],(2:Int),(false)⟩:TH0),(⟨[68,105,115,107],(3:Int),(false)⟩:TH0),(⟨[73,109,97,103,101],(3:Int),(true)⟩:TH0),(⟨[78,101,116],(3:Int),(true)⟩:TH0)],(0:Int))))
   else
    bif(decide (d0=[82,117,108,101])) then
     (some (([(⟨[78,111,100,101],(3:Int),(false)⟩:TH0),(⟨[80,111,114,116],(2:Int),(true)⟩:TH0)],(0:Int))))
    else
     some ((([]:List TH0),(90:Int)))
set_option maxRecDepth 20000 in
theorem kI (n:Nat) (M:Mem) (hG:GL M) (d0:Bs) (r:List TH0×Int) (hF:gQ n d0=some r):Ok Tryz.prog M 62 [S d0] (λM' v=>∃ (A0:Oa) (k0:Nat),v=.tuple #[sL A0 r.1 k0,iL r.2]∧Sli M' 3 dO A0 k0 r.1):=by
 unfold gQ at hF
 intro M1 hM0 w0 H w p0
 replace hG:=GL.mono hM0 hG
 refine Re 28 Tryz.func62 rfl λa0 f0=>RR (Ye f0 2 λ_ f=>ag (RR (Ye f 1 λ_ f=>wp_block (RR (Z f (Y42 rfl (l:=d0) (m:=[68,105,115,107])) λ_ f=>Ye f 1 λ_ f=>RcF f hF (λB1 F1=>?_) λB1 F2=>?_)))))
 ·have U1:=dI.1 B1
  refine RR (Y f 3 λ_ f=>bg (k:=3) (c:=3) f p0 (.cells #[S [75,105,110,100],iB 3,bO true,S [83,105,122,101],iB 2,bO false,S [84,97,103,115],iB 4,bO false] 111 (0,0)) kr (λ_=>by kernel_rfl) λQ1 W1 N1 _ f=>Ye f 2 λ_ f=>wp_ret (bV (aS ?_)))
  have D1:aa M1 ([(⟨[75,105,110,100],(3:Int),(true)⟩:TH0),(⟨[83,105,122,101],(2:Int),(false)⟩:TH0),(⟨[84,97,103,115],(4:Int),(false)⟩:TH0)].map dO) [S [75,105,110,100],iB 3,bO true,S [83,105,122,101],iB 2,bO false,S [84,97,103,115],iB 4,bO false]:=⟨_,_,rfl,TH0.shut,⟨_,_,rfl,TH0.shut,⟨_,_,rfl,TH0.shut,rfl⟩⟩⟩
  have N2:Hp w0 M1 ((Ent.row 111 3 (.slice (some ⟨Q1,0,none⟩) 3 3) [(⟨[75,105,110,100],(3:Int),(true)⟩:TH0),(⟨[83,105,122,101],(2:Int),(false)⟩:TH0),(⟨[84,97,103,115],(4:Int),(false)⟩:TH0)].length [S [75,105,110,100],iB 3,bO true,S [83,105,122,101],iB 2,bO false,S [84,97,103,115],iB 4,bO false])::H) W1:=N1.objRow (n:=3) (cap:=3) (size:=3) (by decide) (by decide) (eO (by decide) rfl) rfl rfl
  obtain⟨Z1,P1,V1,H1,J1,N3,B2⟩:=N2.rowSli (f:=dO) (xs:=[(⟨[75,105,110,100],(3:Int),(true)⟩:TH0),(⟨[83,105,122,101],(2:Int),(false)⟩:TH0),(⟨[84,97,103,115],(4:Int),(false)⟩:TH0)]) qH D1
  have f:=f.st 2 (H1)
  refine bJ f rfl (Lk 2 (sL Z1 [(⟨[75,105,110,100],(3:Int),(true)⟩:TH0),(⟨[83,105,122,101],(2:Int),(false)⟩:TH0),(⟨[84,97,103,115],(4:Int),(false)⟩:TH0)] P1)) (Lk 3 (iL 0)) ?_
  cases sI F1
  exact⟨_,rfl,V1,J1,N3,⟨Z1,P1,rfl,B2⟩⟩
 ·have U2:=ap dI B1
  refine RR (Z f (Y42 rfl (l:=d0) (m:=[78,101,116])) λ_ f=>Ye f 1 λ_ f=>RcF f F2 (λB3 F3=>?_) λB3 F4=>?_)
  ·have U3:=dI.1 B3
   refine RR (Y f 2 λ_ f=>bg (k:=2) (c:=2) f p0 (.cells #[S [76,97,98,101,108],iB 3,bO false,S [82,97,110,103,101],iB 3,bO true] 111 (0,0)) kr (λ_=>by kernel_rfl) λQ2 W2 N4 _ f=>Ye f 2 λ_ f=>wp_ret (bV (aS ?_)))
   have D2:aa M1 ([(⟨[76,97,98,101,108],(3:Int),(false)⟩:TH0),(⟨[82,97,110,103,101],(3:Int),(true)⟩:TH0)].map dO) [S [76,97,98,101,108],iB 3,bO false,S [82,97,110,103,101],iB 3,bO true]:=⟨_,_,rfl,TH0.shut,⟨_,_,rfl,TH0.shut,rfl⟩⟩
   have N5:Hp w0 M1 ((Ent.row 111 3 (.slice (some ⟨Q2,0,none⟩) 2 2) [(⟨[76,97,98,101,108],(3:Int),(false)⟩:TH0),(⟨[82,97,110,103,101],(3:Int),(true)⟩:TH0)].length [S [76,97,98,101,108],iB 3,bO false,S [82,97,110,103,101],iB 3,bO true])::H) W2:=N4.objRow (n:=2) (cap:=2) (size:=3) (by decide) (by decide) (eO (by decide) rfl) rfl rfl
   obtain⟨Z2,P2,V2,H2,J2,N6,B4⟩:=N5.rowSli (f:=dO) (xs:=[(⟨[76,97,98,101,108],(3:Int),(false)⟩:TH0),(⟨[82,97,110,103,101],(3:Int),(true)⟩:TH0)]) qH D2
   have f:=f.st 2 (H2)
   refine bJ f rfl (Lk 2 (sL Z2 [(⟨[76,97,98,101,108],(3:Int),(false)⟩:TH0),(⟨[82,97,110,103,101],(3:Int),(true)⟩:TH0)] P2)) (Lk 3 (iL 0)) ?_
   cases sI F3
   exact⟨_,rfl,V2,J2,N6,⟨Z2,P2,rfl,B4⟩⟩
  ·have U4:=ap dI B3
   refine RR (Z f (Y42 rfl (l:=d0) (m:=[78,111,100,101])) λ_ f=>Ye f 1 λ_ f=>RcF f F4 (λB5 F5=>?_) λB5 F6=>?_)
   ·have U5:=dI.1 B5
    refine RR (Y f 4 λ_ f=>bg (k:=4) (c:=4) f p0 (.cells #[S [67,111,117,110,116],iB 2,bO false,S [68,105,115,107],iB 3,bO false,S [73,109,97,103,101],iB 3,bO true,S [78,101,116],iB 3,bO true] 111 (0,0)) kr (λ_=>by kernel_rfl) λQ3 W3 N7 _ f=>Ye f 2 λ_ f=>wp_ret (bV (aS ?_)))
    have D3:aa M1 ([(⟨[67,111,117,110,116],(2:Int),(false)⟩:TH0),(⟨[68,105,115,107],(3:Int),(false)⟩:TH0),(⟨[73,109,97,103,101],(3:Int),(true)⟩:TH0),(⟨[78,101,116],(3:Int),(true)⟩:TH0)].map dO) [S [67,111,117,110,116],iB 2,bO false,S [68,105,115,107],iB 3,bO false,S [73,109,97,103,101],iB 3,bO true,S [78,101,116],iB 3,bO true]:=⟨_,_,rfl,TH0.shut,⟨_,_,rfl,TH0.shut,⟨_,_,rfl,TH0.shut,⟨_,_,rfl,TH0.shut,rfl⟩⟩⟩⟩
    have N8:Hp w0 M1 ((Ent.row 111 3 (.slice (some ⟨Q3,0,none⟩) 4 4) [(⟨[67,111,117,110,116],(2:Int),(false)⟩:TH0),(⟨[68,105,115,107],(3:Int),(false)⟩:TH0),(⟨[73,109,97,103,101],(3:Int),(true)⟩:TH0),(⟨[78,101,116],(3:Int),(true)⟩:TH0)].length [S [67,111,117,110,116],iB 2,bO false,S [68,105,115,107],iB 3,bO false,S [73,109,97,103,101],iB 3,bO true,S [78,101,116],iB 3,bO true])::H) W3:=N7.objRow (n:=4) (cap:=4) (size:=3) (by decide) (by decide) (eO (by decide) rfl) rfl rfl
    obtain⟨Z3,P3,V3,H3,J3,N9,B6⟩:=N8.rowSli (f:=dO) (xs:=[(⟨[67,111,117,110,116],(2:Int),(false)⟩:TH0),(⟨[68,105,115,107],(3:Int),(false)⟩:TH0),(⟨[73,109,97,103,101],(3:Int),(true)⟩:TH0),(⟨[78,101,116],(3:Int),(true)⟩:TH0)]) qH D3
    have f:=f.st 2 (H3)
    refine bJ f rfl (Lk 2 (sL Z3 [(⟨[67,111,117,110,116],(2:Int),(false)⟩:TH0),(⟨[68,105,115,107],(3:Int),(false)⟩:TH0),(⟨[73,109,97,103,101],(3:Int),(true)⟩:TH0),(⟨[78,101,116],(3:Int),(true)⟩:TH0)] P3)) (Lk 3 (iL 0)) ?_
    cases sI F5
    exact⟨_,rfl,V3,J3,N9,⟨Z3,P3,rfl,B6⟩⟩
   ·have U6:=ap dI B5
    refine RR (Z f (Y42 rfl (l:=d0) (m:=[82,117,108,101])) λ_ f=>Ye f 1 λ_ f=>RcF f F6 (λB7 F7=>?_) λB7 F8=>?_)
    ·have U7:=dI.1 B7
     refine RR (Y f 2 λ_ f=>bg (k:=2) (c:=2) f p0 (.cells #[S [78,111,100,101],iB 3,bO false,S [80,111,114,116],iB 2,bO true] 111 (0,0)) kr (λ_=>by kernel_rfl) λQ4 W4 N10 _ f=>Ye f 2 λ_ f=>wp_ret (bV (aS ?_)))
     have D4:aa M1 ([(⟨[78,111,100,101],(3:Int),(false)⟩:TH0),(⟨[80,111,114,116],(2:Int),(true)⟩:TH0)].map dO) [S [78,111,100,101],iB 3,bO false,S [80,111,114,116],iB 2,bO true]:=⟨_,_,rfl,TH0.shut,⟨_,_,rfl,TH0.shut,rfl⟩⟩
     have N11:Hp w0 M1 ((Ent.row 111 3 (.slice (some ⟨Q4,0,none⟩) 2 2) [(⟨[78,111,100,101],(3:Int),(false)⟩:TH0),(⟨[80,111,114,116],(2:Int),(true)⟩:TH0)].length [S [78,111,100,101],iB 3,bO false,S [80,111,114,116],iB 2,bO true])::H) W4:=N10.objRow (n:=2) (cap:=2) (size:=3) (by decide) (by decide) (eO (by decide) rfl) rfl rfl
     obtain⟨Z4,P4,V4,H4,J4,N12,B8⟩:=N11.rowSli (f:=dO) (xs:=[(⟨[78,111,100,101],(3:Int),(false)⟩:TH0),(⟨[80,111,114,116],(2:Int),(true)⟩:TH0)]) qH D4
     have f:=f.st 2 (H4)
     refine bJ f rfl (Lk 2 (sL Z4 [(⟨[78,111,100,101],(3:Int),(false)⟩:TH0),(⟨[80,111,114,116],(2:Int),(true)⟩:TH0)] P4)) (Lk 3 (iL 0)) ?_
     cases sI F7
     exact⟨_,rfl,V4,J4,N12,⟨Z4,P4,rfl,B8⟩⟩
    ·have U8:=ap dI B7
     refine wp_skip (cG (aH (RR (Ye f 2 λ_ f=>wp_ret (bJ f rfl (Lk 2 Sn) (Lk 3 (iL 90)) ?_)))))
     cases sI F8
     exact⟨_,rfl,M1,(mR _),p0,⟨none,0,rfl,Sli.nil⟩⟩
def gm (n:Nat) (d1:Bs) (X1:List TH0×Int) (K1:Int×Bs×Int×Bool):Option (Lp (Int×Bs×Int×Bool) (Sum (Bs×Int×Bool) (Bs×Int×Bool))):=
    bif(decide (K1.1<((X1.1.length:Nat):Int))) then
     ((aR X1.1 K1.1).bind λX2=>
     bif(decide (X2.aB=d1)) then
      ((aR X1.1 K1.1).bind λX3=>
      some (.br (.inl (X3.aB,X3.ab,(X3.bc)))))
     else
      aZ (inR .i64 (K1.1+1))<|
      some (.nx (K1.1+1,K1.2.1,K1.2.2.1,(K1.2.2.2))))
    else
     some (.br (.inr (K1.2.1,K1.2.2.1,(K1.2.2.2))))
def kJ (n:Nat) (d0:Bs) (d1:Bs):Option (TH0×Bool):=
 (gQ n d0).bind λX1=>
 (aN (gm n d1 X1) n ((0:Int),([]:Bs),(0:Int),(false))).bind λQ2=>
 (match Q2 with
 |.inl G1=>some (((⟨G1.1,G1.2.1,(G1.2.2)⟩:TH0),(true)))
 |.inr G2=>some ((cd,(false))))
set_option maxRecDepth 20000 in
theorem sw (n:Nat) (M:Mem) (hG:GL M) (d0:Bs) (d1:Bs) (r:TH0×Bool) (hF:kJ n d0 d1=some r):Ok Tryz.prog M 63 [S d0,S d1] (λM' v=>∃ (c0:Lv),v=.tuple #[.agg c0.toArray,bO r.2]∧Rep M' (dO r.1) c0):=by
 unfold kJ at hF
 intro M1 hM0 w0 H w p0
 replace hG:=GL.mono hM0 hG
 refine Re 32 Tryz.func63 rfl λa0 f0=>RR (Y12 f0 p0 (.cells #[S [],iB 0,bO false] 111 (0,0)) λQ1 W1 N1 _ f=>Ye f 1 λ_ f=>RR (Y f 1 λ_ f=>?_))
 obtain⟨X1,S1,F1⟩:=bS hF
 refine Y16 f N1 (kI n _ hG d0 X1 S1) λ_ V1 W2 J1 N2 jO _ f=>?_
 obtain⟨Z1,P1,rfl,B1⟩:=jO
 refine Ye f 5 λ_ f=>ag (RR (Ye f 1 λ_ f=>wp_block ?_))
 obtain⟨Q2,bH,F2⟩:=bS F1
 refine wp_mono (Q:=λe a w=>(e=.ret∧(∃G1:Bs×Int×Bool,Q2=.inl G1∧∃V3:Mem,V1.le V3∧Frm 32 [(4,pP Q1),(5,bO true)] a∧Hp w0 V3 ((oC Q1 #[S G1.1,iB G1.2.1,bO G1.2.2] 111)::H) w))∨(e=.exit 0∧(∃G2:Bs×Int×Bool,Q2=.inr G2∧∃V4:Mem,V1.le V4∧Frm 32 [(4,pP Q1)] a∧Hp w0 V4 ((oC Q1 #[S G2.1,iB G2.2.1,bO G2.2.2] 111)::H) w))) (bu (n:=32) (w0:=w0) (M:=V1) (λ (I1,K1)=>[(1,S d1),(4,pP Q1),(6,sL Z1 X1.1 P1),(8,iL K1.1)]) (λ (I1,K1)=>((oC Q1 #[S K1.2.1,iB K1.2.2.1,bO K1.t3] 111)::H)) (λ (I1,K1) MM=>aN (gm n d1 X1) I1 K1=some Q2) (λ (I1,K1)=>I1) (n,((0:Int),([]:Bs),(0:Int),(false))) (f.kp) N2 bH ?_) ?_
 ·rintro⟨I1,K1⟩ V2 _ W3 J2 dc f N3
  have bI:=dc
  obtain⟨I2,jP,rfl,be,T1⟩:=aT bI
  unfold gm at be
  refine ag (RR (Ye f 4 λ_ f=>RcF f be (λB2 F3=>?_) λB2 F9=>?_))
  ·have U1:=dI.1 B2
   refine St (ag (wp_block (RR (Y f 2 λ_ f=>?_))))
   obtain⟨X2,S2,F4⟩:=bS F3
   obtain⟨C1,cP,dS,-,D1,R1⟩:=Sli.at_ (B1.mono J2) S2
   obtain rfl:=TH0.opn D1
   refine Z f (Y34 dS rfl (len:=X1.1.length) (cap:=P1) (k:=.i64) (i:=K1.1) (e:=111) (sz:=3) (aF S2) (aE S2)) λ_ f=>Y f 1 λ_ f=>Y15 f N3 R1 0 rfl λ_ f=>Y f 1 λ_ f=>Z f (Y42 rfl (l:=X2.aB) (m:=d1)) λ_ f=>eT (RcF f F4 (λB3 F5=>?_) λB3 F7=>?_)
   ·have U2:=dI.1 B3
    refine RR (Y f 2 λ_ f=>?_)
    obtain⟨X3,S3,F6⟩:=bS F5
    obtain⟨C2,jX,lp,-,D2,R2⟩:=Sli.at_ (B1.mono J2) S3
    obtain rfl:=TH0.opn D2
    refine Z f (Y34 lp rfl (len:=X1.1.length) (cap:=P1) (k:=.i64) (i:=K1.1) (e:=111) (sz:=3) (aF S3) (aE S3)) λ_ f=>Z f (Y36 (cs:=(lTH0 X3)) rfl (ad:=C2.add (K1.1.toNat*3)) (λj v h=>N3.cell (R2 j v h))) λ_ f=>Ys (lTH0 X3) (aTH0 X3) f N3 rfl rfl λW4 N4 _ f=>Ye f 1 λ_ f=>wp_ret (bV (aS (aS ?_)))
    cases sI F6
    exact .inl ⟨rfl,(X3.aB,X3.ab,(X3.bc)),(sI T1).symm,V2,J2,f.kp,N4⟩
   ·have U3:=ap dI B3
    refine wp_skip (cG (aH (aI (Y f 1 λ_ f=>?_))))
    obtain⟨O1,F8⟩:=nS F7
    refine Y f 1 λ_ f=>?_
    have f:=f.st 19 (iW O1)
    refine Ye f 1 λ_ f=>?_
    cases sI F8
    exact⟨⟨I2,(K1.1+1,K1.2.1,K1.2.2.1,(K1.t3))⟩,Nat.lt_succ_self _,V2,J2,T1,f.kp,N3⟩
  ·have U4:=ap dI B2
   refine wp_exit (co (co ?_))
   cases sI F9
   exact .inr ⟨rfl,(K1.2.1,K1.2.2.1,(K1.t3)),(sI T1).symm,V2,J2,f.kp,N3⟩
 ·rintro _ _ W7 (⟨rfl,G1,rfl,V3,J3,f,N5⟩|⟨rfl,G2,rfl,V4,J4,f,N6⟩)
  ·refine bV (aS (dB f rfl (Y10 (cs:=[S G1.1,iB G1.2.1,bO G1.2.2]) (ad:=⟨Q1,0,none⟩) f (al (N5.ownCell 0 rfl) 0 rfl)) (Y11 (v:=bO true) f) ?_))
   cases sI F2
   exact⟨_,rfl,V3,(J1.trans J3),(N5.dropN 1),⟨[S G1.1,iB G1.2.1,bO G1.2.2],rfl,(TH0.shut)⟩⟩
  ·refine iq (aH (RR (Y f 1 λ_ f=>Ys [S [],iB 0,bO false] #[S [],iB 0,bO false] f N6 rfl rfl λW8 N7 _ f=>Ye f 1 λ_ f=>wp_ret (dB f rfl (Y10 (cs:=[S [],iB 0,bO false]) (ad:=⟨Q1,0,none⟩) f (al (N7.ownCell 0 rfl) 0 rfl)) (Y11 (v:=bO false) f) ?_))))
   cases sI F2
   exact⟨_,rfl,V4,(J1.trans J4),(N7.dropN 1),⟨[S [],iB 0,bO false],rfl,(TH0.shut)⟩⟩
def cV (n:Nat) (d0:TF0) (K1:Int):Option (Lp Int (Sum Unit Unit)):=
    bif(decide (K1<((d0.ac.length:Nat):Int))) then
     ((aR d0.ac K1).bind λX3=>
     bif(!(decide (X3.ab=3))) then
      (some (.br (.inl ())))
     else
      (aR d0.ac K1).bind λX4=>
      (jk n X4.ah).bind λX5=>
      bif !X5 then
       (some (.br (.inl ())))
      else
       aZ (inR .i64 (K1+1))<|
       some (.nx (K1+1)))
    else
     some (.br (.inr ()))
def jE (n:Nat) (d0:TF0) (d1:Int):Option Bool:=
 ((bif(!(decide (d0.ab=d1))) then
  (some ((true)))
   else
    (gJ n d0).bind λX1=>
    some ((!(decide (X1=0)))):Option Bool)).bind λG1=>
 bif G1 then
  (some ((false)))
 else
  bif(decide (d1=3)) then
   ((jk n d0.ah).bind λX2=>
   some ((X2)))
  else
   ((bif(decide (d1=4)) then
    (some ((decide ((8:Int)<((d0.ac.length:Nat):Int)))))
     else
      some ((false)):Option Bool)).bind λG2=>
   bif G2 then
    (some ((false)))
   else
    (aN (cV n d0) n (0:Int)).bind λQ2=>
    (match Q2 with
    |.inl G3=>some ((false))
    |.inr G4=>some ((true)))
set_option maxRecDepth 20000 in
theorem rN (n:Nat) (M:Mem) (hG:GL M) (c0:Lv) (d0:TF0) (h0:Rep M (ay d0) c0) (d1:Int) (r:Bool) (hF:jE n d0 d1=some r):Ok Tryz.prog M 64 [.agg c0.toArray,iB d1] (λ_ v=>v=bO r):=by
 unfold jE at hF
 intro M1 hM0 w0 H w p0
 replace hG:=GL.mono hM0 hG
 replace h0:=Rep.mono hM0 _ _ h0
 obtain⟨Z1,P1,Z2,P2,rfl,B1,B2⟩:=TF0.opn h0
 refine Re 52 Tryz.func64 rfl λa0 f0=>RR (Y13 (cs:=(aTF0 d0 Z1 P1 Z2 P2)) (T:=73) f0 p0 λQ1 V1 W1 J1 R1 N1 _ f=>?_)
 have R2:=bR R1
 refine Ye f 1 λ_ f=>ag (ag ?_)
 obtain⟨cX,bX,F1⟩:=bS hF
 refine bj (λqa W3=>∃G1:Bool,cX=G1∧∃V2:Mem,V1.le V2∧Frm 52 [(1,iB d1),(2,pP Q1),(14,bO G1)] qa∧Hp w0 V2 (H) W3) ?_ ?_
 ·refine aI (Y f 1 λ_ f=>Y15 f N1 R2 0 rfl λ_ f=>Y f 3 λ_ f=>?_)
  rcases cE bX with⟨B3,F2⟩|⟨B3,F3⟩
  ·have U1: ¬ (d0.ab=d1):=(av dI).1 B3
   have f:=f.st 10 (cB B3)
   refine Ye f 4 λ_ f=>?_
   exact⟨(true),(sI F2).symm,V1,(mR _),f.kp,N1⟩
  ·have U2: ¬ (¬ (d0.ab=d1)):=ap (av dI) B3
   have f:=f.st 10 (cB B3)
   refine Z f (Y36 (cs:=(lTF0 d0 Z1 P1 Z2 P2)) rfl (ad:=⟨Q1,0,none⟩) (λj v h=>N1.cell (R2 j v h))) λ_ f=>?_
   obtain⟨X1,S1,F4⟩:=bS F3
   refine Y18 f N1 (kA n _ _ d0 (TF0.shutx (x:=d0) (B1.mono J1) (B2.mono J1)) X1 S1) λW2 N2 _ f=>Ye f 2 λ_ f=>?_
   exact⟨(!(decide (X1=0))),(sI F4).symm,V1,(mR _),f.kp,N2⟩
 ·rintro qa W3 ⟨G1,dg,V2,J2,f,N3⟩
  subst cX
  refine aH (RcF f F1 (λB4 F5=>?_) λB4 F6=>?_)
  ·refine RR (Ye f 1 λ_ f=>wp_ret (aS (ao f rfl (Lk 4 (bO false)) ?_)))
   cases sI F5
   exact⟨_,rfl,V2,(J1.trans J2),N3,rfl⟩
  ·refine St (ag (RR (Ye f 2 λ_ f=>RcF f F6 (λB5 F7=>?_) λB5 F9=>?_)))
   ·have U5:=dI.1 B5
    refine RR (Y f 1 λ_ f=>Y15 f N3 (fzu J2 R2) 3 rfl λ_ f=>?_)
    obtain⟨X2,S2,F8⟩:=bS F7
    refine Y18 f N3 (nR n _ (GL.mono (J1.trans J2) hG) d0.ah X2 S2) λW4 N4 _ f=>Ye f 1 λ_ f=>wp_ret (aS (ao f rfl (Lk 4 (bO X2)) ?_))
    cases sI F8
    exact⟨_,rfl,V2,(J1.trans J2),N4,rfl⟩
   ·have U6:=ap dI B5
    refine St (ag (ag ?_))
    obtain⟨jd,eW,F10⟩:=bS F9
    refine bj (λa_22 W5=>∃G2:Bool,jd=G2∧∃V3:Mem,V2.le V3∧Frm 52 [(2,pP Q1),(27,bO G2)] a_22∧Hp w0 V3 (H) W5) ?_ ?_
    ·refine aI (Y f 3 λ_ f=>?_)
     rcases cE eW with⟨B6,F11⟩|⟨B6,F12⟩
     ·have U7:=dI.1 B6
      have f:=f.st 22 (cB B6)
      refine Y f 1 λ_ f=>Y15 f N3 (fzu J2 R2) 4 rfl λ_ f=>Ye f 3 λ_ f=>?_
      exact⟨(decide ((8:Int)<((d0.ac.length:Nat):Int))),(sI F11).symm,V2,(mR _),f.kp,N3⟩
     ·have U8:=ap dI B6
      have f:=f.st 22 (cB B6)
      refine Ye f 5 λ_ f=>?_
      exact⟨(false),(sI F12).symm,V2,(mR _),f.kp,N3⟩
    ·rintro a_22 W5 ⟨G2,hZ,V3,J3,f,N5⟩
     subst jd
     refine aH (RcF f F10 (λB7 F13=>?_) λB7 F14=>?_)
     ·refine RR (Ye f 1 λ_ f=>wp_ret (aS (ao f rfl (Lk 4 (bO false)) ?_)))
      cases sI F13
      exact⟨_,rfl,V3,((J1.trans J2).trans J3),N5,rfl⟩
     ·refine St (ag (RR (Ye f 1 λ_ f=>wp_block ?_)))
      obtain⟨Q2,bH,F15⟩:=bS F14
      refine wp_mono (Q:=λe a w=>(e=.ret∧(∃G3:Unit,Q2=.inl G3∧∃V5:Mem,V3.le V5∧Frm 52 [(4,bO false)] a∧Hp w0 V5 (H) w))∨(e=.exit 0∧(∃G4:Unit,Q2=.inr G4∧∃V6:Mem,V3.le V6∧Frm 52 [] a∧Hp w0 V6 (H) w))) (bu (n:=52) (w0:=w0) (M:=V3) (λ (I1,K1)=>[(2,pP Q1),(5,iL K1)]) (λ (I1,K1)=>(H)) (λ (I1,K1) MM=>aN (cV n d0) I1 K1=some Q2) (λ (I1,K1)=>I1) (n,(0:Int)) (f.kp) N5 bH ?_) ?_
      ·rintro⟨I1,K1⟩ V4 _ W6 J4 dc f N6
       have bI:=dc
       obtain⟨I2,jP,rfl,be,T1⟩:=aT bI
       unfold cV at be
       refine ag (RR (Y f 2 λ_ f=>Y15 f N6 (fzu ((J2.trans J3).trans J4) R2) 4 rfl λ_ f=>Ye f 2 λ_ f=>RcF f be (λB8 F16=>?_) λB8 F25=>?_))
       ·have U11:=dI.1 B8
        refine St (ag (wp_block (RR (Y f 1 λ_ f=>Y15 f N6 (fzu ((J2.trans J3).trans J4) R2) 4 rfl λ_ f=>Y f 1 λ_ f=>?_))))
        obtain⟨X3,S3,F17⟩:=bS F16
        obtain⟨C1,cP,dS,-,D1,R3⟩:=Sli.at_ (B1.mono (((J1.trans J2).trans J3).trans J4)) S3
        obtain⟨Z3,P3,Z4,P4,rfl,B9,B10⟩:=TF0.opn D1
        refine Z f (Y34 dS rfl (len:=d0.ac.length) (cap:=P1) (k:=.i64) (i:=K1) (e:=73) (sz:=6) (aF S3) (aE S3)) λ_ f=>Y f 1 λ_ f=>Y15 f N6 R3 0 rfl λ_ f=>Y f 2 λ_ f=>?_
        rcases cE F17 with⟨B11,F18⟩|⟨B11,F19⟩
        ·have U12: ¬ (X3.ab=3):=(av dI).1 B11
         have f:=f.st 42 (cB B11)
         refine Ye f 9 λ_ f=>Y8 f (RR (Ye f 1 λ_ f=>wp_ret (bV (aS (aS ?_)))))
         cases sI F18
         exact .inl ⟨rfl,(),(sI T1).symm,V4,J4,f.kp,N6⟩
        ·have U13: ¬ (¬ (X3.ab=3)):=ap (av dI) B11
         have f:=f.st 42 (cB B11)
         refine Y f 1 λ_ f=>Y15 f N6 (fzu ((J2.trans J3).trans J4) R2) 4 rfl λ_ f=>Y f 1 λ_ f=>?_
         obtain⟨X4,S4,F20⟩:=bS F19
         obtain⟨C2,jX,lp,-,D2,R4⟩:=Sli.at_ (B1.mono (((J1.trans J2).trans J3).trans J4)) S4
         obtain⟨Z5,P5,Z6,P6,rfl,B12,B13⟩:=TF0.opn D2
         refine Z f (Y34 lp rfl (len:=d0.ac.length) (cap:=P1) (k:=.i64) (i:=K1) (e:=73) (sz:=6) (aF S4) (aE S4)) λ_ f=>Y f 1 λ_ f=>Y15 f N6 R4 3 rfl λ_ f=>?_
         obtain⟨X5,S5,F21⟩:=bS F20
         refine Y18 f N6 (nR n _ (GL.mono (((J1.trans J2).trans J3).trans J4) hG) X4.ah X5 S5) λW7 N7 _ f=>Ye f 2 λ_ f=>RcF f F21 (λB14 F22=>?_) λB14 F23=>?_
         ·have U14: (X5)=false:=by simpa using B14
          refine RR (Ye f 1 λ_ f=>wp_ret (bV (aS (aS ?_))))
          cases sI F22
          exact .inl ⟨rfl,(),(sI T1).symm,V4,J4,f.kp,N7⟩
         ·have U15: (X5)=true:=by simpa using B14
          refine wp_skip (cG (aH (aI (Y f 1 λ_ f=>?_))))
          obtain⟨O1,F24⟩:=nS F23
          refine Y f 1 λ_ f=>?_
          have f:=f.st 34 (iW O1)
          refine Ye f 1 λ_ f=>?_
          cases sI F24
          exact⟨⟨I2,K1+1⟩,Nat.lt_succ_self _,V4,J4,T1,f.kp,N7⟩
       ·have U16:=ap dI B8
        refine wp_exit (co (co ?_))
        cases sI F25
        exact .inr ⟨rfl,(),(sI T1).symm,V4,J4,f.kp,N6⟩
      ·rintro _ _ W10 (⟨rfl,G3,rfl,V5,J5,f,N8⟩|⟨rfl,G4,rfl,V6,J6,f,N9⟩)
       ·refine bV (aS (ao f rfl (Lk 4 (bO false)) ?_))
        cases sI F15
        exact⟨_,rfl,V5,(((J1.trans J2).trans J3).trans J5),N8,rfl⟩
       ·refine iq (aH (RR (Ye f 1 λ_ f=>wp_ret (ao f rfl (Lk 4 (bO true)) ?_))))
        cases sI F15
        exact⟨_,rfl,V6,(((J1.trans J2).trans J3).trans J6),N9,rfl⟩
def eB (n:Nat) (d0:Bs) (d1:List TE0) (K1:Int):Option (Lp Int (Sum Unit Unit)):=
    bif(decide (K1<((d1.length:Nat):Int))) then
     ((aR d1 K1).bind λX2=>
     (kJ n d0 X2.aB).bind λX3=>
     ((bif !X3.2 then
      (some ((true)))
       else
        bif(decide ((0:Int)<K1)) then
         ((aR d1 K1).bind λX4=>
         aZ (inR .i64 (K1-1))<|
         (aR d1 (K1-1)).bind λX5=>
         some ((Op.bytesLess X4.aB X5.aB||X4.aB==X5.aB)))
        else
         some ((false)):Option Bool)).bind λG1=>
     bif G1 then
      (some (.br (.inl ())))
     else
      (aR d1 K1).bind λX6=>
      bif X6.az then
       (((bif(decide (X3.1.ab=2)) then
        (some ((true)))
         else
          (aR d1 K1).bind λX7=>
          (kz n (⟨X7.fV.ab,(X7.fV.ak),X7.fV.an,X7.fV.ah,X7.fV.ac,X7.fV.ae⟩:TF0) jU).bind λX8=>
          some ((!X8)):Option Bool)).bind λG2=>
       bif G2 then
        (some (.br (.inl ())))
       else
        aZ (inR .i64 (K1+1))<|
        some (.nx (K1+1)))
      else
       (aR d1 K1).bind λX9=>
       (jE n (⟨X9.fV.ab,(X9.fV.ak),X9.fV.an,X9.fV.ah,X9.fV.ac,X9.fV.ae⟩:TF0) X3.1.ab).bind λX10=>
       bif !X10 then
        (some (.br (.inl ())))
       else
        aZ (inR .i64 (K1+1))<|
        some (.nx (K1+1)))
    else
     some (.br (.inr ()))
def dp (n:Nat) (d0:Bs) (d1:List TE0):Option Int:=
 (gQ n d0).bind λX1=>
 bif(!(decide (X1.2=0))) then
  (some (X1.2))
 else
  (aN (eB n d0 d1) n (0:Int)).bind λQ1=>
  (match Q1 with
  |.inl G3=>some ((91:Int))
  |.inr G4=>some ((0:Int)))
set_option maxRecDepth 20000 in
theorem eC (n:Nat) (M:Mem) (hG:GL M) (d0:Bs) (A1:Oa) (cap1:Nat) (d1:List TE0) (h1:Sli M 8 aY A1 cap1 d1) (r:Int) (hF:dp n d0 d1=some r):Ok Tryz.prog M 45 [S d0,sL A1 d1 cap1] (λ_ v=>v=iL r):=by
 unfold dp at hF
 intro M1 hM0 w0 H w p0
 replace hG:=GL.mono hM0 hG
 replace h1:=h1.mono hM0
 refine Re 81 Tryz.func45 rfl λa0 f0=>RR (Ye f0 1 λ_ f=>RR (Y f 1 λ_ f=>?_))
 obtain⟨X1,S1,F1⟩:=bS hF
 refine Y16 f p0 (kI n _ hG d0 X1 S1) λ_ V1 W1 J1 N1 jO _ f=>?_
 obtain⟨Z1,P1,rfl,B1⟩:=jO
 refine Ye f 5 λ_ f=>ag (RR (Ye f 2 λ_ f=>RcF f F1 (λB2 F2=>?_) λB2 F3=>?_))
 ·have U1: ¬ (X1.2=0):=(av dI).1 B2
  refine RR (Ye f 2 λ_ f=>wp_ret (aS (ao f rfl (Lk 4 (iL X1.2)) ?_)))
  cases sI F2
  exact⟨_,rfl,V1,J1,N1,rfl⟩
 ·have U2: ¬ (¬ (X1.2=0)):=ap (av dI) B2
  refine St (ag (RR (Ye f 1 λ_ f=>wp_block ?_)))
  obtain⟨Q1,bH,F4⟩:=bS F3
  refine wp_mono (Q:=λe a w=>(e=.ret∧(∃G3:Unit,Q1=.inl G3∧∃V6:Mem,V1.le V6∧Frm 81 [(4,iL 91)] a∧Hp w0 V6 (H) w))∨(e=.exit 0∧(∃G4:Unit,Q1=.inr G4∧∃V7:Mem,V1.le V7∧Frm 81 [] a∧Hp w0 V7 (H) w))) (bu (n:=81) (w0:=w0) (M:=V1) (λ (I1,K1)=>[(0,S d0),(1,sL A1 d1 cap1),(7,iL K1)]) (λ (I1,K1)=>(H)) (λ (I1,K1) MM=>aN (eB n d0 d1) I1 K1=some Q1) (λ (I1,K1)=>I1) (n,(0:Int)) (f.kp) N1 bH ?_) ?_
  ·rintro⟨I1,K1⟩ V2 _ W2 J2 dc f N2
   have bI:=dc
   obtain⟨I2,jP,rfl,be,T1⟩:=aT bI
   unfold eB at be
   refine ag (RR (Ye f 4 λ_ f=>RcF f be (λB3 F5=>?_) λB3 F34=>?_))
   ·have U3:=dI.1 B3
    refine St (ag (wp_block (RR (Y f 3 λ_ f=>?_))))
    obtain⟨X2,S2,F6⟩:=bS F5
    obtain⟨C1,cP,dS,-,D1,R1⟩:=Sli.at_ (h1.mono (J1.trans J2)) S2
    obtain⟨Z2,P2,Z3,P3,rfl,B4,B5⟩:=TE0.opn D1
    refine Z f (Y34 dS rfl (len:=d1.length) (cap:=cap1) (k:=.i64) (i:=K1) (e:=75) (sz:=8) (aF S2) (aE S2)) λ_ f=>Y f 1 λ_ f=>Y15 f N2 R1 0 rfl λ_ f=>?_
    obtain⟨X3,S3,F7⟩:=bS F6
    refine Y16 f N2 (sw n _ (GL.mono (J1.trans J2) hG) d0 X2.aB X3 S3) λ_ V3 W3 J3 N3 sj _ f=>?_
    obtain⟨jX,rfl,D2⟩:=sj
    obtain rfl:=TH0.opn D2
    refine Y f 3 λ_ f=>Y12 f N3 (.cells #[S [],iB 0,bO false] 111 (0,0)) λQ2 W4 N4 _ f=>Ys (lTH0 X3.1) (aTH0 X3.1) f N4 rfl rfl λW5 N5 _ f=>Ye f 1 λ_ f=>ag (ag ?_)
    obtain⟨cX,bX,F8⟩:=bS F7
    refine bj (λa_34 W9=>∃G1:Bool,cX=G1∧∃V4:Mem,V3.le V4∧Frm 81 [(0,S d0),(1,sL A1 d1 cap1),(7,iL K1),(8,pP Q2),(53,bO G1)] a_34∧Hp w0 V4 ((Ent.obj Q2 (.cells (aTH0 X3.1) 111 (0,0)))::H) W9) ?_ ?_
    ·refine cR N5 kr kr (Y5 default f 3 λ_ f=>?_)
     rcases cE bX with⟨B6,F9⟩|⟨B6,F10⟩
     ·have U4: (X3.2)=false:=by simpa using B6
      have f:=f.st 36 (cB B6)
      refine Y5 default f 17 λ_ f=>bW rfl ?_
      intro W6 N6
      refine aH ?_
      exact⟨(true),(sI F9).symm,V3,(mR _),f.kp,N6⟩
     ·have U5: (X3.2)=true:=by simpa using B6
      have f:=f.st 36 (cB B6)
      refine Y5 default f 3 λ_ f=>?_
      rcases cE F10 with⟨B7,F11⟩|⟨B7,F15⟩
      ·have U6:=dI.1 B7
       have f:=f.st 39 (cB B7)
       refine Y5 default f 2 λ_ f=>?_
       obtain⟨X4,S4,F12⟩:=bS F11
       obtain⟨C2,c_3,lp,-,D3,R2⟩:=Sli.at_ (h1.mono ((J1.trans J2).trans J3)) S4
       obtain⟨Z4,P4,Z5,P5,rfl,B8,B9⟩:=TE0.opn D3
       refine Y2 (v:=Pa (C2.add (K1.toNat*8))) f (λ_ pq=>Y34 lp rfl (len:=d1.length) (cap:=cap1) (k:=.i64) (i:=K1) (e:=75) (sz:=8) (aF S4) (aE S4)) λ_ f=>Y5 default f 1 λ_ f=>Y4 f R2 0 rfl λ_ f=>Y5 default f 2 λ_ f=>?_
       obtain⟨O1,F13⟩:=nS F12
       refine Y2 (v:=iL (IntKind.wrap .i64 (K1-1))) f (λ_ pq=>by kernel_rfl) λ_ f=>?_
       have f:=f.st 47 (iW O1)
       obtain⟨X5,S5,F14⟩:=bS F13
       obtain⟨C3,c_4,sh,-,D4,R3⟩:=Sli.at_ (h1.mono ((J1.trans J2).trans J3)) S5
       obtain⟨Z6,P6,Z7,P7,rfl,B10,B11⟩:=TE0.opn D4
       refine Y2 (v:=Pa (C3.add ((K1-1).toNat*8))) f (λ_ pq=>Y34 sh rfl (len:=d1.length) (cap:=cap1) (k:=.i64) (i:=K1-1) (e:=75) (sz:=8) (aF S5) (aE S5)) λ_ f=>Y5 default f 1 λ_ f=>Y4 f R3 0 rfl λ_ f=>Y2 (v:=bO (Op.bytesLess X4.aB X5.aB||X4.aB==X5.aB)) f (λ_ pq=>X_strle rfl (l:=X4.aB) (m:=X5.aB) kr kr) λ_ f=>Y5 default f 2 λ_ f=>bW rfl ?_
       intro W7 N7
       refine aH ?_
       exact⟨(Op.bytesLess X4.aB X5.aB||X4.aB==X5.aB),(sI F14).symm,V3,(mR _),f.kp,N7⟩
      ·have U7:=ap dI B7
       have f:=f.st 39 (cB B7)
       refine Y5 default f 14 λ_ f=>bW rfl ?_
       intro W8 N8
       refine aH ?_
       exact⟨(false),(sI F15).symm,V3,(mR _),f.kp,N8⟩
    ·rintro a_34 W9 ⟨G1,dg,V4,J4,f,N9⟩
     subst cX
     refine aH (RcF f F8 (λB12 F16=>?_) λB12 F17=>?_)
     ·refine RR (Ye f 1 λ_ f=>wp_ret (aS (bV (aS (aS ?_)))))
      cases sI F16
      exact .inl ⟨rfl,(),(sI T1).symm,V4,((J2.trans J3).trans J4),f.kp,(N9.dropN 1)⟩
     ·refine St (ag (RR (Y f 2 λ_ f=>?_)))
      obtain⟨X6,S6,F18⟩:=bS F17
      obtain⟨C4,c_5,qG,-,D5,R4⟩:=Sli.at_ (h1.mono (((J1.trans J2).trans J3).trans J4)) S6
      obtain⟨Z8,P8,Z9,P9,rfl,B13,B14⟩:=TE0.opn D5
      refine Z f (Y34 qG rfl (len:=d1.length) (cap:=cap1) (k:=.i64) (i:=K1) (e:=75) (sz:=8) (aF S6) (aE S6)) λ_ f=>Y f 1 λ_ f=>Y15 f N9 R4 1 rfl λ_ f=>eT (RcF f F18 (λB15 F19=>?_) λB15 F28=>?_)
      ·refine ag (ag ?_)
       obtain⟨jd,eW,F20⟩:=bS F19
       refine bj (λa_51 W11=>∃G2:Bool,jd=G2∧∃V5:Mem,V4.le V5∧Frm 81 [(0,S d0),(1,sL A1 d1 cap1),(7,iL K1),(71,bO G2)] a_51∧Hp w0 V5 ((Ent.obj Q2 (.cells (aTH0 X3.1) 111 (0,0)))::H) W11) ?_ ?_
       ·refine aI (Y f 1 λ_ f=>Z f (Y35 (v:=iB X3.1.ab) rfl (ad:=⟨Q2,1,none⟩) (N9.ownCell 0 rfl 1)) λ_ f=>Y f 2 λ_ f=>?_)
        rcases cE eW with⟨B16,F21⟩|⟨B16,F22⟩
        ·have U11:=dI.1 B16
         have f:=f.st 62 (cB B16)
         refine Ye f 9 λ_ f=>?_
         exact⟨(true),(sI F21).symm,V4,(mR _),f.kp,N9⟩
        ·have U12:=ap dI B16
         have f:=f.st 62 (cB B16)
         refine Y f 2 λ_ f=>?_
         obtain⟨X7,S7,F23⟩:=bS F22
         obtain⟨C5,c_6,e_5,-,D6,R5⟩:=Sli.at_ (h1.mono (((J1.trans J2).trans J3).trans J4)) S7
         obtain⟨Z10,P10,Z11,P11,rfl,B17,B18⟩:=TE0.opn D6
         refine Z f (Y34 e_5 rfl (len:=d1.length) (cap:=cap1) (k:=.i64) (i:=K1) (e:=75) (sz:=8) (aF S7) (aE S7)) λ_ f=>Y f 1 λ_ f=>Z f (Y36 (cs:=(lTF0 X7.fV Z10 P10 Z11 P11)) rfl (ad:=(C5.add (K1.toNat*8)).add 2) (kU (base:=C5.add (K1.toNat*8)) (λj v h=>N9.cell (R5 j v h)) 2 rfl)) λ_ f=>Y f 1 λ_ f=>?_
         obtain⟨X8,S8,F24⟩:=bS F23
         refine Y18 f N9 (nO n _ _ (⟨X7.fV.ab,(X7.fV.ak),X7.fV.an,X7.fV.ah,X7.fV.ac,X7.fV.ae⟩:TF0) (TF0.shut B17 B18) _ jU (TF0.shut Sli.nil Sli.nil) X8 S8) λW10 N10 _ f=>Ye f 2 λ_ f=>?_
         exact⟨(!X8),(sI F24).symm,V4,(mR _),f.kp,N10⟩
       ·rintro a_51 W11 ⟨G2,hZ,V5,J5,f,N11⟩
        subst jd
        refine aH (RcF f F20 (λB19 F25=>?_) λB19 F26=>?_)
        ·refine RR (Ye f 1 λ_ f=>wp_ret (aS (aS (bV (aS (aS ?_))))))
         cases sI F25
         exact .inl ⟨rfl,(),(sI T1).symm,V5,(((J2.trans J3).trans J4).trans J5),f.kp,(N11.dropN 1)⟩
        ·refine St (wp_exit (co (iq (aH (aI (Y f 1 λ_ f=>?_))))))
         obtain⟨O2,F27⟩:=nS F26
         refine Y f 1 λ_ f=>?_
         have f:=f.st 23 (iW O2)
         refine Ye f 1 λ_ f=>?_
         cases sI F27
         exact⟨⟨I2,K1+1⟩,Nat.lt_succ_self _,V5,(((J2.trans J3).trans J4).trans J5),T1,f.kp,(N11.dropN 1)⟩
      ·refine St (ag (cR N9 kr kr (Y5 default f 2 λ_ f=>?_)))
       obtain⟨X9,S9,F29⟩:=bS F28
       obtain⟨C6,c_7,e_6,-,D7,R6⟩:=Sli.at_ (h1.mono (((J1.trans J2).trans J3).trans J4)) S9
       obtain⟨Z12,P12,Z13,P13,rfl,B20,B21⟩:=TE0.opn D7
       refine Y2 (v:=Pa (C6.add (K1.toNat*8))) f (λ_ pq=>Y34 e_6 rfl (len:=d1.length) (cap:=cap1) (k:=.i64) (i:=K1) (e:=75) (sz:=8) (aF S9) (aE S9)) λ_ f=>Y5 default f 1 λ_ f=>Y2 f (λ_ pq=>Y36 (cs:=(lTF0 X9.fV Z12 P12 Z13 P13)) rfl (ad:=(C6.add (K1.toNat*8)).add 2) (kU (base:=C6.add (K1.toNat*8)) (λj v h=>pq.cell (R6 j v h)) 2 rfl)) λ_ f=>Y5 default f 1 λ_ f=>Y2 f (λ_ pq=>Y35 (v:=iB X3.1.ab) rfl (ad:=⟨Q2,1,none⟩) (pq.ownCell 0 rfl 1)) λ_ f=>?_
       obtain⟨X10,S10,F30⟩:=bS F29
       refine Y3 f (rN n _ (GL.mono (((J1.trans J2).trans J3).trans J4) hG) _ (⟨X9.fV.ab,(X9.fV.ak),X9.fV.an,X9.fV.ah,X9.fV.ac,X9.fV.ae⟩:TF0) (TF0.shut B20 B21) X3.1.ab X10 S10) λ_ f=>Y5 default f 1 λ_ f=>bW rfl ?_
       intro W13 N13
       refine aH (RcF f F30 (λB22 F31=>?_) λB22 F32=>?_)
       ·have U16: (X10)=false:=by simpa using B22
        refine RR (Ye f 1 λ_ f=>wp_ret (bV (aS (aS ?_))))
        cases sI F31
        exact .inl ⟨rfl,(),(sI T1).symm,V4,((J2.trans J3).trans J4),f.kp,(N13.dropN 1)⟩
       ·have U17: (X10)=true:=by simpa using B22
        refine wp_skip (cG (aH (aI (Y f 1 λ_ f=>?_))))
        obtain⟨O3,F33⟩:=nS F32
        refine Y f 1 λ_ f=>?_
        have f:=f.st 23 (iW O3)
        refine Ye f 1 λ_ f=>?_
        cases sI F33
        exact⟨⟨I2,K1+1⟩,Nat.lt_succ_self _,V4,((J2.trans J3).trans J4),T1,f.kp,(N13.dropN 1)⟩
   ·have U18:=ap dI B3
    refine wp_exit (co (co ?_))
    cases sI F34
    exact .inr ⟨rfl,(),(sI T1).symm,V2,J2,f.kp,N2⟩
  ·rintro _ _ W16 (⟨rfl,G3,rfl,V6,J6,f,N14⟩|⟨rfl,G4,rfl,V7,J7,f,N15⟩)
   ·refine bV (aS (ao f rfl (Lk 4 (iL 91)) ?_))
    cases sI F4
    exact⟨_,rfl,V6,(J1.trans J6),N14,rfl⟩
   ·refine iq (aH (RR (Ye f 1 λ_ f=>wp_ret (ao f rfl (Lk 4 (iL 0)) ?_))))
    cases sI F4
    exact⟨_,rfl,V7,(J1.trans J7),N15,rfl⟩
end Go.Proofs.YtkhdpnamfndonaaGreatDoor
