/-
  Texts of this claim, packed (what nothing names is left out): Y3a, Y3, ReadH, Y5. Own work, partly printed by own programs. No condition.
-/
import Derived.Test.YtkopljikappieaaGreatDoorPkF5
import Derived.Test.YtkopljikappieaaGreatDoorPkF4
import Derived.Test.YtkopljikappieaaGreatDoorRows
set_option linter.unusedVariables false
set_option linter.unusedSimpArgs false
set_option maxHeartbeats 2000000
namespace Go.Proofs.YtkopljikappieaaGreatDoor
open Go Go.Vc Go.RowKit
def bl (n:Nat) (d0:Bs) (d1:TD0) (d2:Bs):Option (TD0×Bs×Bool):=
 (lz n d1 d0).bind λX1=>
 (aL n d2 d0).bind λX2=>
 some ((X1.1,X2,(X1.2)))
theorem bi (n:Nat) (M:Mem) (hG:GL M) (d0:Bs) (ad1:Addr) (c1:Lv) (d1:TD0) (h1:Rep M (ar d1) c1) (q1: ∀j v,c1[j]? =some v→M.cell? (ad1.add j)=some v) (ad2:Addr) (c2:Lv) (d2:Bs) (h2:Rep M (Dat.str d2) c2) (q2: ∀j v,c2[j]? =some v→M.cell? (ad2.add j)=some v) (r:TD0×Bs×Bool) (hF:bl n d0 d1 d2=some r):Ok Tryz.prog M 93 [S d0,Pa ad1,Pa ad2] (λM' v=>∃ (c0:Lv),v=.tuple #[.agg c0.toArray,S r.2.1,bO r.2.2]∧Rep M' (ar r.1) c0):=by
 unfold bl at hF
 intro M1 hM0 w0 H w p0
 replace hG:=GL.mono hM0 hG
 replace h1:=Rep.mono hM0 _ _ h1
 replace q1:=λj v h=>hM0.cell (q1 j v h)
 replace h2:=Rep.mono hM0 _ _ h2
 replace q2:=λj v h=>hM0.cell (q2 j v h)
 obtain⟨Z1,P1,Z2,P2,rfl,B1,B2⟩:=TD0.opn h1
 obtain rfl:c2=[S d2]:=h2
 refine Re 20 Tryz.func93 rfl λa0 f0=>RR (Y13 f0 p0 (.cells #[iB 0,bO false,iL 0,S [],Sn,Sn] 26 (0,0)) λQ1 W1 N1 _ f=>Ye f 2 λ_ f=>RR (Z f (Y32 (cs:=(lTD0 d1 Z1 P1 Z2 P2)) rfl (ad:=ad1) (λj v h=>N1.cell (q1 j v h))) λ_ f=>Y f 1 λ_ f=>?_))
 obtain⟨X1,l1,F1⟩:=bS hF
 refine Y17 f N1 (mn n _ hG _ d1 (TD0.shutx (x:=d1) B1 B2) d0 X1 l1) λ_ V1 W2 J1 N2 ej _ f=>?_
 obtain⟨cZ,rfl,D1⟩:=ej
 obtain⟨Z3,P3,Z4,P4,rfl,B3,B4⟩:=TD0.opn D1
 refine Y f 3 λ_ f=>Y13 f N2 (.cells #[iB 0,bO false,iL 0,S [],Sn,Sn] 26 (0,0)) λQ2 W3 N3 _ f=>Ys (lTD0 X1.1 Z3 P3 Z4 P4) (aTD0 X1.1 Z3 P3 Z4 P4) f N3 rfl rfl λW4 N4 _ f=>Ye f 1 λ_ f=>an ?_
 have N5:=N4.pl [1]
 refine dp (E:=[oC Q1 #[iB 0,bO false,iL 0,S [],Sn,Sn] 26]) (Hr:=((Ent.obj Q2 (.cells (aTD0 X1.1 Z3 P3 Z4 P4) 26 (0,0)))::H)) [(0,true),(1,true),(2,true),(3,true),(4,true),(5,false),(6,true),(7,true)] N5 kr kr rfl kr (bz (v:=.agg (aTD0 X1.1 Z3 P3 Z4 P4)) f kr kr rfl rfl (λ_ pq=>Y32 (cs:=(lTD0 X1.1 Z3 P3 Z4 P4)) rfl (ad:=⟨Q2,0,none⟩) (am (pq.ownCell 0 rfl) 0 rfl)) λ_ f=>bz (v:=S d2) f kr kr rfl rfl (λ_ pq=>Y31 (v:=S d2) rfl (ad:=ad2) (pq.cell ((fzu J1 q2) 0 _ rfl))) λ_ f=>Y0 default f 1 λ_ f=>?_)
 obtain⟨X2,l2,F2⟩:=bS F1
 refine dM (v:=S X2) f kr kr rfl rfl (λ_=>by kernel_rfl) (aJ n _ (GL.mono J1 hG) d2 d0 X2 l2) λ_ f=>Y0 default f 1 λ_ f=>bL (E:=[oC Q1 #[iB 0,bO false,iL 0,S [],Sn,Sn] 26]) λW6 N7=>Ys (lTD0 X1.1 Z3 P3 Z4 P4) (aTD0 X1.1 Z3 P3 Z4 P4) f N7 rfl rfl λW7 N8 _ f=>ap rfl (dl (M1:=V1) (E:=[Ent.obj Q1 (.cells (aTD0 X1.1 Z3 P3 Z4 P4) 26 (0,0))]) (mR _) N8 (Y0 default f 2 λ_ f=>dL rfl λW8 N9=>aK (wp_ret (kS f rfl (Y11 (cs:=(lTD0 X1.1 Z3 P3 Z4 P4)) (ad:=⟨Q1,0,none⟩) f (am (N9.ownCell 0 rfl) 0 rfl)) (Y12 (v:=S X2) f) (Y12 (v:=bO X1.2) f) ?_))))
 cases sI F2
 exact⟨_,rfl,V1,J1,(N9.dropN 2),⟨[iB X1.1.ab,bO X1.1.ah,iL X1.1.af,S X1.1.aa,sL Z3 X1.1.ac P3,sL Z4 X1.1.ae P4],rfl,(TD0.shutx (x:=X1.1) B3 B4)⟩⟩
def ey (n:Nat) (X1:TD0×Bs×Bool) (X2:List ay) (_:Unit):Option (Lp Unit (Sum (Int×Bs) Unit)):=
    bif(decide ((0:Int)<((X2.length:Nat):Int))) then
     ((aQ X2 (0:Int)).bind λX3=>
     (ce n X3.key).bind λX4=>
     (aL n X1.2.1 X3.key).bind λX5=>
     bif X4 then
      ((aL n X1.2.1 X3.key).bind λX6=>
      none)
     else
      some (.br (.inl ((120:Int),X5))))
    else
     some (.br (.inr ()))
def gx (n:Nat) (d0:Bs) (d1:Int) (aF:List TE0) (aG:List TF0) (aH:List TB0) (aI:List TC0) (d3_f_0:TD0) (d3_f_1:Bs):Option (Sum (Int×Bs) (List TE0×List TF0×List TB0×List TC0)):=
 (bl n d0 d3_f_0 d3_f_1).bind λX1=>
 bif !X1.2.2 then
  (some (.inr (aF,aG,aH,aI)))
 else
  bif(decide (X1.1.ab=5)) then
   (bif(decide (((X1.1.ae.length:Nat):Int)≤d1)) then
    ((cz n X1.1).bind λX2=>
    (aE (ey n X1 X2) n ()).bind λQ2=>
    (match Q2 with
    |.inl G1=>some (.inl G1)
    |.inr G2=>some (.inr (aF,aG,aH,aI))))
   else
    some (.inl ((3:Int),X1.2.1)))
  else
   some (.inl ((120:Int),X1.2.1))
set_option maxRecDepth 20000 in
theorem gU (n:Nat) (M:Mem) (hG:GL M) (d0:Bs) (d1:Int) (db:Nat) (aF:List TE0) (Z1:Oa) (P1:Nat) (L1:Lv) (D1:ag M (aF.map ck) L1) (aG:List TF0) (Z2:Oa) (P2:Nat) (L2:Lv) (D2:ag M (aG.map bU) L2) (aH:List TB0) (Z3:Oa) (P3:Nat) (L3:Lv) (D3:ag M (aH.map bH) L3) (aI:List TC0) (Z4:Oa) (P4:Nat) (L4:Lv) (D4:ag M (aI.map cj) L4) (ad3_f_0:Addr) (c3_f_0:Lv) (d3_f_0:TD0) (h3_f_0:Rep M (ar d3_f_0) c3_f_0) (q3_f_0: ∀j v,c3_f_0[j]? =some v→M.cell? (ad3_f_0.add j)=some v) (ad3_f_1:Addr) (c3_f_1:Lv) (d3_f_1:Bs) (h3_f_1:Rep M (Dat.str d3_f_1) c3_f_1) (q3_f_1: ∀j v,c3_f_1[j]? =some v→M.cell? (ad3_f_1.add j)=some v) (ad3:Addr) (q3: ∀j v,[(.func (.func 93) #[] #[Pa ad3_f_0,Pa ad3_f_1]:Value)][j]? =some v→M.cell? (ad3.add j)=some v) (r:Sum (Int×Bs) (List TE0×List TF0×List TB0×List TC0)) (hF:gx n d0 d1 aF aG aH aI d3_f_0 d3_f_1=some r):OkXH Tryz.prog M [oC db #[sL Z1 aF P1,sL Z2 aG P2,sL Z3 aH P3,sL Z4 aI P4] 41,rO 58 10 Z1 aF P1 L1,rO 61 15 Z2 aG P2 L2,rO 66 7 Z3 aH P3 L3,rO 68 8 Z4 aI P4 L4] 46 [S d0,iL d1,.func (.func 49) #[] #[pP db],Pa ad3] 78 r (λr=>λM' E' v=>∃ (Z12:Oa) (P13:Nat) (L6:Lv) (Z13:Oa) (P14:Nat) (L7:Lv) (Z14:Oa) (P15:Nat) (L8:Lv) (Z15:Oa) (P16:Nat) (L9:Lv),v=.tuple #[]∧E'=[oC db #[sL Z12 r.1 P13,sL Z13 r.2.1 P14,sL Z14 r.2.2.1 P15,sL Z15 r.t3 P16] 41,rO 58 10 Z12 r.1 P13 L6,rO 61 15 Z13 r.2.1 P14 L7,rO 66 7 Z14 r.2.2.1 P15 L8,rO 68 8 Z15 r.t3 P16 L9]∧ag M' (r.1.map ck) L6∧ag M' (r.2.1.map bU) L7∧ag M' (r.2.2.1.map bH) L8∧ag M' (r.t3.map cj) L9):=by
 unfold gx at hF
 intro M1 hM0 w0 H w p0
 replace hG:=GL.mono hM0 hG
 replace D1:=ag.mono hM0 _ _ D1
 replace D2:=ag.mono hM0 _ _ D2
 replace D3:=ag.mono hM0 _ _ D3
 replace D4:=ag.mono hM0 _ _ D4
 replace h3_f_0:=Rep.mono hM0 _ _ h3_f_0
 replace q3_f_0:=λj v h=>hM0.cell (q3_f_0 j v h)
 replace h3_f_1:=Rep.mono hM0 _ _ h3_f_1
 replace q3_f_1:=λj v h=>hM0.cell (q3_f_1 j v h)
 replace q3:=λj v h=>hM0.cell (q3 j v h)
 obtain⟨Z5,P5,Z6,P6,rfl,B1,B2⟩:=TD0.opn h3_f_0
 obtain rfl:c3_f_1=[S d3_f_1]:=h3_f_1
 refine Re 59 Tryz.func46 rfl λa0 f0=>RR (Y16 f0 p0 q3 0 rfl λ_ f=>Y f 1 λ_ f=>?_)
 obtain⟨X1,l1,F1⟩:=bS hF
 refine Y17 f p0 (bi n _ hG d0 ad3_f_0 (lTD0 d3_f_0 Z5 P5 Z6 P6) d3_f_0 (TD0.shutx (x:=d3_f_0) B1 B2) (bu (q3_f_0) 0 rfl) ad3_f_1 [S d3_f_1] d3_f_1 (rfl) (bu (q3_f_1) 0 rfl) X1 l1) λ_ V1 W1 J1 N1 ej _ f=>?_
 obtain⟨cZ,rfl,D5⟩:=ej
 obtain⟨Z7,P7,Z8,P8,rfl,B3,B4⟩:=TD0.opn D5
 refine Y f 4 λ_ f=>Y13 f N1 (.cells #[iB 0,bO false,iL 0,S [],Sn,Sn] 26 (0,0)) λQ1 W2 N2 _ f=>Ys (lTD0 X1.1 Z7 P7 Z8 P8) (aTD0 X1.1 Z7 P7 Z8 P8) f N2 rfl rfl λW3 N3 _ f=>Ye f 2 λ_ f=>an (RR (Ye f 2 λ_ f=>RcF f F1 (λB5 F2=>?_) λB5 F3=>?_))
 ·have U1: (X1.2.2)=false:=by simpa using B5
  refine wp_ret (bC (E_ret0 f rfl ?_))
  cases sI F2
  exact⟨_,rfl,V1,_,J1,(N3.dropN 1),⟨Z1,P1,L1,Z2,P2,L2,Z3,P3,L3,Z4,P4,L4,rfl,rfl,(ag.mono J1 _ _ D1),(ag.mono J1 _ _ D2),(ag.mono J1 _ _ D3),(ag.mono J1 _ _ D4)⟩⟩
 ·have U2: (X1.2.2)=true:=by simpa using B5
  refine St (RR (Y f 1 λ_ f=>Z f (Y31 (v:=iB X1.1.ab) rfl (ad:=⟨Q1,0,none⟩) (N3.ownCell 0 rfl 0)) λ_ f=>Y f 2 λ_ f=>?_))
  rcases cE F3 with⟨B6,F4⟩|⟨B6,F17⟩
  ·have U3:=dI.1 B6
   have f:=f.st 23 (cB B6)
   refine Y19 f N3 (bk _ (120:Int) X1.2.1) λW4 N4 _ f=>eT (RR (Y f 1 λ_ f=>Z f (Y31 (v:=sL Z8 X1.1.ae P8) rfl (ad:=⟨Q1,5,none⟩) (N4.ownCell 0 rfl 5)) λ_ f=>Y f 4 λ_ f=>?_))
   rcases cE F4 with⟨B7,F5⟩|⟨B7,F16⟩
   ·have U4:=dI.1 B7
    have f:=f.st 30 (cB B7)
    refine Y19 f N4 (bk _ (3:Int) X1.2.1) λW5 N5 _ f=>eT (RR (Z f (Y32 (cs:=(lTD0 X1.1 Z7 P7 Z8 P8)) rfl (ad:=⟨Q1,0,none⟩) (am (N5.ownCell 0 rfl) 0 rfl)) λ_ f=>?_))
    obtain⟨X2,l2,F6⟩:=bS F5
    refine Y18 (E:=[]) (H:=((Ent.obj Q1 (.cells (aTD0 X1.1 Z7 P7 Z8 P8) 26 (0,0)))::(oC db #[sL Z1 aF P1,sL Z2 aG P2,sL Z3 aH P3,sL Z4 aI P4] 41)::(rO 58 10 Z1 aF P1 L1)::(rO 61 15 Z2 aG P2 L2)::(rO 66 7 Z3 aH P3 L3)::(rO 68 8 Z4 aI P4 L4)::H)) f N5 (cJ n _ (GL.mono J1 hG) _ X1.1 (TD0.shutx (x:=X1.1) B3 B4) X2 l2) λ_ V2 mo W6 J2 N6 jk _ f=>?_
    obtain⟨Z9,P9,L5,rfl,rfl,D6⟩:=jk
    refine Ye f 2 λ_ f=>wp_block ?_
    obtain⟨Q2,co,F7⟩:=bS F6
    refine wp_mono (Q:=λe a w=>(∃G1:Int×Bs,e=.panic (flawE 78 G1)∧Q2=.inl G1∧∃V5:Mem,V2.le V5∧Frm 59 [] a∧Hp w0 V5 (H) w)∨(e=.exit 0∧(∃G2:Unit,Q2=.inr G2∧∃V6:Mem,V2.le V6∧Frm 59 [] a∧Hp w0 V6 ((rO 99 7 Z9 X2 P9 L5)::(Ent.obj Q1 (.cells (aTD0 X1.1 Z7 P7 Z8 P8) 26 (0,0)))::(oC db #[sL Z1 aF P1,sL Z2 aG P2,sL Z3 aH P3,sL Z4 aI P4] 41)::(rO 58 10 Z1 aF P1 L1)::(rO 61 15 Z2 aG P2 L2)::(rO 66 7 Z3 aH P3 L3)::(rO 68 8 Z4 aI P4 L4)::H) w))) (bT (n:=59) (w0:=w0) (M:=V2) (λ (I1,K1)=>[(2,.func (.func 49) #[] #[pP db]),(8,S X1.2.1),(34,sL Z9 X2 P9),(35,iL ((X2.length:Nat):Int)),(36,iL 0)]) (λ (I1,K1)=>((rO 99 7 Z9 X2 P9 L5)::(Ent.obj Q1 (.cells (aTD0 X1.1 Z7 P7 Z8 P8) 26 (0,0)))::(oC db #[sL Z1 aF P1,sL Z2 aG P2,sL Z3 aH P3,sL Z4 aI P4] 41)::(rO 58 10 Z1 aF P1 L1)::(rO 61 15 Z2 aG P2 L2)::(rO 66 7 Z3 aH P3 L3)::(rO 68 8 Z4 aI P4 L4)::H)) (λ (I1,K1) MM=>aE (ey n X1 X2) I1 K1=some Q2) (λ (I1,K1)=>I1) (n,()) (f.kp) N6 co ?_) ?_
    ·rintro⟨I1,K1⟩ V3 _ W7 J3 gM f N7
     have cu:=gM
     obtain⟨I2,lO,rfl,bx,T1⟩:=aZ cu
     unfold ey at bx
     refine RR (Ye f 1 λ_ f=>an (RcF f bx (λB8 F8=>?_) λB8 F15=>?_))
     ·have U5:=dI.1 B8
      refine St (an (wp_block (RR ?_)))
      obtain⟨X3,l3,F9⟩:=bS F8
      obtain⟨Q3,P10,H1,lI⟩:=N7.rowAddr 0 rfl (bJ l3)
      have f:=f.st 34 (H1)
      refine Z f (Y29 rfl (ad:=⟨Q3,0,none⟩) (len:=X2.length) (cap:=P10) (k:=.i64) (i:=(0:Int)) (e:=99) (sz:=7) (ax l3) (aw l3)) λ_ f=>?_
      have f:=f.st 34 (H1.symm)
      obtain⟨gW,-,D7,R1⟩:=ag.get (0:Int).toNat (eW cq) (ag.mono J3 _ _ D6) (ip l3)
      obtain⟨Z10,P11,Z11,P12,rfl,B9,B10⟩:=ay.opn D7
      refine Z f (Y32 (cs:=[S X3.key,iB X3.v.ab,bO X3.v.ah,iL X3.v.af,S X3.v.aa,sL Z10 X3.v.ac P11,sL Z11 X3.v.ae P12]) rfl (ad:=(⟨Q3,0,none⟩:Addr).add ((0:Int).toNat*7)) (λj v h=>kP (N7.rowCell 0 rfl H1) R1 j v h)) λ_ f=>Y13 f N7 (.cells #[S [],iB 0,bO false,iL 0,S [],Sn,Sn] 99 (0,0)) λQ4 W8 N8 _ f=>Ys [S X3.key,iB X3.v.ab,bO X3.v.ah,iL X3.v.af,S X3.v.aa,sL Z10 X3.v.ac P11,sL Z11 X3.v.ae P12] #[S X3.key,iB X3.v.ab,bO X3.v.ah,iL X3.v.af,S X3.v.aa,sL Z10 X3.v.ac P11,sL Z11 X3.v.ae P12] f N8 rfl rfl λW9 N9 _ f=>eT (an (dp (E:=[]) (Hr:=((oC Q4 #[S X3.key,iB X3.v.ab,bO X3.v.ah,iL X3.v.af,S X3.v.aa,sL Z10 X3.v.ac P11,sL Z11 X3.v.ae P12] 99)::(rO 99 7 Z9 X2 P9 L5)::(Ent.obj Q1 (.cells (aTD0 X1.1 Z7 P7 Z8 P8) 26 (0,0)))::(oC db #[sL Z1 aF P1,sL Z2 aG P2,sL Z3 aH P3,sL Z4 aI P4] 41)::(rO 58 10 Z1 aF P1 L1)::(rO 61 15 Z2 aG P2 L2)::(rO 66 7 Z3 aH P3 L3)::(rO 68 8 Z4 aI P4 L4)::H)) [(0,true),(1,true),(2,true),(3,true),(4,true),(5,true),(6,true),(7,false)] N9 kr kr rfl kr (Y0 default f 1 λ_ f=>bz (v:=S X3.key) f kr kr rfl rfl (λ_ pq=>Y31 (v:=S X3.key) rfl (ad:=⟨Q4,0,none⟩) (pq.ownCell 0 rfl 0)) λ_ f=>?_)))
      obtain⟨X4,l4,F10⟩:=bS F9
      refine dM (v:=bO X4) f kr kr rfl rfl (λ_=>by kernel_rfl) (bZ n _ X3.key X4 l4) λ_ f=>Y0 default f 2 λ_ f=>bz (v:=S X3.key) f kr kr rfl rfl (λ_ pq=>Y31 (v:=S X3.key) rfl (ad:=⟨Q4,0,none⟩) (pq.ownCell 0 rfl 0)) λ_ f=>?_
      obtain⟨X5,l5,F11⟩:=bS F10
      refine dM (v:=S X5) f kr kr rfl rfl (λ_=>by kernel_rfl) (aJ n _ (GL.mono ((J1.trans J2).trans J3) hG) X1.2.1 X3.key X5 l5) λ_ f=>bL (E:=[]) λW12 N12=>?_
      rcases cE F11 with⟨B11,F12⟩|⟨B11,F14⟩
      ·have f:=f.st 42 (cB B11)
       refine Y19 f N12 (bk _ (120:Int) X5) λW13 N13 _ f=>ap rfl (dl (M1:=V3) (E:=[]) (mR _) N13 (dL rfl λW14 N14=>aK (dp (E:=[]) (Hr:=((oC Q4 #[S X3.key,iB X3.v.ab,bO X3.v.ah,iL X3.v.af,S X3.v.aa,sL Z10 X3.v.ac P11,sL Z11 X3.v.ae P12] 99)::(rO 99 7 Z9 X2 P9 L5)::(Ent.obj Q1 (.cells (aTD0 X1.1 Z7 P7 Z8 P8) 26 (0,0)))::(oC db #[sL Z1 aF P1,sL Z2 aG P2,sL Z3 aH P3,sL Z4 aI P4] 41)::(rO 58 10 Z1 aF P1 L1)::(rO 61 15 Z2 aG P2 L2)::(rO 66 7 Z3 aH P3 L3)::(rO 68 8 Z4 aI P4 L4)::H)) [(0,true),(1,true),(2,true),(3,true),(4,true),(5,true),(6,true),(7,true),(8,true),(9,false)] N14 kr kr rfl kr (Y0 default f 2 λ_ f=>bz (v:=S X3.key) f kr kr rfl rfl (λ_ pq=>Y31 (v:=S X3.key) rfl (ad:=⟨Q4,0,none⟩) (pq.ownCell 0 rfl 0)) λ_ f=>Y0 default f 1 λ_ f=>bz (v:=.agg (aTD0 X3.v Z10 P11 Z11 P12)) f kr kr rfl rfl (λ_ pq=>Y32 (cs:=(lTD0 X3.v Z10 P11 Z11 P12)) rfl (ad:=⟨Q4,1,none⟩) (am (pq.ownCell 0 rfl) 1 rfl)) λ_ f=>Y0 default f 2 λ_ f=>bz (v:=S X3.key) f kr kr rfl rfl (λ_ pq=>Y31 (v:=S X3.key) rfl (ad:=⟨Q4,0,none⟩) (pq.ownCell 0 rfl 0)) λ_ f=>?_))))
       obtain⟨X6,l6,F13⟩:=bS F12
       refine dM (v:=S X6) f kr kr rfl rfl (λ_=>by kernel_rfl) (aJ n _ (GL.mono ((J1.trans J2).trans J3) hG) X1.2.1 X3.key X6 l6) λ_ f=>bL (E:=[]) λW16 N16=>?_
       cases F13
      ·have f:=f.st 42 (cB B11)
       refine aR f N12 (bw _ (120:Int) X5) kr (λ_=>by kernel_rfl) λV4 W17 J4 N17=>M_p f λ_ f=>cr (nE (cr (cr ?_)))
       cases sI F14
       exact .inl ⟨((120:Int),X5),rfl,(sI T1).symm,V4,(J3.trans J4),f.kp,(N17.dropN 8)⟩
     ·have U8:=aq dI B8
      refine wp_exit (eH (eH ?_))
      cases sI F15
      exact .inr ⟨rfl,(),(sI T1).symm,V3,J3,f.kp,N7⟩
    ·rintro _ _ W20 (⟨G1,rfl,rfl,V5,J5,f,N18⟩|⟨rfl,G2,rfl,V6,J6,f,N19⟩)
     ·refine nE (ba f ?_)
      cases sI F7
      exact⟨V5,((J1.trans J2).trans J5),N18,rfl⟩
     ·refine kh (dn f rfl ?_)
      cases sI F7
      exact⟨_,rfl,V6,_,((J1.trans J2).trans J6),(N19.dropN 2),⟨Z1,P1,L1,Z2,P2,L2,Z3,P3,L3,Z4,P4,L4,rfl,rfl,(ag.mono ((J1.trans J2).trans J6) _ _ D1),(ag.mono ((J1.trans J2).trans J6) _ _ D2),(ag.mono ((J1.trans J2).trans J6) _ _ D3),(ag.mono ((J1.trans J2).trans J6) _ _ D4)⟩⟩
   ·have U9:=aq dI B7
    have f:=f.st 30 (cB B7)
    refine aR f N4 (bw _ (3:Int) X1.2.1) kr (λ_=>by kernel_rfl) λV7 W21 J7 N20=>cr (ba f ?_)
    cases sI F16
    exact⟨V7,(J1.trans J7),(N20.dropN 6),rfl⟩
  ·have U10:=aq dI B6
   have f:=f.st 23 (cB B6)
   refine aR f N3 (bw _ (120:Int) X1.2.1) kr (λ_=>by kernel_rfl) λV8 W22 J8 N21=>cr (ba f ?_)
   cases sI F17
   exact⟨V8,(J1.trans J8),(N21.dropN 6),rfl⟩
def dH (n:Nat) (X1:TD0×Bs×Bool) (X2:List ay) (_:Unit):Option (Lp Unit (Sum (Int×Bs) Unit)):=
    bif(decide ((0:Int)<((X2.length:Nat):Int))) then
     ((aQ X2 (0:Int)).bind λX3=>
     (ce n X3.key).bind λX4=>
     (aL n X1.2.1 X3.key).bind λX5=>
     bif X4 then
      ((aL n X1.2.1 X3.key).bind λX6=>
      none)
     else
      some (.br (.inl ((120:Int),X5))))
    else
     some (.br (.inr ()))
def eD (n:Nat) (d0:Bs) (d1:Int) (aF:List TE0) (aG:List TF0) (aH:List TB0) (aI:List TC0) (d3_f_0:TD0) (d3_f_1:Bs):Option (Sum (Int×Bs) (List TE0×List TF0×List TB0×List TC0)):=
 (bl n d0 d3_f_0 d3_f_1).bind λX1=>
 bif !X1.2.2 then
  (some (.inr (aF,aG,aH,aI)))
 else
  bif(decide (X1.1.ab=5)) then
   (bif(decide (((X1.1.ae.length:Nat):Int)≤d1)) then
    ((cz n X1.1).bind λX2=>
    (aE (dH n X1 X2) n ()).bind λQ2=>
    (match Q2 with
    |.inl G1=>some (.inl G1)
    |.inr G2=>some (.inr (aF,aG,aH,aI))))
   else
    some (.inl ((3:Int),X1.2.1)))
  else
   some (.inl ((120:Int),X1.2.1))
set_option maxRecDepth 20000 in
theorem gy (n:Nat) (M:Mem) (hG:GL M) (d0:Bs) (d1:Int) (db:Nat) (aF:List TE0) (Z1:Oa) (P1:Nat) (L1:Lv) (D1:ag M (aF.map ck) L1) (aG:List TF0) (Z2:Oa) (P2:Nat) (L2:Lv) (D2:ag M (aG.map bU) L2) (aH:List TB0) (Z3:Oa) (P3:Nat) (L3:Lv) (D3:ag M (aH.map bH) L3) (aI:List TC0) (Z4:Oa) (P4:Nat) (L4:Lv) (D4:ag M (aI.map cj) L4) (ad3_f_0:Addr) (c3_f_0:Lv) (d3_f_0:TD0) (h3_f_0:Rep M (ar d3_f_0) c3_f_0) (q3_f_0: ∀j v,c3_f_0[j]? =some v→M.cell? (ad3_f_0.add j)=some v) (ad3_f_1:Addr) (c3_f_1:Lv) (d3_f_1:Bs) (h3_f_1:Rep M (Dat.str d3_f_1) c3_f_1) (q3_f_1: ∀j v,c3_f_1[j]? =some v→M.cell? (ad3_f_1.add j)=some v) (ad3:Addr) (q3: ∀j v,[(.func (.func 93) #[] #[Pa ad3_f_0,Pa ad3_f_1]:Value)][j]? =some v→M.cell? (ad3.add j)=some v) (r:Sum (Int×Bs) (List TE0×List TF0×List TB0×List TC0)) (hF:eD n d0 d1 aF aG aH aI d3_f_0 d3_f_1=some r):OkXH Tryz.prog M [oC db #[sL Z1 aF P1,sL Z2 aG P2,sL Z3 aH P3,sL Z4 aI P4] 41,rO 58 10 Z1 aF P1 L1,rO 61 15 Z2 aG P2 L2,rO 66 7 Z3 aH P3 L3,rO 68 8 Z4 aI P4 L4] 46 [S d0,iL d1,.func (.func 51) #[] #[pP db],Pa ad3] 78 r (λr=>λM' E' v=>∃ (Z12:Oa) (P13:Nat) (L6:Lv) (Z13:Oa) (P14:Nat) (L7:Lv) (Z14:Oa) (P15:Nat) (L8:Lv) (Z15:Oa) (P16:Nat) (L9:Lv),v=.tuple #[]∧E'=[oC db #[sL Z12 r.1 P13,sL Z13 r.2.1 P14,sL Z14 r.2.2.1 P15,sL Z15 r.t3 P16] 41,rO 58 10 Z12 r.1 P13 L6,rO 61 15 Z13 r.2.1 P14 L7,rO 66 7 Z14 r.2.2.1 P15 L8,rO 68 8 Z15 r.t3 P16 L9]∧ag M' (r.1.map ck) L6∧ag M' (r.2.1.map bU) L7∧ag M' (r.2.2.1.map bH) L8∧ag M' (r.t3.map cj) L9):=by
 unfold eD at hF
 intro M1 hM0 w0 H w p0
 replace hG:=GL.mono hM0 hG
 replace D1:=ag.mono hM0 _ _ D1
 replace D2:=ag.mono hM0 _ _ D2
 replace D3:=ag.mono hM0 _ _ D3
 replace D4:=ag.mono hM0 _ _ D4
 replace h3_f_0:=Rep.mono hM0 _ _ h3_f_0
 replace q3_f_0:=λj v h=>hM0.cell (q3_f_0 j v h)
 replace h3_f_1:=Rep.mono hM0 _ _ h3_f_1
 replace q3_f_1:=λj v h=>hM0.cell (q3_f_1 j v h)
 replace q3:=λj v h=>hM0.cell (q3 j v h)
 obtain⟨Z5,P5,Z6,P6,rfl,B1,B2⟩:=TD0.opn h3_f_0
 obtain rfl:c3_f_1=[S d3_f_1]:=h3_f_1
 refine Re 59 Tryz.func46 rfl λa0 f0=>RR (Y16 f0 p0 q3 0 rfl λ_ f=>Y f 1 λ_ f=>?_)
 obtain⟨X1,l1,F1⟩:=bS hF
 refine Y17 f p0 (bi n _ hG d0 ad3_f_0 (lTD0 d3_f_0 Z5 P5 Z6 P6) d3_f_0 (TD0.shutx (x:=d3_f_0) B1 B2) (bu (q3_f_0) 0 rfl) ad3_f_1 [S d3_f_1] d3_f_1 (rfl) (bu (q3_f_1) 0 rfl) X1 l1) λ_ V1 W1 J1 N1 ej _ f=>?_
 obtain⟨cZ,rfl,D5⟩:=ej
 obtain⟨Z7,P7,Z8,P8,rfl,B3,B4⟩:=TD0.opn D5
 refine Y f 4 λ_ f=>Y13 f N1 (.cells #[iB 0,bO false,iL 0,S [],Sn,Sn] 26 (0,0)) λQ1 W2 N2 _ f=>Ys (lTD0 X1.1 Z7 P7 Z8 P8) (aTD0 X1.1 Z7 P7 Z8 P8) f N2 rfl rfl λW3 N3 _ f=>Ye f 2 λ_ f=>an (RR (Ye f 2 λ_ f=>RcF f F1 (λB5 F2=>?_) λB5 F3=>?_))
 ·have U1: (X1.2.2)=false:=by simpa using B5
  refine wp_ret (bC (E_ret0 f rfl ?_))
  cases sI F2
  exact⟨_,rfl,V1,_,J1,(N3.dropN 1),⟨Z1,P1,L1,Z2,P2,L2,Z3,P3,L3,Z4,P4,L4,rfl,rfl,(ag.mono J1 _ _ D1),(ag.mono J1 _ _ D2),(ag.mono J1 _ _ D3),(ag.mono J1 _ _ D4)⟩⟩
 ·have U2: (X1.2.2)=true:=by simpa using B5
  refine St (RR (Y f 1 λ_ f=>Z f (Y31 (v:=iB X1.1.ab) rfl (ad:=⟨Q1,0,none⟩) (N3.ownCell 0 rfl 0)) λ_ f=>Y f 2 λ_ f=>?_))
  rcases cE F3 with⟨B6,F4⟩|⟨B6,F17⟩
  ·have U3:=dI.1 B6
   have f:=f.st 23 (cB B6)
   refine Y19 f N3 (bk _ (120:Int) X1.2.1) λW4 N4 _ f=>eT (RR (Y f 1 λ_ f=>Z f (Y31 (v:=sL Z8 X1.1.ae P8) rfl (ad:=⟨Q1,5,none⟩) (N4.ownCell 0 rfl 5)) λ_ f=>Y f 4 λ_ f=>?_))
   rcases cE F4 with⟨B7,F5⟩|⟨B7,F16⟩
   ·have U4:=dI.1 B7
    have f:=f.st 30 (cB B7)
    refine Y19 f N4 (bk _ (3:Int) X1.2.1) λW5 N5 _ f=>eT (RR (Z f (Y32 (cs:=(lTD0 X1.1 Z7 P7 Z8 P8)) rfl (ad:=⟨Q1,0,none⟩) (am (N5.ownCell 0 rfl) 0 rfl)) λ_ f=>?_))
    obtain⟨X2,l2,F6⟩:=bS F5
    refine Y18 (E:=[]) (H:=((Ent.obj Q1 (.cells (aTD0 X1.1 Z7 P7 Z8 P8) 26 (0,0)))::(oC db #[sL Z1 aF P1,sL Z2 aG P2,sL Z3 aH P3,sL Z4 aI P4] 41)::(rO 58 10 Z1 aF P1 L1)::(rO 61 15 Z2 aG P2 L2)::(rO 66 7 Z3 aH P3 L3)::(rO 68 8 Z4 aI P4 L4)::H)) f N5 (cJ n _ (GL.mono J1 hG) _ X1.1 (TD0.shutx (x:=X1.1) B3 B4) X2 l2) λ_ V2 mo W6 J2 N6 jk _ f=>?_
    obtain⟨Z9,P9,L5,rfl,rfl,D6⟩:=jk
    refine Ye f 2 λ_ f=>wp_block ?_
    obtain⟨Q2,co,F7⟩:=bS F6
    refine wp_mono (Q:=λe a w=>(∃G1:Int×Bs,e=.panic (flawE 78 G1)∧Q2=.inl G1∧∃V5:Mem,V2.le V5∧Frm 59 [] a∧Hp w0 V5 (H) w)∨(e=.exit 0∧(∃G2:Unit,Q2=.inr G2∧∃V6:Mem,V2.le V6∧Frm 59 [] a∧Hp w0 V6 ((rO 99 7 Z9 X2 P9 L5)::(Ent.obj Q1 (.cells (aTD0 X1.1 Z7 P7 Z8 P8) 26 (0,0)))::(oC db #[sL Z1 aF P1,sL Z2 aG P2,sL Z3 aH P3,sL Z4 aI P4] 41)::(rO 58 10 Z1 aF P1 L1)::(rO 61 15 Z2 aG P2 L2)::(rO 66 7 Z3 aH P3 L3)::(rO 68 8 Z4 aI P4 L4)::H) w))) (bT (n:=59) (w0:=w0) (M:=V2) (λ (I1,K1)=>[(2,.func (.func 51) #[] #[pP db]),(8,S X1.2.1),(34,sL Z9 X2 P9),(35,iL ((X2.length:Nat):Int)),(36,iL 0)]) (λ (I1,K1)=>((rO 99 7 Z9 X2 P9 L5)::(Ent.obj Q1 (.cells (aTD0 X1.1 Z7 P7 Z8 P8) 26 (0,0)))::(oC db #[sL Z1 aF P1,sL Z2 aG P2,sL Z3 aH P3,sL Z4 aI P4] 41)::(rO 58 10 Z1 aF P1 L1)::(rO 61 15 Z2 aG P2 L2)::(rO 66 7 Z3 aH P3 L3)::(rO 68 8 Z4 aI P4 L4)::H)) (λ (I1,K1) MM=>aE (dH n X1 X2) I1 K1=some Q2) (λ (I1,K1)=>I1) (n,()) (f.kp) N6 co ?_) ?_
    ·rintro⟨I1,K1⟩ V3 _ W7 J3 gM f N7
     have cu:=gM
     obtain⟨I2,lO,rfl,bx,T1⟩:=aZ cu
     unfold dH at bx
     refine RR (Ye f 1 λ_ f=>an (RcF f bx (λB8 F8=>?_) λB8 F15=>?_))
     ·have U5:=dI.1 B8
      refine St (an (wp_block (RR ?_)))
      obtain⟨X3,l3,F9⟩:=bS F8
      obtain⟨Q3,P10,H1,lI⟩:=N7.rowAddr 0 rfl (bJ l3)
      have f:=f.st 34 (H1)
      refine Z f (Y29 rfl (ad:=⟨Q3,0,none⟩) (len:=X2.length) (cap:=P10) (k:=.i64) (i:=(0:Int)) (e:=99) (sz:=7) (ax l3) (aw l3)) λ_ f=>?_
      have f:=f.st 34 (H1.symm)
      obtain⟨gW,-,D7,R1⟩:=ag.get (0:Int).toNat (eW cq) (ag.mono J3 _ _ D6) (ip l3)
      obtain⟨Z10,P11,Z11,P12,rfl,B9,B10⟩:=ay.opn D7
      refine Z f (Y32 (cs:=[S X3.key,iB X3.v.ab,bO X3.v.ah,iL X3.v.af,S X3.v.aa,sL Z10 X3.v.ac P11,sL Z11 X3.v.ae P12]) rfl (ad:=(⟨Q3,0,none⟩:Addr).add ((0:Int).toNat*7)) (λj v h=>kP (N7.rowCell 0 rfl H1) R1 j v h)) λ_ f=>Y13 f N7 (.cells #[S [],iB 0,bO false,iL 0,S [],Sn,Sn] 99 (0,0)) λQ4 W8 N8 _ f=>Ys [S X3.key,iB X3.v.ab,bO X3.v.ah,iL X3.v.af,S X3.v.aa,sL Z10 X3.v.ac P11,sL Z11 X3.v.ae P12] #[S X3.key,iB X3.v.ab,bO X3.v.ah,iL X3.v.af,S X3.v.aa,sL Z10 X3.v.ac P11,sL Z11 X3.v.ae P12] f N8 rfl rfl λW9 N9 _ f=>eT (an (dp (E:=[]) (Hr:=((oC Q4 #[S X3.key,iB X3.v.ab,bO X3.v.ah,iL X3.v.af,S X3.v.aa,sL Z10 X3.v.ac P11,sL Z11 X3.v.ae P12] 99)::(rO 99 7 Z9 X2 P9 L5)::(Ent.obj Q1 (.cells (aTD0 X1.1 Z7 P7 Z8 P8) 26 (0,0)))::(oC db #[sL Z1 aF P1,sL Z2 aG P2,sL Z3 aH P3,sL Z4 aI P4] 41)::(rO 58 10 Z1 aF P1 L1)::(rO 61 15 Z2 aG P2 L2)::(rO 66 7 Z3 aH P3 L3)::(rO 68 8 Z4 aI P4 L4)::H)) [(0,true),(1,true),(2,true),(3,true),(4,true),(5,true),(6,true),(7,false)] N9 kr kr rfl kr (Y0 default f 1 λ_ f=>bz (v:=S X3.key) f kr kr rfl rfl (λ_ pq=>Y31 (v:=S X3.key) rfl (ad:=⟨Q4,0,none⟩) (pq.ownCell 0 rfl 0)) λ_ f=>?_)))
      obtain⟨X4,l4,F10⟩:=bS F9
      refine dM (v:=bO X4) f kr kr rfl rfl (λ_=>by kernel_rfl) (bZ n _ X3.key X4 l4) λ_ f=>Y0 default f 2 λ_ f=>bz (v:=S X3.key) f kr kr rfl rfl (λ_ pq=>Y31 (v:=S X3.key) rfl (ad:=⟨Q4,0,none⟩) (pq.ownCell 0 rfl 0)) λ_ f=>?_
      obtain⟨X5,l5,F11⟩:=bS F10
      refine dM (v:=S X5) f kr kr rfl rfl (λ_=>by kernel_rfl) (aJ n _ (GL.mono ((J1.trans J2).trans J3) hG) X1.2.1 X3.key X5 l5) λ_ f=>bL (E:=[]) λW12 N12=>?_
      rcases cE F11 with⟨B11,F12⟩|⟨B11,F14⟩
      ·have f:=f.st 42 (cB B11)
       refine Y19 f N12 (bk _ (120:Int) X5) λW13 N13 _ f=>ap rfl (dl (M1:=V3) (E:=[]) (mR _) N13 (dL rfl λW14 N14=>aK (dp (E:=[]) (Hr:=((oC Q4 #[S X3.key,iB X3.v.ab,bO X3.v.ah,iL X3.v.af,S X3.v.aa,sL Z10 X3.v.ac P11,sL Z11 X3.v.ae P12] 99)::(rO 99 7 Z9 X2 P9 L5)::(Ent.obj Q1 (.cells (aTD0 X1.1 Z7 P7 Z8 P8) 26 (0,0)))::(oC db #[sL Z1 aF P1,sL Z2 aG P2,sL Z3 aH P3,sL Z4 aI P4] 41)::(rO 58 10 Z1 aF P1 L1)::(rO 61 15 Z2 aG P2 L2)::(rO 66 7 Z3 aH P3 L3)::(rO 68 8 Z4 aI P4 L4)::H)) [(0,true),(1,true),(2,true),(3,true),(4,true),(5,true),(6,true),(7,true),(8,true),(9,false)] N14 kr kr rfl kr (Y0 default f 2 λ_ f=>bz (v:=S X3.key) f kr kr rfl rfl (λ_ pq=>Y31 (v:=S X3.key) rfl (ad:=⟨Q4,0,none⟩) (pq.ownCell 0 rfl 0)) λ_ f=>Y0 default f 1 λ_ f=>bz (v:=.agg (aTD0 X3.v Z10 P11 Z11 P12)) f kr kr rfl rfl (λ_ pq=>Y32 (cs:=(lTD0 X3.v Z10 P11 Z11 P12)) rfl (ad:=⟨Q4,1,none⟩) (am (pq.ownCell 0 rfl) 1 rfl)) λ_ f=>Y0 default f 2 λ_ f=>bz (v:=S X3.key) f kr kr rfl rfl (λ_ pq=>Y31 (v:=S X3.key) rfl (ad:=⟨Q4,0,none⟩) (pq.ownCell 0 rfl 0)) λ_ f=>?_))))
       obtain⟨X6,l6,F13⟩:=bS F12
       refine dM (v:=S X6) f kr kr rfl rfl (λ_=>by kernel_rfl) (aJ n _ (GL.mono ((J1.trans J2).trans J3) hG) X1.2.1 X3.key X6 l6) λ_ f=>bL (E:=[]) λW16 N16=>?_
       cases F13
      ·have f:=f.st 42 (cB B11)
       refine aR f N12 (bw _ (120:Int) X5) kr (λ_=>by kernel_rfl) λV4 W17 J4 N17=>M_p f λ_ f=>cr (nE (cr (cr ?_)))
       cases sI F14
       exact .inl ⟨((120:Int),X5),rfl,(sI T1).symm,V4,(J3.trans J4),f.kp,(N17.dropN 8)⟩
     ·have U8:=aq dI B8
      refine wp_exit (eH (eH ?_))
      cases sI F15
      exact .inr ⟨rfl,(),(sI T1).symm,V3,J3,f.kp,N7⟩
    ·rintro _ _ W20 (⟨G1,rfl,rfl,V5,J5,f,N18⟩|⟨rfl,G2,rfl,V6,J6,f,N19⟩)
     ·refine nE (ba f ?_)
      cases sI F7
      exact⟨V5,((J1.trans J2).trans J5),N18,rfl⟩
     ·refine kh (dn f rfl ?_)
      cases sI F7
      exact⟨_,rfl,V6,_,((J1.trans J2).trans J6),(N19.dropN 2),⟨Z1,P1,L1,Z2,P2,L2,Z3,P3,L3,Z4,P4,L4,rfl,rfl,(ag.mono ((J1.trans J2).trans J6) _ _ D1),(ag.mono ((J1.trans J2).trans J6) _ _ D2),(ag.mono ((J1.trans J2).trans J6) _ _ D3),(ag.mono ((J1.trans J2).trans J6) _ _ D4)⟩⟩
   ·have U9:=aq dI B7
    have f:=f.st 30 (cB B7)
    refine aR f N4 (bw _ (3:Int) X1.2.1) kr (λ_=>by kernel_rfl) λV7 W21 J7 N20=>cr (ba f ?_)
    cases sI F16
    exact⟨V7,(J1.trans J7),(N20.dropN 6),rfl⟩
  ·have U10:=aq dI B6
   have f:=f.st 23 (cB B6)
   refine aR f N3 (bw _ (120:Int) X1.2.1) kr (λ_=>by kernel_rfl) λV8 W22 J8 N21=>cr (ba f ?_)
   cases sI F17
   exact⟨V8,(J1.trans J8),(N21.dropN 6),rfl⟩
def ic (n:Nat) (d0:TD0) (d1:Bs) (d2:Bool):Option (Sum (Int×Bs) Bs):=
 bif !d2 then
  (some (.inr d0.aa))
 else
  (cU n d0).bind λX1=>
  bif X1 then
   (some (.inr d0.aa))
  else
   some (.inl ((120:Int),d1))
theorem eU (n:Nat) (M:Mem) (hG:GL M) (c0:Lv) (d0:TD0) (h0:Rep M (ar d0) c0) (d1:Bs) (d2:Bool) (r:Sum (Int×Bs) Bs) (hF:ic n d0 d1 d2=some r):OkX Tryz.prog M 99 [.agg c0.toArray,S d1,bO d2] 78 r (λr=>λ_ v=>v=S r):=by
 unfold ic at hF
 intro M1 hM0 w0 H w p0
 replace hG:=GL.mono hM0 hG
 replace h0:=Rep.mono hM0 _ _ h0
 obtain⟨Z1,P1,Z2,P2,rfl,B1,B2⟩:=TD0.opn h0
 refine Re 17 Tryz.func99 rfl λa0 f0=>RR (Y14 (cs:=(aTD0 d0 Z1 P1 Z2 P2)) (T:=26) f0 p0 λQ1 V1 W1 J1 R1 N1 _ f=>?_)
 have R2:=bj R1
 refine Ye f 1 λ_ f=>RR (Y f 3 λ_ f=>?_)
 rcases cE hF with⟨B3,F1⟩|⟨B3,F2⟩
 ·have U1: (d2)=false:=by simpa using B3
  have f:=f.st 9 (cB B3)
  refine Y f 4 λ_ f=>Y19 f N1 (bk _ (120:Int) d1) λW2 N2 _ f=>eT (RR (Y f 1 λ_ f=>Y16 f N2 R2 3 rfl λ_ f=>Ye f 1 λ_ f=>wp_ret (au f rfl (Lk 6 (S d0.aa)) ?_)))
  cases sI F1
  exact⟨_,rfl,V1,J1,N2,rfl⟩
 ·have U2: (d2)=true:=by simpa using B3
  have f:=f.st 9 (cB B3)
  refine Z f (Y32 (cs:=(lTD0 d0 Z1 P1 Z2 P2)) rfl (ad:=⟨Q1,0,none⟩) (λj v h=>N1.cell (R2 j v h))) λ_ f=>?_
  obtain⟨X1,l1,F3⟩:=bS F2
  refine Y19 f N1 (dx n _ (GL.mono J1 hG) _ d0 (TD0.shutx (x:=d0) (B1.mono J1) (B2.mono J1)) X1 l1) λW3 N3 _ f=>Y f 2 λ_ f=>?_
  rcases cE F3 with⟨B4,F4⟩|⟨B4,F5⟩
  ·have f:=f.st 12 (cB B4)
   refine Y19 f N3 (bk _ (120:Int) d1) λW4 N4 _ f=>eT (RR (Y f 1 λ_ f=>Y16 f N4 R2 3 rfl λ_ f=>Ye f 1 λ_ f=>wp_ret (au f rfl (Lk 6 (S d0.aa)) ?_)))
   cases sI F4
   exact⟨_,rfl,V1,J1,N4,rfl⟩
  ·have f:=f.st 12 (cB B4)
   refine aR f N3 (bw _ (120:Int) d1) kr (λ_=>by kernel_rfl) λV2 W5 J2 N5=>cr (ba f ?_)
   cases sI F5
   exact⟨V2,(J1.trans J2),N5,rfl⟩
def gt (n:Nat) (d0:TD0) (d1:Bs) (K1:List Bs×Int):Option (Lp (List Bs×Int) (Sum (Int×Bs) (List Bs))):=
    bif(decide (K1.2<((d0.ac.length:Nat):Int))) then
     ((aQ d0.ac K1.2).bind λX2=>
     (cU n X2).bind λX3=>
     (dG n d1 K1.2).bind λX4=>
     bif X3 then
      ((bV n K1.1 X2.aa).bind λX5=>
      (dG n d1 K1.2).bind λX6=>
      bif !X5 then
       (aS ((K1.1.length+1)*16≤140737488355328)<|
       aS (inR .i64 (K1.2+1))<|
       some (.nx (K1.1++[X2.aa],K1.2+1)))
      else
       some (.br (.inl ((41:Int),X6))))
     else
      some (.br (.inl ((120:Int),X4))))
    else
     some (.br (.inr K1.1))
def iA (n:Nat) (d0:TD0) (d1:Bs) (d2:Bool):Option (Sum (Int×Bs) (List Bs)):=
 bif !d2 then
  (some (.inr ([]:List Bs)))
 else
  (cU n d0).bind λX1=>
  bif X1 then
   (some (.inr ([d0.aa]:List Bs)))
  else
   bif(decide (d0.ab=4)) then
    (bif(decide (((d0.ac.length:Nat):Int)≤8)) then
     ((aE (gt n d0 d1) n (([]:List Bs),(0:Int))).bind λQ3=>
     (match Q3 with
     |.inl G1=>some (.inl G1)
     |.inr G2=>some (.inr G2)))
    else
     some (.inl ((3:Int),d1)))
   else
    some (.inl ((120:Int),d1))
set_option maxRecDepth 20000 in
theorem iP (n:Nat) (M:Mem) (hG:GL M) (c0:Lv) (d0:TD0) (h0:Rep M (ar d0) c0) (d1:Bs) (d2:Bool) (r:Sum (Int×Bs) (List Bs)) (hF:iA n d0 d1 d2=some r):OkX Tryz.prog M 100 [.agg c0.toArray,S d1,bO d2] 78 r (λr=>λM' v=>∃ (A0:Oa) (k0:Nat),v=sL A0 r k0∧Sli M' 1 Dat.str A0 k0 r):=by
 unfold iA at hF
 intro M1 hM0 w0 H w p0
 replace hG:=GL.mono hM0 hG
 replace h0:=Rep.mono hM0 _ _ h0
 obtain⟨Z1,P1,Z2,P2,rfl,B1,B2⟩:=TD0.opn h0
 refine Re 59 Tryz.func100 rfl λa0 f0=>RR (Y14 (cs:=(aTD0 d0 Z1 P1 Z2 P2)) (T:=26) f0 p0 λQ1 V1 W1 J1 R1 N1 _ f=>?_)
 have R2:=bj R1
 refine Ye f 1 λ_ f=>an (wp_block (RR (Ye f 3 λ_ f=>RcF f hF (λB3 F1=>?_) λB3 F2=>?_)))
 ·have U1: (d2)=false:=by simpa using B3
  refine RR (Ye f 1 λ_ f=>wp_ret (ed (bC (au f rfl (Lk 6 Sn) ?_))))
  cases sI F1
  exact⟨_,rfl,V1,J1,N1,⟨none,0,rfl,Sli.nil⟩⟩
 ·have U2: (d2)=true:=by simpa using B3
  refine RR (Z f (Y32 (cs:=(lTD0 d0 Z1 P1 Z2 P2)) rfl (ad:=⟨Q1,0,none⟩) (λj v h=>N1.cell (R2 j v h))) λ_ f=>?_)
  obtain⟨X1,l1,F3⟩:=bS F2
  refine Y19 f N1 (dx n _ (GL.mono J1 hG) _ d0 (TD0.shutx (x:=d0) (B1.mono J1) (B2.mono J1)) X1 l1) λW2 N2 _ f=>Ye f 1 λ_ f=>RcF f F3 (λB4 F4=>?_) λB4 F5=>?_
  ·refine RR (Y f 1 λ_ f=>Y16 f N2 R2 3 rfl λ_ f=>aP (k:=1) (c:=1) f N2 (.cells #[S d0.aa] 9 (0,0)) kr (λ_=>by kernel_rfl) λQ2 W3 N3 _ f=>Ye f 1 λ_ f=>wp_ret (ed (bC ?_)))
   have D1:ag V1 (([d0.aa]:List Bs).map Dat.str) [S d0.aa]:=⟨_,_,rfl,rfl,rfl⟩
   have N4:Hp w0 V1 ((Ent.row 9 1 (.slice (some ⟨Q2,0,none⟩) 1 1) ([d0.aa]:List Bs).length [S d0.aa])::H) W3:=N3.objRow (n:=1) (cap:=1) (size:=1) (by decide) (by decide) (dq (by decide) rfl) rfl rfl
   obtain⟨Z3,P3,V2,H1,J2,N5,B5⟩:=N4.rowSli (f:=Dat.str) (xs:=([d0.aa]:List Bs)) bX D1
   have f:=f.st 6 (H1)
   refine au f rfl (Lk 6 (sL Z3 ([d0.aa]:List Bs) P3)) ?_
   cases sI F4
   exact⟨_,rfl,V2,(J1.trans J2),N5,⟨Z3,P3,rfl,B5⟩⟩
  ·refine wp_skip (dZ (aK (RR (Y f 1 λ_ f=>Y16 f N2 R2 0 rfl λ_ f=>Y f 2 λ_ f=>?_))))
   rcases cE F5 with⟨B6,F6⟩|⟨B6,F23⟩
   ·have U5:=dI.1 B6
    have f:=f.st 20 (cB B6)
    refine Y19 f N2 (bk _ (120:Int) d1) λW4 N6 _ f=>eT (RR (Y f 1 λ_ f=>Y16 f N6 R2 4 rfl λ_ f=>Y f 3 λ_ f=>?_))
    rcases cE F6 with⟨B7,F7⟩|⟨B7,F22⟩
    ·have U6:=dI.1 B7
     have f:=f.st 26 (cB B7)
     refine Y19 f N6 (bk _ (3:Int) d1) λW5 N7 _ f=>eT (an (RR (Y f 1 λ_ f=>Y16 f N7 R2 4 rfl λ_ f=>Ye f 2 λ_ f=>wp_block ?_)))
     obtain⟨Z4,P4,H2,N8⟩:=N7.nilR 9 1 Bs
     have f:=f.st 6 (H2)
     have D2:ag V1 (([]:List Bs).map Dat.str) []:=rfl
     obtain⟨Q3,co,F8⟩:=bS F7
     refine wp_mono (Q:=λe a w=>(∃G1:Int×Bs,e=.panic (flawE 78 G1)∧Q3=.inl G1∧∃V8:Mem,V1.le V8∧Frm 59 [] a∧Hp w0 V8 (H) w)∨(e=.exit 1∧(∃G2:List Bs,Q3=.inr G2∧∃V9:Mem,V1.le V9∧∃ (Z10:Oa),∃ (P10:Nat),∃ (L3:Lv),ag V9 (G2.map Dat.str) L3∧Frm 59 [(6,sL Z10 G2 P10)] a∧Hp w0 V9 ((rO 9 1 Z10 G2 P10 L3)::H) w))) (bT (n:=59) (w0:=w0) (M:=V1) (λ (I1,K1,Z5,P5,L1)=>[(1,S d1),(6,sL Z5 K1.1 P5),(30,sL Z1 d0.ac P1),(31,iL ((d0.ac.length:Nat):Int)),(32,iL K1.2)]) (λ (I1,K1,Z5,P5,L1)=>((rO 9 1 Z5 K1.1 P5 L1)::H)) (λ (I1,K1,Z5,P5,L1) MM=>aE (gt n d0 d1) I1 K1=some Q3∧ag MM (K1.1.map Dat.str) L1) (λ (I1,K1,Z5,P5,L1)=>I1) (n,(([]:List Bs),(0:Int)),Z4,P4,[]) (f.kp) N8 ⟨co,D2⟩ ?_) ?_
     ·rintro⟨I1,K1,Z5,P5,L1⟩ V3 _ W6 J3 gM f N9
      obtain⟨cu,D3⟩:=gM
      obtain⟨I2,lO,rfl,bx,T1⟩:=aZ cu
      unfold gt at bx
      refine RR (Ye f 1 λ_ f=>an (RcF f bx (λB8 F9=>?_) λB8 F21=>?_))
      ·have U7:=dI.1 B8
       refine St (an (wp_block (RR (Y f 1 λ_ f=>?_))))
       obtain⟨X2,l2,F10⟩:=bS F9
       obtain⟨C1,cZ,jC,-,D4,R3⟩:=Sli.at_ (B1.mono (J1.trans J3)) l2
       obtain⟨Z6,P6,Z7,P7,rfl,B9,B10⟩:=TD0.opn D4
       refine Z f (Y30 jC rfl (len:=d0.ac.length) (cap:=P1) (k:=.i64) (i:=K1.2) (e:=26) (sz:=6) (ax l2) (aw l2)) λ_ f=>Z f (Y32 (cs:=(lTD0 X2 Z6 P6 Z7 P7)) rfl (ad:=C1.add (K1.2.toNat*6)) (λj v h=>N9.cell (R3 j v h))) λ_ f=>Y13 f N9 (.cells #[iB 0,bO false,iL 0,S [],Sn,Sn] 26 (0,0)) λQ4 W7 N10 _ f=>Y f 1 λ_ f=>Ys (lTD0 X2 Z6 P6 Z7 P7) (aTD0 X2 Z6 P6 Z7 P7) f N10 rfl rfl λW8 N11 _ f=>eT (RR (Z f (Y32 (cs:=(lTD0 X2 Z6 P6 Z7 P7)) rfl (ad:=⟨Q4,0,none⟩) (am (N11.ownCell 0 rfl) 0 rfl)) λ_ f=>?_))
       obtain⟨X3,l3,F11⟩:=bS F10
       refine Y19 f N11 (dx n _ (GL.mono (J1.trans J3) hG) _ X2 (TD0.shutx (x:=X2) B9 B10) X3 l3) λW9 N12 _ f=>Y f 2 λ_ f=>?_
       obtain⟨X4,l4,F12⟩:=bS F11
       refine Y19 f N12 (hP n _ (GL.mono (J1.trans J3) hG) d1 K1.2 X4 l4) λW10 N13 _ f=>?_
       rcases cE F12 with⟨B11,F13⟩|⟨B11,F20⟩
       ·have f:=f.st 38 (cB B11)
        refine Y19 f N13 (bk _ (120:Int) X4) λW11 N14 _ f=>eT (RR (Y f 2 λ_ f=>Z f (Y31 (v:=S X2.aa) rfl (ad:=⟨Q4,3,none⟩) (N14.ownCell 0 rfl 3)) λ_ f=>?_))
        have N15:=N14.pl [1]
        obtain⟨V4,Z8,P8,J4,H3,N16,B12,gE⟩:=N15.lend (f:=Dat.str) (xs:=K1.1) bX D3
        have f:=f.st 6 (H3)
        have f:=f.st 43 (H3)
        obtain⟨X5,l5,F14⟩:=bS F13
        refine Y19 f N16 (dk n _ Z8 P8 K1.1 B12 X2.aa X5 l5) λW12 N17 _ f=>?_
        obtain⟨V5,J5,N18⟩:=gE _ _ _ (mR _) N17
        have f:=f.st 6 (H3.symm)
        have f:=f.st 43 (H3.symm)
        refine Y f 3 λ_ f=>?_
        obtain⟨X6,l6,F15⟩:=bS F14
        refine Y19 f N18 (hP n _ (GL.mono ((J1.trans J3).trans J5) hG) d1 K1.2 X6 l6) λW13 N19 _ f=>?_
        rcases cE F15 with⟨B13,F16⟩|⟨B13,F19⟩
        ·have U9: (X5)=false:=by simpa using B13
         have f:=f.st 47 (cB B13)
         refine Y19 f N19 (bk _ (41:Int) X6) λW14 N20 _ f=>eT (aA (Y f 2 λ_ f=>Z f (Y31 (v:=S X2.aa) rfl (ad:=⟨Q4,3,none⟩) (N20.ownCell 1 rfl 3)) λ_ f=>aP (k:=1) (c:=1) f N20 (.cells #[S X2.aa] 9 (0,0)) kr (λ_=>by kernel_rfl) λQ5 W15 N21 _ f=>?_))
         have N22:=N21.pl [1]
         obtain⟨O1,F17⟩:=nS F16
         refine Y21 (z:=S []) (f:=Dat.str) (xs:=K1.1) (ys:=[X2.aa]) (news:=[S X2.aa]) (ad:=⟨Q5,0,none⟩) (m:=1) (c:=1) f N22 (ag.mono J5 _ _ D3) (by exact⟨_,_,rfl,rfl,rfl⟩) rfl rfl rfl rfl (am (N22.ownCell 1 rfl) 0 rfl) (by exact O1) (by have hg_:=O1;first|omega|(simp only[List.length_cons,List.length_nil] at*;omega)) λZ9 P9 L2 W16 N23 D5 _ f=>?_
         have N24:=N23.pl [1]
         have N25:=N24.drop
         refine Y f 1 λ_ f=>ap rfl (dZ (aK (aA ?_)))
         obtain⟨O2,F18⟩:=nS F17
         refine Y f 1 λ_ f=>?_
         have f:=f.st 57 (iW O2)
         refine Y f 1 λ_ f=>ap rfl ?_
         have N30:=N25.pl [1]
         refine aK ?_
         cases sI F18
         exact⟨⟨I2,(K1.1++[X2.aa],K1.2+1),Z9,P9,L2⟩,Nat.lt_succ_self _,V5,(J3.trans J5),⟨T1,D5⟩,f.kp,(N30.dropN 1)⟩
        ·have U10: (X5)=true:=by simpa using B13
         have f:=f.st 47 (cB B13)
         refine aR f N19 (bw _ (41:Int) X6) kr (λ_=>by kernel_rfl) λV6 W17 J6 N26=>cr (nE (cr (cr ?_)))
         cases sI F19
         exact .inl ⟨((41:Int),X6),rfl,(sI T1).symm,V6,((J3.trans J5).trans J6),f.kp,(N26.dropN 2)⟩
       ·have f:=f.st 38 (cB B11)
        refine aR f N13 (bw _ (120:Int) X4) kr (λ_=>by kernel_rfl) λV7 W18 J7 N27=>cr (nE (cr (cr ?_)))
        cases sI F20
        exact .inl ⟨((120:Int),X4),rfl,(sI T1).symm,V7,(J3.trans J7),f.kp,(N27.dropN 2)⟩
      ·have U12:=aq dI B8
       refine wp_exit (eH (eH ?_))
       cases sI F21
       exact .inr ⟨rfl,K1.1,(sI T1).symm,V3,J3,Z5,P5,L1,D3,f.kp,N9⟩
     ·rintro _ _ W21 (⟨G1,rfl,rfl,V8,J8,f,N28⟩|⟨rfl,G2,rfl,V9,J9,Z10,P10,L3,D6,f,N29⟩)
      ·refine nE (cr (ba f ?_))
       cases sI F8
       exact⟨V8,(J1.trans J8),N28,rfl⟩
      ·refine kh (aK (RR (Ye f 2 λ_ f=>wp_ret ?_)))
       obtain⟨Z11,P11,V10,H4,J10,N31,B14⟩:=N29.rowSli (f:=Dat.str) (xs:=G2) bX D6
       have f:=f.st 6 (H4)
       refine au f rfl (Lk 6 (sL Z11 G2 P11)) ?_
       cases sI F8
       exact⟨_,rfl,V10,((J1.trans J9).trans J10),N31,⟨Z11,P11,rfl,B14⟩⟩
    ·have U13:=aq dI B7
     have f:=f.st 26 (cB B7)
     refine aR f N6 (bw _ (3:Int) d1) kr (λ_=>by kernel_rfl) λV11 W22 J11 N32=>cr (ba f ?_)
     cases sI F22
     exact⟨V11,(J1.trans J11),N32,rfl⟩
   ·have U14:=aq dI B6
    have f:=f.st 20 (cB B6)
    refine aR f N2 (bw _ (120:Int) d1) kr (λ_=>by kernel_rfl) λV12 W23 J12 N33=>cr (ba f ?_)
    cases sI F23
    exact⟨V12,(J1.trans J12),N33,rfl⟩
def hT (n:Nat) (d1:Bs) (X1:List ay) (K1:List TG0×Int):Option (Lp (List TG0×Int) (Sum (Int×Bs) (List TG0))):=
    bif(decide (K1.2<((X1.length:Nat):Int))) then
     ((aQ X1 K1.2).bind λX2=>
     (aL n d1 X2.key).bind λX3=>
     (ce n X2.key).bind λX4=>
     bif X4 then
      ((iQ n (⟨X2.v.ab,(X2.v.ah),X2.v.af,X2.v.aa,X2.v.ac,X2.v.ae⟩:TD0) X3).bind λX5=>
      (match X5 with
      |.inl X6=>some (.br (.inl X6))
      |.inr X7=>aS ((K1.1.length+1)*104≤140737488355328)<|
       aS (inR .i64 (K1.2+1))<|
       some (.nx (K1.1++[(⟨X2.key,(⟨X7.ab,X7.aa,X7.af,X7.ak,X7.al,X7.fL⟩:TH0)⟩:TG0)],K1.2+1))))
     else
      some (.br (.inl ((120:Int),X3))))
    else
     some (.br (.inr K1.1))
def ie (n:Nat) (d0:TD0) (d1:Bs):Option (Sum (Int×Bs) (List TG0)):=
 bif(decide (d0.ab=5)) then
  ((cz n d0).bind λX1=>
  (aE (hT n d1 X1) n (([]:List TG0),(0:Int))).bind λQ2=>
  (match Q2 with
  |.inl G1=>some (.inl G1)
  |.inr G2=>some (.inr G2)))
 else
  some (.inl ((120:Int),d1))
set_option maxRecDepth 20000 in
theorem eV (n:Nat) (M:Mem) (hG:GL M) (c0:Lv) (d0:TD0) (h0:Rep M (ar d0) c0) (d1:Bs) (r:Sum (Int×Bs) (List TG0)) (hF:ie n d0 d1=some r):OkXH Tryz.prog M [] 101 [.agg c0.toArray,S d1] 78 r (λr=>λM' E' v=>∃ (A0:Oa) (k0:Nat) (s0:Lv),v=sL A0 r k0∧E'=[.row 70 7 (sL A0 r k0) r.length s0]∧ag M' (r.map df) s0):=by
 unfold ie at hF
 intro M1 hM0 w0 H w p0
 replace hG:=GL.mono hM0 hG
 replace h0:=Rep.mono hM0 _ _ h0
 obtain⟨Z1,P1,Z2,P2,rfl,B1,B2⟩:=TD0.opn h0
 refine Re 41 Tryz.func101 rfl λa0 f0=>RR (Y14 (cs:=(aTD0 d0 Z1 P1 Z2 P2)) (T:=26) f0 p0 λQ1 V1 W1 J1 R1 N1 _ f=>?_)
 have R2:=bj R1
 refine Ye f 1 λ_ f=>RR (Y f 1 λ_ f=>Y16 f N1 R2 0 rfl λ_ f=>Y f 2 λ_ f=>?_)
 rcases cE hF with⟨B3,F1⟩|⟨B3,F14⟩
 ·have U1:=dI.1 B3
  have f:=f.st 10 (cB B3)
  refine Y19 f N1 (bk _ (120:Int) d1) λW2 N2 _ f=>eT (an (RR (Z f (Y32 (cs:=(lTD0 d0 Z1 P1 Z2 P2)) rfl (ad:=⟨Q1,0,none⟩) (λj v h=>N2.cell (R2 j v h))) λ_ f=>?_)))
  obtain⟨X1,l1,F2⟩:=bS F1
  refine Y18 (E:=[]) (H:=(H)) f N2 (cJ n _ (GL.mono J1 hG) _ d0 (TD0.shutx (x:=d0) (B1.mono J1) (B2.mono J1)) X1 l1) λ_ V2 mo W3 J2 N3 ej _ f=>?_
  obtain⟨Z3,P3,L1,rfl,rfl,D1⟩:=ej
  refine Ye f 2 λ_ f=>wp_block ?_
  obtain⟨Z4,P4,H1,N4⟩:=N3.nilR 70 7 TG0
  have f:=f.st 4 (H1)
  have D2:ag V2 (([]:List TG0).map df) []:=rfl
  obtain⟨Q2,co,F3⟩:=bS F2
  refine wp_mono (Q:=λe a w=>(∃G1:Int×Bs,e=.panic (flawE 78 G1)∧Q2=.inl G1∧∃V7:Mem,V2.le V7∧Frm 41 [] a∧Hp w0 V7 (H) w)∨(e=.exit 0∧(∃G2:List TG0,Q2=.inr G2∧∃V8:Mem,V2.le V8∧∃ (Z10:Oa),∃ (P11:Nat),∃ (L4:Lv),ag V8 (G2.map df) L4∧Frm 41 [(4,sL Z10 G2 P11)] a∧Hp w0 V8 ((rO 70 7 Z10 G2 P11 L4)::(rO 99 7 Z3 X1 P3 L1)::H) w))) (bT (n:=41) (w0:=w0) (M:=V2) (λ (I1,K1,Z5,P5,L2)=>[(1,S d1),(4,sL Z5 K1.1 P5),(14,sL Z3 X1 P3),(15,iL ((X1.length:Nat):Int)),(16,iL K1.2)]) (λ (I1,K1,Z5,P5,L2)=>((rO 70 7 Z5 K1.1 P5 L2)::(rO 99 7 Z3 X1 P3 L1)::H)) (λ (I1,K1,Z5,P5,L2) MM=>aE (hT n d1 X1) I1 K1=some Q2∧ag MM (K1.1.map df) L2) (λ (I1,K1,Z5,P5,L2)=>I1) (n,(([]:List TG0),(0:Int)),Z4,P4,[]) (f.kp) N4 ⟨co,D2⟩ ?_) ?_
  ·rintro⟨I1,K1,Z5,P5,L2⟩ V3 _ W4 J3 gM f N5
   obtain⟨cu,D3⟩:=gM
   obtain⟨I2,lO,rfl,bx,T1⟩:=aZ cu
   unfold hT at bx
   refine RR (Ye f 1 λ_ f=>an (RcF f bx (λB4 F4=>?_) λB4 F13=>?_))
   ·have U2:=dI.1 B4
    refine St (an (wp_block (RR ?_)))
    obtain⟨X2,l2,F5⟩:=bS F4
    obtain⟨Q3,P6,H2,lI⟩:=N5.rowAddr 1 rfl (bJ l2)
    have f:=f.st 14 (H2)
    refine Z f (Y29 rfl (ad:=⟨Q3,0,none⟩) (len:=X1.length) (cap:=P6) (k:=.i64) (i:=K1.2) (e:=99) (sz:=7) (ax l2) (aw l2)) λ_ f=>?_
    have f:=f.st 14 (H2.symm)
    obtain⟨cZ,-,D4,R3⟩:=ag.get K1.2.toNat (eW cq) (ag.mono J3 _ _ D1) (ip l2)
    obtain⟨Z6,P7,Z7,P8,rfl,B5,B6⟩:=ay.opn D4
    refine Z f (Y32 (cs:=[S X2.key,iB X2.v.ab,bO X2.v.ah,iL X2.v.af,S X2.v.aa,sL Z6 X2.v.ac P7,sL Z7 X2.v.ae P8]) rfl (ad:=(⟨Q3,0,none⟩:Addr).add (K1.2.toNat*7)) (λj v h=>kP (N5.rowCell 1 rfl H2) R3 j v h)) λ_ f=>Y13 f N5 (.cells #[S [],iB 0,bO false,iL 0,S [],Sn,Sn] 99 (0,0)) λQ4 W5 N6 _ f=>Ys [S X2.key,iB X2.v.ab,bO X2.v.ah,iL X2.v.af,S X2.v.aa,sL Z6 X2.v.ac P7,sL Z7 X2.v.ae P8] #[S X2.key,iB X2.v.ab,bO X2.v.ah,iL X2.v.af,S X2.v.aa,sL Z6 X2.v.ac P7,sL Z7 X2.v.ae P8] f N6 rfl rfl λW6 N7 _ f=>eT (RR (Y f 2 λ_ f=>Z f (Y31 (v:=S X2.key) rfl (ad:=⟨Q4,0,none⟩) (N7.ownCell 0 rfl 0)) λ_ f=>?_))
    obtain⟨X3,l3,F6⟩:=bS F5
    refine Y19 f N7 (aJ n _ (GL.mono ((J1.trans J2).trans J3) hG) d1 X2.key X3 l3) λW7 N8 _ f=>Ye f 1 λ_ f=>RR (Y f 1 λ_ f=>Z f (Y31 (v:=S X2.key) rfl (ad:=⟨Q4,0,none⟩) (N8.ownCell 0 rfl 0)) λ_ f=>?_)
    obtain⟨X4,l4,F7⟩:=bS F6
    refine Y19 f N8 (bZ n _ X2.key X4 l4) λW8 N9 _ f=>Y f 1 λ_ f=>?_
    rcases cE F7 with⟨B7,F8⟩|⟨B7,F12⟩
    ·have f:=f.st 26 (cB B7)
     refine Y19 f N9 (bk _ (120:Int) X3) λW9 N10 _ f=>eT ?_
     have N13:=N10.pl [2,1,2]
     refine dp (E:=[rO 70 7 Z5 K1.1 P5 L2]) (Hr:=((oC Q4 #[S X2.key,iB X2.v.ab,bO X2.v.ah,iL X2.v.af,S X2.v.aa,sL Z6 X2.v.ac P7,sL Z7 X2.v.ae P8] 99)::(rO 99 7 Z3 X1 P3 L1)::H)) [(0,true),(1,true),(2,true),(3,true),(4,true),(5,true),(6,false),(7,true),(8,false),(9,false),(10,true)] N13 kr kr rfl kr (Y0 default f 2 λ_ f=>bz (v:=S X2.key) f kr kr rfl rfl (λ_ pq=>Y31 (v:=S X2.key) rfl (ad:=⟨Q4,0,none⟩) (pq.ownCell 0 rfl 0)) λ_ f=>Y0 default f 1 λ_ f=>bz (v:=.agg (aTD0 X2.v Z6 P7 Z7 P8)) f kr kr rfl rfl (λ_ pq=>Y32 (cs:=(lTD0 X2.v Z6 P7 Z7 P8)) rfl (ad:=⟨Q4,1,none⟩) (am (pq.ownCell 0 rfl) 1 rfl)) λ_ f=>Y0 default f 1 λ_ f=>bL (E:=[rO 70 7 Z5 K1.1 P5 L2]) λW10 N14=>?_)
     obtain⟨X5,l5,F9⟩:=bS F8
     rcases X5 with X6|X7
     ·refine aR f N14 (gv n _ (GL.mono ((J1.trans J2).trans J3) hG) _ (⟨X2.v.ab,(X2.v.ah),X2.v.af,X2.v.aa,X2.v.ac,X2.v.ae⟩:TD0) (TD0.shut B5 B6) X3 (.inl X6) l5) kr (λ_=>by kernel_rfl) λV4 W11 J4 N15=>M_p f λ_ f=>nE (cr (cr ?_))
      cases sI F9
      exact .inl ⟨X6,rfl,(sI T1).symm,V4,(J3.trans J4),f.kp,(N15.dropN 3)⟩
     ·refine Y17 f N14 (OkX.ok (gv n _ (GL.mono ((J1.trans J2).trans J3) hG) _ (⟨X2.v.ab,(X2.v.ah),X2.v.af,X2.v.aa,X2.v.ac,X2.v.ae⟩:TD0) (TD0.shut B5 B6) X3 (.inr X7) l5)) λ_ V5 W12 J5 N16 jk _ f=>?_
      obtain⟨gW,rfl,D5⟩:=jk
      obtain⟨Z8,P9,rfl,B8⟩:=TH0.opn D5
      refine ap rfl (dl (M1:=V5) (E:=[rO 70 7 Z5 K1.1 P5 L2]) J5 N16 (Y0 default f 1 λ_ f=>bL (E:=[rO 70 7 Z5 K1.1 P5 L2]) λW13 N17=>aP (k:=1) (c:=1) f N17 (.cells #[S X2.key,iB X7.ab,S X7.aa,iL X7.af,S X7.ak,S X7.al,sL Z8 X7.fL P9] 70 (0,0)) kr (λ_=>by kernel_rfl) λQ5 W14 N18 _ f=>ap rfl (dl (M1:=V5) (E:=[oC Q5 #[S X2.key,iB X7.ab,S X7.aa,iL X7.af,S X7.ak,S X7.al,sL Z8 X7.fL P9] 70,rO 70 7 Z5 K1.1 P5 L2]) J5 N18 (bL (E:=[oC Q5 #[S X2.key,iB X7.ab,S X7.aa,iL X7.af,S X7.ak,S X7.al,sL Z8 X7.fL P9] 70,rO 70 7 Z5 K1.1 P5 L2]) λW15 N19=>?_))))
      have N20:=N19.pl [1]
      obtain⟨O1,F10⟩:=nS F9
      refine Y21 (z:=.agg #[S [],iB 0,S [],iL 0,S [],S [],Sn]) (f:=df) (xs:=K1.1) (ys:=[(⟨X2.key,(⟨X7.ab,X7.aa,X7.af,X7.ak,X7.al,X7.fL⟩:TH0)⟩:TG0)]) (news:=[S X2.key,iB X7.ab,S X7.aa,iL X7.af,S X7.ak,S X7.al,sL Z8 X7.fL P9]) (ad:=⟨Q5,0,none⟩) (m:=1) (c:=1) f N20 (ag.mono J5 _ _ D3) (by exact⟨_,_,rfl,TG0.shut B8,rfl⟩) rfl rfl rfl rfl (am (N20.ownCell 1 rfl) 0 rfl) (by exact O1) (by have hg_:=O1;first|omega|(simp only[List.length_cons,List.length_nil] at*;omega)) λZ9 P10 L3 W16 N21 D6 _ f=>?_
      have N22:=N21.pl [1]
      have N23:=N22.drop
      refine ap rfl (dl (M1:=V5) (E:=[rO 70 7 Z9 (K1.1++[(⟨X2.key,(⟨X7.ab,X7.aa,X7.af,X7.ak,X7.al,X7.fL⟩:TH0)⟩:TG0)]) P10 L3]) J5 N23 (Y0 default f 1 λ_ f=>dL rfl λW17 N24=>dZ (aK (aA ?_))))
      obtain⟨O2,F11⟩:=nS F10
      refine Y f 1 λ_ f=>?_
      have f:=f.st 39 (iW O2)
      refine Y f 1 λ_ f=>ap rfl ?_
      have N30:=N24.pl [2,1,2]
      refine aK ?_
      cases sI F11
      exact⟨⟨I2,(K1.1++[(⟨X2.key,(⟨X7.ab,X7.aa,X7.af,X7.ak,X7.al,X7.fL⟩:TH0)⟩:TG0)],K1.2+1),Z9,P10,L3⟩,Nat.lt_succ_self _,V5,(J3.trans J5),⟨T1,D6⟩,f.kp,(N30.dropN 1)⟩
    ·have f:=f.st 26 (cB B7)
     refine aR f N9 (bw _ (120:Int) X3) kr (λ_=>by kernel_rfl) λV6 W18 J6 N25=>cr (nE (cr (cr ?_)))
     cases sI F12
     exact .inl ⟨((120:Int),X3),rfl,(sI T1).symm,V6,(J3.trans J6),f.kp,(N25.dropN 3)⟩
   ·have U5:=aq dI B4
    refine wp_exit (eH (eH ?_))
    cases sI F13
    exact .inr ⟨rfl,K1.1,(sI T1).symm,V3,J3,Z5,P5,L2,D3,f.kp,N5⟩
  ·rintro _ _ W21 (⟨G1,rfl,rfl,V7,J7,f,N26⟩|⟨rfl,G2,rfl,V8,J8,Z10,P11,L4,D7,f,N27⟩)
   ·refine nE (cr (ba f ?_))
    cases sI F3
    exact⟨V7,((J1.trans J2).trans J7),N26,rfl⟩
   ·refine kh (aK (RR (Ye f 2 λ_ f=>wp_ret (au f rfl (Lk 4 (sL Z10 G2 P11)) ?_))))
    cases sI F3
    have N31:=N27.pl [1]
    exact⟨_,rfl,V8,_,((J1.trans J2).trans J8),(N31.dropN 1),⟨Z10,P11,L4,rfl,rfl,D7⟩⟩
 ·have U6:=aq dI B3
  have f:=f.st 10 (cB B3)
  refine aR f N1 (bw _ (120:Int) d1) kr (λ_=>by kernel_rfl) λV9 W22 J9 N32=>cr (ba f ?_)
  cases sI F14
  exact⟨V9,(J1.trans J9),N32,rfl⟩
def gw (n:Nat) (rec_syntax_template:TD0→Bs→Int→Option (Sum (Int×Bs) TA0)) (d0:Bs) (d1:TD0) (d2:Bs) (d3:Int):Option (Sum (Int×Bs) TB0):=
 (eQ n d1 d2 ([[84,121,112,101],[67,111,110,100,105,116,105,111,110],[68,101,112,101,110,100,115,79,110],[68,101,108,101,116,105,111,110,80,111,108,105,99,121],[80,114,111,112,101,114,116,105,101,115]]:List Bs)).bind λX1=>
 (match X1 with
 |.inl X2=>some (.inl X2)
 |.inr X3=>(bl n [84,121,112,101] X3.1 X3.2).bind λX4=>
  bif X4.2.2 then
   ((ic n X4.1 X4.2.1 (true)).bind λX5=>
   (match X5 with
   |.inl X6=>some (.inl X6)
   |.inr X7=>(bl n [67,111,110,100,105,116,105,111,110] X3.1 X3.2).bind λX8=>
    (ic n X8.1 X8.2.1 (X8.2.2)).bind λX9=>
    (match X9 with
    |.inl X10=>some (.inl X10)
    |.inr X11=>(bl n [68,101,112,101,110,100,115,79,110] X3.1 X3.2).bind λX12=>
     (iA n X12.1 X12.2.1 (X12.2.2)).bind λX13=>
     (match X13 with
     |.inl X14=>some (.inl X14)
     |.inr X15=>(bl n [68,101,108,101,116,105,111,110,80,111,108,105,99,121] X3.1 X3.2).bind λX16=>
      ((bif !X16.2.2 then
       (some (.nx ()))
        else
         bif(decide (X16.1.ab=3)) then
          (bif(decide (X16.1.aa=[68,101,108,101,116,101])) then
           (some (.nx ()))
          else
           bif(decide (X16.1.aa=[82,101,116,97,105,110])) then
            (some (.nx ()))
           else
            ((some (.inl ((120:Int),X16.2.1)):Option (Sum (Int×Bs) TB0))).map Lp.br)
         else
          ((some (.inl ((120:Int),X16.2.1)):Option (Sum (Int×Bs) TB0))).map Lp.br:Option (Lp Unit (Sum (Int×Bs) TB0)))).bind λj=>joinF j λG1=>
      (bl n [80,114,111,112,101,114,116,105,101,115] X3.1 X3.2).bind λX17=>
      bif(!(decide (X7=[83,116,97,99,107]))) then
       (((bif X17.2.2 then
        ((ie n X17.1 X17.2.1).bind λX18=>
        (match X18 with
        |.inl X19=>((some (.inl X19):Option (Sum (Int×Bs) TB0))).map Lp.br
        |.inr X20=>some (.nx X20)))
         else
          some (.nx ([]:List TG0)):Option (Lp (List TG0) (Sum (Int×Bs) TB0)))).bind λj=>joinF j λG2=>
       some (.inr (⟨d0,X7,X11,G2,X15,(decide (X16.1.aa=[82,101,116,97,105,110])),([]:List TA0)⟩:TB0)))
      else
       bif X17.2.2 then
        ((eQ n X17.1 X17.2.1 ([[84,101,109,112,108,97,116,101],[80,97,114,97,109,101,116,101,114,115]]:List Bs)).bind λX21=>
        (match X21 with
        |.inl X22=>some (.inl X22)
        |.inr X23=>(bl n [84,101,109,112,108,97,116,101] X23.1 X23.2).bind λX24=>
         bif X24.2.2 then
          (bif(decide (d3<2)) then
           (aS (inR .i64 (d3+1))<|
           (rec_syntax_template X24.1 X24.2.1 (d3+1)).bind λX25=>
           (match X25 with
           |.inl X26=>some (.inl X26)
           |.inr X27=>(bl n [80,97,114,97,109,101,116,101,114,115] X23.1 X23.2).bind λX28=>
            bif X28.2.2 then
             ((ie n X28.1 X28.2.1).bind λX29=>
             (match X29 with
             |.inl X30=>some (.inl X30)
             |.inr X31=>some (.inr (⟨d0,X7,X11,X31,X15,(decide (X16.1.aa=[82,101,116,97,105,110])),[(⟨X27.aY,X27.bn,X27.dg,X27.bP⟩:TA0)]⟩:TB0))))
            else
             some (.inr (⟨d0,X7,X11,([]:List TG0),X15,(decide (X16.1.aa=[82,101,116,97,105,110])),[(⟨X27.aY,X27.bn,X27.dg,X27.bP⟩:TA0)]⟩:TB0))))
          else
           some (.inl ((170:Int),X24.2.1)))
         else
          some (.inl ((120:Int),X17.2.1))))
       else
        some (.inl ((120:Int),d2))))))
  else
   some (.inl ((120:Int),d2)))
set_option maxRecDepth 20000 in
theorem gT (n:Nat) (rec_syntax_template:TD0→Bs→Int→Option (Sum (Int×Bs) TA0)) (hrec_syntax_template: ∀ (M:Mem) (hG:GL M) (c0:Lv) (d0:TD0) (h0:Rep M (ar d0) c0) (d1:Bs) (d2:Int) (r:Sum (Int×Bs) TA0) (hF:rec_syntax_template d0 d1 d2=some r),OkX Tryz.prog M 23 [.agg c0.toArray,S d1,iL d2] 78 r (λr=>λM' v=>∃ (c0:Lv),v=.agg c0.toArray∧Rep M' (cc r) c0)) (M:Mem) (hG:GL M) (d0:Bs) (c1:Lv) (d1:TD0) (h1:Rep M (ar d1) c1) (d2:Bs) (d3:Int) (r:Sum (Int×Bs) TB0) (hF:gw n rec_syntax_template d0 d1 d2 d3=some r):OkX Tryz.prog M 54 [S d0,.agg c1.toArray,S d2,iL d3] 78 r (λr=>λM' v=>∃ (c0:Lv),v=.agg c0.toArray∧Rep M' (bH r) c0):=by
 unfold gw at hF
 intro M1 hM0 w0 H w p0
 replace hG:=GL.mono hM0 hG
 replace h1:=Rep.mono hM0 _ _ h1
 obtain⟨Z1,P1,Z2,P2,rfl,B1,B2⟩:=TD0.opn h1
 refine Re 138 Tryz.func54 rfl λa0 f0=>RR (Y14 (cs:=(aTD0 d1 Z1 P1 Z2 P2)) (T:=26) f0 p0 λQ1 V1 W1 J1 R1 N1 _ f=>?_)
 have R2:=bj R1
 refine Y13 f N1 (.cells #[S [],S [],S [],Sn,Sn,bO false,Sn] 66 (0,0)) λQ2 W2 N2 _ f=>eT (RR (Y f 2 λ_ f=>Y13 f N2 (.cells #[S [],S [],S [],Sn,Sn,bO false,Sn] 66 (0,0)) λQ3 W3 N3 _ f=>Ys [S d0,S [],S [],Sn,Sn,bO false,Sn] #[S d0,S [],S [],Sn,Sn,bO false,Sn] f N3 rfl rfl λW4 N4 _ f=>eT (RR (Z f (Y32 (cs:=(lTD0 d1 Z1 P1 Z2 P2)) rfl (ad:=⟨Q1,0,none⟩) (λj v h=>N4.cell (R2 j v h))) λ_ f=>Y f 1 λ_ f=>aP (k:=5) (c:=5) f N4 (.cells #[S [84,121,112,101],S [67,111,110,100,105,116,105,111,110],S [68,101,112,101,110,100,115,79,110],S [68,101,108,101,116,105,111,110,80,111,108,105,99,121],S [80,114,111,112,101,114,116,105,101,115]] 9 (0,0)) kr (λ_=>by kernel_rfl) λQ4 W5 N5 _ f=>?_))))
 have D1:ag V1 (([[84,121,112,101],[67,111,110,100,105,116,105,111,110],[68,101,112,101,110,100,115,79,110],[68,101,108,101,116,105,111,110,80,111,108,105,99,121],[80,114,111,112,101,114,116,105,101,115]]:List Bs).map Dat.str) [S [84,121,112,101],S [67,111,110,100,105,116,105,111,110],S [68,101,112,101,110,100,115,79,110],S [68,101,108,101,116,105,111,110,80,111,108,105,99,121],S [80,114,111,112,101,114,116,105,101,115]]:=⟨_,_,rfl,rfl,⟨_,_,rfl,rfl,⟨_,_,rfl,rfl,⟨_,_,rfl,rfl,⟨_,_,rfl,rfl,rfl⟩⟩⟩⟩⟩
 have N6:Hp w0 V1 ((Ent.row 9 1 (.slice (some ⟨Q4,0,none⟩) 5 5) ([[84,121,112,101],[67,111,110,100,105,116,105,111,110],[68,101,112,101,110,100,115,79,110],[68,101,108,101,116,105,111,110,80,111,108,105,99,121],[80,114,111,112,101,114,116,105,101,115]]:List Bs).length [S [84,121,112,101],S [67,111,110,100,105,116,105,111,110],S [68,101,112,101,110,100,115,79,110],S [68,101,108,101,116,105,111,110,80,111,108,105,99,121],S [80,114,111,112,101,114,116,105,101,115]])::(oC Q3 #[S d0,S [],S [],Sn,Sn,bO false,Sn] 66)::(oC Q2 #[S [],S [],S [],Sn,Sn,bO false,Sn] 66)::H) W5:=N5.objRow (n:=5) (cap:=5) (size:=1) (by decide) (by decide) (dq (by decide) rfl) rfl rfl
 obtain⟨Z3,P3,V2,H1,J2,N7,B3⟩:=N6.rowSli (f:=Dat.str) (xs:=([[84,121,112,101],[67,111,110,100,105,116,105,111,110],[68,101,112,101,110,100,115,79,110],[68,101,108,101,116,105,111,110,80,111,108,105,99,121],[80,114,111,112,101,114,116,105,101,115]]:List Bs)) bX D1
 have f:=f.st 26 (H1)
 obtain⟨X1,l1,F1⟩:=bS hF
 rcases X1 with X2|X3
 ·refine aR f N7 (cX n _ (GL.mono (J1.trans J2) hG) _ d1 (TD0.shutx (x:=d1) (B1.mono (J1.trans J2)) (B2.mono (J1.trans J2))) d2 Z3 P3 ([[84,121,112,101],[67,111,110,100,105,116,105,111,110],[68,101,112,101,110,100,115,79,110],[68,101,108,101,116,105,111,110,80,111,108,105,99,121],[80,114,111,112,101,114,116,105,101,115]]:List Bs) B3 (.inl X2) l1) kr (λ_=>by kernel_rfl) λV3 W6 J3 N8=>cr (ba f ?_)
  cases sI F1
  exact⟨V3,((J1.trans J2).trans J3),(N8.dropN 2),rfl⟩
 ·refine Y17 f N7 (OkX.ok (cX n _ (GL.mono (J1.trans J2) hG) _ d1 (TD0.shutx (x:=d1) (B1.mono (J1.trans J2)) (B2.mono (J1.trans J2))) d2 Z3 P3 ([[84,121,112,101],[67,111,110,100,105,116,105,111,110],[68,101,112,101,110,100,115,79,110],[68,101,108,101,116,105,111,110,80,111,108,105,99,121],[80,114,111,112,101,114,116,105,101,115]]:List Bs) B3 (.inr X3) l1)) λ_ V4 W7 J4 N9 ej _ f=>?_
  obtain⟨C1,cZ,C2,gW,rfl,D2,dC,D3,eZ⟩:=ej
  obtain⟨Z4,P4,Z5,P5,rfl,B4,B5⟩:=TD0.opn D2
  obtain rfl:gW=[S X3.2]:=D3
  refine Ye f 1 λ_ f=>RR (Y f 1 λ_ f=>?_)
  obtain⟨X4,l2,F2⟩:=bS F1
  refine Y17 f N9 (bi n _ (GL.mono ((J1.trans J2).trans J4) hG) [84,121,112,101] C1 (lTD0 X3.1 Z4 P4 Z5 P5) X3.1 (TD0.shutx (x:=X3.1) B4 B5) (bu (dC) 0 rfl) C2 [S X3.2] X3.2 (rfl) (bu (eZ) 0 rfl) X4 l2) λ_ V5 W8 J5 N10 jk _ f=>?_
  obtain⟨my,rfl,D4⟩:=jk
  obtain⟨Z6,P6,Z7,P7,rfl,B6,B7⟩:=TD0.opn D4
  refine Y f 4 λ_ f=>Y13 f N10 (.cells #[iB 0,bO false,iL 0,S [],Sn,Sn] 26 (0,0)) λQ5 W9 N11 _ f=>Ys (lTD0 X4.1 Z6 P6 Z7 P7) (aTD0 X4.1 Z6 P6 Z7 P7) f N11 rfl rfl λW10 N12 _ f=>Ye f 2 λ_ f=>RR (Y f 2 λ_ f=>?_)
  rcases cE F2 with⟨B8,F3⟩|⟨B8,F43⟩
  ·have f:=f.st 34 (cB B8)
   refine Y19 f N12 (bk _ (120:Int) d2) λW11 N13 _ f=>eT (RR (Z f (Y32 (cs:=(lTD0 X4.1 Z6 P6 Z7 P7)) rfl (ad:=⟨Q5,0,none⟩) (am (N13.ownCell 0 rfl) 0 rfl)) λ_ f=>Y f 1 λ_ f=>?_))
   obtain⟨X5,l3,F4⟩:=bS F3
   rcases X5 with X6|X7
   ·refine aR f N13 (eU n _ (GL.mono (((J1.trans J2).trans J4).trans J5) hG) _ X4.1 (TD0.shutx (x:=X4.1) B6 B7) X4.2.1 (true) (.inl X6) l3) kr (λ_=>by kernel_rfl) λV6 W12 J6 N14=>cr (ba f ?_)
    cases sI F4
    exact⟨V6,((((J1.trans J2).trans J4).trans J5).trans J6),(N14.dropN 3),rfl⟩
   ·refine Y17 f N13 (OkX.ok (eU n _ (GL.mono (((J1.trans J2).trans J4).trans J5) hG) _ X4.1 (TD0.shutx (x:=X4.1) B6 B7) X4.2.1 (true) (.inr X7) l3)) λ_ V7 W13 J7 N15 q_3 _ f=>?_
    obtain⟨rfl⟩:=q_3
    refine Y f 1 λ_ f=>Y26 f N15 1 rfl rfl (b:=Q3) (j:=1) (v:=S X7) rfl (by exact rfl) (by simp) (by simp) ((Ent.obj Q5 (.cells (aTD0 X4.1 Z6 P6 Z7 P7) 26 (0,0)))::(oC Q3 #[S d0,S X7,S [],Sn,Sn,bO false,Sn] 66)::(oC Q2 #[S [],S [],S [],Sn,Sn,bO false,Sn] 66)::H) rfl λW14 N16 _ f=>eT (RR (Y f 1 λ_ f=>?_))
    obtain⟨X8,l4,F5⟩:=bS F4
    refine Y17 f N16 (bi n _ (GL.mono ((((J1.trans J2).trans J4).trans J5).trans J7) hG) [67,111,110,100,105,116,105,111,110] C1 (lTD0 X3.1 Z4 P4 Z5 P5) X3.1 (TD0.shutx (x:=X3.1) (B4.mono (J5.trans J7)) (B5.mono (J5.trans J7))) (bu ((fzu (J5.trans J7) dC)) 0 rfl) C2 [S X3.2] X3.2 (rfl) (bu ((fzu (J5.trans J7) eZ)) 0 rfl) X8 l4) λ_ V8 W15 J8 N17 q_4 _ f=>?_
    obtain⟨c_4,rfl,D5⟩:=q_4
    obtain⟨Z8,P8,Z9,P9,rfl,B9,B10⟩:=TD0.opn D5
    refine Y f 3 λ_ f=>?_
    obtain⟨X9,l5,F6⟩:=bS F5
    rcases X9 with X10|X11
    ·refine aR f N17 (eU n _ (GL.mono (((((J1.trans J2).trans J4).trans J5).trans J7).trans J8) hG) _ X8.1 (TD0.shutx (x:=X8.1) B9 B10) X8.2.1 (X8.2.2) (.inl X10) l5) kr (λ_=>by kernel_rfl) λV9 W16 J9 N18=>cr (ba f ?_)
     cases sI F6
     exact⟨V9,((((((J1.trans J2).trans J4).trans J5).trans J7).trans J8).trans J9),(N18.dropN 3),rfl⟩
    ·refine Y17 f N17 (OkX.ok (eU n _ (GL.mono (((((J1.trans J2).trans J4).trans J5).trans J7).trans J8) hG) _ X8.1 (TD0.shutx (x:=X8.1) B9 B10) X8.2.1 (X8.2.2) (.inr X11) l5)) λ_ V10 W17 J10 N19 q_5 _ f=>?_
     obtain⟨rfl⟩:=q_5
     refine Y f 1 λ_ f=>Y26 f N19 1 rfl rfl (b:=Q3) (j:=2) (v:=S X11) rfl (by exact rfl) (by simp) (by simp) ((Ent.obj Q5 (.cells (aTD0 X4.1 Z6 P6 Z7 P7) 26 (0,0)))::(oC Q3 #[S d0,S X7,S X11,Sn,Sn,bO false,Sn] 66)::(oC Q2 #[S [],S [],S [],Sn,Sn,bO false,Sn] 66)::H) rfl λW18 N20 _ f=>eT (RR (Y f 1 λ_ f=>?_))
     obtain⟨X12,l6,F7⟩:=bS F6
     refine Y17 f N20 (bi n _ (GL.mono ((((((J1.trans J2).trans J4).trans J5).trans J7).trans J8).trans J10) hG) [68,101,112,101,110,100,115,79,110] C1 (lTD0 X3.1 Z4 P4 Z5 P5) X3.1 (TD0.shutx (x:=X3.1) (B4.mono (((J5.trans J7).trans J8).trans J10)) (B5.mono (((J5.trans J7).trans J8).trans J10))) (bu ((fzu (((J5.trans J7).trans J8).trans J10) dC)) 0 rfl) C2 [S X3.2] X3.2 (rfl) (bu ((fzu (((J5.trans J7).trans J8).trans J10) eZ)) 0 rfl) X12 l6) λ_ V11 W19 J11 N21 q_6 _ f=>?_
     obtain⟨c_5,rfl,D6⟩:=q_6
     obtain⟨Z10,P10,Z11,P11,rfl,B11,B12⟩:=TD0.opn D6
     refine Y f 3 λ_ f=>?_
     obtain⟨X13,l7,F8⟩:=bS F7
     rcases X13 with X14|X15
     ·refine aR f N21 (iP n _ (GL.mono (((((((J1.trans J2).trans J4).trans J5).trans J7).trans J8).trans J10).trans J11) hG) _ X12.1 (TD0.shutx (x:=X12.1) B11 B12) X12.2.1 (X12.2.2) (.inl X14) l7) kr (λ_=>by kernel_rfl) λV12 W20 J12 N22=>cr (ba f ?_)
      cases sI F8
      exact⟨V12,((((((((J1.trans J2).trans J4).trans J5).trans J7).trans J8).trans J10).trans J11).trans J12),(N22.dropN 3),rfl⟩
     ·refine Y17 f N21 (OkX.ok (iP n _ (GL.mono (((((((J1.trans J2).trans J4).trans J5).trans J7).trans J8).trans J10).trans J11) hG) _ X12.1 (TD0.shutx (x:=X12.1) B11 B12) X12.2.1 (X12.2.2) (.inr X15) l7)) λ_ V13 W21 J13 N23 q_7 _ f=>?_
      obtain⟨Z12,P12,rfl,B13⟩:=q_7
      refine Y f 1 λ_ f=>Y26 f N23 1 rfl rfl (b:=Q3) (j:=4) (v:=sL Z12 X15 P12) rfl (by exact rfl) (by simp) (by simp) ((Ent.obj Q5 (.cells (aTD0 X4.1 Z6 P6 Z7 P7) 26 (0,0)))::(oC Q3 #[S d0,S X7,S X11,Sn,sL Z12 X15 P12,bO false,Sn] 66)::(oC Q2 #[S [],S [],S [],Sn,Sn,bO false,Sn] 66)::H) rfl λW22 N24 _ f=>eT (RR (Y f 1 λ_ f=>?_))
      obtain⟨X16,l8,F9⟩:=bS F8
      refine Y17 f N24 (bi n _ (GL.mono ((((((((J1.trans J2).trans J4).trans J5).trans J7).trans J8).trans J10).trans J11).trans J13) hG) [68,101,108,101,116,105,111,110,80,111,108,105,99,121] C1 (lTD0 X3.1 Z4 P4 Z5 P5) X3.1 (TD0.shutx (x:=X3.1) (B4.mono (((((J5.trans J7).trans J8).trans J10).trans J11).trans J13)) (B5.mono (((((J5.trans J7).trans J8).trans J10).trans J11).trans J13))) (bu ((fzu (((((J5.trans J7).trans J8).trans J10).trans J11).trans J13) dC)) 0 rfl) C2 [S X3.2] X3.2 (rfl) (bu ((fzu (((((J5.trans J7).trans J8).trans J10).trans J11).trans J13) eZ)) 0 rfl) X16 l8) λ_ V14 W23 J14 N25 q_8 _ f=>?_
      obtain⟨c_6,rfl,D7⟩:=q_8
      obtain⟨Z13,P13,Z14,P14,rfl,B14,B15⟩:=TD0.opn D7
      refine Y f 4 λ_ f=>Y13 f N25 (.cells #[iB 0,bO false,iL 0,S [],Sn,Sn] 26 (0,0)) λQ6 W24 N26 _ f=>Ys (lTD0 X16.1 Z13 P13 Z14 P14) (aTD0 X16.1 Z13 P13 Z14 P14) f N26 rfl rfl λW25 N27 _ f=>Ye f 2 λ_ f=>an ?_
      obtain⟨gN,ec,F10⟩:=bS F9
      refine bD (λa_60 W31=>∃G1:Unit,gN=.nx G1∧∃V17:Mem,V14.le V17∧Frm 138 [(2,S d2),(3,iL d3),(8,pP Q2),(9,pP Q3),(10,.func (.func 93) #[] #[Pa C1,Pa C2]),(14,pP Q6)] a_60∧Hp w0 V17 ((Ent.obj Q6 (.cells (aTD0 X16.1 Z13 P13 Z14 P14) 26 (0,0)))::(Ent.obj Q5 (.cells (aTD0 X4.1 Z6 P6 Z7 P7) 26 (0,0)))::(oC Q3 #[S d0,S X7,S X11,Sn,sL Z12 X15 P12,bO false,Sn] 66)::(oC Q2 #[S [],S [],S [],Sn,Sn,bO false,Sn] 66)::H) W31) ?_ ?_
      ·refine aA (Y f 3 λ_ f=>?_)
       rcases cE ec with⟨B16,F11⟩|⟨B16,F12⟩
       ·have U2: (X16.2.2)=false:=by simpa using B16
        have f:=f.st 63 (cB B16)
        refine Y f 15 λ_ f=>Y19 f N27 (bk _ (120:Int) X16.2.1) λW26 N28 _ f=>eT ?_
        exact⟨(),(sI F11).symm,V14,(mR _),f.kp,N28⟩
       ·have U3: (X16.2.2)=true:=by simpa using B16
        have f:=f.st 63 (cB B16)
        refine Y f 1 λ_ f=>Z f (Y31 (v:=iB X16.1.ab) rfl (ad:=⟨Q6,0,none⟩) (N27.ownCell 0 rfl 0)) λ_ f=>Y f 2 λ_ f=>?_
        rcases cE F12 with⟨B17,F13⟩|⟨B17,F19⟩
        ·have U4:=dI.1 B17
         have f:=f.st 67 (cB B17)
         refine Y f 1 λ_ f=>Z f (Y31 (v:=S X16.1.aa) rfl (ad:=⟨Q6,3,none⟩) (N27.ownCell 0 rfl 3)) λ_ f=>Z f (Y36 rfl (l:=X16.1.aa) (m:=[68,101,108,101,116,101])) λ_ f=>Y f 1 λ_ f=>?_
         rcases cE F13 with⟨B18,F14⟩|⟨B18,F15⟩
         ·have U5:=dI.1 B18
          have f:=f.st 71 (cB B18)
          refine Y f 7 λ_ f=>Y19 f N27 (bk _ (120:Int) X16.2.1) λW27 N29 _ f=>eT ?_
          exact⟨(),(sI F14).symm,V14,(mR _),f.kp,N29⟩
         ·have U6:=aq dI B18
          have f:=f.st 71 (cB B18)
          refine Y f 1 λ_ f=>Z f (Y31 (v:=S X16.1.aa) rfl (ad:=⟨Q6,3,none⟩) (N27.ownCell 0 rfl 3)) λ_ f=>Z f (Y36 rfl (l:=X16.1.aa) (m:=[82,101,116,97,105,110])) λ_ f=>Y f 4 λ_ f=>?_
          rcases cE F15 with⟨B19,F16⟩|⟨B19,F17⟩
          ·have U7:=dI.1 B19
           have f:=f.st 77 (cB B19)
           refine Y19 f N27 (bk _ (120:Int) X16.2.1) λW28 N30 _ f=>eT ?_
           exact⟨(),(sI F16).symm,V14,(mR _),f.kp,N30⟩
          ·have U8:=aq dI B19
           have f:=f.st 77 (cB B19)
           refine aR f N27 (bw _ (120:Int) X16.2.1) kr (λ_=>by kernel_rfl) λV15 W29 J15 N31=>?_
           have F18:=bF F17 F10
           refine cr (cr (ba f ?_))
           cases sI F18
           exact⟨V15,((((((((((J1.trans J2).trans J4).trans J5).trans J7).trans J8).trans J10).trans J11).trans J13).trans J14).trans J15),(N31.dropN 4),rfl⟩
        ·have U9:=aq dI B17
         have f:=f.st 67 (cB B17)
         refine Y f 11 λ_ f=>aR f N27 (bw _ (120:Int) X16.2.1) kr (λ_=>by kernel_rfl) λV16 W30 J16 N32=>?_
         have F20:=bF F19 F10
         refine cr (cr (ba f ?_))
         cases sI F20
         exact⟨V16,((((((((((J1.trans J2).trans J4).trans J5).trans J7).trans J8).trans J10).trans J11).trans J13).trans J14).trans J16),(N32.dropN 4),rfl⟩
      ·rintro a_60 W31 ⟨G1,rfl,V17,J17,f,N33⟩
       refine aK (RR (Y f 1 λ_ f=>Z f (Y31 (v:=S X16.1.aa) rfl (ad:=⟨Q6,3,none⟩) (N33.ownCell 0 rfl 3)) λ_ f=>Z f (Y36 rfl (l:=X16.1.aa) (m:=[82,101,116,97,105,110])) λ_ f=>Y f 1 λ_ f=>Y26 f N33 2 rfl rfl (b:=Q3) (j:=5) (v:=bO (decide (X16.1.aa=[82,101,116,97,105,110]))) rfl (by exact rfl) (by simp) (by simp) ((Ent.obj Q6 (.cells (aTD0 X16.1 Z13 P13 Z14 P14) 26 (0,0)))::(Ent.obj Q5 (.cells (aTD0 X4.1 Z6 P6 Z7 P7) 26 (0,0)))::(oC Q3 #[S d0,S X7,S X11,Sn,sL Z12 X15 P12,bO (decide (X16.1.aa=[82,101,116,97,105,110])),Sn] 66)::(oC Q2 #[S [],S [],S [],Sn,Sn,bO false,Sn] 66)::H) rfl λW32 N34 _ f=>eT (RR (Y f 1 λ_ f=>?_))))
       obtain⟨X17,l9,F21⟩:=bS F10
       refine Y17 f N34 (bi n _ (GL.mono ((((((((((J1.trans J2).trans J4).trans J5).trans J7).trans J8).trans J10).trans J11).trans J13).trans J14).trans J17) hG) [80,114,111,112,101,114,116,105,101,115] C1 (lTD0 X3.1 Z4 P4 Z5 P5) X3.1 (TD0.shutx (x:=X3.1) (B4.mono (((((((J5.trans J7).trans J8).trans J10).trans J11).trans J13).trans J14).trans J17)) (B5.mono (((((((J5.trans J7).trans J8).trans J10).trans J11).trans J13).trans J14).trans J17))) (bu ((fzu (((((((J5.trans J7).trans J8).trans J10).trans J11).trans J13).trans J14).trans J17) dC)) 0 rfl) C2 [S X3.2] X3.2 (rfl) (bu ((fzu (((((((J5.trans J7).trans J8).trans J10).trans J11).trans J13).trans J14).trans J17) eZ)) 0 rfl) X17 l9) λ_ V18 W33 J18 N35 q_9 _ f=>?_
       obtain⟨c_7,rfl,D8⟩:=q_9
       obtain⟨Z15,P15,Z16,P16,rfl,B20,B21⟩:=TD0.opn D8
       refine Y f 4 λ_ f=>Y13 f N35 (.cells #[iB 0,bO false,iL 0,S [],Sn,Sn] 26 (0,0)) λQ7 W34 N36 _ f=>Ys (lTD0 X17.1 Z15 P15 Z16 P16) (aTD0 X17.1 Z15 P15 Z16 P16) f N36 rfl rfl λW35 N37 _ f=>Ye f 2 λ_ f=>an (RR (Y f 1 λ_ f=>Z f (Y31 (v:=S X7) rfl (ad:=⟨Q3,1,none⟩) (N37.ownCell 3 rfl 1)) λ_ f=>Z f (Y37 rfl (l:=X7) (m:=[83,116,97,99,107])) λ_ f=>eT (RcF f F21 (λB22 F22=>?_) λB22 F28=>?_)))
       ·have U10: ¬ (X7=[83,116,97,99,107]):=(aM dI).1 B22
        refine an (RR (Ye f 1 λ_ f=>?_))
        obtain⟨mi,ji,F23⟩:=bS F22
        refine bD (λa_81 W39=>∃G2:List TG0,mi=.nx G2∧∃V21:Mem,V18.le V21∧∃ (Z18:Oa),∃ (P18:Nat),∃ (L2:Lv),ag V21 (G2.map df) L2∧Frm 138 [(8,pP Q2),(9,pP Q3)] a_81∧Hp w0 V21 ((rO 70 7 Z18 G2 P18 L2)::(Ent.obj Q7 (.cells (aTD0 X17.1 Z15 P15 Z16 P16) 26 (0,0)))::(Ent.obj Q6 (.cells (aTD0 X16.1 Z13 P13 Z14 P14) 26 (0,0)))::(Ent.obj Q5 (.cells (aTD0 X4.1 Z6 P6 Z7 P7) 26 (0,0)))::(oC Q3 #[S d0,S X7,S X11,sL Z18 G2 P18,sL Z12 X15 P12,bO (decide (X16.1.aa=[82,101,116,97,105,110])),Sn] 66)::(oC Q2 #[S [],S [],S [],Sn,Sn,bO false,Sn] 66)::H) W39) ?_ ?_
        ·refine RcF f ji (λB23 F24=>?_) λB23 F27=>?_
         ·refine aA (Z f (Y32 (cs:=(lTD0 X17.1 Z15 P15 Z16 P16)) rfl (ad:=⟨Q7,0,none⟩) (am (N37.ownCell 0 rfl) 0 rfl)) λ_ f=>Y f 1 λ_ f=>?_)
          obtain⟨X18,l10,F25⟩:=bS F24
          rcases X18 with X19|X20
          ·refine gi (E:=[]) (H:=((Ent.obj Q7 (.cells (aTD0 X17.1 Z15 P15 Z16 P16) 26 (0,0)))::(Ent.obj Q6 (.cells (aTD0 X16.1 Z13 P13 Z14 P14) 26 (0,0)))::(Ent.obj Q5 (.cells (aTD0 X4.1 Z6 P6 Z7 P7) 26 (0,0)))::(oC Q3 #[S d0,S X7,S X11,Sn,sL Z12 X15 P12,bO (decide (X16.1.aa=[82,101,116,97,105,110])),Sn] 66)::(oC Q2 #[S [],S [],S [],Sn,Sn,bO false,Sn] 66)::H)) f N37 (eV n _ (GL.mono (((((((((((J1.trans J2).trans J4).trans J5).trans J7).trans J8).trans J10).trans J11).trans J13).trans J14).trans J17).trans J18) hG) _ X17.1 (TD0.shutx (x:=X17.1) B20 B21) X17.2.1 (.inl X19) l10) kr (λ_=>by kernel_rfl) λV19 W36 J19 N38=>?_
           have F26:=bF F25 F23
           refine cr (cr (cr (ba f ?_)))
           cases sI F26
           exact⟨V19,((((((((((((J1.trans J2).trans J4).trans J5).trans J7).trans J8).trans J10).trans J11).trans J13).trans J14).trans J17).trans J18).trans J19),(N38.dropN 5),rfl⟩
          ·refine Y18 (E:=[]) (H:=((Ent.obj Q7 (.cells (aTD0 X17.1 Z15 P15 Z16 P16) 26 (0,0)))::(Ent.obj Q6 (.cells (aTD0 X16.1 Z13 P13 Z14 P14) 26 (0,0)))::(Ent.obj Q5 (.cells (aTD0 X4.1 Z6 P6 Z7 P7) 26 (0,0)))::(oC Q3 #[S d0,S X7,S X11,Sn,sL Z12 X15 P12,bO (decide (X16.1.aa=[82,101,116,97,105,110])),Sn] 66)::(oC Q2 #[S [],S [],S [],Sn,Sn,bO false,Sn] 66)::H)) f N37 (OkXH.ok (eV n _ (GL.mono (((((((((((J1.trans J2).trans J4).trans J5).trans J7).trans J8).trans J10).trans J11).trans J13).trans J14).trans J17).trans J18) hG) _ X17.1 (TD0.shutx (x:=X17.1) B20 B21) X17.2.1 (.inr X20) l10)) λ_ V20 mo W37 J20 N39 q_10 _ f=>?_
           obtain⟨Z17,P17,L1,rfl,rfl,D9⟩:=q_10
           refine Y f 1 λ_ f=>Y26 f N39 4 rfl rfl (b:=Q3) (j:=3) (v:=sL Z17 X20 P17) rfl (by exact rfl) (by simp) (by simp) ((rO 70 7 Z17 X20 P17 L1)::(Ent.obj Q7 (.cells (aTD0 X17.1 Z15 P15 Z16 P16) 26 (0,0)))::(Ent.obj Q6 (.cells (aTD0 X16.1 Z13 P13 Z14 P14) 26 (0,0)))::(Ent.obj Q5 (.cells (aTD0 X4.1 Z6 P6 Z7 P7) 26 (0,0)))::(oC Q3 #[S d0,S X7,S X11,sL Z17 X20 P17,sL Z12 X15 P12,bO (decide (X16.1.aa=[82,101,116,97,105,110])),Sn] 66)::(oC Q2 #[S [],S [],S [],Sn,Sn,bO false,Sn] 66)::H) rfl λW38 N40 _ f=>eT ?_
           exact⟨X20,(sI F25).symm,V20,J20,Z17,P17,L1,D9,f.kp,N40⟩
         ·refine wp_skip ?_
          obtain⟨Z19,P19,H2⟩: ∃A cap,Value.slice none 0 0=.slice A ([]:List TG0).length cap:=⟨none,0,rfl⟩
          have N42:Hp w0 V18 ((Ent.row 70 7 (.slice Z19 ([]:List TG0).length P19) ([]:List TG0).length [])::(Ent.obj Q7 (.cells #[.int .i8 X17.1.ab,.bool X17.1.ah,.int .i64 X17.1.af,S X17.1.aa,.slice Z15 X17.1.ac.length P15,.slice Z16 X17.1.ae.length P16] 26 (0,0)))::(Ent.obj Q6 (.cells #[.int .i8 X16.1.ab,.bool X16.1.ah,.int .i64 X16.1.af,S X16.1.aa,.slice Z13 X16.1.ac.length P13,.slice Z14 X16.1.ae.length P14] 26 (0,0)))::(Ent.obj Q5 (.cells #[.int .i8 X4.1.ab,.bool X4.1.ah,.int .i64 X4.1.af,S X4.1.aa,.slice Z6 X4.1.ac.length P6,.slice Z7 X4.1.ae.length P7] 26 (0,0)))::(Ent.obj Q3 (.cells #[S d0,S X7,S X11,.slice Z19 ([]:List TG0).length P19,.slice Z12 X15.length P12,.bool (decide (X16.1.aa=[82,101,116,97,105,110])),.slice none 0 0] 66 (0,0)))::(Ent.obj Q2 (.cells #[S [],S [],S [],.slice none 0 0,.slice none 0 0,.bool false,.slice none 0 0] 66 (0,0)))::H) W35:=by rw[←H2];exact N37.nilRow 70 7
          have D11:ag V18 (([]:List TG0).map df) []:=rfl
          refine aK ?_
          exact⟨([]:List TG0),(sI F27).symm,V18,(mR _),Z19,P19,[],D11,f.kp,N42⟩
        ·rintro a_81 W39 ⟨G2,rfl,V21,J21,Z18,P18,L2,D10,f,N41⟩
         refine aK (RR (Z f (Y32 (cs:=[S d0,S X7,S X11,sL Z18 G2 P18,sL Z12 X15 P12,bO (decide (X16.1.aa=[82,101,116,97,105,110])),Sn]) rfl (ad:=⟨Q3,0,none⟩) (am (N41.ownCell 4 rfl) 0 rfl)) λ_ f=>?_))
         obtain⟨Z20,P20,V22,H3,J22,N43,B24⟩:=N41.rowSli (f:=df) (xs:=G2) szd_TG0 D10
         have f:=Frm.set f 98 (v:=.agg #[S d0,S X7,S X11,.slice Z18 G2.length P18,.slice Z12 X15.length P12,.bool (decide (X16.1.aa=[82,101,116,97,105,110])),.slice none 0 0]) (v':=.agg #[S d0,S X7,S X11,.slice Z20 G2.length P20,.slice Z12 X15.length P12,.bool (decide (X16.1.aa=[82,101,116,97,105,110])),.slice none 0 0]) (by kernel_rfl) (by rw[H3])
         have N44:Hp w0 V22 ((Ent.obj Q7 (.cells (aTD0 X17.1 Z15 P15 Z16 P16) 26 (0,0)))::(Ent.obj Q6 (.cells (aTD0 X16.1 Z13 P13 Z14 P14) 26 (0,0)))::(Ent.obj Q5 (.cells (aTD0 X4.1 Z6 P6 Z7 P7) 26 (0,0)))::(oC Q3 #[S d0,S X7,S X11,sL Z20 G2 P20,sL Z12 X15 P12,bO (decide (X16.1.aa=[82,101,116,97,105,110])),Sn] 66)::(oC Q2 #[S [],S [],S [],Sn,Sn,bO false,Sn] 66)::H) W39:=by unfold sL at N43;rw[H3] at N43;exact N43
         have N45:=N44.pl [4]
         refine Ys [S d0,S X7,S X11,sL Z20 G2 P20,sL Z12 X15 P12,bO (decide (X16.1.aa=[82,101,116,97,105,110])),Sn] #[S d0,S X7,S X11,sL Z20 G2 P20,sL Z12 X15 P12,bO (decide (X16.1.aa=[82,101,116,97,105,110])),Sn] f N45 rfl rfl λW40 N46 _ f=>Er (bC (cD f rfl (Y11 (cs:=[S d0,S X7,S X11,sL Z20 G2 P20,sL Z12 X15 P12,bO (decide (X16.1.aa=[82,101,116,97,105,110])),Sn]) (ad:=⟨Q2,0,none⟩) f (am (N46.ownCell 0 rfl) 0 rfl)) ?_))
         cases sI F23
         exact⟨_,rfl,V22,(((((((((((((J1.trans J2).trans J4).trans J5).trans J7).trans J8).trans J10).trans J11).trans J13).trans J14).trans J17).trans J18).trans J21).trans J22),(N46.dropN 5),⟨[S d0,S X7,S X11,sL Z20 G2 P20,sL Z12 X15 P12,bO (decide (X16.1.aa=[82,101,116,97,105,110])),Sn],rfl,(TB0.shut B24 (B13.mono ((((J14.trans J17).trans J18).trans J21).trans J22)) Sli.nil)⟩⟩
       ·have U13: ¬ (¬ (X7=[83,116,97,99,107])):=aq (aM dI) B22
        refine St (RR (Y f 2 λ_ f=>?_))
        rcases cE F28 with⟨B25,F29⟩|⟨B25,F42⟩
        ·have f:=f.st 99 (cB B25)
         refine Y19 f N37 (bk _ (120:Int) d2) λW41 N47 _ f=>eT (RR (Z f (Y32 (cs:=(lTD0 X17.1 Z15 P15 Z16 P16)) rfl (ad:=⟨Q7,0,none⟩) (am (N47.ownCell 0 rfl) 0 rfl)) λ_ f=>Y f 1 λ_ f=>aP (k:=2) (c:=2) f N47 (.cells #[S [84,101,109,112,108,97,116,101],S [80,97,114,97,109,101,116,101,114,115]] 9 (0,0)) kr (λ_=>by kernel_rfl) λQ8 W42 N48 _ f=>?_))
         have D12:ag V18 (([[84,101,109,112,108,97,116,101],[80,97,114,97,109,101,116,101,114,115]]:List Bs).map Dat.str) [S [84,101,109,112,108,97,116,101],S [80,97,114,97,109,101,116,101,114,115]]:=⟨_,_,rfl,rfl,⟨_,_,rfl,rfl,rfl⟩⟩
         have N49:Hp w0 V18 ((Ent.row 9 1 (.slice (some ⟨Q8,0,none⟩) 2 2) ([[84,101,109,112,108,97,116,101],[80,97,114,97,109,101,116,101,114,115]]:List Bs).length [S [84,101,109,112,108,97,116,101],S [80,97,114,97,109,101,116,101,114,115]])::(Ent.obj Q7 (.cells (aTD0 X17.1 Z15 P15 Z16 P16) 26 (0,0)))::(Ent.obj Q6 (.cells (aTD0 X16.1 Z13 P13 Z14 P14) 26 (0,0)))::(Ent.obj Q5 (.cells (aTD0 X4.1 Z6 P6 Z7 P7) 26 (0,0)))::(oC Q3 #[S d0,S X7,S X11,Sn,sL Z12 X15 P12,bO (decide (X16.1.aa=[82,101,116,97,105,110])),Sn] 66)::(oC Q2 #[S [],S [],S [],Sn,Sn,bO false,Sn] 66)::H) W42:=N48.objRow (n:=2) (cap:=2) (size:=1) (by decide) (by decide) (dq (by decide) rfl) rfl rfl
         obtain⟨Z21,P21,V23,H4,J23,N50,B26⟩:=N49.rowSli (f:=Dat.str) (xs:=([[84,101,109,112,108,97,116,101],[80,97,114,97,109,101,116,101,114,115]]:List Bs)) bX D12
         have f:=f.st 104 (H4)
         obtain⟨X21,l11,F30⟩:=bS F29
         rcases X21 with X22|X23
         ·refine aR f N50 (cX n _ (GL.mono ((((((((((((J1.trans J2).trans J4).trans J5).trans J7).trans J8).trans J10).trans J11).trans J13).trans J14).trans J17).trans J18).trans J23) hG) _ X17.1 (TD0.shutx (x:=X17.1) (B20.mono J23) (B21.mono J23)) X17.2.1 Z21 P21 ([[84,101,109,112,108,97,116,101],[80,97,114,97,109,101,116,101,114,115]]:List Bs) B26 (.inl X22) l11) kr (λ_=>by kernel_rfl) λV24 W43 J24 N51=>cr (ba f ?_)
          cases sI F30
          exact⟨V24,(((((((((((((J1.trans J2).trans J4).trans J5).trans J7).trans J8).trans J10).trans J11).trans J13).trans J14).trans J17).trans J18).trans J23).trans J24),(N51.dropN 5),rfl⟩
         ·refine Y17 f N50 (OkX.ok (cX n _ (GL.mono ((((((((((((J1.trans J2).trans J4).trans J5).trans J7).trans J8).trans J10).trans J11).trans J13).trans J14).trans J17).trans J18).trans J23) hG) _ X17.1 (TD0.shutx (x:=X17.1) (B20.mono J23) (B21.mono J23)) X17.2.1 Z21 P21 ([[84,101,109,112,108,97,116,101],[80,97,114,97,109,101,116,101,114,115]]:List Bs) B26 (.inr X23) l11)) λ_ V25 W44 J25 N52 q_11 _ f=>?_
          obtain⟨C3,c_8,C4,c_9,rfl,D13,nJ,D14,hq_6⟩:=q_11
          obtain⟨Z22,P22,Z23,P23,rfl,B27,B28⟩:=TD0.opn D13
          obtain rfl:c_9=[S X23.2]:=D14
          refine Ye f 1 λ_ f=>RR (Y f 1 λ_ f=>?_)
          obtain⟨X24,l12,F31⟩:=bS F30
          refine Y17 f N52 (bi n _ (GL.mono (((((((((((((J1.trans J2).trans J4).trans J5).trans J7).trans J8).trans J10).trans J11).trans J13).trans J14).trans J17).trans J18).trans J23).trans J25) hG) [84,101,109,112,108,97,116,101] C3 (lTD0 X23.1 Z22 P22 Z23 P23) X23.1 (TD0.shutx (x:=X23.1) B27 B28) (bu (nJ) 0 rfl) C4 [S X23.2] X23.2 (rfl) (bu (hq_6) 0 rfl) X24 l12) λ_ V26 W45 J26 N53 q_12 _ f=>?_
          obtain⟨c_10,rfl,D15⟩:=q_12
          obtain⟨Z24,P24,Z25,P25,rfl,B29,B30⟩:=TD0.opn D15
          refine Y f 4 λ_ f=>Y13 f N53 (.cells #[iB 0,bO false,iL 0,S [],Sn,Sn] 26 (0,0)) λQ9 W46 N54 _ f=>Ys (lTD0 X24.1 Z24 P24 Z25 P25) (aTD0 X24.1 Z24 P24 Z25 P25) f N54 rfl rfl λW47 N55 _ f=>Ye f 2 λ_ f=>RR (Y f 2 λ_ f=>?_)
          rcases cE F31 with⟨B31,F32⟩|⟨B31,F41⟩
          ·have f:=f.st 112 (cB B31)
           refine Y19 f N55 (bk _ (120:Int) X17.2.1) λW48 N56 _ f=>eT (RR (Y f 3 λ_ f=>?_))
           rcases cE F32 with⟨B32,F33⟩|⟨B32,F40⟩
           ·have U16:=dI.1 B32
            have f:=f.st 116 (cB B32)
            refine Y19 f N56 (bk _ (170:Int) X24.2.1) λW49 N57 _ f=>eT (RR (Z f (Y32 (cs:=(lTD0 X24.1 Z24 P24 Z25 P25)) rfl (ad:=⟨Q9,0,none⟩) (am (N57.ownCell 0 rfl) 0 rfl)) λ_ f=>Y f 2 λ_ f=>?_))
            obtain⟨O1,F34⟩:=nS F33
            refine Y f 1 λ_ f=>?_
            have f:=f.st 122 (iW O1)
            obtain⟨X25,l13,F35⟩:=bS F34
            rcases X25 with X26|X27
            ·refine aR f N57 (hrec_syntax_template _ (GL.mono ((((((((((((((J1.trans J2).trans J4).trans J5).trans J7).trans J8).trans J10).trans J11).trans J13).trans J14).trans J17).trans J18).trans J23).trans J25).trans J26) hG) _ X24.1 (TD0.shutx (x:=X24.1) B29 B30) X24.2.1 (d3+1) (.inl X26) l13) kr (λ_=>by kernel_rfl) λV27 W50 J27 N58=>cr (ba f ?_)
             cases sI F35
             exact⟨V27,(((((((((((((((J1.trans J2).trans J4).trans J5).trans J7).trans J8).trans J10).trans J11).trans J13).trans J14).trans J17).trans J18).trans J23).trans J25).trans J26).trans J27),(N58.dropN 6),rfl⟩
            ·refine Y17 f N57 (OkX.ok (hrec_syntax_template _ (GL.mono ((((((((((((((J1.trans J2).trans J4).trans J5).trans J7).trans J8).trans J10).trans J11).trans J13).trans J14).trans J17).trans J18).trans J23).trans J25).trans J26) hG) _ X24.1 (TD0.shutx (x:=X24.1) B29 B30) X24.2.1 (d3+1) (.inr X27) l13)) λ_ V28 W51 J28 N59 q_13 _ f=>?_
             obtain⟨c_11,rfl,D16⟩:=q_13
             obtain⟨Z26,P26,Z27,P27,Z28,P28,Z29,P29,rfl,B33,B34,B35,B36⟩:=TA0.opn D16
             refine aP (k:=1) (c:=1) f N59 (.cells (aTA0 X27 Z26 P26 Z27 P27 Z28 P28 Z29 P29) 41 (0,0)) kr (λ_=>by kernel_rfl) λQ10 W52 N60 _ f=>Y f 1 λ_ f=>Y26 f N60 5 rfl rfl (b:=Q3) (j:=6) (v:=.slice (some ⟨Q10,0,none⟩) 1 1) rfl (by exact rfl) (by simp) (by simp) ((Ent.obj Q10 (.cells (aTA0 X27 Z26 P26 Z27 P27 Z28 P28 Z29 P29) 41 (0,0)))::(Ent.obj Q9 (.cells (aTD0 X24.1 Z24 P24 Z25 P25) 26 (0,0)))::(Ent.obj Q7 (.cells (aTD0 X17.1 Z15 P15 Z16 P16) 26 (0,0)))::(Ent.obj Q6 (.cells (aTD0 X16.1 Z13 P13 Z14 P14) 26 (0,0)))::(Ent.obj Q5 (.cells (aTD0 X4.1 Z6 P6 Z7 P7) 26 (0,0)))::(oC Q3 #[S d0,S X7,S X11,Sn,sL Z12 X15 P12,bO (decide (X16.1.aa=[82,101,116,97,105,110])),.slice (some ⟨Q10,0,none⟩) 1 1] 66)::(oC Q2 #[S [],S [],S [],Sn,Sn,bO false,Sn] 66)::H) rfl λW53 N61 _ f=>eT (an (RR (Y f 1 λ_ f=>?_)))
             obtain⟨X28,l14,F36⟩:=bS F35
             refine Y17 f N61 (bi n _ (GL.mono (((((((((((((((J1.trans J2).trans J4).trans J5).trans J7).trans J8).trans J10).trans J11).trans J13).trans J14).trans J17).trans J18).trans J23).trans J25).trans J26).trans J28) hG) [80,97,114,97,109,101,116,101,114,115] C3 (lTD0 X23.1 Z22 P22 Z23 P23) X23.1 (TD0.shutx (x:=X23.1) (B27.mono (J26.trans J28)) (B28.mono (J26.trans J28))) (bu ((fzu (J26.trans J28) nJ)) 0 rfl) C4 [S X23.2] X23.2 (rfl) (bu ((fzu (J26.trans J28) hq_6)) 0 rfl) X28 l14) λ_ V29 W54 J29 N62 q_14 _ f=>?_
             obtain⟨c_12,rfl,D17⟩:=q_14
             obtain⟨Z30,P30,Z31,P31,rfl,B37,B38⟩:=TD0.opn D17
             refine Y f 4 λ_ f=>Y13 f N62 (.cells #[iB 0,bO false,iL 0,S [],Sn,Sn] 26 (0,0)) λQ11 W55 N63 _ f=>Ys (lTD0 X28.1 Z30 P30 Z31 P31) (aTD0 X28.1 Z30 P30 Z31 P31) f N63 rfl rfl λW56 N64 _ f=>Ye f 2 λ_ f=>RR (Ye f 1 λ_ f=>RcF f F36 (λB39 F37=>?_) λB39 F39=>?_)
             ·refine aA (Z f (Y32 (cs:=(lTD0 X28.1 Z30 P30 Z31 P31)) rfl (ad:=⟨Q11,0,none⟩) (am (N64.ownCell 0 rfl) 0 rfl)) λ_ f=>Y f 1 λ_ f=>?_)
              obtain⟨X29,l15,F38⟩:=bS F37
              rcases X29 with X30|X31
              ·refine gi (E:=[]) (H:=((Ent.obj Q11 (.cells (aTD0 X28.1 Z30 P30 Z31 P31) 26 (0,0)))::(Ent.obj Q10 (.cells (aTA0 X27 Z26 P26 Z27 P27 Z28 P28 Z29 P29) 41 (0,0)))::(Ent.obj Q9 (.cells (aTD0 X24.1 Z24 P24 Z25 P25) 26 (0,0)))::(Ent.obj Q7 (.cells (aTD0 X17.1 Z15 P15 Z16 P16) 26 (0,0)))::(Ent.obj Q6 (.cells (aTD0 X16.1 Z13 P13 Z14 P14) 26 (0,0)))::(Ent.obj Q5 (.cells (aTD0 X4.1 Z6 P6 Z7 P7) 26 (0,0)))::(oC Q3 #[S d0,S X7,S X11,Sn,sL Z12 X15 P12,bO (decide (X16.1.aa=[82,101,116,97,105,110])),.slice (some ⟨Q10,0,none⟩) 1 1] 66)::(oC Q2 #[S [],S [],S [],Sn,Sn,bO false,Sn] 66)::H)) f N64 (eV n _ (GL.mono ((((((((((((((((J1.trans J2).trans J4).trans J5).trans J7).trans J8).trans J10).trans J11).trans J13).trans J14).trans J17).trans J18).trans J23).trans J25).trans J26).trans J28).trans J29) hG) _ X28.1 (TD0.shutx (x:=X28.1) B37 B38) X28.2.1 (.inl X30) l15) kr (λ_=>by kernel_rfl) λV30 W57 J30 N65=>cr (ba f ?_)
               cases sI F38
               exact⟨V30,(((((((((((((((((J1.trans J2).trans J4).trans J5).trans J7).trans J8).trans J10).trans J11).trans J13).trans J14).trans J17).trans J18).trans J23).trans J25).trans J26).trans J28).trans J29).trans J30),(N65.dropN 8),rfl⟩
              ·refine Y18 (E:=[]) (H:=((Ent.obj Q11 (.cells (aTD0 X28.1 Z30 P30 Z31 P31) 26 (0,0)))::(Ent.obj Q10 (.cells (aTA0 X27 Z26 P26 Z27 P27 Z28 P28 Z29 P29) 41 (0,0)))::(Ent.obj Q9 (.cells (aTD0 X24.1 Z24 P24 Z25 P25) 26 (0,0)))::(Ent.obj Q7 (.cells (aTD0 X17.1 Z15 P15 Z16 P16) 26 (0,0)))::(Ent.obj Q6 (.cells (aTD0 X16.1 Z13 P13 Z14 P14) 26 (0,0)))::(Ent.obj Q5 (.cells (aTD0 X4.1 Z6 P6 Z7 P7) 26 (0,0)))::(oC Q3 #[S d0,S X7,S X11,Sn,sL Z12 X15 P12,bO (decide (X16.1.aa=[82,101,116,97,105,110])),.slice (some ⟨Q10,0,none⟩) 1 1] 66)::(oC Q2 #[S [],S [],S [],Sn,Sn,bO false,Sn] 66)::H)) f N64 (OkXH.ok (eV n _ (GL.mono ((((((((((((((((J1.trans J2).trans J4).trans J5).trans J7).trans J8).trans J10).trans J11).trans J13).trans J14).trans J17).trans J18).trans J23).trans J25).trans J26).trans J28).trans J29) hG) _ X28.1 (TD0.shutx (x:=X28.1) B37 B38) X28.2.1 (.inr X31) l15)) λ_ V31 E_2 W58 J31 N66 q_15 _ f=>?_
               obtain⟨Z32,P32,L3,rfl,rfl,D18⟩:=q_15
               refine Y f 1 λ_ f=>Y26 f N66 7 rfl rfl (b:=Q3) (j:=3) (v:=sL Z32 X31 P32) rfl (by exact rfl) (by simp) (by simp) ((rO 70 7 Z32 X31 P32 L3)::(Ent.obj Q11 (.cells (aTD0 X28.1 Z30 P30 Z31 P31) 26 (0,0)))::(Ent.obj Q10 (.cells (aTA0 X27 Z26 P26 Z27 P27 Z28 P28 Z29 P29) 41 (0,0)))::(Ent.obj Q9 (.cells (aTD0 X24.1 Z24 P24 Z25 P25) 26 (0,0)))::(Ent.obj Q7 (.cells (aTD0 X17.1 Z15 P15 Z16 P16) 26 (0,0)))::(Ent.obj Q6 (.cells (aTD0 X16.1 Z13 P13 Z14 P14) 26 (0,0)))::(Ent.obj Q5 (.cells (aTD0 X4.1 Z6 P6 Z7 P7) 26 (0,0)))::(oC Q3 #[S d0,S X7,S X11,sL Z32 X31 P32,sL Z12 X15 P12,bO (decide (X16.1.aa=[82,101,116,97,105,110])),.slice (some ⟨Q10,0,none⟩) 1 1] 66)::(oC Q2 #[S [],S [],S [],Sn,Sn,bO false,Sn] 66)::H) rfl λW59 N67 _ f=>eT (RR (Z f (Y32 (cs:=[S d0,S X7,S X11,sL Z32 X31 P32,sL Z12 X15 P12,bO (decide (X16.1.aa=[82,101,116,97,105,110])),.slice (some ⟨Q10,0,none⟩) 1 1]) rfl (ad:=⟨Q3,0,none⟩) (am (N67.ownCell 7 rfl) 0 rfl)) λ_ f=>?_))
               obtain⟨Z33,P33,V32,H5,J32,N68,B40⟩:=N67.rowSli (f:=df) (xs:=X31) szd_TG0 D18
               have f:=Frm.set f 137 (v:=.agg #[S d0,S X7,S X11,.slice Z32 X31.length P32,.slice Z12 X15.length P12,.bool (decide (X16.1.aa=[82,101,116,97,105,110])),.slice (some ⟨Q10,0,none⟩) 1 1]) (v':=.agg #[S d0,S X7,S X11,.slice Z33 X31.length P33,.slice Z12 X15.length P12,.bool (decide (X16.1.aa=[82,101,116,97,105,110])),.slice (some ⟨Q10,0,none⟩) 1 1]) (by kernel_rfl) (by rw[H5])
               have f:=f.st 135 (H5)
               have N69:Hp w0 V32 ((Ent.obj Q11 (.cells (aTD0 X28.1 Z30 P30 Z31 P31) 26 (0,0)))::(Ent.obj Q10 (.cells (aTA0 X27 Z26 P26 Z27 P27 Z28 P28 Z29 P29) 41 (0,0)))::(Ent.obj Q9 (.cells (aTD0 X24.1 Z24 P24 Z25 P25) 26 (0,0)))::(Ent.obj Q7 (.cells (aTD0 X17.1 Z15 P15 Z16 P16) 26 (0,0)))::(Ent.obj Q6 (.cells (aTD0 X16.1 Z13 P13 Z14 P14) 26 (0,0)))::(Ent.obj Q5 (.cells (aTD0 X4.1 Z6 P6 Z7 P7) 26 (0,0)))::(oC Q3 #[S d0,S X7,S X11,sL Z33 X31 P33,sL Z12 X15 P12,bO (decide (X16.1.aa=[82,101,116,97,105,110])),.slice (some ⟨Q10,0,none⟩) 1 1] 66)::(oC Q2 #[S [],S [],S [],Sn,Sn,bO false,Sn] 66)::H) W59:=by unfold sL at N68;rw[H5] at N68;exact N68
               have N70:=N69.pl [1]
               have D19:ag V32 ([(⟨X27.aY,X27.bn,X27.dg,X27.bP⟩:TA0)].map cc) (lTA0 X27 Z26 P26 Z27 P27 Z28 P28 Z29 P29):=⟨_,_,rfl,TA0.shut (B33.mono ((J29.trans J31).trans J32)) (B34.mono ((J29.trans J31).trans J32)) (B35.mono ((J29.trans J31).trans J32)) (B36.mono ((J29.trans J31).trans J32)),rfl⟩
               have N71:Hp w0 V32 ((Ent.row 41 4 (.slice (some ⟨Q10,0,none⟩) 1 1) [(⟨X27.aY,X27.bn,X27.dg,X27.bP⟩:TA0)].length (lTA0 X27 Z26 P26 Z27 P27 Z28 P28 Z29 P29))::(Ent.obj Q11 (.cells (aTD0 X28.1 Z30 P30 Z31 P31) 26 (0,0)))::(Ent.obj Q9 (.cells (aTD0 X24.1 Z24 P24 Z25 P25) 26 (0,0)))::(Ent.obj Q7 (.cells (aTD0 X17.1 Z15 P15 Z16 P16) 26 (0,0)))::(Ent.obj Q6 (.cells (aTD0 X16.1 Z13 P13 Z14 P14) 26 (0,0)))::(Ent.obj Q5 (.cells (aTD0 X4.1 Z6 P6 Z7 P7) 26 (0,0)))::(oC Q3 #[S d0,S X7,S X11,sL Z33 X31 P33,sL Z12 X15 P12,bO (decide (X16.1.aa=[82,101,116,97,105,110])),.slice (some ⟨Q10,0,none⟩) 1 1] 66)::(oC Q2 #[S [],S [],S [],Sn,Sn,bO false,Sn] 66)::H) W59:=N70.objRow (n:=1) (cap:=1) (size:=4) (by decide) (by decide) (dq (by decide) rfl) rfl rfl
               obtain⟨Z34,P34,V33,H6,J33,N72,B41⟩:=N71.rowSli (f:=cc) (xs:=[(⟨X27.aY,X27.bn,X27.dg,X27.bP⟩:TA0)]) szd_TA0 D19
               have f:=Frm.set f 137 (v:=.agg #[S d0,S X7,S X11,.slice Z33 X31.length P33,.slice Z12 X15.length P12,.bool (decide (X16.1.aa=[82,101,116,97,105,110])),.slice (some ⟨Q10,0,none⟩) 1 1]) (v':=.agg #[S d0,S X7,S X11,.slice Z33 X31.length P33,.slice Z12 X15.length P12,.bool (decide (X16.1.aa=[82,101,116,97,105,110])),.slice Z34 [(⟨X27.aY,X27.bn,X27.dg,X27.bP⟩:TA0)].length P34]) (by kernel_rfl) (by rw[H6])
               have N73:Hp w0 V33 ((Ent.obj Q11 (.cells (aTD0 X28.1 Z30 P30 Z31 P31) 26 (0,0)))::(Ent.obj Q9 (.cells (aTD0 X24.1 Z24 P24 Z25 P25) 26 (0,0)))::(Ent.obj Q7 (.cells (aTD0 X17.1 Z15 P15 Z16 P16) 26 (0,0)))::(Ent.obj Q6 (.cells (aTD0 X16.1 Z13 P13 Z14 P14) 26 (0,0)))::(Ent.obj Q5 (.cells (aTD0 X4.1 Z6 P6 Z7 P7) 26 (0,0)))::(oC Q3 #[S d0,S X7,S X11,sL Z33 X31 P33,sL Z12 X15 P12,bO (decide (X16.1.aa=[82,101,116,97,105,110])),sL Z34 [(⟨X27.aY,X27.bn,X27.dg,X27.bP⟩:TA0)] P34] 66)::(oC Q2 #[S [],S [],S [],Sn,Sn,bO false,Sn] 66)::H) W59:=by unfold sL at N72;rw[H6] at N72;exact N72
               have N74:=N73.pl [6]
               refine Ys [S d0,S X7,S X11,sL Z33 X31 P33,sL Z12 X15 P12,bO (decide (X16.1.aa=[82,101,116,97,105,110])),sL Z34 [(⟨X27.aY,X27.bn,X27.dg,X27.bP⟩:TA0)] P34] #[S d0,S X7,S X11,sL Z33 X31 P33,sL Z12 X15 P12,bO (decide (X16.1.aa=[82,101,116,97,105,110])),sL Z34 [(⟨X27.aY,X27.bn,X27.dg,X27.bP⟩:TA0)] P34] f N74 rfl rfl λW60 N75 _ f=>Er (cD f rfl (Y11 (cs:=[S d0,S X7,S X11,sL Z33 X31 P33,sL Z12 X15 P12,bO (decide (X16.1.aa=[82,101,116,97,105,110])),sL Z34 [(⟨X27.aY,X27.bn,X27.dg,X27.bP⟩:TA0)] P34]) (ad:=⟨Q2,0,none⟩) f (am (N75.ownCell 0 rfl) 0 rfl)) ?_)
               cases sI F38
               exact⟨_,rfl,V33,(((((((((((((((((((J1.trans J2).trans J4).trans J5).trans J7).trans J8).trans J10).trans J11).trans J13).trans J14).trans J17).trans J18).trans J23).trans J25).trans J26).trans J28).trans J29).trans J31).trans J32).trans J33),(N75.dropN 7),⟨[S d0,S X7,S X11,sL Z33 X31 P33,sL Z12 X15 P12,bO (decide (X16.1.aa=[82,101,116,97,105,110])),sL Z34 [(⟨X27.aY,X27.bn,X27.dg,X27.bP⟩:TA0)] P34],rfl,(TB0.shut (B40.mono J33) (B13.mono ((((((((((J14.trans J17).trans J18).trans J23).trans J25).trans J26).trans J28).trans J29).trans J31).trans J32).trans J33)) B41)⟩⟩
             ·refine St (RR (Z f (Y32 (cs:=[S d0,S X7,S X11,Sn,sL Z12 X15 P12,bO (decide (X16.1.aa=[82,101,116,97,105,110])),.slice (some ⟨Q10,0,none⟩) 1 1]) rfl (ad:=⟨Q3,0,none⟩) (am (N64.ownCell 6 rfl) 0 rfl)) λ_ f=>?_))
              have N76:=N64.pl [1]
              have D20:ag V29 ([(⟨X27.aY,X27.bn,X27.dg,X27.bP⟩:TA0)].map cc) (lTA0 X27 Z26 P26 Z27 P27 Z28 P28 Z29 P29):=⟨_,_,rfl,TA0.shut (B33.mono J29) (B34.mono J29) (B35.mono J29) (B36.mono J29),rfl⟩
              have N77:Hp w0 V29 ((Ent.row 41 4 (.slice (some ⟨Q10,0,none⟩) 1 1) [(⟨X27.aY,X27.bn,X27.dg,X27.bP⟩:TA0)].length (lTA0 X27 Z26 P26 Z27 P27 Z28 P28 Z29 P29))::(Ent.obj Q11 (.cells (aTD0 X28.1 Z30 P30 Z31 P31) 26 (0,0)))::(Ent.obj Q9 (.cells (aTD0 X24.1 Z24 P24 Z25 P25) 26 (0,0)))::(Ent.obj Q7 (.cells (aTD0 X17.1 Z15 P15 Z16 P16) 26 (0,0)))::(Ent.obj Q6 (.cells (aTD0 X16.1 Z13 P13 Z14 P14) 26 (0,0)))::(Ent.obj Q5 (.cells (aTD0 X4.1 Z6 P6 Z7 P7) 26 (0,0)))::(oC Q3 #[S d0,S X7,S X11,Sn,sL Z12 X15 P12,bO (decide (X16.1.aa=[82,101,116,97,105,110])),.slice (some ⟨Q10,0,none⟩) 1 1] 66)::(oC Q2 #[S [],S [],S [],Sn,Sn,bO false,Sn] 66)::H) W56:=N76.objRow (n:=1) (cap:=1) (size:=4) (by decide) (by decide) (dq (by decide) rfl) rfl rfl
              obtain⟨Z35,P35,V34,H7,J34,N78,B42⟩:=N77.rowSli (f:=cc) (xs:=[(⟨X27.aY,X27.bn,X27.dg,X27.bP⟩:TA0)]) szd_TA0 D20
              have f:=Frm.set f 137 (v:=.agg #[S d0,S X7,S X11,.slice none 0 0,.slice Z12 X15.length P12,.bool (decide (X16.1.aa=[82,101,116,97,105,110])),.slice (some ⟨Q10,0,none⟩) 1 1]) (v':=.agg #[S d0,S X7,S X11,.slice none 0 0,.slice Z12 X15.length P12,.bool (decide (X16.1.aa=[82,101,116,97,105,110])),.slice Z35 [(⟨X27.aY,X27.bn,X27.dg,X27.bP⟩:TA0)].length P35]) (by kernel_rfl) (by rw[H7])
              have N79:Hp w0 V34 ((Ent.obj Q11 (.cells (aTD0 X28.1 Z30 P30 Z31 P31) 26 (0,0)))::(Ent.obj Q9 (.cells (aTD0 X24.1 Z24 P24 Z25 P25) 26 (0,0)))::(Ent.obj Q7 (.cells (aTD0 X17.1 Z15 P15 Z16 P16) 26 (0,0)))::(Ent.obj Q6 (.cells (aTD0 X16.1 Z13 P13 Z14 P14) 26 (0,0)))::(Ent.obj Q5 (.cells (aTD0 X4.1 Z6 P6 Z7 P7) 26 (0,0)))::(oC Q3 #[S d0,S X7,S X11,Sn,sL Z12 X15 P12,bO (decide (X16.1.aa=[82,101,116,97,105,110])),sL Z35 [(⟨X27.aY,X27.bn,X27.dg,X27.bP⟩:TA0)] P35] 66)::(oC Q2 #[S [],S [],S [],Sn,Sn,bO false,Sn] 66)::H) W56:=by unfold sL at N78;rw[H7] at N78;exact N78
              have N80:=N79.pl [6]
              refine Ys [S d0,S X7,S X11,Sn,sL Z12 X15 P12,bO (decide (X16.1.aa=[82,101,116,97,105,110])),sL Z35 [(⟨X27.aY,X27.bn,X27.dg,X27.bP⟩:TA0)] P35] #[S d0,S X7,S X11,Sn,sL Z12 X15 P12,bO (decide (X16.1.aa=[82,101,116,97,105,110])),sL Z35 [(⟨X27.aY,X27.bn,X27.dg,X27.bP⟩:TA0)] P35] f N80 rfl rfl λW61 N81 _ f=>Er (cD f rfl (Y11 (cs:=[S d0,S X7,S X11,Sn,sL Z12 X15 P12,bO (decide (X16.1.aa=[82,101,116,97,105,110])),sL Z35 [(⟨X27.aY,X27.bn,X27.dg,X27.bP⟩:TA0)] P35]) (ad:=⟨Q2,0,none⟩) f (am (N81.ownCell 0 rfl) 0 rfl)) ?_)
              cases sI F39
              exact⟨_,rfl,V34,(((((((((((((((((J1.trans J2).trans J4).trans J5).trans J7).trans J8).trans J10).trans J11).trans J13).trans J14).trans J17).trans J18).trans J23).trans J25).trans J26).trans J28).trans J29).trans J34),(N81.dropN 7),⟨[S d0,S X7,S X11,Sn,sL Z12 X15 P12,bO (decide (X16.1.aa=[82,101,116,97,105,110])),sL Z35 [(⟨X27.aY,X27.bn,X27.dg,X27.bP⟩:TA0)] P35],rfl,(TB0.shut Sli.nil (B13.mono ((((((((J14.trans J17).trans J18).trans J23).trans J25).trans J26).trans J28).trans J29).trans J34)) B42)⟩⟩
           ·have U19:=aq dI B32
            have f:=f.st 116 (cB B32)
            refine aR f N56 (bw _ (170:Int) X24.2.1) kr (λ_=>by kernel_rfl) λV35 W62 J35 N82=>cr (ba f ?_)
            cases sI F40
            exact⟨V35,(((((((((((((((J1.trans J2).trans J4).trans J5).trans J7).trans J8).trans J10).trans J11).trans J13).trans J14).trans J17).trans J18).trans J23).trans J25).trans J26).trans J35),(N82.dropN 6),rfl⟩
          ·have f:=f.st 112 (cB B31)
           refine aR f N55 (bw _ (120:Int) X17.2.1) kr (λ_=>by kernel_rfl) λV36 W63 J36 N83=>cr (ba f ?_)
           cases sI F41
           exact⟨V36,(((((((((((((((J1.trans J2).trans J4).trans J5).trans J7).trans J8).trans J10).trans J11).trans J13).trans J14).trans J17).trans J18).trans J23).trans J25).trans J26).trans J36),(N83.dropN 6),rfl⟩
        ·have f:=f.st 99 (cB B25)
         refine aR f N37 (bw _ (120:Int) d2) kr (λ_=>by kernel_rfl) λV37 W64 J37 N84=>cr (ba f ?_)
         cases sI F42
         exact⟨V37,((((((((((((J1.trans J2).trans J4).trans J5).trans J7).trans J8).trans J10).trans J11).trans J13).trans J14).trans J17).trans J18).trans J37),(N84.dropN 5),rfl⟩
  ·have f:=f.st 34 (cB B8)
   refine aR f N12 (bw _ (120:Int) d2) kr (λ_=>by kernel_rfl) λV38 W65 J38 N85=>cr (ba f ?_)
   cases sI F43
   exact⟨V38,((((J1.trans J2).trans J4).trans J5).trans J38),(N85.dropN 3),rfl⟩
def eG (n:Nat) (rec_syntax_template:TD0→Bs→Int→Option (Sum (Int×Bs) TA0)) (d0:Bs) (d1:TD0) (d2:Bs) (kx:List TE0) (ky:List TF0) (jf:List TB0) (kz:List TC0) (d4:Int):Option (Sum (Int×Bs) (List TE0×List TF0×List TB0×List TC0)):=
 (((gw n rec_syntax_template d0 d1 d2 d4).bind λX1=>
   aS ((jf.length+1)*128≤140737488355328)<|
   (match X1 with
   |.inl X5=>((some (.inl X5):Option (Sum (Int×Bs) (List TE0×List TF0×List TB0×List TC0)))).map Lp.br
   |.inr X6=>some (.nx (jf++[(⟨X6.oJ,X6.jO,X6.iX,X6.gY,X6.dN,(X6.gk),X6.gX⟩:TB0)]))):Option (Lp (List TB0) (Sum (Int×Bs) (List TE0×List TF0×List TB0×List TC0))))).bind λj=>joinF j λG1=>
 some (.inr (kx,ky,G1,kz))
theorem gB (n:Nat) (rec_syntax_template:TD0→Bs→Int→Option (Sum (Int×Bs) TA0)) (hrec_syntax_template: ∀ (M:Mem) (hG:GL M) (c0:Lv) (d0:TD0) (h0:Rep M (ar d0) c0) (d1:Bs) (d2:Int) (r:Sum (Int×Bs) TA0) (hF:rec_syntax_template d0 d1 d2=some r),OkX Tryz.prog M 23 [.agg c0.toArray,S d1,iL d2] 78 r (λr=>λM' v=>∃ (c0:Lv),v=.agg c0.toArray∧Rep M' (cc r) c0)) (M:Mem) (hG:GL M) (d0:Bs) (c1:Lv) (d1:TD0) (h1:Rep M (ar d1) c1) (d2:Bs) (b3:Nat) (kx:List TE0) (Z1:Oa) (P1:Nat) (L1:Lv) (D1:ag M (kx.map ck) L1) (ky:List TF0) (Z2:Oa) (P2:Nat) (L2:Lv) (D2:ag M (ky.map bU) L2) (jf:List TB0) (Z3:Oa) (P3:Nat) (L3:Lv) (D3:ag M (jf.map bH) L3) (kz:List TC0) (Z4:Oa) (P4:Nat) (L4:Lv) (D4:ag M (kz.map cj) L4) (ad4:Addr) (c4:Lv) (d4:Int) (h4:Rep M ((Dat.int .i64) d4) c4) (q4: ∀j v,c4[j]? =some v→M.cell? (ad4.add j)=some v) (r:Sum (Int×Bs) (List TE0×List TF0×List TB0×List TC0)) (hF:eG n rec_syntax_template d0 d1 d2 kx ky jf kz d4=some r):OkXH Tryz.prog M [oC b3 #[sL Z1 kx P1,sL Z2 ky P2,sL Z3 jf P3,sL Z4 kz P4] 41,rO 58 10 Z1 kx P1 L1,rO 61 15 Z2 ky P2 L2,rO 66 7 Z3 jf P3 L3,rO 68 8 Z4 kz P4 L4] 53 [S d0,.agg c1.toArray,S d2,pP b3,Pa ad4] 78 r (λr=>λM' E' v=>∃ (Z16:Oa) (P16:Nat) (L8:Lv) (Z17:Oa) (P17:Nat) (L9:Lv) (Z18:Oa) (P18:Nat) (L10:Lv) (Z19:Oa) (P19:Nat) (L11:Lv),v=.tuple #[]∧E'=[oC b3 #[sL Z16 r.1 P16,sL Z17 r.2.1 P17,sL Z18 r.2.2.1 P18,sL Z19 r.t3 P19] 41,rO 58 10 Z16 r.1 P16 L8,rO 61 15 Z17 r.2.1 P17 L9,rO 66 7 Z18 r.2.2.1 P18 L10,rO 68 8 Z19 r.t3 P19 L11]∧ag M' (r.1.map ck) L8∧ag M' (r.2.1.map bU) L9∧ag M' (r.2.2.1.map bH) L10∧ag M' (r.t3.map cj) L11):=by
 unfold eG at hF
 intro M1 hM0 w0 H w p0
 replace hG:=GL.mono hM0 hG
 replace h1:=Rep.mono hM0 _ _ h1
 replace D1:=ag.mono hM0 _ _ D1
 replace D2:=ag.mono hM0 _ _ D2
 replace D3:=ag.mono hM0 _ _ D3
 replace D4:=ag.mono hM0 _ _ D4
 replace h4:=Rep.mono hM0 _ _ h4
 replace q4:=λj v h=>hM0.cell (q4 j v h)
 obtain⟨Z5,P5,Z6,P6,rfl,B1,B2⟩:=TD0.opn h1
 obtain rfl:c4=[iL d4]:=h4
 refine Re 18 Tryz.func53 rfl λa0 f0=>RR (Y14 (cs:=(aTD0 d1 Z5 P5 Z6 P6)) (T:=26) f0 p0 λQ1 V1 W1 J1 R1 N1 _ f=>?_)
 have R2:=bj R1
 refine eT ?_
 obtain⟨gN,ec,F1⟩:=bS hF
 refine bD (λa_24 W15=>∃G1:List TB0,gN=.nx G1∧∃V6:Mem,V1.le V6∧∃ (Z15:Oa),∃ (P15:Nat),∃ (L7:Lv),ag V6 (G1.map bH) L7∧Frm 18 [] a_24∧Hp w0 V6 ((rO 66 7 Z15 G1 P15 L7)::(oC b3 #[sL Z1 kx P1,sL Z2 ky P2,sL Z15 G1 P15,sL Z4 kz P4] 41)::(rO 58 10 Z1 kx P1 L1)::(rO 61 15 Z2 ky P2 L2)::(rO 68 8 Z4 kz P4 L4)::H) W15) ?_ ?_
 ·have N13:=N1.pl [4,3,3,3,4]
  obtain⟨X1,l1,F2⟩:=bS ec
  obtain⟨O1,F3⟩:=nS F2
  refine je (ks:=[9,10]) (E:=[rO 66 7 Z3 jf P3 L3]) (Hr:=((oC b3 #[sL Z1 kx P1,sL Z2 ky P2,sL Z3 jf P3,sL Z4 kz P4] 41)::(rO 58 10 Z1 kx P1 L1)::(rO 61 15 Z2 ky P2 L2)::(rO 68 8 Z4 kz P4 L4)::H)) (.quiet 0 (.quiet 1 (.quiet 2 (.quiet 3 (.quiet 4 (.quiet 5 (.alt 6 (.alt 7 (.alt 8 .done .none) .none) .none))))))) N13 kr kr kr (Y1 (v:=Pa (⟨b3,2,none⟩)) rfl f rfl rfl (λ_ _=>by kernel_rfl) λ_ f=>Y1 (v:=sL Z3 jf P3) rfl f rfl rfl (λ_ pq=>Y31 (v:=sL Z3 jf P3) rfl (ad:=⟨b3,2,none⟩) (pq.ownCell 0 rfl 2)) λ_ f=>Y1 (v:=S d0) rfl f rfl rfl (λ_ _=>by kernel_rfl) λ_ f=>Y1 (v:=.agg (aTD0 d1 Z5 P5 Z6 P6)) rfl f rfl rfl (λ_ pq=>Y32 (cs:=(lTD0 d1 Z5 P5 Z6 P6)) rfl (ad:=⟨Q1,0,none⟩) (λj v h=>pq.cell (R2 j v h))) λ_ f=>Y1 (v:=S d2) rfl f rfl rfl (λ_ _=>by kernel_rfl) λ_ f=>Y1 (v:=iL d4) rfl f rfl rfl (λ_ pq=>Y31 (v:=iL d4) rfl (ad:=ad4) (pq.cell ((fzu J1 q4) 0 _ rfl))) λ_ f=>aC rfl (λW6 N14=>?_) ?_)
  ·rcases X1 with X5|X6
   ·refine aR f N14 (gT n rec_syntax_template hrec_syntax_template _ (GL.mono J1 hG) d0 _ d1 (TD0.shutx (x:=d1) (B1.mono J1) (B2.mono J1)) d2 d4 (.inl X5) l1) kr (λ_=>by kernel_rfl) λV4 W7 J4 N15=>M_p f λ_ f=>?_
    have F4:=bF F3 F1
    refine cr (ba f ?_)
    cases sI F4
    exact⟨V4,(J1.trans J4),(N15.dropN 5),rfl⟩
   ·refine Y17 f N14 (OkX.ok (gT n rec_syntax_template hrec_syntax_template _ (GL.mono J1 hG) d0 _ d1 (TD0.shutx (x:=d1) (B1.mono J1) (B2.mono J1)) d2 d4 (.inr X6) l1)) λ_ V5 W8 J5 N16 jk _ f=>?_
    obtain⟨gW,rfl,D7⟩:=jk
    obtain⟨Z11,P11,Z12,P12,Z13,P13,rfl,B6,B7,B8⟩:=TB0.opn D7
    refine ap rfl (aD 1 J5 N16 rfl (aC rfl (λW9 N17=>?_) ?_))
    ·refine aP (k:=1) (c:=1) f N17 (.cells (aTB0 X6 Z11 P11 Z12 P12 Z13 P13) 66 (0,0)) kr (λ_=>by kernel_rfl) λQ3 W10 N18 _ f=>ap rfl (aD 2 J5 N18 rfl (aC rfl (λW11 N19=>?_) ?_))
     ·have N20:=N19.pl [1]
      refine Y21 (z:=.agg #[S [],S [],S [],Sn,Sn,bO false,Sn]) (f:=bH) (xs:=jf) (ys:=[(⟨X6.oJ,X6.jO,X6.iX,X6.gY,X6.dN,(X6.gk),X6.gX⟩:TB0)]) (news:=(lTB0 X6 Z11 P11 Z12 P12 Z13 P13)) (ad:=⟨Q3,0,none⟩) (m:=1) (c:=1) f N20 (ag.mono (J1.trans J5) _ _ D3) (by exact⟨_,_,rfl,TB0.shut B6 B7 B8,rfl⟩) rfl rfl rfl rfl (am (N20.ownCell 1 rfl) 0 rfl) (by exact O1) (by have hg_:=O1;first|omega|(simp only[List.length_cons,List.length_nil] at*;omega)) λZ14 P14 L6 W12 N21 D8 _ f=>?_
      have N22:=N21.pl [1]
      have N23:=N22.drop
      refine ap rfl (aD 1 J5 N23 rfl (gV λW13 N24=>Y f 1 λ_ f=>Y26 f N24 1 rfl rfl (b:=b3) (j:=2) (v:=sL Z14 (jf++[(⟨X6.oJ,X6.jO,X6.iX,X6.gY,X6.dN,(X6.gk),X6.gX⟩:TB0)]) P14) rfl (by exact rfl) (by simp) (by simp) _ rfl λW14 N25 _ f=>ap rfl (mp (aK ?_))))
      exact⟨jf++[(⟨X6.oJ,X6.jO,X6.iX,X6.gY,X6.dN,(X6.gk),X6.gX⟩:TB0)],(sI F3).symm,V5,J5,Z14,P14,L6,D8,f.kp,N25⟩
     exact aB
    exact aB
  exact aB
 ·rintro a_24 W15 ⟨G1,rfl,V6,J6,Z15,P15,L7,D9,f,N26⟩
  refine dn f rfl ?_
  cases sI F1
  have N31:=N26.pl [4,1,4,4,4]
  exact⟨_,rfl,V6,_,(J1.trans J6),N31,⟨Z1,P1,L1,Z2,P2,L2,Z15,P15,L7,Z4,P4,L4,rfl,rfl,(ag.mono (J1.trans J6) _ _ D1),(ag.mono (J1.trans J6) _ _ D2),D9,(ag.mono (J1.trans J6) _ _ D4)⟩⟩
def dK (n:Nat) (rec_syntax_template:TD0→Bs→Int→Option (Sum (Int×Bs) TA0)) (mq:Int) (X1:TD0×Bs×Bool) (X2:List ay) (K1:Int×List TE0×List TF0×List TB0×List TC0):Option (Lp (Int×List TE0×List TF0×List TB0×List TC0) (Sum (Int×Bs) (List TE0×List TF0×List TB0×List TC0))):=
    bif(decide (K1.1<((X2.length:Nat):Int))) then
     ((aQ X2 K1.1).bind λX3=>
     (ce n X3.key).bind λX4=>
     (aL n X1.2.1 X3.key).bind λX5=>
     bif X4 then
      ((aL n X1.2.1 X3.key).bind λX6=>
      (eG n rec_syntax_template X3.key (⟨X3.v.ab,(X3.v.ah),X3.v.af,X3.v.aa,X3.v.ac,X3.v.ae⟩:TD0) X6 K1.2.1 K1.2.2.1 K1.2.2.2.1 K1.2.2.2.2 mq).bind λX7=>
      (match X7 with
      |.inl X8=>some (.br (.inl X8))
      |.inr X9=>aS (inR .i64 (K1.1+1))<|
       some (.nx (K1.1+1,X9.1,X9.2.1,X9.2.2.1,X9.2.2.2))))
     else
      some (.br (.inl ((120:Int),X5))))
    else
     some (.br (.inr (K1.2.1,K1.2.2.1,K1.2.2.2.1,K1.2.2.2.2)))
def eF (n:Nat) (rec_syntax_template:TD0→Bs→Int→Option (Sum (Int×Bs) TA0)) (d0:Bs) (d1:Int) (aF:List TE0) (aG:List TF0) (aH:List TB0) (aI:List TC0) (mq:Int) (d3_f_0:TD0) (d3_f_1:Bs):Option (Sum (Int×Bs) (List TE0×List TF0×List TB0×List TC0)):=
 (bl n d0 d3_f_0 d3_f_1).bind λX1=>
 bif !X1.2.2 then
  (some (.inr (aF,aG,aH,aI)))
 else
  bif(decide (X1.1.ab=5)) then
   (bif(decide (((X1.1.ae.length:Nat):Int)≤d1)) then
    ((cz n X1.1).bind λX2=>
    (aE (dK n rec_syntax_template mq X1 X2) n ((0:Int),aF,aG,aH,aI)).bind λQ2=>
    (match Q2 with
    |.inl G1=>some (.inl G1)
    |.inr G2=>some (.inr (G2.1,G2.2.1,G2.2.2.1,G2.2.2.2))))
   else
    some (.inl ((3:Int),X1.2.1)))
  else
   some (.inl ((120:Int),X1.2.1))
set_option maxRecDepth 20000 in
theorem gA (n:Nat) (rec_syntax_template:TD0→Bs→Int→Option (Sum (Int×Bs) TA0)) (hrec_syntax_template: ∀ (M:Mem) (hG:GL M) (c0:Lv) (d0:TD0) (h0:Rep M (ar d0) c0) (d1:Bs) (d2:Int) (r:Sum (Int×Bs) TA0) (hF:rec_syntax_template d0 d1 d2=some r),OkX Tryz.prog M 23 [.agg c0.toArray,S d1,iL d2] 78 r (λr=>λM' v=>∃ (c0:Lv),v=.agg c0.toArray∧Rep M' (cc r) c0)) (M:Mem) (hG:GL M) (d0:Bs) (d1:Int) (db:Nat) (aF:List TE0) (Z1:Oa) (P1:Nat) (L1:Lv) (D1:ag M (aF.map ck) L1) (aG:List TF0) (Z2:Oa) (P2:Nat) (L2:Lv) (D2:ag M (aG.map bU) L2) (aH:List TB0) (Z3:Oa) (P3:Nat) (L3:Lv) (D3:ag M (aH.map bH) L3) (aI:List TC0) (Z4:Oa) (P4:Nat) (L4:Lv) (D4:ag M (aI.map cj) L4) (ad2_1:Addr) (c2_1:Lv) (mq:Int) (h2_1:Rep M ((Dat.int .i64) mq) c2_1) (q2_1: ∀j v,c2_1[j]? =some v→M.cell? (ad2_1.add j)=some v) (ad3_f_0:Addr) (c3_f_0:Lv) (d3_f_0:TD0) (h3_f_0:Rep M (ar d3_f_0) c3_f_0) (q3_f_0: ∀j v,c3_f_0[j]? =some v→M.cell? (ad3_f_0.add j)=some v) (ad3_f_1:Addr) (c3_f_1:Lv) (d3_f_1:Bs) (h3_f_1:Rep M (Dat.str d3_f_1) c3_f_1) (q3_f_1: ∀j v,c3_f_1[j]? =some v→M.cell? (ad3_f_1.add j)=some v) (ad3:Addr) (q3: ∀j v,[(.func (.func 93) #[] #[Pa ad3_f_0,Pa ad3_f_1]:Value)][j]? =some v→M.cell? (ad3.add j)=some v) (r:Sum (Int×Bs) (List TE0×List TF0×List TB0×List TC0)) (hF:eF n rec_syntax_template d0 d1 aF aG aH aI mq d3_f_0 d3_f_1=some r):OkXH Tryz.prog M [oC db #[sL Z1 aF P1,sL Z2 aG P2,sL Z3 aH P3,sL Z4 aI P4] 41,rO 58 10 Z1 aF P1 L1,rO 61 15 Z2 aG P2 L2,rO 66 7 Z3 aH P3 L3,rO 68 8 Z4 aI P4 L4] 46 [S d0,iL d1,.func (.func 53) #[] #[pP db,Pa ad2_1],Pa ad3] 78 r (λr=>λM' E' v=>∃ (Z24:Oa) (P25:Nat) (L18:Lv) (Z25:Oa) (P26:Nat) (L19:Lv) (Z26:Oa) (P27:Nat) (L20:Lv) (Z27:Oa) (P28:Nat) (L21:Lv),v=.tuple #[]∧E'=[oC db #[sL Z24 r.1 P25,sL Z25 r.2.1 P26,sL Z26 r.2.2.1 P27,sL Z27 r.t3 P28] 41,rO 58 10 Z24 r.1 P25 L18,rO 61 15 Z25 r.2.1 P26 L19,rO 66 7 Z26 r.2.2.1 P27 L20,rO 68 8 Z27 r.t3 P28 L21]∧ag M' (r.1.map ck) L18∧ag M' (r.2.1.map bU) L19∧ag M' (r.2.2.1.map bH) L20∧ag M' (r.t3.map cj) L21):=by
 unfold eF at hF
 intro M1 hM0 w0 H w p0
 replace hG:=GL.mono hM0 hG
 replace D1:=ag.mono hM0 _ _ D1
 replace D2:=ag.mono hM0 _ _ D2
 replace D3:=ag.mono hM0 _ _ D3
 replace D4:=ag.mono hM0 _ _ D4
 replace h2_1:=Rep.mono hM0 _ _ h2_1
 replace q2_1:=λj v h=>hM0.cell (q2_1 j v h)
 replace h3_f_0:=Rep.mono hM0 _ _ h3_f_0
 replace q3_f_0:=λj v h=>hM0.cell (q3_f_0 j v h)
 replace h3_f_1:=Rep.mono hM0 _ _ h3_f_1
 replace q3_f_1:=λj v h=>hM0.cell (q3_f_1 j v h)
 replace q3:=λj v h=>hM0.cell (q3 j v h)
 obtain rfl:c2_1=[iL mq]:=h2_1
 obtain⟨Z5,P5,Z6,P6,rfl,B1,B2⟩:=TD0.opn h3_f_0
 obtain rfl:c3_f_1=[S d3_f_1]:=h3_f_1
 refine Re 59 Tryz.func46 rfl λa0 f0=>RR (Y16 f0 p0 q3 0 rfl λ_ f=>Y f 1 λ_ f=>?_)
 obtain⟨X1,l1,F1⟩:=bS hF
 refine Y17 f p0 (bi n _ hG d0 ad3_f_0 (lTD0 d3_f_0 Z5 P5 Z6 P6) d3_f_0 (TD0.shutx (x:=d3_f_0) B1 B2) (bu (q3_f_0) 0 rfl) ad3_f_1 [S d3_f_1] d3_f_1 (rfl) (bu (q3_f_1) 0 rfl) X1 l1) λ_ V1 W1 J1 N1 ej _ f=>?_
 obtain⟨cZ,rfl,D5⟩:=ej
 obtain⟨Z7,P7,Z8,P8,rfl,B3,B4⟩:=TD0.opn D5
 refine Y f 4 λ_ f=>Y13 f N1 (.cells #[iB 0,bO false,iL 0,S [],Sn,Sn] 26 (0,0)) λQ1 W2 N2 _ f=>Ys (lTD0 X1.1 Z7 P7 Z8 P8) (aTD0 X1.1 Z7 P7 Z8 P8) f N2 rfl rfl λW3 N3 _ f=>Ye f 2 λ_ f=>an (RR (Ye f 2 λ_ f=>RcF f F1 (λB5 F2=>?_) λB5 F3=>?_))
 ·have U1: (X1.2.2)=false:=by simpa using B5
  refine wp_ret (bC (E_ret0 f rfl ?_))
  cases sI F2
  exact⟨_,rfl,V1,_,J1,(N3.dropN 1),⟨Z1,P1,L1,Z2,P2,L2,Z3,P3,L3,Z4,P4,L4,rfl,rfl,(ag.mono J1 _ _ D1),(ag.mono J1 _ _ D2),(ag.mono J1 _ _ D3),(ag.mono J1 _ _ D4)⟩⟩
 ·have U2: (X1.2.2)=true:=by simpa using B5
  refine St (RR (Y f 1 λ_ f=>Z f (Y31 (v:=iB X1.1.ab) rfl (ad:=⟨Q1,0,none⟩) (N3.ownCell 0 rfl 0)) λ_ f=>Y f 2 λ_ f=>?_))
  rcases cE F3 with⟨B6,F4⟩|⟨B6,F19⟩
  ·have U3:=dI.1 B6
   have f:=f.st 23 (cB B6)
   refine Y19 f N3 (bk _ (120:Int) X1.2.1) λW4 N4 _ f=>eT (RR (Y f 1 λ_ f=>Z f (Y31 (v:=sL Z8 X1.1.ae P8) rfl (ad:=⟨Q1,5,none⟩) (N4.ownCell 0 rfl 5)) λ_ f=>Y f 4 λ_ f=>?_))
   rcases cE F4 with⟨B7,F5⟩|⟨B7,F18⟩
   ·have U4:=dI.1 B7
    have f:=f.st 30 (cB B7)
    refine Y19 f N4 (bk _ (3:Int) X1.2.1) λW5 N5 _ f=>eT (RR (Z f (Y32 (cs:=(lTD0 X1.1 Z7 P7 Z8 P8)) rfl (ad:=⟨Q1,0,none⟩) (am (N5.ownCell 0 rfl) 0 rfl)) λ_ f=>?_))
    obtain⟨X2,l2,F6⟩:=bS F5
    refine Y18 (E:=[]) (H:=((Ent.obj Q1 (.cells (aTD0 X1.1 Z7 P7 Z8 P8) 26 (0,0)))::(oC db #[sL Z1 aF P1,sL Z2 aG P2,sL Z3 aH P3,sL Z4 aI P4] 41)::(rO 58 10 Z1 aF P1 L1)::(rO 61 15 Z2 aG P2 L2)::(rO 66 7 Z3 aH P3 L3)::(rO 68 8 Z4 aI P4 L4)::H)) f N5 (cJ n _ (GL.mono J1 hG) _ X1.1 (TD0.shutx (x:=X1.1) B3 B4) X2 l2) λ_ V2 mo W6 J2 N6 jk _ f=>?_
    obtain⟨Z9,P9,L5,rfl,rfl,D6⟩:=jk
    refine Ye f 2 λ_ f=>wp_block ?_
    have N13:=N6.pl [2,2,2,6,6,6,6]
    obtain⟨Q2,co,F7⟩:=bS F6
    refine wp_mono (Q:=λe a w=>(∃G1:Int×Bs,e=.panic (flawE 78 G1)∧Q2=.inl G1∧∃V7:Mem,V2.le V7∧Frm 59 [] a∧Hp w0 V7 (H) w)∨(e=.exit 0∧(∃G2:List TE0×List TF0×List TB0×List TC0,Q2=.inr G2∧∃V8:Mem,V2.le V8∧∃ (Z20:Oa),∃ (P21:Nat),∃ (L14:Lv),∃ (Z21:Oa),∃ (P22:Nat),∃ (L15:Lv),∃ (Z22:Oa),∃ (P23:Nat),∃ (L16:Lv),∃ (Z23:Oa),∃ (P24:Nat),∃ (L17:Lv),ag V8 (G2.1.map ck) L14∧ag V8 (G2.2.1.map bU) L15∧ag V8 (G2.2.2.1.map bH) L16∧ag V8 (G2.t3.map cj) L17∧Frm 59 [] a∧Hp w0 V8 ((rO 58 10 Z20 G2.1 P21 L14)::(rO 61 15 Z21 G2.2.1 P22 L15)::(rO 66 7 Z22 G2.2.2.1 P23 L16)::(rO 68 8 Z23 G2.t3 P24 L17)::(rO 99 7 Z9 X2 P9 L5)::(Ent.obj Q1 (.cells (aTD0 X1.1 Z7 P7 Z8 P8) 26 (0,0)))::(oC db #[sL Z20 G2.1 P21,sL Z21 G2.2.1 P22,sL Z22 G2.2.2.1 P23,sL Z23 G2.t3 P24] 41)::H) w))) (bT (n:=59) (w0:=w0) (M:=V2) (λ (I1,K1,Z10,P10,L6,Z11,P11,L7,Z12,P12,L8,Z13,P13,L9)=>[(2,.func (.func 53) #[] #[pP db,Pa ad2_1]),(8,S X1.2.1),(34,sL Z9 X2 P9),(35,iL ((X2.length:Nat):Int)),(36,iL K1.1)]) (λ (I1,K1,Z10,P10,L6,Z11,P11,L7,Z12,P12,L8,Z13,P13,L9)=>((rO 58 10 Z10 K1.2.1 P10 L6)::(rO 61 15 Z11 K1.2.2.1 P11 L7)::(rO 66 7 Z12 K1.t3.1 P12 L8)::(rO 68 8 Z13 K1.t4 P13 L9)::(rO 99 7 Z9 X2 P9 L5)::(Ent.obj Q1 (.cells (aTD0 X1.1 Z7 P7 Z8 P8) 26 (0,0)))::(oC db #[sL Z10 K1.2.1 P10,sL Z11 K1.2.2.1 P11,sL Z12 K1.t3.1 P12,sL Z13 K1.t4 P13] 41)::H)) (λ (I1,K1,Z10,P10,L6,Z11,P11,L7,Z12,P12,L8,Z13,P13,L9) MM=>aE (dK n rec_syntax_template mq X1 X2) I1 K1=some Q2∧ag MM (K1.2.1.map ck) L6∧ag MM (K1.2.2.1.map bU) L7∧ag MM (K1.t3.1.map bH) L8∧ag MM (K1.t4.map cj) L9) (λ (I1,K1,Z10,P10,L6,Z11,P11,L7,Z12,P12,L8,Z13,P13,L9)=>I1) (n,((0:Int),aF,aG,aH,aI),Z1,P1,L1,Z2,P2,L2,Z3,P3,L3,Z4,P4,L4) (f.kp) N13 ⟨co,(ag.mono (J1.trans J2) _ _ D1),(ag.mono (J1.trans J2) _ _ D2),(ag.mono (J1.trans J2) _ _ D3),(ag.mono (J1.trans J2) _ _ D4)⟩ ?_) ?_
    ·rintro⟨I1,K1,Z10,P10,L6,Z11,P11,L7,Z12,P12,L8,Z13,P13,L9⟩ V3 _ W7 J3 gM f N14
     obtain⟨cu,D7,D8,D9,D10⟩:=gM
     obtain⟨I2,lO,rfl,bx,T1⟩:=aZ cu
     unfold dK at bx
     refine RR (Ye f 1 λ_ f=>an (RcF f bx (λB8 F8=>?_) λB8 F17=>?_))
     ·have U5:=dI.1 B8
      refine St (an (wp_block (RR ?_)))
      obtain⟨X3,l3,F9⟩:=bS F8
      obtain⟨Q3,P14,H1,lI⟩:=N14.rowAddr 4 rfl (bJ l3)
      have f:=f.st 34 (H1)
      refine Z f (Y29 rfl (ad:=⟨Q3,0,none⟩) (len:=X2.length) (cap:=P14) (k:=.i64) (i:=K1.1) (e:=99) (sz:=7) (ax l3) (aw l3)) λ_ f=>?_
      have f:=f.st 34 (H1.symm)
      obtain⟨gW,-,D11,R1⟩:=ag.get K1.1.toNat (eW cq) (ag.mono J3 _ _ D6) (ip l3)
      obtain⟨Z14,P15,Z15,P16,rfl,B9,B10⟩:=ay.opn D11
      refine Z f (Y32 (cs:=[S X3.key,iB X3.v.ab,bO X3.v.ah,iL X3.v.af,S X3.v.aa,sL Z14 X3.v.ac P15,sL Z15 X3.v.ae P16]) rfl (ad:=(⟨Q3,0,none⟩:Addr).add (K1.1.toNat*7)) (λj v h=>kP (N14.rowCell 4 rfl H1) R1 j v h)) λ_ f=>Y13 f N14 (.cells #[S [],iB 0,bO false,iL 0,S [],Sn,Sn] 99 (0,0)) λQ4 W8 N15 _ f=>Ys [S X3.key,iB X3.v.ab,bO X3.v.ah,iL X3.v.af,S X3.v.aa,sL Z14 X3.v.ac P15,sL Z15 X3.v.ae P16] #[S X3.key,iB X3.v.ab,bO X3.v.ah,iL X3.v.af,S X3.v.aa,sL Z14 X3.v.ac P15,sL Z15 X3.v.ae P16] f N15 rfl rfl λW9 N16 _ f=>eT (an (dp (E:=[]) (Hr:=((oC Q4 #[S X3.key,iB X3.v.ab,bO X3.v.ah,iL X3.v.af,S X3.v.aa,sL Z14 X3.v.ac P15,sL Z15 X3.v.ae P16] 99)::(rO 58 10 Z10 K1.2.1 P10 L6)::(rO 61 15 Z11 K1.2.2.1 P11 L7)::(rO 66 7 Z12 K1.t3.1 P12 L8)::(rO 68 8 Z13 K1.t4 P13 L9)::(rO 99 7 Z9 X2 P9 L5)::(Ent.obj Q1 (.cells (aTD0 X1.1 Z7 P7 Z8 P8) 26 (0,0)))::(oC db #[sL Z10 K1.2.1 P10,sL Z11 K1.2.2.1 P11,sL Z12 K1.t3.1 P12,sL Z13 K1.t4 P13] 41)::H)) [(0,true),(1,true),(2,true),(3,true),(4,true),(5,true),(6,true),(7,false)] N16 kr kr rfl kr (Y0 default f 1 λ_ f=>bz (v:=S X3.key) f kr kr rfl rfl (λ_ pq=>Y31 (v:=S X3.key) rfl (ad:=⟨Q4,0,none⟩) (pq.ownCell 0 rfl 0)) λ_ f=>?_)))
      obtain⟨X4,l4,F10⟩:=bS F9
      refine dM (v:=bO X4) f kr kr rfl rfl (λ_=>by kernel_rfl) (bZ n _ X3.key X4 l4) λ_ f=>Y0 default f 2 λ_ f=>bz (v:=S X3.key) f kr kr rfl rfl (λ_ pq=>Y31 (v:=S X3.key) rfl (ad:=⟨Q4,0,none⟩) (pq.ownCell 0 rfl 0)) λ_ f=>?_
      obtain⟨X5,l5,F11⟩:=bS F10
      refine dM (v:=S X5) f kr kr rfl rfl (λ_=>by kernel_rfl) (aJ n _ (GL.mono ((J1.trans J2).trans J3) hG) X1.2.1 X3.key X5 l5) λ_ f=>bL (E:=[]) λW12 N19=>?_
      rcases cE F11 with⟨B11,F12⟩|⟨B11,F16⟩
      ·have f:=f.st 42 (cB B11)
       refine Y19 f N19 (bk _ (120:Int) X5) λW13 N20 _ f=>ap rfl (dl (M1:=V3) (E:=[]) (mR _) N20 (dL rfl λW14 N21=>aK ?_))
       have N29:=N21.pl [6,6,2,7,7,7,7,7]
       refine dp (E:=[rO 58 10 Z10 K1.2.1 P10 L6,rO 61 15 Z11 K1.2.2.1 P11 L7,rO 66 7 Z12 K1.t3.1 P12 L8,rO 68 8 Z13 K1.t4 P13 L9,oC db #[sL Z10 K1.2.1 P10,sL Z11 K1.2.2.1 P11,sL Z12 K1.t3.1 P12,sL Z13 K1.t4 P13] 41]) (Hr:=((oC Q4 #[S X3.key,iB X3.v.ab,bO X3.v.ah,iL X3.v.af,S X3.v.aa,sL Z14 X3.v.ac P15,sL Z15 X3.v.ae P16] 99)::(rO 99 7 Z9 X2 P9 L5)::(Ent.obj Q1 (.cells (aTD0 X1.1 Z7 P7 Z8 P8) 26 (0,0)))::H)) [(0,true),(1,true),(2,true),(3,true),(4,true),(5,true),(6,true),(7,true),(8,true),(9,false)] N29 kr kr rfl kr (Y0 default f 2 λ_ f=>bz (v:=S X3.key) f kr kr rfl rfl (λ_ pq=>Y31 (v:=S X3.key) rfl (ad:=⟨Q4,0,none⟩) (pq.ownCell 0 rfl 0)) λ_ f=>Y0 default f 1 λ_ f=>bz (v:=.agg (aTD0 X3.v Z14 P15 Z15 P16)) f kr kr rfl rfl (λ_ pq=>Y32 (cs:=(lTD0 X3.v Z14 P15 Z15 P16)) rfl (ad:=⟨Q4,1,none⟩) (am (pq.ownCell 0 rfl) 1 rfl)) λ_ f=>Y0 default f 2 λ_ f=>bz (v:=S X3.key) f kr kr rfl rfl (λ_ pq=>Y31 (v:=S X3.key) rfl (ad:=⟨Q4,0,none⟩) (pq.ownCell 0 rfl 0)) λ_ f=>?_)
       obtain⟨X6,l6,F13⟩:=bS F12
       refine dM (v:=S X6) f kr kr rfl rfl (λ_=>by kernel_rfl) (aJ n _ (GL.mono ((J1.trans J2).trans J3) hG) X1.2.1 X3.key X6 l6) λ_ f=>bL (E:=[rO 58 10 Z10 K1.2.1 P10 L6,rO 61 15 Z11 K1.2.2.1 P11 L7,rO 66 7 Z12 K1.t3.1 P12 L8,rO 68 8 Z13 K1.t4 P13 L9,oC db #[sL Z10 K1.2.1 P10,sL Z11 K1.2.2.1 P11,sL Z12 K1.t3.1 P12,sL Z13 K1.t4 P13] 41]) λW16 N31=>?_
       obtain⟨X7,l7,F14⟩:=bS F13
       rcases X7 with X8|X9
       ·have N37:=N31.pl [3,3,3,3,4]
        refine gi (E:=[oC db #[sL Z10 K1.2.1 P10,sL Z11 K1.2.2.1 P11,sL Z12 K1.t3.1 P12,sL Z13 K1.t4 P13] 41,rO 58 10 Z10 K1.2.1 P10 L6,rO 61 15 Z11 K1.2.2.1 P11 L7,rO 66 7 Z12 K1.t3.1 P12 L8,rO 68 8 Z13 K1.t4 P13 L9]) (H:=((oC Q4 #[S X3.key,iB X3.v.ab,bO X3.v.ah,iL X3.v.af,S X3.v.aa,sL Z14 X3.v.ac P15,sL Z15 X3.v.ae P16] 99)::(rO 99 7 Z9 X2 P9 L5)::(Ent.obj Q1 (.cells (aTD0 X1.1 Z7 P7 Z8 P8) 26 (0,0)))::H)) f N37 (gB n rec_syntax_template hrec_syntax_template _ (GL.mono ((J1.trans J2).trans J3) hG) X3.key _ (⟨X3.v.ab,(X3.v.ah),X3.v.af,X3.v.aa,X3.v.ac,X3.v.ae⟩:TD0) (TD0.shut B9 B10) X6 db K1.2.1 Z10 P10 L6 D7 K1.2.2.1 Z11 P11 L7 D8 K1.t3.1 Z12 P12 L8 D9 K1.t4 Z13 P13 L9 D10 ad2_1 [iL mq] mq (rfl) (bu ((fzu ((J1.trans J2).trans J3) q2_1)) 0 rfl) (.inl X8) l7) kr (λ_=>by kernel_rfl) λV4 W17 J4 N32=>M_p f λ_ f=>nE (cr (cr ?_))
        cases sI F14
        exact .inl ⟨X8,rfl,(sI T1).symm,V4,(J3.trans J4),f.kp,(N32.dropN 3)⟩
       ·have N43:=N31.pl [3,3,3,3,4]
        refine Y18 (E:=[oC db #[sL Z10 K1.2.1 P10,sL Z11 K1.2.2.1 P11,sL Z12 K1.t3.1 P12,sL Z13 K1.t4 P13] 41,rO 58 10 Z10 K1.2.1 P10 L6,rO 61 15 Z11 K1.2.2.1 P11 L7,rO 66 7 Z12 K1.t3.1 P12 L8,rO 68 8 Z13 K1.t4 P13 L9]) (H:=((oC Q4 #[S X3.key,iB X3.v.ab,bO X3.v.ah,iL X3.v.af,S X3.v.aa,sL Z14 X3.v.ac P15,sL Z15 X3.v.ae P16] 99)::(rO 99 7 Z9 X2 P9 L5)::(Ent.obj Q1 (.cells (aTD0 X1.1 Z7 P7 Z8 P8) 26 (0,0)))::H)) f N43 (OkXH.ok (gB n rec_syntax_template hrec_syntax_template _ (GL.mono ((J1.trans J2).trans J3) hG) X3.key _ (⟨X3.v.ab,(X3.v.ah),X3.v.af,X3.v.aa,X3.v.ac,X3.v.ae⟩:TD0) (TD0.shut B9 B10) X6 db K1.2.1 Z10 P10 L6 D7 K1.2.2.1 Z11 P11 L7 D8 K1.t3.1 Z12 P12 L8 D9 K1.t4 Z13 P13 L9 D10 ad2_1 [iL mq] mq (rfl) (bu ((fzu ((J1.trans J2).trans J3) q2_1)) 0 rfl) (.inr X9) l7)) λ_ V5 E_2 W18 J5 N38 q_3 _ f=>?_
        obtain⟨Z16,P17,L10,Z17,P18,L11,Z18,P19,L12,Z19,P20,L13,rfl,rfl,D12,D13,D14,D15⟩:=q_3
        refine ap rfl (dl (M1:=V5) (E:=[oC db #[sL Z16 X9.1 P17,sL Z17 X9.2.1 P18,sL Z18 X9.2.2.1 P19,sL Z19 X9.t3 P20] 41,rO 58 10 Z16 X9.1 P17 L10,rO 61 15 Z17 X9.2.1 P18 L11,rO 66 7 Z18 X9.2.2.1 P19 L12,rO 68 8 Z19 X9.t3 P20 L13]) J5 N38 (dL rfl λW19 N44=>dZ (aK (aA ?_))))
        obtain⟨O1,F15⟩:=nS F14
        refine Y f 1 λ_ f=>?_
        have f:=f.st 58 (iW O1)
        refine Y f 1 λ_ f=>ap rfl ?_
        have N54:=N44.pl [7,7,6,6,6,6,7]
        refine aK ?_
        cases sI F15
        exact⟨⟨I2,(K1.1+1,X9.1,X9.2.1,X9.2.2.1,X9.t3),Z16,P17,L10,Z17,P18,L11,Z18,P19,L12,Z19,P20,L13⟩,Nat.lt_succ_self _,V5,(J3.trans J5),⟨T1,D12,D13,D14,D15⟩,f.kp,(N54.dropN 1)⟩
      ·have f:=f.st 42 (cB B11)
       refine aR f N19 (bw _ (120:Int) X5) kr (λ_=>by kernel_rfl) λV6 W20 J6 N45=>M_p f λ_ f=>cr (nE (cr (cr ?_)))
       cases sI F16
       exact .inl ⟨((120:Int),X5),rfl,(sI T1).symm,V6,(J3.trans J6),f.kp,(N45.dropN 8)⟩
     ·have U8:=aq dI B8
      refine wp_exit (eH (eH ?_))
      cases sI F17
      exact .inr ⟨rfl,(K1.2.1,K1.2.2.1,K1.t3.1,K1.t4),(sI T1).symm,V3,J3,Z10,P10,L6,Z11,P11,L7,Z12,P12,L8,Z13,P13,L9,D7,D8,D9,D10,f.kp,N14⟩
    ·rintro _ _ W23 (⟨G1,rfl,rfl,V7,J7,f,N46⟩|⟨rfl,G2,rfl,V8,J8,Z20,P21,L14,Z21,P22,L15,Z22,P23,L16,Z23,P24,L17,D16,D17,D18,D19,f,N47⟩)
     ·refine nE (ba f ?_)
      cases sI F7
      exact⟨V7,((J1.trans J2).trans J7),N46,rfl⟩
     ·refine kh (dn f rfl ?_)
      cases sI F7
      have N61:=N47.pl [3,3,3,3,6,6,6]
      exact⟨_,rfl,V8,_,((J1.trans J2).trans J8),(N61.dropN 2),⟨Z20,P21,L14,Z21,P22,L15,Z22,P23,L16,Z23,P24,L17,rfl,rfl,D16,D17,D18,D19⟩⟩
   ·have U9:=aq dI B7
    have f:=f.st 30 (cB B7)
    refine aR f N4 (bw _ (3:Int) X1.2.1) kr (λ_=>by kernel_rfl) λV9 W24 J9 N62=>cr (ba f ?_)
    cases sI F18
    exact⟨V9,(J1.trans J9),(N62.dropN 6),rfl⟩
  ·have U10:=aq dI B6
   have f:=f.st 23 (cB B6)
   refine aR f N3 (bw _ (120:Int) X1.2.1) kr (λ_=>by kernel_rfl) λV10 W25 J10 N63=>cr (ba f ?_)
   cases sI F19
   exact⟨V10,(J1.trans J10),(N63.dropN 6),rfl⟩
def dJ (n:Nat) (X1:TD0×Bs×Bool) (X2:List ay) (_:Unit):Option (Lp Unit (Sum (Int×Bs) Unit)):=
    bif(decide ((0:Int)<((X2.length:Nat):Int))) then
     ((aQ X2 (0:Int)).bind λX3=>
     (ce n X3.key).bind λX4=>
     (aL n X1.2.1 X3.key).bind λX5=>
     bif X4 then
      ((aL n X1.2.1 X3.key).bind λX6=>
      none)
     else
      some (.br (.inl ((120:Int),X5))))
    else
     some (.br (.inr ()))
def eE (n:Nat) (d0:Bs) (d1:Int) (aF:List TE0) (aG:List TF0) (aH:List TB0) (aI:List TC0) (d3_f_0:TD0) (d3_f_1:Bs):Option (Sum (Int×Bs) (List TE0×List TF0×List TB0×List TC0)):=
 (bl n d0 d3_f_0 d3_f_1).bind λX1=>
 bif !X1.2.2 then
  (some (.inr (aF,aG,aH,aI)))
 else
  bif(decide (X1.1.ab=5)) then
   (bif(decide (((X1.1.ae.length:Nat):Int)≤d1)) then
    ((cz n X1.1).bind λX2=>
    (aE (dJ n X1 X2) n ()).bind λQ2=>
    (match Q2 with
    |.inl G1=>some (.inl G1)
    |.inr G2=>some (.inr (aF,aG,aH,aI))))
   else
    some (.inl ((3:Int),X1.2.1)))
  else
   some (.inl ((120:Int),X1.2.1))
set_option maxRecDepth 20000 in
theorem gz (n:Nat) (M:Mem) (hG:GL M) (d0:Bs) (d1:Int) (db:Nat) (aF:List TE0) (Z1:Oa) (P1:Nat) (L1:Lv) (D1:ag M (aF.map ck) L1) (aG:List TF0) (Z2:Oa) (P2:Nat) (L2:Lv) (D2:ag M (aG.map bU) L2) (aH:List TB0) (Z3:Oa) (P3:Nat) (L3:Lv) (D3:ag M (aH.map bH) L3) (aI:List TC0) (Z4:Oa) (P4:Nat) (L4:Lv) (D4:ag M (aI.map cj) L4) (ad3_f_0:Addr) (c3_f_0:Lv) (d3_f_0:TD0) (h3_f_0:Rep M (ar d3_f_0) c3_f_0) (q3_f_0: ∀j v,c3_f_0[j]? =some v→M.cell? (ad3_f_0.add j)=some v) (ad3_f_1:Addr) (c3_f_1:Lv) (d3_f_1:Bs) (h3_f_1:Rep M (Dat.str d3_f_1) c3_f_1) (q3_f_1: ∀j v,c3_f_1[j]? =some v→M.cell? (ad3_f_1.add j)=some v) (ad3:Addr) (q3: ∀j v,[(.func (.func 93) #[] #[Pa ad3_f_0,Pa ad3_f_1]:Value)][j]? =some v→M.cell? (ad3.add j)=some v) (r:Sum (Int×Bs) (List TE0×List TF0×List TB0×List TC0)) (hF:eE n d0 d1 aF aG aH aI d3_f_0 d3_f_1=some r):OkXH Tryz.prog M [oC db #[sL Z1 aF P1,sL Z2 aG P2,sL Z3 aH P3,sL Z4 aI P4] 41,rO 58 10 Z1 aF P1 L1,rO 61 15 Z2 aG P2 L2,rO 66 7 Z3 aH P3 L3,rO 68 8 Z4 aI P4 L4] 46 [S d0,iL d1,.func (.func 55) #[] #[pP db],Pa ad3] 78 r (λr=>λM' E' v=>∃ (Z12:Oa) (P13:Nat) (L6:Lv) (Z13:Oa) (P14:Nat) (L7:Lv) (Z14:Oa) (P15:Nat) (L8:Lv) (Z15:Oa) (P16:Nat) (L9:Lv),v=.tuple #[]∧E'=[oC db #[sL Z12 r.1 P13,sL Z13 r.2.1 P14,sL Z14 r.2.2.1 P15,sL Z15 r.t3 P16] 41,rO 58 10 Z12 r.1 P13 L6,rO 61 15 Z13 r.2.1 P14 L7,rO 66 7 Z14 r.2.2.1 P15 L8,rO 68 8 Z15 r.t3 P16 L9]∧ag M' (r.1.map ck) L6∧ag M' (r.2.1.map bU) L7∧ag M' (r.2.2.1.map bH) L8∧ag M' (r.t3.map cj) L9):=by
 unfold eE at hF
 intro M1 hM0 w0 H w p0
 replace hG:=GL.mono hM0 hG
 replace D1:=ag.mono hM0 _ _ D1
 replace D2:=ag.mono hM0 _ _ D2
 replace D3:=ag.mono hM0 _ _ D3
 replace D4:=ag.mono hM0 _ _ D4
 replace h3_f_0:=Rep.mono hM0 _ _ h3_f_0
 replace q3_f_0:=λj v h=>hM0.cell (q3_f_0 j v h)
 replace h3_f_1:=Rep.mono hM0 _ _ h3_f_1
 replace q3_f_1:=λj v h=>hM0.cell (q3_f_1 j v h)
 replace q3:=λj v h=>hM0.cell (q3 j v h)
 obtain⟨Z5,P5,Z6,P6,rfl,B1,B2⟩:=TD0.opn h3_f_0
 obtain rfl:c3_f_1=[S d3_f_1]:=h3_f_1
 refine Re 59 Tryz.func46 rfl λa0 f0=>RR (Y16 f0 p0 q3 0 rfl λ_ f=>Y f 1 λ_ f=>?_)
 obtain⟨X1,l1,F1⟩:=bS hF
 refine Y17 f p0 (bi n _ hG d0 ad3_f_0 (lTD0 d3_f_0 Z5 P5 Z6 P6) d3_f_0 (TD0.shutx (x:=d3_f_0) B1 B2) (bu (q3_f_0) 0 rfl) ad3_f_1 [S d3_f_1] d3_f_1 (rfl) (bu (q3_f_1) 0 rfl) X1 l1) λ_ V1 W1 J1 N1 ej _ f=>?_
 obtain⟨cZ,rfl,D5⟩:=ej
 obtain⟨Z7,P7,Z8,P8,rfl,B3,B4⟩:=TD0.opn D5
 refine Y f 4 λ_ f=>Y13 f N1 (.cells #[iB 0,bO false,iL 0,S [],Sn,Sn] 26 (0,0)) λQ1 W2 N2 _ f=>Ys (lTD0 X1.1 Z7 P7 Z8 P8) (aTD0 X1.1 Z7 P7 Z8 P8) f N2 rfl rfl λW3 N3 _ f=>Ye f 2 λ_ f=>an (RR (Ye f 2 λ_ f=>RcF f F1 (λB5 F2=>?_) λB5 F3=>?_))
 ·have U1: (X1.2.2)=false:=by simpa using B5
  refine wp_ret (bC (E_ret0 f rfl ?_))
  cases sI F2
  exact⟨_,rfl,V1,_,J1,(N3.dropN 1),⟨Z1,P1,L1,Z2,P2,L2,Z3,P3,L3,Z4,P4,L4,rfl,rfl,(ag.mono J1 _ _ D1),(ag.mono J1 _ _ D2),(ag.mono J1 _ _ D3),(ag.mono J1 _ _ D4)⟩⟩
 ·have U2: (X1.2.2)=true:=by simpa using B5
  refine St (RR (Y f 1 λ_ f=>Z f (Y31 (v:=iB X1.1.ab) rfl (ad:=⟨Q1,0,none⟩) (N3.ownCell 0 rfl 0)) λ_ f=>Y f 2 λ_ f=>?_))
  rcases cE F3 with⟨B6,F4⟩|⟨B6,F17⟩
  ·have U3:=dI.1 B6
   have f:=f.st 23 (cB B6)
   refine Y19 f N3 (bk _ (120:Int) X1.2.1) λW4 N4 _ f=>eT (RR (Y f 1 λ_ f=>Z f (Y31 (v:=sL Z8 X1.1.ae P8) rfl (ad:=⟨Q1,5,none⟩) (N4.ownCell 0 rfl 5)) λ_ f=>Y f 4 λ_ f=>?_))
   rcases cE F4 with⟨B7,F5⟩|⟨B7,F16⟩
   ·have U4:=dI.1 B7
    have f:=f.st 30 (cB B7)
    refine Y19 f N4 (bk _ (3:Int) X1.2.1) λW5 N5 _ f=>eT (RR (Z f (Y32 (cs:=(lTD0 X1.1 Z7 P7 Z8 P8)) rfl (ad:=⟨Q1,0,none⟩) (am (N5.ownCell 0 rfl) 0 rfl)) λ_ f=>?_))
    obtain⟨X2,l2,F6⟩:=bS F5
    refine Y18 (E:=[]) (H:=((Ent.obj Q1 (.cells (aTD0 X1.1 Z7 P7 Z8 P8) 26 (0,0)))::(oC db #[sL Z1 aF P1,sL Z2 aG P2,sL Z3 aH P3,sL Z4 aI P4] 41)::(rO 58 10 Z1 aF P1 L1)::(rO 61 15 Z2 aG P2 L2)::(rO 66 7 Z3 aH P3 L3)::(rO 68 8 Z4 aI P4 L4)::H)) f N5 (cJ n _ (GL.mono J1 hG) _ X1.1 (TD0.shutx (x:=X1.1) B3 B4) X2 l2) λ_ V2 mo W6 J2 N6 jk _ f=>?_
    obtain⟨Z9,P9,L5,rfl,rfl,D6⟩:=jk
    refine Ye f 2 λ_ f=>wp_block ?_
    obtain⟨Q2,co,F7⟩:=bS F6
    refine wp_mono (Q:=λe a w=>(∃G1:Int×Bs,e=.panic (flawE 78 G1)∧Q2=.inl G1∧∃V5:Mem,V2.le V5∧Frm 59 [] a∧Hp w0 V5 (H) w)∨(e=.exit 0∧(∃G2:Unit,Q2=.inr G2∧∃V6:Mem,V2.le V6∧Frm 59 [] a∧Hp w0 V6 ((rO 99 7 Z9 X2 P9 L5)::(Ent.obj Q1 (.cells (aTD0 X1.1 Z7 P7 Z8 P8) 26 (0,0)))::(oC db #[sL Z1 aF P1,sL Z2 aG P2,sL Z3 aH P3,sL Z4 aI P4] 41)::(rO 58 10 Z1 aF P1 L1)::(rO 61 15 Z2 aG P2 L2)::(rO 66 7 Z3 aH P3 L3)::(rO 68 8 Z4 aI P4 L4)::H) w))) (bT (n:=59) (w0:=w0) (M:=V2) (λ (I1,K1)=>[(2,.func (.func 55) #[] #[pP db]),(8,S X1.2.1),(34,sL Z9 X2 P9),(35,iL ((X2.length:Nat):Int)),(36,iL 0)]) (λ (I1,K1)=>((rO 99 7 Z9 X2 P9 L5)::(Ent.obj Q1 (.cells (aTD0 X1.1 Z7 P7 Z8 P8) 26 (0,0)))::(oC db #[sL Z1 aF P1,sL Z2 aG P2,sL Z3 aH P3,sL Z4 aI P4] 41)::(rO 58 10 Z1 aF P1 L1)::(rO 61 15 Z2 aG P2 L2)::(rO 66 7 Z3 aH P3 L3)::(rO 68 8 Z4 aI P4 L4)::H)) (λ (I1,K1) MM=>aE (dJ n X1 X2) I1 K1=some Q2) (λ (I1,K1)=>I1) (n,()) (f.kp) N6 co ?_) ?_
    ·rintro⟨I1,K1⟩ V3 _ W7 J3 gM f N7
     have cu:=gM
     obtain⟨I2,lO,rfl,bx,T1⟩:=aZ cu
     unfold dJ at bx
     refine RR (Ye f 1 λ_ f=>an (RcF f bx (λB8 F8=>?_) λB8 F15=>?_))
     ·have U5:=dI.1 B8
      refine St (an (wp_block (RR ?_)))
      obtain⟨X3,l3,F9⟩:=bS F8
      obtain⟨Q3,P10,H1,lI⟩:=N7.rowAddr 0 rfl (bJ l3)
      have f:=f.st 34 (H1)
      refine Z f (Y29 rfl (ad:=⟨Q3,0,none⟩) (len:=X2.length) (cap:=P10) (k:=.i64) (i:=(0:Int)) (e:=99) (sz:=7) (ax l3) (aw l3)) λ_ f=>?_
      have f:=f.st 34 (H1.symm)
      obtain⟨gW,-,D7,R1⟩:=ag.get (0:Int).toNat (eW cq) (ag.mono J3 _ _ D6) (ip l3)
      obtain⟨Z10,P11,Z11,P12,rfl,B9,B10⟩:=ay.opn D7
      refine Z f (Y32 (cs:=[S X3.key,iB X3.v.ab,bO X3.v.ah,iL X3.v.af,S X3.v.aa,sL Z10 X3.v.ac P11,sL Z11 X3.v.ae P12]) rfl (ad:=(⟨Q3,0,none⟩:Addr).add ((0:Int).toNat*7)) (λj v h=>kP (N7.rowCell 0 rfl H1) R1 j v h)) λ_ f=>Y13 f N7 (.cells #[S [],iB 0,bO false,iL 0,S [],Sn,Sn] 99 (0,0)) λQ4 W8 N8 _ f=>Ys [S X3.key,iB X3.v.ab,bO X3.v.ah,iL X3.v.af,S X3.v.aa,sL Z10 X3.v.ac P11,sL Z11 X3.v.ae P12] #[S X3.key,iB X3.v.ab,bO X3.v.ah,iL X3.v.af,S X3.v.aa,sL Z10 X3.v.ac P11,sL Z11 X3.v.ae P12] f N8 rfl rfl λW9 N9 _ f=>eT (an (dp (E:=[]) (Hr:=((oC Q4 #[S X3.key,iB X3.v.ab,bO X3.v.ah,iL X3.v.af,S X3.v.aa,sL Z10 X3.v.ac P11,sL Z11 X3.v.ae P12] 99)::(rO 99 7 Z9 X2 P9 L5)::(Ent.obj Q1 (.cells (aTD0 X1.1 Z7 P7 Z8 P8) 26 (0,0)))::(oC db #[sL Z1 aF P1,sL Z2 aG P2,sL Z3 aH P3,sL Z4 aI P4] 41)::(rO 58 10 Z1 aF P1 L1)::(rO 61 15 Z2 aG P2 L2)::(rO 66 7 Z3 aH P3 L3)::(rO 68 8 Z4 aI P4 L4)::H)) [(0,true),(1,true),(2,true),(3,true),(4,true),(5,true),(6,true),(7,false)] N9 kr kr rfl kr (Y0 default f 1 λ_ f=>bz (v:=S X3.key) f kr kr rfl rfl (λ_ pq=>Y31 (v:=S X3.key) rfl (ad:=⟨Q4,0,none⟩) (pq.ownCell 0 rfl 0)) λ_ f=>?_)))
      obtain⟨X4,l4,F10⟩:=bS F9
      refine dM (v:=bO X4) f kr kr rfl rfl (λ_=>by kernel_rfl) (bZ n _ X3.key X4 l4) λ_ f=>Y0 default f 2 λ_ f=>bz (v:=S X3.key) f kr kr rfl rfl (λ_ pq=>Y31 (v:=S X3.key) rfl (ad:=⟨Q4,0,none⟩) (pq.ownCell 0 rfl 0)) λ_ f=>?_
      obtain⟨X5,l5,F11⟩:=bS F10
      refine dM (v:=S X5) f kr kr rfl rfl (λ_=>by kernel_rfl) (aJ n _ (GL.mono ((J1.trans J2).trans J3) hG) X1.2.1 X3.key X5 l5) λ_ f=>bL (E:=[]) λW12 N12=>?_
      rcases cE F11 with⟨B11,F12⟩|⟨B11,F14⟩
      ·have f:=f.st 42 (cB B11)
       refine Y19 f N12 (bk _ (120:Int) X5) λW13 N13 _ f=>ap rfl (dl (M1:=V3) (E:=[]) (mR _) N13 (dL rfl λW14 N14=>aK (dp (E:=[]) (Hr:=((oC Q4 #[S X3.key,iB X3.v.ab,bO X3.v.ah,iL X3.v.af,S X3.v.aa,sL Z10 X3.v.ac P11,sL Z11 X3.v.ae P12] 99)::(rO 99 7 Z9 X2 P9 L5)::(Ent.obj Q1 (.cells (aTD0 X1.1 Z7 P7 Z8 P8) 26 (0,0)))::(oC db #[sL Z1 aF P1,sL Z2 aG P2,sL Z3 aH P3,sL Z4 aI P4] 41)::(rO 58 10 Z1 aF P1 L1)::(rO 61 15 Z2 aG P2 L2)::(rO 66 7 Z3 aH P3 L3)::(rO 68 8 Z4 aI P4 L4)::H)) [(0,true),(1,true),(2,true),(3,true),(4,true),(5,true),(6,true),(7,true),(8,true),(9,false)] N14 kr kr rfl kr (Y0 default f 2 λ_ f=>bz (v:=S X3.key) f kr kr rfl rfl (λ_ pq=>Y31 (v:=S X3.key) rfl (ad:=⟨Q4,0,none⟩) (pq.ownCell 0 rfl 0)) λ_ f=>Y0 default f 1 λ_ f=>bz (v:=.agg (aTD0 X3.v Z10 P11 Z11 P12)) f kr kr rfl rfl (λ_ pq=>Y32 (cs:=(lTD0 X3.v Z10 P11 Z11 P12)) rfl (ad:=⟨Q4,1,none⟩) (am (pq.ownCell 0 rfl) 1 rfl)) λ_ f=>Y0 default f 2 λ_ f=>bz (v:=S X3.key) f kr kr rfl rfl (λ_ pq=>Y31 (v:=S X3.key) rfl (ad:=⟨Q4,0,none⟩) (pq.ownCell 0 rfl 0)) λ_ f=>?_))))
       obtain⟨X6,l6,F13⟩:=bS F12
       refine dM (v:=S X6) f kr kr rfl rfl (λ_=>by kernel_rfl) (aJ n _ (GL.mono ((J1.trans J2).trans J3) hG) X1.2.1 X3.key X6 l6) λ_ f=>bL (E:=[]) λW16 N16=>?_
       cases F13
      ·have f:=f.st 42 (cB B11)
       refine aR f N12 (bw _ (120:Int) X5) kr (λ_=>by kernel_rfl) λV4 W17 J4 N17=>M_p f λ_ f=>cr (nE (cr (cr ?_)))
       cases sI F14
       exact .inl ⟨((120:Int),X5),rfl,(sI T1).symm,V4,(J3.trans J4),f.kp,(N17.dropN 8)⟩
     ·have U8:=aq dI B8
      refine wp_exit (eH (eH ?_))
      cases sI F15
      exact .inr ⟨rfl,(),(sI T1).symm,V3,J3,f.kp,N7⟩
    ·rintro _ _ W20 (⟨G1,rfl,rfl,V5,J5,f,N18⟩|⟨rfl,G2,rfl,V6,J6,f,N19⟩)
     ·refine nE (ba f ?_)
      cases sI F7
      exact⟨V5,((J1.trans J2).trans J5),N18,rfl⟩
     ·refine kh (dn f rfl ?_)
      cases sI F7
      exact⟨_,rfl,V6,_,((J1.trans J2).trans J6),(N19.dropN 2),⟨Z1,P1,L1,Z2,P2,L2,Z3,P3,L3,Z4,P4,L4,rfl,rfl,(ag.mono ((J1.trans J2).trans J6) _ _ D1),(ag.mono ((J1.trans J2).trans J6) _ _ D2),(ag.mono ((J1.trans J2).trans J6) _ _ D3),(ag.mono ((J1.trans J2).trans J6) _ _ D4)⟩⟩
   ·have U9:=aq dI B7
    have f:=f.st 30 (cB B7)
    refine aR f N4 (bw _ (3:Int) X1.2.1) kr (λ_=>by kernel_rfl) λV7 W21 J7 N20=>cr (ba f ?_)
    cases sI F16
    exact⟨V7,(J1.trans J7),(N20.dropN 6),rfl⟩
  ·have U10:=aq dI B6
   have f:=f.st 23 (cB B6)
   refine aR f N3 (bw _ (120:Int) X1.2.1) kr (λ_=>by kernel_rfl) λV8 W22 J8 N21=>cr (ba f ?_)
   cases sI F17
   exact⟨V8,(J1.trans J8),(N21.dropN 6),rfl⟩
def gC (n:Nat) (rec_syntax_template:TD0→Bs→Int→Option (Sum (Int×Bs) TA0)) (d0:TD0) (d1:Bs) (d2:Int):Option (Sum (Int×Bs) TA0):=
 (eQ n d0 d1 ([[80,97,114,97,109,101,116,101,114,115],[67,111,110,100,105,116,105,111,110,115],[82,101,115,111,117,114,99,101,115],[79,117,116,112,117,116,115]]:List Bs)).bind λX1=>
 (match X1 with
 |.inl X2=>some (.inl X2)
 |.inr X3=>(gx n [80,97,114,97,109,101,116,101,114,115] (6:Int) ([]:List TE0) ([]:List TF0) ([]:List TB0) ([]:List TC0) X3.1 X3.2).bind λX4=>
  (match X4 with
  |.inl X5=>some (.inl X5)
  |.inr X6=>(eD n [67,111,110,100,105,116,105,111,110,115] (6:Int) X6.1 X6.2.1 X6.2.2.1 X6.2.2.2 X3.1 X3.2).bind λX7=>
   (match X7 with
   |.inl X8=>some (.inl X8)
   |.inr X9=>(eF n rec_syntax_template [82,101,115,111,117,114,99,101,115] (8:Int) X9.1 X9.2.1 X9.2.2.1 X9.2.2.2 d2 X3.1 X3.2).bind λX10=>
    (match X10 with
    |.inl X11=>some (.inl X11)
    |.inr X12=>(eE n [79,117,116,112,117,116,115] (6:Int) X12.1 X12.2.1 X12.2.2.1 X12.2.2.2 X3.1 X3.2).bind λX13=>
     (match X13 with
     |.inl X14=>some (.inl X14)
     |.inr X15=>some (.inr (⟨X15.1,X15.2.1,X15.2.2.1,X15.2.2.2⟩:TA0)))))))
set_option maxRecDepth 20000 in
theorem kd (n:Nat) (rec_syntax_template:TD0→Bs→Int→Option (Sum (Int×Bs) TA0)) (hrec_syntax_template: ∀ (M:Mem) (hG:GL M) (c0:Lv) (d0:TD0) (h0:Rep M (ar d0) c0) (d1:Bs) (d2:Int) (r:Sum (Int×Bs) TA0) (hF:rec_syntax_template d0 d1 d2=some r),OkX Tryz.prog M 23 [.agg c0.toArray,S d1,iL d2] 78 r (λr=>λM' v=>∃ (c0:Lv),v=.agg c0.toArray∧Rep M' (cc r) c0)) (M:Mem) (hG:GL M) (c0:Lv) (d0:TD0) (h0:Rep M (ar d0) c0) (d1:Bs) (d2:Int) (r:Sum (Int×Bs) TA0) (hF:gC n rec_syntax_template d0 d1 d2=some r):OkX Tryz.prog M 23 [.agg c0.toArray,S d1,iL d2] 78 r (λr=>λM' v=>∃ (c0:Lv),v=.agg c0.toArray∧Rep M' (cc r) c0):=by
 unfold gC at hF
 intro M1 hM0 w0 H w p0
 replace hG:=GL.mono hM0 hG
 replace h0:=Rep.mono hM0 _ _ h0
 obtain⟨Z1,P1,Z2,P2,rfl,B1,B2⟩:=TD0.opn h0
 refine Re 27 Tryz.func23 rfl λa0 f0=>RR (Y14 (cs:=(aTD0 d0 Z1 P1 Z2 P2)) (T:=26) f0 p0 λQ1 V1 W1 J1 R1 N1 _ f=>?_)
 have R2:=bj R1
 refine Y14 (cs:=#[iL d2]) (T:=3) f N1 λQ2 V2 W2 J2 R3 N2 _ f=>?_
 have R4:=bj R3
 refine Y13 f N2 (.cells #[Sn,Sn,Sn,Sn] 41 (0,0)) λQ3 W3 N3 _ f=>eT (RR (Z f (Y32 (cs:=(lTD0 d0 Z1 P1 Z2 P2)) rfl (ad:=⟨Q1,0,none⟩) (λj v h=>N3.cell ((fzu J2 R2) j v h))) λ_ f=>Y f 1 λ_ f=>aP (k:=4) (c:=4) f N3 (.cells #[S [80,97,114,97,109,101,116,101,114,115],S [67,111,110,100,105,116,105,111,110,115],S [82,101,115,111,117,114,99,101,115],S [79,117,116,112,117,116,115]] 9 (0,0)) kr (λ_=>by kernel_rfl) λQ4 W4 N4 _ f=>?_))
 have D1:ag V2 (([[80,97,114,97,109,101,116,101,114,115],[67,111,110,100,105,116,105,111,110,115],[82,101,115,111,117,114,99,101,115],[79,117,116,112,117,116,115]]:List Bs).map Dat.str) [S [80,97,114,97,109,101,116,101,114,115],S [67,111,110,100,105,116,105,111,110,115],S [82,101,115,111,117,114,99,101,115],S [79,117,116,112,117,116,115]]:=⟨_,_,rfl,rfl,⟨_,_,rfl,rfl,⟨_,_,rfl,rfl,⟨_,_,rfl,rfl,rfl⟩⟩⟩⟩
 have N5:Hp w0 V2 ((Ent.row 9 1 (.slice (some ⟨Q4,0,none⟩) 4 4) ([[80,97,114,97,109,101,116,101,114,115],[67,111,110,100,105,116,105,111,110,115],[82,101,115,111,117,114,99,101,115],[79,117,116,112,117,116,115]]:List Bs).length [S [80,97,114,97,109,101,116,101,114,115],S [67,111,110,100,105,116,105,111,110,115],S [82,101,115,111,117,114,99,101,115],S [79,117,116,112,117,116,115]])::(oC Q3 #[Sn,Sn,Sn,Sn] 41)::H) W4:=N4.objRow (n:=4) (cap:=4) (size:=1) (by decide) (by decide) (dq (by decide) rfl) rfl rfl
 obtain⟨Z3,P3,V3,H1,J3,N6,B3⟩:=N5.rowSli (f:=Dat.str) (xs:=([[80,97,114,97,109,101,116,101,114,115],[67,111,110,100,105,116,105,111,110,115],[82,101,115,111,117,114,99,101,115],[79,117,116,112,117,116,115]]:List Bs)) bX D1
 have f:=f.st 11 (H1)
 obtain⟨X1,l1,F1⟩:=bS hF
 rcases X1 with X2|X3
 ·refine aR f N6 (cX n _ (GL.mono ((J1.trans J2).trans J3) hG) _ d0 (TD0.shutx (x:=d0) (B1.mono ((J1.trans J2).trans J3)) (B2.mono ((J1.trans J2).trans J3))) d1 Z3 P3 ([[80,97,114,97,109,101,116,101,114,115],[67,111,110,100,105,116,105,111,110,115],[82,101,115,111,117,114,99,101,115],[79,117,116,112,117,116,115]]:List Bs) B3 (.inl X2) l1) kr (λ_=>by kernel_rfl) λV4 W5 J4 N7=>cr (ba f ?_)
  cases sI F1
  exact⟨V4,(((J1.trans J2).trans J3).trans J4),(N7.dropN 1),rfl⟩
 ·refine Y17 f N6 (OkX.ok (cX n _ (GL.mono ((J1.trans J2).trans J3) hG) _ d0 (TD0.shutx (x:=d0) (B1.mono ((J1.trans J2).trans J3)) (B2.mono ((J1.trans J2).trans J3))) d1 Z3 P3 ([[80,97,114,97,109,101,116,101,114,115],[67,111,110,100,105,116,105,111,110,115],[82,101,115,111,117,114,99,101,115],[79,117,116,112,117,116,115]]:List Bs) B3 (.inr X3) l1)) λ_ V5 W6 J5 N8 ej _ f=>?_
  obtain⟨C1,cZ,C2,gW,rfl,D2,dC,D3,eZ⟩:=ej
  obtain⟨Z4,P4,Z5,P5,rfl,B4,B5⟩:=TD0.opn D2
  obtain rfl:gW=[S X3.2]:=D3
  refine Y13 f N8 (.cells #[.nilFunc] 92 (0,0)) λQ5 W7 N9 _ f=>Y26 f N9 0 rfl rfl (b:=Q5) (j:=0) (v:=.func (.func 93) #[] #[Pa C1,Pa C2]) rfl (by exact rfl) (by simp) (by simp) _ rfl λW8 N10 _ f=>?_
  obtain⟨V6,J6,N11,R5⟩:=N10.fzOwn
  refine eT (RR (Ye f 2 λ_ f=>RR (Y f 2 λ_ f=>?_)))
  obtain⟨Z6,P6,H2⟩: ∃A cap,Value.slice none 0 0=.slice A ([]:List TE0).length cap:=⟨none,0,rfl⟩
  have N12:Hp w0 V6 ((Ent.row 58 10 (.slice Z6 ([]:List TE0).length P6) ([]:List TE0).length [])::(Ent.obj Q3 (.cells #[.slice Z6 ([]:List TE0).length P6,.slice none 0 0,.slice none 0 0,.slice none 0 0] 41 (0,0)))::H) W8:=by rw[←H2];exact N11.nilRow 58 10
  have D4:ag V6 (([]:List TE0).map ck) []:=rfl
  obtain⟨Z7,P7,H3⟩: ∃A cap,Value.slice none 0 0=.slice A ([]:List TF0).length cap:=⟨none,0,rfl⟩
  have N13:Hp w0 V6 ((Ent.row 61 15 (.slice Z7 ([]:List TF0).length P7) ([]:List TF0).length [])::(Ent.row 58 10 (.slice Z6 ([]:List TE0).length P6) ([]:List TE0).length [])::(Ent.obj Q3 (.cells #[.slice Z6 ([]:List TE0).length P6,.slice Z7 ([]:List TF0).length P7,.slice none 0 0,.slice none 0 0] 41 (0,0)))::H) W8:=by rw[←H3];exact N12.nilRow 61 15
  have D5:ag V6 (([]:List TF0).map bU) []:=rfl
  obtain⟨Z8,P8,H4⟩: ∃A cap,Value.slice none 0 0=.slice A ([]:List TB0).length cap:=⟨none,0,rfl⟩
  have N14:Hp w0 V6 ((Ent.row 66 7 (.slice Z8 ([]:List TB0).length P8) ([]:List TB0).length [])::(Ent.row 61 15 (.slice Z7 ([]:List TF0).length P7) ([]:List TF0).length [])::(Ent.row 58 10 (.slice Z6 ([]:List TE0).length P6) ([]:List TE0).length [])::(Ent.obj Q3 (.cells #[.slice Z6 ([]:List TE0).length P6,.slice Z7 ([]:List TF0).length P7,.slice Z8 ([]:List TB0).length P8,.slice none 0 0] 41 (0,0)))::H) W8:=by rw[←H4];exact N13.nilRow 66 7
  have D6:ag V6 (([]:List TB0).map bH) []:=rfl
  obtain⟨Z9,P9,H5⟩: ∃A cap,Value.slice none 0 0=.slice A ([]:List TC0).length cap:=⟨none,0,rfl⟩
  have N15:Hp w0 V6 ((Ent.row 68 8 (.slice Z9 ([]:List TC0).length P9) ([]:List TC0).length [])::(Ent.row 66 7 (.slice Z8 ([]:List TB0).length P8) ([]:List TB0).length [])::(Ent.row 61 15 (.slice Z7 ([]:List TF0).length P7) ([]:List TF0).length [])::(Ent.row 58 10 (.slice Z6 ([]:List TE0).length P6) ([]:List TE0).length [])::(Ent.obj Q3 (.cells #[.slice Z6 ([]:List TE0).length P6,.slice Z7 ([]:List TF0).length P7,.slice Z8 ([]:List TB0).length P8,.slice Z9 ([]:List TC0).length P9] 41 (0,0)))::H) W8:=by rw[←H5];exact N14.nilRow 68 8
  have D7:ag V6 (([]:List TC0).map cj) []:=rfl
  obtain⟨X4,l2,F2⟩:=bS F1
  rcases X4 with X5|X6
  ·have N20:=N15.pl [1,2,3,4]
   refine gi (E:=[oC Q3 #[sL Z6 ([]:List TE0) P6,sL Z7 ([]:List TF0) P7,sL Z8 ([]:List TB0) P8,sL Z9 ([]:List TC0) P9] 41,rO 58 10 Z6 ([]:List TE0) P6 [],rO 61 15 Z7 ([]:List TF0) P7 [],rO 66 7 Z8 ([]:List TB0) P8 [],rO 68 8 Z9 ([]:List TC0) P9 []]) (H:=(H)) f N20 (gU n _ (GL.mono ((((J1.trans J2).trans J3).trans J5).trans J6) hG) [80,97,114,97,109,101,116,101,114,115] (6:Int) Q3 ([]:List TE0) Z6 P6 [] D4 ([]:List TF0) Z7 P7 [] D5 ([]:List TB0) Z8 P8 [] D6 ([]:List TC0) Z9 P9 [] D7 C1 (lTD0 X3.1 Z4 P4 Z5 P5) X3.1 (TD0.shutx (x:=X3.1) (B4.mono J6) (B5.mono J6)) (bu (fzu J6 dC) 0 rfl) C2 [S X3.2] X3.2 (rfl) (bu (fzu J6 eZ) 0 rfl) (⟨Q5,0,none⟩) (R5) (.inl X5) l2) kr (λ_=>by kernel_rfl) λV7 W9 J7 N16=>cr (ba f ?_)
   cases sI F2
   exact⟨V7,(((((J1.trans J2).trans J3).trans J5).trans J6).trans J7),N16,rfl⟩
  ·have N25:=N15.pl [1,2,3,4]
   refine Y18 (E:=[oC Q3 #[sL Z6 ([]:List TE0) P6,sL Z7 ([]:List TF0) P7,sL Z8 ([]:List TB0) P8,sL Z9 ([]:List TC0) P9] 41,rO 58 10 Z6 ([]:List TE0) P6 [],rO 61 15 Z7 ([]:List TF0) P7 [],rO 66 7 Z8 ([]:List TB0) P8 [],rO 68 8 Z9 ([]:List TC0) P9 []]) (H:=(H)) f N25 (OkXH.ok (gU n _ (GL.mono ((((J1.trans J2).trans J3).trans J5).trans J6) hG) [80,97,114,97,109,101,116,101,114,115] (6:Int) Q3 ([]:List TE0) Z6 P6 [] D4 ([]:List TF0) Z7 P7 [] D5 ([]:List TB0) Z8 P8 [] D6 ([]:List TC0) Z9 P9 [] D7 C1 (lTD0 X3.1 Z4 P4 Z5 P5) X3.1 (TD0.shutx (x:=X3.1) (B4.mono J6) (B5.mono J6)) (bu (fzu J6 dC) 0 rfl) C2 [S X3.2] X3.2 (rfl) (bu (fzu J6 eZ) 0 rfl) (⟨Q5,0,none⟩) (R5) (.inr X6) l2)) λ_ V8 mo W10 J8 N21 jk _ f=>?_
   obtain⟨Z10,P10,L1,Z11,P11,L2,Z12,P12,L3,Z13,P13,L4,rfl,rfl,D8,D9,D10,D11⟩:=jk
   refine eT (RR (Y f 2 λ_ f=>?_))
   obtain⟨X7,l3,F3⟩:=bS F2
   rcases X7 with X8|X9
   ·refine gi (E:=[oC Q3 #[sL Z10 X6.1 P10,sL Z11 X6.2.1 P11,sL Z12 X6.2.2.1 P12,sL Z13 X6.t3 P13] 41,rO 58 10 Z10 X6.1 P10 L1,rO 61 15 Z11 X6.2.1 P11 L2,rO 66 7 Z12 X6.2.2.1 P12 L3,rO 68 8 Z13 X6.t3 P13 L4]) (H:=(H)) f N21 (gy n _ (GL.mono (((((J1.trans J2).trans J3).trans J5).trans J6).trans J8) hG) [67,111,110,100,105,116,105,111,110,115] (6:Int) Q3 X6.1 Z10 P10 L1 D8 X6.2.1 Z11 P11 L2 D9 X6.2.2.1 Z12 P12 L3 D10 X6.t3 Z13 P13 L4 D11 C1 (lTD0 X3.1 Z4 P4 Z5 P5) X3.1 (TD0.shutx (x:=X3.1) (B4.mono (J6.trans J8)) (B5.mono (J6.trans J8))) (bu ((fzu (J6.trans J8) dC)) 0 rfl) C2 [S X3.2] X3.2 (rfl) (bu ((fzu (J6.trans J8) eZ)) 0 rfl) (⟨Q5,0,none⟩) (fzu J8 R5) (.inl X8) l3) kr (λ_=>by kernel_rfl) λV9 W11 J9 N26=>cr (ba f ?_)
    cases sI F3
    exact⟨V9,((((((J1.trans J2).trans J3).trans J5).trans J6).trans J8).trans J9),N26,rfl⟩
   ·refine Y18 (E:=[oC Q3 #[sL Z10 X6.1 P10,sL Z11 X6.2.1 P11,sL Z12 X6.2.2.1 P12,sL Z13 X6.t3 P13] 41,rO 58 10 Z10 X6.1 P10 L1,rO 61 15 Z11 X6.2.1 P11 L2,rO 66 7 Z12 X6.2.2.1 P12 L3,rO 68 8 Z13 X6.t3 P13 L4]) (H:=(H)) f N21 (OkXH.ok (gy n _ (GL.mono (((((J1.trans J2).trans J3).trans J5).trans J6).trans J8) hG) [67,111,110,100,105,116,105,111,110,115] (6:Int) Q3 X6.1 Z10 P10 L1 D8 X6.2.1 Z11 P11 L2 D9 X6.2.2.1 Z12 P12 L3 D10 X6.t3 Z13 P13 L4 D11 C1 (lTD0 X3.1 Z4 P4 Z5 P5) X3.1 (TD0.shutx (x:=X3.1) (B4.mono (J6.trans J8)) (B5.mono (J6.trans J8))) (bu ((fzu (J6.trans J8) dC)) 0 rfl) C2 [S X3.2] X3.2 (rfl) (bu ((fzu (J6.trans J8) eZ)) 0 rfl) (⟨Q5,0,none⟩) (fzu J8 R5) (.inr X9) l3)) λ_ V10 E_2 W12 J10 N27 q_3 _ f=>?_
    obtain⟨Z14,P14,L5,Z15,P15,L6,Z16,P16,L7,Z17,P17,L8,rfl,rfl,D12,D13,D14,D15⟩:=q_3
    refine eT (RR (Y f 2 λ_ f=>?_))
    obtain⟨X10,l4,F4⟩:=bS F3
    rcases X10 with X11|X12
    ·refine gi (E:=[oC Q3 #[sL Z14 X9.1 P14,sL Z15 X9.2.1 P15,sL Z16 X9.2.2.1 P16,sL Z17 X9.t3 P17] 41,rO 58 10 Z14 X9.1 P14 L5,rO 61 15 Z15 X9.2.1 P15 L6,rO 66 7 Z16 X9.2.2.1 P16 L7,rO 68 8 Z17 X9.t3 P17 L8]) (H:=(H)) f N27 (gA n rec_syntax_template hrec_syntax_template _ (GL.mono ((((((J1.trans J2).trans J3).trans J5).trans J6).trans J8).trans J10) hG) [82,101,115,111,117,114,99,101,115] (8:Int) Q3 X9.1 Z14 P14 L5 D12 X9.2.1 Z15 P15 L6 D13 X9.2.2.1 Z16 P16 L7 D14 X9.t3 Z17 P17 L8 D15 (⟨Q2,0,none⟩) [iL d2] d2 (rfl) (bu ((fzu ((((J3.trans J5).trans J6).trans J8).trans J10) R4)) 0 rfl) C1 (lTD0 X3.1 Z4 P4 Z5 P5) X3.1 (TD0.shutx (x:=X3.1) (B4.mono ((J6.trans J8).trans J10)) (B5.mono ((J6.trans J8).trans J10))) (bu ((fzu ((J6.trans J8).trans J10) dC)) 0 rfl) C2 [S X3.2] X3.2 (rfl) (bu ((fzu ((J6.trans J8).trans J10) eZ)) 0 rfl) (⟨Q5,0,none⟩) ((fzu (J8.trans J10) R5)) (.inl X11) l4) kr (λ_=>by kernel_rfl) λV11 W13 J11 N28=>cr (ba f ?_)
     cases sI F4
     exact⟨V11,(((((((J1.trans J2).trans J3).trans J5).trans J6).trans J8).trans J10).trans J11),N28,rfl⟩
    ·refine Y18 (E:=[oC Q3 #[sL Z14 X9.1 P14,sL Z15 X9.2.1 P15,sL Z16 X9.2.2.1 P16,sL Z17 X9.t3 P17] 41,rO 58 10 Z14 X9.1 P14 L5,rO 61 15 Z15 X9.2.1 P15 L6,rO 66 7 Z16 X9.2.2.1 P16 L7,rO 68 8 Z17 X9.t3 P17 L8]) (H:=(H)) f N27 (OkXH.ok (gA n rec_syntax_template hrec_syntax_template _ (GL.mono ((((((J1.trans J2).trans J3).trans J5).trans J6).trans J8).trans J10) hG) [82,101,115,111,117,114,99,101,115] (8:Int) Q3 X9.1 Z14 P14 L5 D12 X9.2.1 Z15 P15 L6 D13 X9.2.2.1 Z16 P16 L7 D14 X9.t3 Z17 P17 L8 D15 (⟨Q2,0,none⟩) [iL d2] d2 (rfl) (bu ((fzu ((((J3.trans J5).trans J6).trans J8).trans J10) R4)) 0 rfl) C1 (lTD0 X3.1 Z4 P4 Z5 P5) X3.1 (TD0.shutx (x:=X3.1) (B4.mono ((J6.trans J8).trans J10)) (B5.mono ((J6.trans J8).trans J10))) (bu ((fzu ((J6.trans J8).trans J10) dC)) 0 rfl) C2 [S X3.2] X3.2 (rfl) (bu ((fzu ((J6.trans J8).trans J10) eZ)) 0 rfl) (⟨Q5,0,none⟩) ((fzu (J8.trans J10) R5)) (.inr X12) l4)) λ_ V12 E_3 W14 J12 N29 q_4 _ f=>?_
     obtain⟨Z18,P18,L9,Z19,P19,L10,Z20,P20,L11,Z21,P21,L12,rfl,rfl,D16,D17,D18,D19⟩:=q_4
     refine eT (RR (Y f 2 λ_ f=>?_))
     obtain⟨X13,l5,F5⟩:=bS F4
     rcases X13 with X14|X15
     ·refine gi (E:=[oC Q3 #[sL Z18 X12.1 P18,sL Z19 X12.2.1 P19,sL Z20 X12.2.2.1 P20,sL Z21 X12.t3 P21] 41,rO 58 10 Z18 X12.1 P18 L9,rO 61 15 Z19 X12.2.1 P19 L10,rO 66 7 Z20 X12.2.2.1 P20 L11,rO 68 8 Z21 X12.t3 P21 L12]) (H:=(H)) f N29 (gz n _ (GL.mono (((((((J1.trans J2).trans J3).trans J5).trans J6).trans J8).trans J10).trans J12) hG) [79,117,116,112,117,116,115] (6:Int) Q3 X12.1 Z18 P18 L9 D16 X12.2.1 Z19 P19 L10 D17 X12.2.2.1 Z20 P20 L11 D18 X12.t3 Z21 P21 L12 D19 C1 (lTD0 X3.1 Z4 P4 Z5 P5) X3.1 (TD0.shutx (x:=X3.1) (B4.mono (((J6.trans J8).trans J10).trans J12)) (B5.mono (((J6.trans J8).trans J10).trans J12))) (bu ((fzu (((J6.trans J8).trans J10).trans J12) dC)) 0 rfl) C2 [S X3.2] X3.2 (rfl) (bu ((fzu (((J6.trans J8).trans J10).trans J12) eZ)) 0 rfl) (⟨Q5,0,none⟩) ((fzu ((J8.trans J10).trans J12) R5)) (.inl X14) l5) kr (λ_=>by kernel_rfl) λV13 W15 J13 N30=>cr (ba f ?_)
      cases sI F5
      exact⟨V13,((((((((J1.trans J2).trans J3).trans J5).trans J6).trans J8).trans J10).trans J12).trans J13),N30,rfl⟩
     ·refine Y18 (E:=[oC Q3 #[sL Z18 X12.1 P18,sL Z19 X12.2.1 P19,sL Z20 X12.2.2.1 P20,sL Z21 X12.t3 P21] 41,rO 58 10 Z18 X12.1 P18 L9,rO 61 15 Z19 X12.2.1 P19 L10,rO 66 7 Z20 X12.2.2.1 P20 L11,rO 68 8 Z21 X12.t3 P21 L12]) (H:=(H)) f N29 (OkXH.ok (gz n _ (GL.mono (((((((J1.trans J2).trans J3).trans J5).trans J6).trans J8).trans J10).trans J12) hG) [79,117,116,112,117,116,115] (6:Int) Q3 X12.1 Z18 P18 L9 D16 X12.2.1 Z19 P19 L10 D17 X12.2.2.1 Z20 P20 L11 D18 X12.t3 Z21 P21 L12 D19 C1 (lTD0 X3.1 Z4 P4 Z5 P5) X3.1 (TD0.shutx (x:=X3.1) (B4.mono (((J6.trans J8).trans J10).trans J12)) (B5.mono (((J6.trans J8).trans J10).trans J12))) (bu ((fzu (((J6.trans J8).trans J10).trans J12) dC)) 0 rfl) C2 [S X3.2] X3.2 (rfl) (bu ((fzu (((J6.trans J8).trans J10).trans J12) eZ)) 0 rfl) (⟨Q5,0,none⟩) ((fzu ((J8.trans J10).trans J12) R5)) (.inr X15) l5)) λ_ V14 E_4 W16 J14 N31 q_5 _ f=>?_
      obtain⟨Z22,P22,L13,Z23,P23,L14,Z24,P24,L15,Z25,P25,L16,rfl,rfl,D20,D21,D22,D23⟩:=q_5
      refine eT (RR (Z f (Y32 (cs:=[sL Z22 X15.1 P22,sL Z23 X15.2.1 P23,sL Z24 X15.2.2.1 P24,sL Z25 X15.t3 P25]) rfl (ad:=⟨Q3,0,none⟩) (am (N31.ownCell 0 rfl) 0 rfl)) λ_ f=>?_))
      have N32:=N31.pl [1]
      obtain⟨Z26,P26,V15,H6,J15,N33,B6⟩:=N32.rowSli (f:=ck) (xs:=X15.1) szd_TE0 D20
      have f:=Frm.set f 26 (v:=.agg #[.slice Z22 X15.1.length P22,.slice Z23 X15.2.1.length P23,.slice Z24 X15.2.2.1.length P24,.slice Z25 X15.2.2.2.length P25]) (v':=.agg #[.slice Z26 X15.1.length P26,.slice Z23 X15.2.1.length P23,.slice Z24 X15.2.2.1.length P24,.slice Z25 X15.2.2.2.length P25]) (by kernel_rfl) (by rw[H6])
      have N34:Hp w0 V15 ((oC Q3 #[sL Z26 X15.1 P26,sL Z23 X15.2.1 P23,sL Z24 X15.2.2.1 P24,sL Z25 X15.t3 P25] 41)::(rO 61 15 Z23 X15.2.1 P23 L14)::(rO 66 7 Z24 X15.2.2.1 P24 L15)::(rO 68 8 Z25 X15.t3 P25 L16)::H) W16:=by unfold sL at N33;rw[H6] at N33;exact N33
      have N35:=N34.pl [1]
      obtain⟨Z27,P27,V16,H7,J16,N36,B7⟩:=N35.rowSli (f:=bU) (xs:=X15.2.1) szd_TF0 (ag.mono J15 _ _ D21)
      have f:=Frm.set f 26 (v:=.agg #[.slice Z26 X15.1.length P26,.slice Z23 X15.2.1.length P23,.slice Z24 X15.2.2.1.length P24,.slice Z25 X15.2.2.2.length P25]) (v':=.agg #[.slice Z26 X15.1.length P26,.slice Z27 X15.2.1.length P27,.slice Z24 X15.2.2.1.length P24,.slice Z25 X15.2.2.2.length P25]) (by kernel_rfl) (by rw[H7])
      have N37:Hp w0 V16 ((oC Q3 #[sL Z26 X15.1 P26,sL Z27 X15.2.1 P27,sL Z24 X15.2.2.1 P24,sL Z25 X15.t3 P25] 41)::(rO 66 7 Z24 X15.2.2.1 P24 L15)::(rO 68 8 Z25 X15.t3 P25 L16)::H) W16:=by unfold sL at N36;rw[H7] at N36;exact N36
      have N38:=N37.pl [1]
      obtain⟨Z28,P28,V17,H8,J17,N39,B8⟩:=N38.rowSli (f:=bH) (xs:=X15.2.2.1) szd_TB0 (ag.mono (J15.trans J16) _ _ D22)
      have f:=Frm.set f 26 (v:=.agg #[.slice Z26 X15.1.length P26,.slice Z27 X15.2.1.length P27,.slice Z24 X15.2.2.1.length P24,.slice Z25 X15.2.2.2.length P25]) (v':=.agg #[.slice Z26 X15.1.length P26,.slice Z27 X15.2.1.length P27,.slice Z28 X15.2.2.1.length P28,.slice Z25 X15.2.2.2.length P25]) (by kernel_rfl) (by rw[H8])
      have N40:Hp w0 V17 ((oC Q3 #[sL Z26 X15.1 P26,sL Z27 X15.2.1 P27,sL Z28 X15.2.2.1 P28,sL Z25 X15.t3 P25] 41)::(rO 68 8 Z25 X15.t3 P25 L16)::H) W16:=by unfold sL at N39;rw[H8] at N39;exact N39
      have N41:=N40.pl [1]
      obtain⟨Z29,P29,V18,H9,J18,N42,B9⟩:=N41.rowSli (f:=cj) (xs:=X15.t3) szd_TC0 (ag.mono ((J15.trans J16).trans J17) _ _ D23)
      have f:=Frm.set f 26 (v:=.agg #[.slice Z26 X15.1.length P26,.slice Z27 X15.2.1.length P27,.slice Z28 X15.2.2.1.length P28,.slice Z25 X15.2.2.2.length P25]) (v':=.agg #[.slice Z26 X15.1.length P26,.slice Z27 X15.2.1.length P27,.slice Z28 X15.2.2.1.length P28,.slice Z29 X15.2.2.2.length P29]) (by kernel_rfl) (by rw[H9])
      have N43:Hp w0 V18 ((oC Q3 #[sL Z26 X15.1 P26,sL Z27 X15.2.1 P27,sL Z28 X15.2.2.1 P28,sL Z29 X15.t3 P29] 41)::H) W16:=by unfold sL at N42;rw[H9] at N42;exact N42
      refine Ys [sL Z26 X15.1 P26,sL Z27 X15.2.1 P27,sL Z28 X15.2.2.1 P28,sL Z29 X15.t3 P29] #[sL Z26 X15.1 P26,sL Z27 X15.2.1 P27,sL Z28 X15.2.2.1 P28,sL Z29 X15.t3 P29] f N43 rfl rfl λW17 N44 _ f=>Er (cD f rfl (Y11 (cs:=[sL Z26 X15.1 P26,sL Z27 X15.2.1 P27,sL Z28 X15.2.2.1 P28,sL Z29 X15.t3 P29]) (ad:=⟨Q3,0,none⟩) f (am (N44.ownCell 0 rfl) 0 rfl)) ?_)
      cases sI F5
      exact⟨_,rfl,V18,((((((((((((J1.trans J2).trans J3).trans J5).trans J6).trans J8).trans J10).trans J12).trans J14).trans J15).trans J16).trans J17).trans J18),(N44.dropN 1),⟨[sL Z26 X15.1 P26,sL Z27 X15.2.1 P27,sL Z28 X15.2.2.1 P28,sL Z29 X15.t3 P29],rfl,(TA0.shut (B6.mono ((J16.trans J17).trans J18)) (B7.mono (J17.trans J18)) (B8.mono J18) B9)⟩⟩
def di (n:Nat):Nat→TD0→Bs→Int→Option (Sum (Int×Bs) TA0)
 |0=>λ_ _ _=>none
 |k+1=>gC n (di n k)
def jA (n:Nat) (d0:TD0) (d1:Bs) (d2:Int):Option (Sum (Int×Bs) TA0):=di n n d0 d1 d2
theorem iC (n:Nat) (M:Mem) (hG:GL M) (c0:Lv) (d0:TD0) (h0:Rep M (ar d0) c0) (d1:Bs) (d2:Int) (r:Sum (Int×Bs) TA0) (hF:jA n d0 d1 d2=some r):OkX Tryz.prog M 23 [.agg c0.toArray,S d1,iL d2] 78 r (λr=>λM' v=>∃ (c0:Lv),v=.agg c0.toArray∧Rep M' (cc r) c0):=by
 have key: ∀ (k:Nat) (M:Mem) (hG:GL M) (c0:Lv) (d0:TD0) (h0:Rep M (ar d0) c0) (d1:Bs) (d2:Int) (r:Sum (Int×Bs) TA0) (hF:di n k d0 d1 d2=some r),OkX Tryz.prog M 23 [.agg c0.toArray,S d1,iL d2] 78 r (λr=>λM' v=>∃ (c0:Lv),v=.agg c0.toArray∧Rep M' (cc r) c0):=by
  intro k
  induction k with
  |zero=>intro M hG c0 d0 h0 d1 d2 r hF;simp[di] at hF
  |succ k ih=>intro M hG c0 d0 h0 d1 d2 r hF;exact kd n (di n k) ih M hG c0 d0 h0 d1 d2 r hF
 exact key n M hG c0 d0 h0 d1 d2 r hF
set_option maxRecDepth 20000 in
theorem readD_0 {M:Mem} {w0:World} {H:List Ent} {w:World} (b4 b2:Nat) (hp:Hp w0 M (oC b4 #[iL 0] 32::H) w):CallsD Tryz.prog 22 [pP b4,pP b2].toArray .returning w (λe u' w'=>∃v,e=.returned v∧settle u'=.returning∧Hp w0 M (oC b4 #[iL 0] 32::H) w'):=by
 refine CallsD.mono' (callsD_of_wp (R:=λe w'=>∃v,e=.returned v∧Hp w0 M (oC b4 #[iL 0] 32::H) w') Tryz.func22 rfl ?_) λe u w ⟨hu,v,he,hq⟩=>⟨v,he,by rw[hu];rfl,hq⟩
 have f:Frm 5 (frame0 [pP b4,pP b2] 0) _:=km (by simp)
 refine RR (Z f (Y31 (v:=iL 0) rfl (ad:=⟨b4,0,none⟩) (hp.ownCell 0 rfl 0)) λ_ f=>ei (L':=[(3,bO false)]) (w':=w) f 1 [3] kr λ_ f=>eT (Y8 f (wp_skip (dn f rfl ?_))))
 exact⟨_,rfl,hp⟩
set_option maxRecDepth 20000 in
theorem readD_z {M:Mem} {w0:World} {H:List Ent} {w:World} (b4 b2:Nat) (e0:Int) (hp:Hp w0 M (Ent.obj b4 (.cells #[.int .i64 e0] 32 (0,0))::Ent.obj b2 (.cells #[.slice none 0 0,.slice none 0 0,.slice none 0 0,.slice none 0 0] 41 (0,0))::H) w):CallsD Tryz.prog 22 [.pointer (some ⟨b4,0,none⟩),.pointer (some ⟨b2,0,none⟩)].toArray .returning w (λe u' w'=>∃v,e=.returned v∧settle u'=.returning∧Hp w0 M (Ent.obj b4 (.cells #[.int .i64 e0] 32 (0,0))::Ent.obj b2 (.cells #[.slice none 0 0,.slice none 0 0,.slice none 0 0,.slice none 0 0] 41 (0,0))::H) w'):=by
 refine CallsD.mono' (callsD_of_wp (R:=λe w'=>∃v,e=.returned v∧Hp w0 M (Ent.obj b4 (.cells #[.int .i64 e0] 32 (0,0))::Ent.obj b2 (.cells #[.slice none 0 0,.slice none 0 0,.slice none 0 0,.slice none 0 0] 41 (0,0))::H) w') Tryz.func22 rfl ?_) λe u w ⟨hu,v,he,hq⟩=>⟨v,he,by rw[hu];rfl,hq⟩
 have f:Frm 5 (frame0 [.pointer (some ⟨b4,0,none⟩),.pointer (some ⟨b2,0,none⟩)] 0) _:=km (by simp)
 refine RR (Z f (Y31 (v:=.int .i64 e0) rfl (ad:=⟨b4,0,none⟩) (hp.ownCell 0 rfl 0)) λ_ f=>Y f 1 λ_ f=>eT (Y7 f (b:= !(decide (e0=0))) (λB1=>?_) λB1=>?_))
 ·have U1: ¬ (e0=0):=(aM dI).1 B1
  refine aA (Y f 1 λ_ f=>?_)
  have N1:=hp.pl [1]
  refine Y27 (vs:=[.slice none 0 0,.slice none 0 0,.slice none 0 0,.slice none 0 0]) (j:=0) f N1 rfl rfl (by simp[Value.oneCell',S]) (by simp) (by decide) (cs':=#[.slice none 0 0,.slice none 0 0,.slice none 0 0,.slice none 0 0]) λW1 N2 _ f=>ap rfl ?_
  have N3:=N2.pl [1]
  refine dn f rfl ?_
  exact⟨_,rfl,N3⟩
 ·have U2: ¬ (¬ (e0=0)):=aq (aM dI) B1
  refine wp_skip (dn f rfl ?_)
  exact⟨_,rfl,hp⟩
def kc (n:Nat) (d0:TD0):Option (TA0×Bs×Int):=
 (gL n d0).bind λX1=>
 bif(!(decide (X1=0))) then
  (some ((z_TA0,([]:Bs),X1)))
 else
  (jA n d0 ([]:Bs) (0:Int)).bind λX2=>
  (match X2 with
  |.inl X3=>some ((z_TA0,X3.2,X3.1))
  |.inr X4=>some ((X4,([]:Bs),(0:Int))))
theorem nw (n:Nat) (M:Mem) (hG:GL M) (c0:Lv) (d0:TD0) (h0:Rep M (ar d0) c0) (r:TA0×Bs×Int) (hF:kc n d0=some r):Ok Tryz.prog M 11 [.agg c0.toArray] (λM' v=>∃ (c0:Lv),v=.tuple #[.agg c0.toArray,S r.2.1,iL r.2.2]∧Rep M' (cc r.1) c0):=by
 unfold kc at hF
 intro M1 hM0 w0 H w p0
 replace hG:=GL.mono hM0 hG
 replace h0:=Rep.mono hM0 _ _ h0
 obtain⟨Z1,P1,Z2,P2,rfl,B1,B2⟩:=TD0.opn h0
 refine R_enterD 15 Tryz.func11 rfl rfl (by simp) λa0 f0=>RR (Y14 (cs:=(aTD0 d0 Z1 P1 Z2 P2)) (T:=26) f0 p0 λQ1 V1 W1 J1 R1 N1 _ f=>?_)
 have R2:=bj R1
 refine Y13 f N1 (.cells #[Sn,Sn,Sn,Sn] 41 (0,0)) λQ2 W2 N2 _ f=>Y13 f N2 (.cells #[S []] 9 (0,0)) λQ3 W3 N3 _ f=>Y13 f N3 (.cells #[iL 0] 32 (0,0)) λQ4 W4 N4 _ f=>eT (an (RR (Z f (Y32 (cs:=(lTD0 d0 Z1 P1 Z2 P2)) rfl (ad:=⟨Q1,0,none⟩) (λj v h=>N4.cell (R2 j v h))) λ_ f=>?_)))
 obtain⟨X1,l1,F1⟩:=bS hF
 refine Y19 f N4 (kF n _ (GL.mono J1 hG) _ d0 (TD0.shutx (x:=d0) (B1.mono J1) (B2.mono J1)) X1 l1) λW5 N5 _ f=>Ye f 1 λ_ f=>RR (Ye f 2 λ_ f=>RcF f F1 (λB3 F2=>?_) λB3 F3=>?_)
 ·have U1: ¬ (X1=0):=(aM dI).1 B3
  refine RR (Z f (Y32 (cs:=[Sn,Sn,Sn,Sn]) rfl (ad:=⟨Q2,0,none⟩) (am (N5.ownCell 2 rfl) 0 rfl)) λ_ f=>Y f 1 λ_ f=>?_)
  have N6:=N5.pl [2]
  refine Ys [Sn,Sn,Sn,Sn] #[Sn,Sn,Sn,Sn] f N6 rfl rfl λW6 N7 _ f=>Y26 f N7 2 rfl rfl (b:=Q3) (j:=0) (v:=S []) rfl (by exact rfl) (by simp) (by simp) ((oC Q2 #[Sn,Sn,Sn,Sn] 41)::(oC Q4 #[iL 0] 32)::(oC Q3 #[S []] 9)::H) rfl λW7 N8 _ f=>Y26 f N8 1 rfl rfl (b:=Q4) (j:=0) (v:=iL X1) rfl (by exact rfl) (by simp) (by simp) ((oC Q2 #[Sn,Sn,Sn,Sn] 41)::(oC Q4 #[iL X1] 32)::(oC Q3 #[S []] 9)::H) rfl λW8 N9 _ f=>Er (bC (E_D0 f (nW rfl (Y11 (cs:=[Sn,Sn,Sn,Sn]) (ad:=⟨Q2,0,none⟩) f (am (N9.ownCell 0 rfl) 0 rfl)) (Y10 (v:=S []) (ad:=⟨Q3,0,none⟩) f (N9.ownCell 2 rfl 0)) (Y10 (v:=iL X1) (ad:=⟨Q4,0,none⟩) f (N9.ownCell 1 rfl 0)) ?_)))
  cases sI F2
  exact⟨_,rfl,V1,J1,(N9.dropN 3),⟨[Sn,Sn,Sn,Sn],rfl,(TA0.shut Sli.nil Sli.nil Sli.nil Sli.nil)⟩⟩
 ·have U2: ¬ (¬ (X1=0)):=aq (aM dI) B3
  refine St (RR (Y f 1 λ_ f=>W_defer ({target:=.fn (.func 22) #[pP Q4,pP Q2],args:=#[]}) f kr kr rfl kr λ_ f=>eT (RR (W_defer ({target:=.fn (.func 17) #[],args:=#[pP Q3,pP Q4]}) f kr kr rfl kr λ_ f=>eT (RR (Z f (Y32 (cs:=(lTD0 d0 Z1 P1 Z2 P2)) rfl (ad:=⟨Q1,0,none⟩) (λj v h=>N5.cell (R2 j v h))) λ_ f=>?_))))))
  obtain⟨X2,l2,F4⟩:=bS F3
  rcases X2 with X3|X4
  ·refine aR f N5 (iC n _ (GL.mono J1 hG) _ d0 (TD0.shutx (x:=d0) (B1.mono J1) (B2.mono J1)) ([]:Bs) (0:Int) (.inl X3) l2) kr (λ_=>by kernel_rfl) λV2 W9 J2 N10=>cr ?_
   have N15:=N10.pl [2,1,2]
   refine E_D2p (S2:=λw=>Hp w0 V2 ((oC Q4 #[iL X3.1] 32)::(oC Q2 #[Sn,Sn,Sn,Sn] 41)::(oC Q3 #[S X3.2] 9)::H) w) f rfl (λ_=>by kernel_rfl) rfl (λ_=>by kernel_rfl) (taken_p Q3 Q4 X3 ([]:Bs) (0:Int) N15) (λW11 N12=>CallsD.mono' (readD_z Q4 Q2 X3.1 (N12.perm ((List.Perm.swap _ _ _).trans (List.Perm.cons _ (List.Perm.swap _ _ _))))) (λ_ _ _ hh=>hh)) λW10 N11=>nW rfl (Y11 (cs:=[Sn,Sn,Sn,Sn]) (ad:=⟨Q2,0,none⟩) f (am (N11.ownCell 1 rfl) 0 rfl)) (Y10 (v:=S X3.2) (ad:=⟨Q3,0,none⟩) f (N11.ownCell 2 rfl 0)) (Y10 (v:=iL X3.1) (ad:=⟨Q4,0,none⟩) f (N11.ownCell 0 rfl 0)) ?_
   cases sI F4
   exact⟨_,rfl,V2,(J1.trans J2),(N11.dropN 3),⟨[Sn,Sn,Sn,Sn],rfl,(TA0.shut Sli.nil Sli.nil Sli.nil Sli.nil)⟩⟩
  ·refine Y17 f N5 (OkX.ok (iC n _ (GL.mono J1 hG) _ d0 (TD0.shutx (x:=d0) (B1.mono J1) (B2.mono J1)) ([]:Bs) (0:Int) (.inr X4) l2)) λ_ V3 W12 J3 N18 ej _ f=>?_
   obtain⟨cZ,rfl,D1⟩:=ej
   obtain⟨Z3,P3,Z4,P4,Z5,P5,Z6,P6,rfl,B4,B5,B6,B7⟩:=TA0.opn D1
   have N19:=N18.pl [2]
   refine Ys (lTA0 X4 Z3 P3 Z4 P4 Z5 P5 Z6 P6) (aTA0 X4 Z3 P3 Z4 P4 Z5 P5 Z6 P6) f N19 rfl rfl λW13 N20 _ f=>Y26 f N20 2 rfl rfl (b:=Q3) (j:=0) (v:=S []) rfl (by exact rfl) (by simp) (by simp) ((Ent.obj Q2 (.cells (aTA0 X4 Z3 P3 Z4 P4 Z5 P5 Z6 P6) 41 (0,0)))::(oC Q4 #[iL 0] 32)::(oC Q3 #[S []] 9)::H) rfl λW14 N21 _ f=>Y26 f N21 1 rfl rfl (b:=Q4) (j:=0) (v:=iL 0) rfl (by exact rfl) (by simp) (by simp) ((Ent.obj Q2 (.cells (aTA0 X4 Z3 P3 Z4 P4 Z5 P5 Z6 P6) 41 (0,0)))::(oC Q4 #[iL 0] 32)::(oC Q3 #[S []] 9)::H) rfl λW15 N22 _ f=>Er ?_
   have N27:=N22.pl [2,1,2]
   refine E_D2 f rfl (λ_=>by kernel_rfl) rfl (λ_=>by kernel_rfl) (taken_q Q3 Q4 N27) (λW17 N24=>readD_0 Q4 Q2 N24) λW16 N23=>nW rfl (Y11 (cs:=(lTA0 X4 Z3 P3 Z4 P4 Z5 P5 Z6 P6)) (ad:=⟨Q2,0,none⟩) f (am (N23.ownCell 1 rfl) 0 rfl)) (Y10 (v:=S []) (ad:=⟨Q3,0,none⟩) f (N23.ownCell 2 rfl 0)) (Y10 (v:=iL 0) (ad:=⟨Q4,0,none⟩) f (N23.ownCell 0 rfl 0)) ?_
   cases sI F4
   exact⟨_,rfl,V3,(J1.trans J3),(N23.dropN 3),⟨[sL Z3 X4.aY P3,sL Z4 X4.bn P4,sL Z5 X4.dg P5,sL Z6 X4.bP P6],rfl,(TA0.shutx (x:=X4) B4 B5 B6 B7)⟩⟩
end Go.Proofs.YtkopljikappieaaGreatDoor
