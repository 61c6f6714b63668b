/-
  Texts of this claim, packed (what nothing names is left out): C1, C2, CloudP1, CloudP3, CloudP4. Own work, partly printed by own programs. No condition.
-/
import Derived.Test.YtkhdpnamfndonaaGreatDoorPkS6
import Derived.Test.YtkhdpnamfndonaaGreatDoorPkS5
set_option linter.unusedVariables false
set_option linter.unusedSimpArgs false
set_option maxHeartbeats 2000000
namespace Go.Proofs.YtkhdpnamfndonaaGreatDoor
open Go Go.Vc Go.RowKit
def lF (n:Nat):Option Unit:=
 some (())
theorem pj (n:Nat) (M:Mem) (hG:GL M) (r:Unit) (hF:lF n=some r):OkH Tryz.prog M [] 6 [] (λM' E' v=>∃ (b0:Nat) (b0m0:Nat),v=pP b0∧E'=[oC b0 #[Sn,iL 0,Sn,.map (some b0m0),Sn,iL 0] 62,Ent.obj b0m0 (bh (Value.int .i64) vTD0 ([]:List (Int×TD0)))]):=by
 unfold lF at hF
 intro M1 hM0 w0 H w p0
 replace hG:=GL.mono hM0 hG
 refine Re 4 Tryz.func6 rfl λa0 f0=>RR (Ye f0 1 λ_ f=>RR (ju (Value.int .i64) vTD0 f p0 kr kr rfl rfl rfl λo1 W1 N1 _ f=>Y f 1 λ_ f=>Y12 f N1 (.cells #[Sn,iL 0,Sn,.map (some o1),Sn,iL 0] 62 (0,0)) λQ1 W2 N2 _ f=>Ye f 1 λ_ f=>wp_ret (ao f rfl (Lk 0 (pP Q1)) ?_)))
 cases sI hF
 exact⟨_,rfl,M1,_,(mR _),N2,⟨Q1,o1,rfl,rfl⟩⟩
def jr (n:Nat) (d0:TE0):Option Bool:=
 some ((d0.az))
theorem pW (n:Nat) (M:Mem) (hG:GL M) (c0:Lv) (d0:TE0) (h0:Rep M (aY d0) c0) (r:Bool) (hF:jr n d0=some r):Ok Tryz.prog M 43 [.agg c0.toArray] (λ_ v=>v=bO r):=by
 unfold jr at hF
 intro M1 hM0 w0 H w p0
 replace hG:=GL.mono hM0 hG
 replace h0:=Rep.mono hM0 _ _ h0
 obtain⟨Z1,P1,Z2,P2,rfl,B1,B2⟩:=TE0.opn h0
 refine Re 5 Tryz.func43 rfl λa0 f0=>RR (Y13 (cs:=(aTE0 d0 Z1 P1 Z2 P2)) (T:=75) f0 p0 λQ1 V1 W1 J1 R1 N1 _ f=>?_)
 have R2:=bR R1
 refine Ye f 1 λ_ f=>RR (Y f 1 λ_ f=>Y15 f N1 R2 1 rfl λ_ f=>Ye f 1 λ_ f=>wp_ret (ao f rfl (Lk 2 (bO d0.az)) ?_))
 cases sI hF
 exact⟨_,rfl,V1,J1,N1,rfl⟩
def bm (n:Nat) (d0:List TE0) (K1:Int):Option (Lp Int (Sum Int Unit)):=
    bif(decide (K1<((d0.length:Nat):Int))) then
     ((aR d0 K1).bind λX1=>
     (jr n X1).bind λX2=>
     bif X2 then
      (some (.br (.inl K1)))
     else
      aZ (inR .i64 (K1+1))<|
      some (.nx (K1+1)))
    else
     some (.br (.inr ()))
def bN (n:Nat) (d0:List TE0):Option Int:=
 (aN (bm n d0) n (0:Int)).bind λQ1=>
 (match Q1 with
 |.inl G1=>some (G1)
 |.inr G2=>some ((-1:Int)))
theorem gv (n:Nat) (M:Mem) (hG:GL M) (A0:Oa) (cap0:Nat) (d0:List TE0) (h0:Sli M 8 aY A0 cap0 d0) (r:Int) (hF:bN n d0=some r):Ok Tryz.prog M 57 [sL A0 d0 cap0,.func (.func 43) #[] #[]] (λ_ v=>v=iL r):=by
 unfold bN at hF
 intro M1 hM0 w0 H w p0
 replace hG:=GL.mono hM0 hG
 replace h0:=h0.mono hM0
 refine Re 19 Tryz.func57 rfl λa0 f0=>RR (Ye f0 1 λ_ f=>ag (RR (Ye f 3 λ_ f=>wp_block ?_)))
 obtain⟨Q1,bH,F1⟩:=bS hF
 refine wp_mono (Q:=λe a w=>(e=.ret∧(∃G1:Int,Q1=.inl G1∧∃V2:Mem,M1.le V2∧Frm 19 [(4,iL G1)] a∧Hp w0 V2 (H) w))∨(e=.exit 0∧(∃G2:Unit,Q1=.inr G2∧∃V3:Mem,M1.le V3∧Frm 19 [] a∧Hp w0 V3 (H) w))) (bu (n:=19) (w0:=w0) (M:=M1) (λ (I1,K1)=>[(0,sL A0 d0 cap0),(1,.func (.func 43) #[] #[]),(7,iL ((d0.length:Nat):Int)),(8,iL K1)]) (λ (I1,K1)=>(H)) (λ (I1,K1) MM=>aN (bm n d0) I1 K1=some Q1) (λ (I1,K1)=>I1) (n,(0:Int)) (f.kp) p0 bH ?_) ?_
 ·rintro⟨I1,K1⟩ V1 _ W1 J1 dc f N1
  have bI:=dc
  obtain⟨I2,jP,rfl,be,T1⟩:=aT bI
  unfold bm at be
  refine RR (Ye f 1 λ_ f=>ag (RcF f be (λB1 F2=>?_) λB1 F8=>?_))
  ·have U1:=dI.1 B1
   refine St (ag (wp_block (RR (Ye f 2 λ_ f=>RR (Y f 3 λ_ f=>?_)))))
   obtain⟨X1,S1,F3⟩:=bS F2
   obtain⟨C1,cP,dS,-,D1,R1⟩:=Sli.at_ (h0.mono J1) S1
   obtain⟨Z1,P1,Z2,P2,rfl,B2,B3⟩:=TE0.opn D1
   refine Z f (Y34 dS rfl (len:=d0.length) (cap:=cap0) (k:=.i64) (i:=K1) (e:=75) (sz:=8) (aF S1) (aE S1)) λ_ f=>Z f (Y36 (cs:=(lTE0 X1 Z1 P1 Z2 P2)) rfl (ad:=C1.add (K1.toNat*8)) (λj v h=>N1.cell (R1 j v h))) λ_ f=>?_
   obtain⟨X2,S2,F4⟩:=bS F3
   refine Y18 f N1 (pW n _ (GL.mono J1 hG) _ X1 (TE0.shutx (x:=X1) B2 B3) X2 S2) λW2 N2 _ f=>eT (RcF f F4 (λB4 F5=>?_) λB4 F6=>?_)
   ·refine RR (Ye f 2 λ_ f=>wp_ret (bV (aS (aS ?_))))
    cases sI F5
    exact .inl ⟨rfl,K1,(sI T1).symm,V1,J1,f.kp,N2⟩
   ·refine wp_skip (cG (aH (aI ?_)))
    obtain⟨O1,F7⟩:=nS F6
    refine Y f 1 λ_ f=>?_
    have f:=f.st 18 (iW O1)
    refine Ye f 1 λ_ f=>?_
    cases sI F7
    exact⟨⟨I2,K1+1⟩,Nat.lt_succ_self _,V1,J1,T1,f.kp,N2⟩
  ·have U4:=ap dI B1
   refine wp_exit (co (co ?_))
   cases sI F8
   exact .inr ⟨rfl,(),(sI T1).symm,V1,J1,f.kp,N1⟩
 ·rintro _ _ W5 (⟨rfl,G1,rfl,V2,J2,f,N3⟩|⟨rfl,G2,rfl,V3,J3,f,N4⟩)
  ·refine bV (aS (ao f rfl (Lk 4 (iL G1)) ?_))
   cases sI F1
   exact⟨_,rfl,V2,J2,N3,rfl⟩
  ·refine iq (aH (RR (Ye f 1 λ_ f=>wp_ret (ao f rfl (Lk 4 (iL (-1))) ?_))))
   cases sI F1
   exact⟨_,rfl,V3,J3,N4,rfl⟩
def bz (n:Nat) (d0:List TE0):Option Bool:=
 (bN n d0).bind λX1=>
 some ((decide ((0:Int)≤X1)))
theorem eM (n:Nat) (M:Mem) (hG:GL M) (A0:Oa) (cap0:Nat) (d0:List TE0) (h0:Sli M 8 aY A0 cap0 d0) (r:Bool) (hF:bz n d0=some r):Ok Tryz.prog M 42 [sL A0 d0 cap0,.func (.func 43) #[] #[]] (λ_ v=>v=bO r):=by
 unfold bz at hF
 intro M1 hM0 w0 H w p0
 replace hG:=GL.mono hM0 hG
 replace h0:=h0.mono hM0
 refine Re 9 Tryz.func42 rfl λa0 f0=>RR (Ye f0 1 λ_ f=>RR (Y f 2 λ_ f=>?_))
 obtain⟨X1,S1,F1⟩:=bS hF
 refine Y18 f p0 (gv n _ hG A0 cap0 d0 h0 X1 S1) λW1 N1 _ f=>Ye f 2 λ_ f=>wp_ret (ao f rfl (Lk 4 (bO (decide ((0:Int)≤X1)))) ?_)
 cases sI F1
 exact⟨_,rfl,M1,(mR _),N1,rfl⟩
def jG (n:Nat) (aL:Int) (aM:Int) (ar:Bs) (aw:Bs) (aj:List TE0):Option (Int×Int×Int×Bs×Bs×List TE0):=
 ((((bif(decide (aL<1)) then
  (some ((decide (aL<1))))
     else
      bif(decide (aM<0)) then
       (some ((decide (aM<0))))
      else
       bif(decide ((2:Int)<aM)) then
        (some ((decide ((2:Int)<aM))))
       else
        some ((!((decide (aM=0))== (decide (ar=[]))))):Option Bool)).bind λG1=>
   bif G1 then
    (((some (((2:Int),aL,aM,ar,aw,aj)):Option (Int×Int×Int×Bs×Bs×List TE0))).map Lp.br)
   else
    ((bif(decide (aM=2)) then
     (some ((decide ((0:Int)<((aj.length:Nat):Int)))))
      else
       some ((false)):Option Bool)).bind λG2=>
    ((bif G2 then
     (some ((G2)))
      else
       bif(decide (aM=1)) then
        (some ((decide (aw=[]))))
       else
        some ((false)):Option Bool)).bind λG3=>
    bif G3 then
     (((some (((2:Int),aL,aM,ar,aw,aj)):Option (Int×Int×Int×Bs×Bs×List TE0))).map Lp.br)
    else
     bif(decide (aM=2)) then
      (((some (((0:Int),aL,aM,ar,aw,aj)):Option (Int×Int×Int×Bs×Bs×List TE0))).map Lp.br)
     else
      (bz n aj).bind λX1=>
      bif X1 then
       (((some (((2:Int),aL,aM,ar,aw,aj)):Option (Int×Int×Int×Bs×Bs×List TE0))).map Lp.br)
      else
       some (.nx ()):Option (Lp Unit (Int×Int×Int×Bs×Bs×List TE0)))).bind λj=>joinF j λG4=>
 (cO n aw aj).bind λX2=>
 some ((X2,aL,aM,ar,aw,aj))
set_option maxRecDepth 20000 in
theorem rV (n:Nat) (M:Mem) (hG:GL M) (b0:Nat) (aL:Int) (aM:Int) (ar:Bs) (aw:Bs) (aj:List TE0) (Z1:Oa) (P1:Nat) (B1:Sli M 8 aY Z1 P1 aj) (r:Int×Int×Int×Bs×Bs×List TE0) (hF:jG n aL aM ar aw aj=some r):OkH Tryz.prog M [oC b0 #[iL aL,iB aM,S ar,S aw,sL Z1 aj P1] 32] 28 [pP b0] (λM' E' v=>∃ (Z2:Oa) (P2:Nat),v=iL r.1∧E'=[oC b0 #[iL r.2.1,iB r.2.2.1,S r.t3.1,S r.t4.1,sL Z2 r.t5 P2] 32]∧Sli M' 8 aY Z2 P2 r.t5):=by
 unfold jG at hF
 intro M1 hM0 w0 H w p0
 replace hG:=GL.mono hM0 hG
 replace B1:=B1.mono hM0
 refine Re 77 Tryz.func28 rfl λa0 f0=>RR (Ye f0 1 λ_ f=>ag (cR p0 kr kr (Y5 default f 3 λ_ f=>Y2 f (λ_ pq=>Y35 (v:=iB aM) rfl (ad:=⟨b0,1,none⟩) (pq.ownCell 0 rfl 1)) λ_ f=>Y5 default f 4 λ_ f=>Y2 f (λ_ pq=>Y35 (v:=iB aM) rfl (ad:=⟨b0,1,none⟩) (pq.ownCell 0 rfl 1)) λ_ f=>Y5 default f 3 λ_ f=>bW rfl ?_)))
 intro W1 N1
 refine aH (ag ?_)
 obtain⟨cX,bX,F1⟩:=bS hF
 refine bj (λa_45 W6=>∃G4:Unit,cX=.nx G4∧∃V4:Mem,M1.le V4∧Frm 77 [(0,pP b0)] a_45∧Hp w0 V4 ((oC b0 #[iL aL,iB aM,S ar,S aw,sL Z1 aj P1] 32)::H) W6) ?_ ?_
 ·refine wp_block (ag (RR (Y f 3 λ_ f=>Z f (Y35 (v:=iL aL) rfl (ad:=⟨b0,0,none⟩) (N1.ownCell 0 rfl 0)) λ_ f=>Ye f 2 λ_ f=>?_)))
  obtain⟨jd,eW,F2⟩:=bS bX
  refine bj (λa_20 W2=>∃G1:Bool,jd=G1∧∃V1:Mem,M1.le V1∧Frm 77 [(0,pP b0),(4,bO (decide (aM=2))),(15,bO G1)] a_20∧Hp w0 V1 ((oC b0 #[iL aL,iB aM,S ar,S aw,sL Z1 aj P1] 32)::H) W2) ?_ ?_
  ·refine RcF f eW (λB2 F3=>?_) λB2 F4=>?_
   ·have U1:=dI.1 B2
    refine St ?_
    exact⟨(decide (aL<1)),(sI F3).symm,M1,(mR _),f.kp,N1⟩
   ·have U2:=ap dI B2
    refine RR (Y f 3 λ_ f=>Z f (Y35 (v:=iB aM) rfl (ad:=⟨b0,1,none⟩) (N1.ownCell 0 rfl 1)) λ_ f=>Ye f 2 λ_ f=>RcF f F4 (λB3 F5=>?_) λB3 F6=>?_)
    ·have U3:=dI.1 B3
     refine St ?_
     exact⟨(decide (aM<0)),(sI F5).symm,M1,(mR _),f.kp,N1⟩
    ·have U4:=ap dI B3
     refine RR (Y f 3 λ_ f=>Z f (Y35 (v:=iB aM) rfl (ad:=⟨b0,1,none⟩) (N1.ownCell 0 rfl 1)) λ_ f=>Ye f 2 λ_ f=>RcF f F6 (λB4 F7=>?_) λB4 F8=>?_)
     ·have U5:=dI.1 B4
      refine St ?_
      exact⟨(decide ((2:Int)<aM)),(sI F7).symm,M1,(mR _),f.kp,N1⟩
     ·have U6:=ap dI B4
      refine aI (Y f 4 λ_ f=>Z f (Y35 (v:=S ar) rfl (ad:=⟨b0,2,none⟩) (N1.ownCell 0 rfl 2)) λ_ f=>Z f (Y42 rfl (l:=ar) (m:=[])) λ_ f=>Ye f 2 λ_ f=>?_)
      exact⟨(!((decide (aM=0))== (decide (ar=[])))),(sI F8).symm,M1,(mR _),f.kp,N1⟩
  ·rintro a_20 W2 ⟨G1,dg,V1,J1,f,N2⟩
   subst jd
   refine aH (RcF f F2 (λB5 F9=>?_) λB5 F11=>?_)
   ·refine RR (Ye f 1 λ_ f=>wp_ret (bV ?_))
    have F10:=cC F9 F1
    refine aS (aS (ao f rfl (Lk 2 (iL 2)) ?_))
    cases sI F10
    exact⟨_,rfl,V1,_,J1,N2,⟨Z1,P1,rfl,rfl,(B1.mono J1)⟩⟩
   ·refine ag (ag ?_)
    obtain⟨tt,pZ,F12⟩:=bS F11
    refine bj (λa_27 W3=>∃G2:Bool,tt=G2∧∃V2:Mem,V1.le V2∧Frm 77 [(0,pP b0),(4,bO (decide (aM=2))),(38,bO G2)] a_27∧Hp w0 V2 ((oC b0 #[iL aL,iB aM,S ar,S aw,sL Z1 aj P1] 32)::H) W3) ?_ ?_
    ·refine aI (Y f 2 λ_ f=>?_)
     rcases cE pZ with⟨B6,F13⟩|⟨B6,F14⟩
     ·have U9:=dI.1 B6
      have f:=f.st 40 (cB B6)
      refine Y f 3 λ_ f=>Z f (Y35 (v:=sL Z1 aj P1) rfl (ad:=⟨b0,4,none⟩) (N2.ownCell 0 rfl 4)) λ_ f=>Ye f 4 λ_ f=>?_
      exact⟨(decide ((0:Int)<((aj.length:Nat):Int))),(sI F13).symm,V1,(mR _),f.kp,N2⟩
     ·have U10:=ap dI B6
      have f:=f.st 40 (cB B6)
      refine Ye f 8 λ_ f=>?_
      exact⟨(false),(sI F14).symm,V1,(mR _),f.kp,N2⟩
    ·rintro a_27 W3 ⟨G2,hZ,V2,J2,f,N3⟩
     subst tt
     refine aH ?_
     obtain⟨j_4,hj_4,F15⟩:=bS F12
     refine bj (λa_36 W4=>∃G3:Bool,j_4=G3∧∃V3:Mem,V2.le V3∧Frm 77 [(0,pP b0),(4,bO (decide (aM=2))),(38,bO G3)] a_36∧Hp w0 V3 ((oC b0 #[iL aL,iB aM,S ar,S aw,sL Z1 aj P1] 32)::H) W4) ?_ ?_
     ·refine RcF f hj_4 (λB7 F16=>?_) λB7 F17=>?_
      ·refine St ?_
       exact⟨(G2),(sI F16).symm,V2,(mR _),f.kp,N3⟩
      ·refine aI (Y f 3 λ_ f=>Z f (Y35 (v:=iB aM) rfl (ad:=⟨b0,1,none⟩) (N3.ownCell 0 rfl 1)) λ_ f=>Y f 2 λ_ f=>?_)
       rcases cE F17 with⟨B8,F18⟩|⟨B8,F19⟩
       ·have U13:=dI.1 B8
        have f:=f.st 53 (cB B8)
        refine Y f 3 λ_ f=>Z f (Y35 (v:=S aw) rfl (ad:=⟨b0,3,none⟩) (N3.ownCell 0 rfl 3)) λ_ f=>Z f (Y42 rfl (l:=aw) (m:=[])) λ_ f=>Ye f 2 λ_ f=>?_
        exact⟨(decide (aw=[])),(sI F18).symm,V2,(mR _),f.kp,N3⟩
       ·have U14:=ap dI B8
        have f:=f.st 53 (cB B8)
        refine Ye f 7 λ_ f=>?_
        exact⟨(false),(sI F19).symm,V2,(mR _),f.kp,N3⟩
     ·rintro a_36 W4 ⟨G3,sH,V3,J3,f,N4⟩
      subst j_4
      refine aH (RcF f F15 (λB9 F20=>?_) λB9 F22=>?_)
      ·refine RR (Ye f 1 λ_ f=>wp_ret (bV ?_))
       have F21:=cC F20 F1
       refine aS (aS (ao f rfl (Lk 2 (iL 2)) ?_))
       cases sI F21
       exact⟨_,rfl,V3,_,((J1.trans J2).trans J3),N4,⟨Z1,P1,rfl,rfl,(B1.mono ((J1.trans J2).trans J3))⟩⟩
      ·refine RR (Ye f 2 λ_ f=>RcF f F22 (λB10 F23=>?_) λB10 F25=>?_)
       ·have U17:=dI.1 B10
        refine RR (Ye f 1 λ_ f=>wp_ret (bV ?_))
        have F24:=cC F23 F1
        refine aS (aS (ao f rfl (Lk 2 (iL 0)) ?_))
        cases sI F24
        exact⟨_,rfl,V3,_,((J1.trans J2).trans J3),N4,⟨Z1,P1,rfl,rfl,(B1.mono ((J1.trans J2).trans J3))⟩⟩
       ·have U18:=ap dI B10
        refine RR (Y f 3 λ_ f=>Z f (Y35 (v:=sL Z1 aj P1) rfl (ad:=⟨b0,4,none⟩) (N4.ownCell 0 rfl 4)) λ_ f=>?_)
        obtain⟨X1,S1,F26⟩:=bS F25
        refine Y18 f N4 (eM n _ (GL.mono ((J1.trans J2).trans J3) hG) Z1 P1 aj (B1.mono ((J1.trans J2).trans J3)) X1 S1) λW5 N5 _ f=>Ye f 1 λ_ f=>RcF f F26 (λB11 F27=>?_) λB11 F29=>?_
        ·refine RR (Ye f 1 λ_ f=>wp_ret (bV ?_))
         have F28:=cC F27 F1
         refine aS (aS (ao f rfl (Lk 2 (iL 2)) ?_))
         cases sI F28
         exact⟨_,rfl,V3,_,((J1.trans J2).trans J3),N5,⟨Z1,P1,rfl,rfl,(B1.mono ((J1.trans J2).trans J3))⟩⟩
        ·refine wp_skip (cG (aH ?_))
         exact⟨(),(sI F29).symm,V3,((J1.trans J2).trans J3),f.kp,N5⟩
 ·rintro a_45 W6 ⟨G4,rfl,V4,J4,f,N6⟩
  refine aH (ag (cR N6 kr kr (Y5 default f 3 λ_ f=>Y2 f (λ_ pq=>Y35 (v:=S aw) rfl (ad:=⟨b0,3,none⟩) (pq.ownCell 0 rfl 3)) λ_ f=>Y5 default f 3 λ_ f=>Y2 f (λ_ pq=>Y35 (v:=sL Z1 aj P1) rfl (ad:=⟨b0,4,none⟩) (pq.ownCell 0 rfl 4)) λ_ f=>?_)))
  obtain⟨X2,S2,F30⟩:=bS F1
  refine Y3 f (dH n _ (GL.mono J4 hG) aw Z1 P1 aj (B1.mono J4) X2 S2) λ_ f=>Y5 default f 1 λ_ f=>bW rfl ?_
  intro W8 N8
  refine aH (wp_ret (ao f rfl (Lk 2 (iL X2)) ?_))
  cases sI F30
  exact⟨_,rfl,V4,_,J4,N8,⟨Z1,P1,rfl,rfl,(B1.mono J4)⟩⟩
def cr (n:Nat) (d0:List TE0) (z0:Bool):Option (List TE0):=
 bif z0 then
  (some (([]:List TE0)))
 else
  aZ ((([]:List TE0).length+d0.length)*104≤140737488355328)<|
  some (([]:List TE0)++d0)
theorem ie (n:Nat) (M:Mem) (A0:Oa) (cap0:Nat) (d0:List TE0) (h0:Sli M 8 aY A0 cap0 d0) (z0:Bool) (hz0:A0.isNone=z0) (r:List TE0) (hF:cr n d0 z0=some r):OkH Tryz.prog M [] 29 [sL A0 d0 cap0] (λM' E' v=>∃ (A0:Oa) (k0:Nat) (s0:Lv),v=sL A0 r k0∧E'=[.row 75 8 (sL A0 r k0) r.length s0]∧aa M' (r.map aY) s0):=by
 unfold cr at hF
 intro M1 hM0 w0 H w p0
 replace h0:=h0.mono hM0
 refine Re 8 Tryz.func29 rfl λa0 f0=>RR (Ye f0 1 λ_ f=>ag (RR (Y f 1 λ_ f=>Z (v:=bO A0.isNone) f (lI (A:=A0) (n:=d0.length) (c:=cap0) (e:=75) rfl kr kr kr _) λ_ f=>?_)))
 have f:=Frm.set f 4 (v:=bO A0.isNone) (v':=bO z0) kr (cB hz0)
 refine eT (RcF f hF (λB1 F1=>?_) λB1 F2=>?_)
 ·refine RR (Ye f 1 λ_ f=>wp_ret (aS ?_))
  obtain⟨Z1,P1,H1,N1⟩:=p0.nilR 75 8 TE0
  have f:=f.st 2 (H1)
  have D1:aa M1 (([]:List TE0).map aY) []:=rfl
  refine ao f rfl (Lk 2 (sL Z1 ([]:List TE0) P1)) ?_
  cases sI F1
  exact⟨_,rfl,M1,_,(mR _),N1,⟨Z1,P1,[],rfl,rfl,D1⟩⟩
 ·refine St (RR (bg (k:=0) (c:=0) f p0 (.cells #[] 75 (0,0)) kr (λ_=>by kernel_rfl) λQ1 W1 N2 _ f=>Y f 1 λ_ f=>?_))
  have D2:aa M1 (([]:List TE0).map aY) []:=rfl
  have N3:Hp w0 M1 ((Ent.row 75 8 (.slice (some ⟨Q1,0,none⟩) 0 0) ([]:List TE0).length [])::H) W1:=N2.objRow (n:=0) (cap:=0) (size:=8) (by decide) (by decide) (eO (by decide) rfl) rfl rfl
  obtain⟨O1,F3⟩:=nS F2
  refine Y24 (z:=.agg #[S [],bO false,iB 0,bO false,iL 0,S [],Sn,Sn]) (f:=aY) (xs:=([]:List TE0)) (ys:=d0) (c:=cap0) f N3 D2 h0 rfl rfl rfl O1 (by omega) λZ2 P2 L1 W2 N4 D3 _ f=>Ye f 1 λ_ f=>wp_ret (ao f rfl (Lk 2 (sL Z2 (([]:List TE0)++d0) P2)) ?_)
  cases sI F3
  exact⟨_,rfl,M1,_,(mR _),N4,⟨Z2,P2,L1,rfl,rfl,D3⟩⟩
def bZ (_:Nat) (d0:List TE0):Option (List TE0):=aZ (d0.length*104≤140737488355328) (some d0)
theorem iF (n:Nat) (M:Mem) (A0:Oa) (cap0:Nat) (d0:List TE0) (h0:Sli M 8 aY A0 cap0 d0) (r:List TE0) (hF:bZ n d0=some r):OkH Tryz.prog M [] 29 [sL A0 d0 cap0] (λM' E' v=>∃ (A0:Oa) (k0:Nat) (s0:Lv),v=sL A0 r k0∧E'=[.row 75 8 (sL A0 r k0) r.length s0]∧aa M' (r.map aY) s0):=by
 unfold bZ at hF
 obtain⟨g,hF⟩:=nS hF
 cases sI hF
 refine ie n M A0 cap0 d0 h0 A0.isNone rfl d0 ?_
 unfold cr
 cases A0 with
 |none=>
  obtain⟨h1,h2,_⟩:=h0
  have h3:=h2 rfl
  obtain rfl:d0=[]:=List.eq_nil_of_length_eq_zero (by omega)
  rfl
 |some a=>simp[aZ];omega
def cn (n:Nat) (aL:List TG0) (aM:Int) (ar:List TI0) (aw:List (Int×TD0)) (aj:List TI0) (aO:Int) (d1:TI0):Option (Int×List TG0×Int×List TI0× (List (Int×TD0))×List TI0×Int):=
 (jG n d1.ax d1.ab d1.af d1.am d1.ai).bind λX1=>
 bif(!(decide (X1.1=0))) then
  (some ((X1.1,aL,aM,ar,aw,aj,aO)))
 else
  bif(!(aG aw X1.2.1).isSome) then
   ((bZ n X1.2.2.2.2.2).bind λX2=>
   ((aZ ((ar.length+1)*72≤140737488355328)<|
     some ((X2,ar++[(⟨X1.2.1,X1.2.2.1,X1.2.2.2.1,X1.2.2.2.2.1,X2⟩:TI0)])):Option (List TE0×List TI0))).bind λG1=>
   ((aZ ((aj.length+1)*72≤140737488355328)<|
     some (aj++[(⟨X1.2.1,X1.2.2.1,X1.2.2.2.1,X1.2.2.2.2.1,G1.1⟩:TI0)]):Option (List TI0))).bind λG2=>
   some (((0:Int),aL,aM,G1.2,de aw X1.2.1 aX,G2,aO)))
  else
   some (((0:Int),aL,aM,ar,aw,aj,aO))
set_option maxRecDepth 20000 in
theorem gw (n:Nat) (M:Mem) (hG:GL M) (b0:Nat) (aL:List TG0) (Z1:Oa) (P1:Nat) (B1:Sli M 3 aK Z1 P1 aL) (aM:Int) (ar:List TI0) (Z2:Oa) (P2:Nat) (L1:Lv) (D1:aa M (ar.map aJ) L1) (bi:Nat) (aw:List (Int×TD0)) (aj:List TI0) (Z3:Oa) (P3:Nat) (L2:Lv) (D2:aa M (aj.map aJ) L2) (aO:Int) (c1:Lv) (d1:TI0) (h1:Rep M (aJ d1) c1) (r:Int×List TG0×Int×List TI0× (List (Int×TD0))×List TI0×Int) (hF:cn n aL aM ar aw aj aO d1=some r):OkH Tryz.prog M [oC b0 #[sL Z1 aL P1,iL aM,sL Z2 ar P2,.map (some bi),sL Z3 aj P3,iL aO] 62,rO 32 5 Z2 ar P2 L1,Ent.obj bi (bh (Value.int .i64) vTD0 aw),rO 32 5 Z3 aj P3 L2] 8 [pP b0,.agg c1.toArray] (λM' E' v=>∃ (Z21:Oa) (P21:Nat) (Z22:Oa) (P22:Nat) (L13:Lv) (Z23:Oa) (P23:Nat) (L14:Lv),v=iL r.1∧E'=[oC b0 #[sL Z21 r.2.1 P21,iL r.2.2.1,sL Z22 r.t3.1 P22,.map (some bi),sL Z23 r.t5.1 P23,iL r.t6] 62,rO 32 5 Z22 r.t3.1 P22 L13,Ent.obj bi (bh (Value.int .i64) vTD0 r.t4.1),rO 32 5 Z23 r.t5.1 P23 L14]∧Sli M' 3 aK Z21 P21 r.2.1∧aa M' (r.t3.1.map aJ) L13∧aa M' (r.t5.1.map aJ) L14):=by
 unfold cn at hF
 intro M1 hM0 w0 H w p0
 replace hG:=GL.mono hM0 hG
 replace B1:=B1.mono hM0
 replace D1:=aa.mono hM0 _ _ D1
 replace D2:=aa.mono hM0 _ _ D2
 replace h1:=Rep.mono hM0 _ _ h1
 obtain⟨Z4,P4,rfl,B2⟩:=TI0.opn h1
 refine Re 57 Tryz.func8 rfl λa0 f0=>RR (Y12 f0 p0 (.cells (aTI0 d1 Z4 P4) 32 (0,0)) λQ1 W1 N1 _ f=>Ye f 1 λ_ f=>ag (RR (Y f 1 λ_ f=>Z (v:=bO false) f (df (q:=some (⟨b0,0,none⟩)) (e:=62) rfl kr kr kr _) λ_ f=>eT (Y7 f (St (ag (RR ?_)))))))
 obtain⟨X1,S1,F1⟩:=bS hF
 refine Y17 (E:=[Ent.obj Q1 (.cells (aTI0 d1 Z4 P4) 32 (0,0))]) (H:=((oC b0 #[sL Z1 aL P1,iL aM,sL Z2 ar P2,.map (some bi),sL Z3 aj P3,iL aO] 62)::(rO 32 5 Z2 ar P2 L1)::(Ent.obj bi (bh (Value.int .i64) vTD0 aw))::(rO 32 5 Z3 aj P3 L2)::H)) f N1 (rV n _ hG Q1 d1.ax d1.ab d1.af d1.am d1.ai Z4 P4 B2 X1 S1) λ_ V1 E_1 W2 J1 N2 jO _ f=>?_
 obtain⟨Z5,P5,rfl,rfl,B3⟩:=jO
 refine Ye f 1 λ_ f=>RR (Ye f 2 λ_ f=>RcF f F1 (λB4 F2=>?_) λB4 F3=>?_)
 ·have U1: ¬ (X1.1=0):=(av dI).1 B4
  refine RR (Ye f 2 λ_ f=>wp_ret (aS (ao f rfl (Lk 4 (iL X1.1)) ?_)))
  cases sI F2
  exact⟨_,rfl,V1,_,J1,(N2.dropN 1),⟨Z1,P1,Z2,P2,L1,Z3,P3,L2,rfl,rfl,(B1.mono J1),(aa.mono J1 _ _ D1),(aa.mono J1 _ _ D2)⟩⟩
 ·have U2: ¬ (¬ (X1.1=0)):=ap (av dI) B4
  refine St (ag (ag (oL (E:=[]) (Hr:=((oC Q1 #[iL X1.2.1,iB X1.2.2.1,S X1.t3.1,S X1.t4.1,sL Z5 X1.t5 P5] 32)::(oC b0 #[sL Z1 aL P1,iL aM,sL Z2 ar P2,.map (some bi),sL Z3 aj P3,iL aO] 62)::(rO 32 5 Z2 ar P2 L1)::(Ent.obj bi (bh (Value.int .i64) vTD0 aw))::(rO 32 5 Z3 aj P3 L2)::H)) [(0,true),(1,true),(2,true),(3,true),(4,true),(5,true),(6,true),(7,true),(8,true),(9,true),(10,false),(11,false),(12,true)] N2 kr kr rfl kr (Y0 default f 3 λ_ f=>iO (v:=.map (some bi)) f kr kr rfl rfl (λ_ pq=>Y35 (v:=.map (some bi)) rfl (ad:=⟨b0,3,none⟩) (pq.ownCell 1 rfl 3)) λ_ f=>Y0 default f 1 λ_ f=>iO (v:=iL X1.2.1) f kr kr rfl rfl (λ_ pq=>Y35 (v:=iL X1.2.1) rfl (ad:=⟨Q1,0,none⟩) (pq.ownCell 0 rfl 0)) λ_ f=>iO (v:=.tuple #[.agg #[bO ((aG aw X1.2.1).getD aX).aq,bO ((aG aw X1.2.1).getD aX).bC,S ((aG aw X1.2.1).getD aX).af],bO (aG aw X1.2.1).isSome]) f kr kr rfl rfl (λ_ pq=>Y37 (ek:=(Value.int .i64)) (ev:=vTD0) (m:=aw) (k:=X1.2.1) (z:=aX) (kt:=3) (et:=38) rfl (intKey kr) (pq.ownObj 3 rfl)) λ_ f=>Y0 default f 3 λ_ f=>eY (E:=[]) λW3 N3=>Y12 f N3 (.cells #[bO false,bO false,S []] 38 (0,0)) λQ2 W4 N4 _ f=>aA rfl (jR (M1:=V1) (E:=[oC Q2 #[bO false,bO false,S []] 38]) (mR _) N4 (eY (E:=[oC Q2 #[bO false,bO false,S []] 38]) λW5 N5=>Ys [bO ((aG aw X1.2.1).getD aX).aq,bO ((aG aw X1.2.1).getD aX).bC,S ((aG aw X1.2.1).getD aX).af] #[bO ((aG aw X1.2.1).getD aX).aq,bO ((aG aw X1.2.1).getD aX).bC,S ((aG aw X1.2.1).getD aX).af] f N5 rfl rfl λW6 N6 _ f=>aA rfl (jR (M1:=V1) (E:=[oC Q2 #[bO ((aG aw X1.2.1).getD aX).aq,bO ((aG aw X1.2.1).getD aX).bC,S ((aG aw X1.2.1).getD aX).af] 38]) (mR _) N6 (Y0 default f 1 λ_ f=>mB rfl λW7 N7=>aH (RR (Ye f 2 λ_ f=>RcF f F3 (λB5 F4=>?_) λB5 F10=>?_))))))))))
  ·have U3: ((aG aw X1.2.1).isSome)=false:=by simpa using B5
   refine RR (Y f 1 λ_ f=>Z f (Y35 (v:=sL Z5 X1.t5 P5) rfl (ad:=⟨Q1,4,none⟩) (N7.ownCell 1 rfl 4)) λ_ f=>?_)
   obtain⟨X2,S2,F5⟩:=bS F4
   refine Y17 (E:=[]) (H:=((oC Q2 #[bO ((aG aw X1.2.1).getD aX).aq,bO ((aG aw X1.2.1).getD aX).bC,S ((aG aw X1.2.1).getD aX).af] 38)::(oC Q1 #[iL X1.2.1,iB X1.2.2.1,S X1.t3.1,S X1.t4.1,sL Z5 X1.t5 P5] 32)::(oC b0 #[sL Z1 aL P1,iL aM,sL Z2 ar P2,.map (some bi),sL Z3 aj P3,iL aO] 62)::(rO 32 5 Z2 ar P2 L1)::(Ent.obj bi (bh (Value.int .i64) vTD0 aw))::(rO 32 5 Z3 aj P3 L2)::H)) f N7 (iF n _ Z5 P5 X1.t5 B3 X2 S2) λ_ V2 E_2 W8 J2 N8 sj _ f=>?_
   obtain⟨Z6,P6,L3,rfl,rfl,D3⟩:=sj
   refine Y f 1 λ_ f=>Y28 f N8 2 rfl rfl (b:=Q1) (j:=4) (v:=sL Z6 X2 P6) rfl (by exact rfl) (by simp) (by simp) ((rO 75 8 Z6 X2 P6 L3)::(oC Q2 #[bO ((aG aw X1.2.1).getD aX).aq,bO ((aG aw X1.2.1).getD aX).bC,S ((aG aw X1.2.1).getD aX).af] 38)::(oC Q1 #[iL X1.2.1,iB X1.2.2.1,S X1.t3.1,S X1.t4.1,sL Z6 X2 P6] 32)::(oC b0 #[sL Z1 aL P1,iL aM,sL Z2 ar P2,.map (some bi),sL Z3 aj P3,iL aO] 62)::(rO 32 5 Z2 ar P2 L1)::(Ent.obj bi (bh (Value.int .i64) vTD0 aw))::(rO 32 5 Z3 aj P3 L2)::H) rfl λW9 N9 _ f=>eT (ag (kV 7 N9 kr kr λW10 N10=>bT (v:=pP b0) f kr kr rfl rfl kr λ_ f=>bT (v:=pP b0) f kr kr rfl rfl kr λ_ f=>bT (v:=Pa (⟨b0,3,none⟩)) f kr kr rfl rfl kr λ_ f=>bT (v:=.map (some bi)) f kr kr rfl rfl (Y35 (v:=.map (some bi)) rfl (ad:=⟨b0,3,none⟩) (N10.ownCell 3 rfl 3)) λ_ f=>bT (v:=pP Q1) f kr kr rfl rfl kr λ_ f=>bT (v:=iL X1.2.1) f kr kr rfl rfl (Y35 (v:=iL X1.2.1) rfl (ad:=⟨Q1,0,none⟩) (N10.ownCell 2 rfl 0)) λ_ f=>bT (v:=.agg #[bO false,bO false,S []]) f kr kr rfl rfl kr λ_ f=>lJ rfl ?_))
   have N11:=N10.pl [5]
   refine my (ek:=(Value.int .i64)) (ev:=vTD0) (m:=aw) (k:=X1.2.1) (v:=aX) (kt:=3) (et:=38) f N11 kr kr rfl (.inl rfl) kr kr kr kr (intKey kr) λW11 N12 _ f=>eT (ag ?_)
   obtain⟨cX,bX,F6⟩:=bS F5
   refine bj (λa_63 W41=>∃G1:List TE0×List TI0,cX=G1∧∃V7:Mem,V2.le V7∧∃ (Z15:Oa),∃ (P15:Nat),∃ (Z16:Oa),∃ (P16:Nat),∃ (L8:Lv),Sli V7 8 aY Z15 P15 G1.1∧aa V7 (G1.2.map aJ) L8∧Frm 57 [(0,pP b0),(3,pP Q1)] a_63∧Hp w0 V7 ((rO 32 5 Z16 G1.2 P16 L8)::(oC Q1 #[iL X1.2.1,iB X1.2.2.1,S X1.t3.1,S X1.t4.1,sL Z15 G1.1 P15] 32)::(oC b0 #[sL Z1 aL P1,iL aM,sL Z16 G1.2 P16,.map (some bi),sL Z3 aj P3,iL aO] 62)::(Ent.obj bi (bh (Value.int .i64) vTD0 (de aw X1.2.1 aX)))::(oC Q2 #[bO ((aG aw X1.2.1).getD aX).aq,bO ((aG aw X1.2.1).getD aX).bC,S ((aG aw X1.2.1).getD aX).af] 38)::(rO 32 5 Z3 aj P3 L2)::H) W41) ?_ ?_
   ·have N28:=N12.pl [6,3,2,6,6,6,6]
    obtain⟨O1,F7⟩:=nS bX
    refine iz (ks:=[]) (E:=[rO 75 8 Z6 X2 P6 L3,oC Q1 #[iL X1.2.1,iB X1.2.2.1,S X1.t3.1,S X1.t4.1,sL Z6 X2 P6] 32,oC b0 #[sL Z1 aL P1,iL aM,sL Z2 ar P2,.map (some bi),sL Z3 aj P3,iL aO] 62,rO 32 5 Z2 ar P2 L1]) (Hr:=((Ent.obj bi (bh (Value.int .i64) vTD0 (de aw X1.2.1 aX)))::(oC Q2 #[bO ((aG aw X1.2.1).getD aX).aq,bO ((aG aw X1.2.1).getD aX).bC,S ((aG aw X1.2.1).getD aX).af] 38)::(rO 32 5 Z3 aj P3 L2)::H)) (.quiet 0 (.quiet 1 (.quiet 2 (.quiet 3 (.alt 4 (.alt 5 (.alt 6 (.alt 7 (.quiet 8 (.quiet 9 (.alt 10 .done .none))) .none) .none) .none) (.alt 5 (.alt 4 (.alt 6 (.alt 7 (.quiet 8 (.quiet 9 (.alt 10 .done .none))) .none) .none) (.alt 6 (.alt 4 (.alt 7 (.quiet 8 (.quiet 9 (.alt 10 .done .none))) .none) .none) .none)) .none)))))) N28 kr kr kr (Y1 (v:=pP b0) rfl f rfl rfl (λ_ _=>by kernel_rfl) λ_ f=>Y1 (v:=pP b0) rfl f rfl rfl (λ_ _=>by kernel_rfl) λ_ f=>Y1 (v:=pP b0) rfl f rfl rfl (λ_ _=>by kernel_rfl) λ_ f=>Y1 (v:=Pa (⟨b0,2,none⟩)) rfl f rfl rfl (λ_ _=>by kernel_rfl) λ_ f=>aV rfl (λW15 N29=>?_) ?_)
    ·refine Z f (Y35 (v:=sL Z2 ar P2) rfl (ad:=⟨b0,2,none⟩) (N29.ownCell 2 rfl 2)) λ_ f=>aA rfl (aW 4 (mR _) N29 rfl (aV rfl (λW16 N30=>?_) ?_))
     ·refine Z f (Y36 (cs:=[iL X1.2.1,iB X1.2.2.1,S X1.t3.1,S X1.t4.1,sL Z6 X2 P6]) rfl (ad:=⟨Q1,0,none⟩) (al (N30.ownCell 1 rfl) 0 rfl)) λ_ f=>aA rfl (aW 4 (mR _) N30 rfl (aV rfl (λW17 N31=>?_) ?_))
      ·refine bg (k:=1) (c:=1) f N31 (.cells #[iL X1.2.1,iB X1.2.2.1,S X1.t3.1,S X1.t4.1,sL Z6 X2 P6] 32 (0,0)) kr (λ_=>by kernel_rfl) λQ4 W18 N32 _ f=>aA rfl (aW 5 (mR _) N32 rfl (aV rfl (λW19 N33=>?_) ?_))
       ·have N34:=N33.pl [1]
        obtain⟨Z9,P9,V4,H2,J4,N35,B7⟩:=N34.rowSli (f:=aY) (xs:=X2) szd_TE0 D3
        have f:=Frm.set f 42 (v:=.agg #[.int .i64 X1.2.1,.int .i8 X1.2.2.1,S X1.2.2.2.1,S X1.2.2.2.2.1,.slice Z6 X2.length P6]) (v':=.agg #[.int .i64 X1.2.1,.int .i8 X1.2.2.1,S X1.2.2.2.1,S X1.2.2.2.2.1,.slice Z9 X2.length P9]) (by kernel_rfl) (by rw[H2])
        have N36:Hp w0 V4 ((oC Q4 #[iL X1.2.1,iB X1.2.2.1,S X1.t3.1,S X1.t4.1,sL Z9 X2 P9] 32)::(oC Q1 #[iL X1.2.1,iB X1.2.2.1,S X1.t3.1,S X1.t4.1,sL Z9 X2 P9] 32)::(oC b0 #[sL Z1 aL P1,iL aM,sL Z2 ar P2,.map (some bi),sL Z3 aj P3,iL aO] 62)::(rO 32 5 Z2 ar P2 L1)::(Ent.obj bi (bh (Value.int .i64) vTD0 (de aw X1.2.1 aX)))::(oC Q2 #[bO ((aG aw X1.2.1).getD aX).aq,bO ((aG aw X1.2.1).getD aX).bC,S ((aG aw X1.2.1).getD aX).af] 38)::(rO 32 5 Z3 aj P3 L2)::H) W19:=by unfold sL at N35;rw[H2] at N35;exact N35
        have N37:=N36.pl [3]
        refine Y22 (z:=.agg #[iL 0,iB 0,S [],S [],Sn]) (f:=aJ) (xs:=ar) (ys:=[(⟨X1.2.1,X1.2.2.1,X1.t3.1,X1.t4.1,X2⟩:TI0)]) (news:=[iL X1.2.1,iB X1.2.2.1,S X1.t3.1,S X1.t4.1,sL Z9 X2 P9]) (ad:=⟨Q4,0,none⟩) (m:=1) (c:=1) f N37 (aa.mono ((J1.trans J2).trans J4) _ _ D1) (by exact⟨_,_,rfl,TI0.shut B7,rfl⟩) rfl rfl rfl rfl (al (N37.ownCell 1 rfl) 0 rfl) (by exact O1) (by have hg_:=O1;first|omega|(simp only[List.length_cons,List.length_nil] at*;omega)) λZ10 P10 L5 W20 N38 D5 _ f=>?_
        have N39:=N38.pl [1]
        have N40:=N39.drop
        refine aA rfl (aW 3 J4 N40 rfl (Y1 (v:=pP b0) rfl f rfl rfl (λ_ _=>by kernel_rfl) λ_ f=>Y1 (v:=Pa (⟨b0,2,none⟩)) rfl f rfl rfl (λ_ _=>by kernel_rfl) λ_ f=>aV rfl (λW21 N41=>?_) ?_))
        ·refine Y28 f N41 2 rfl rfl (b:=b0) (j:=2) (v:=sL Z10 (ar++[(⟨X1.2.1,X1.2.2.1,X1.t3.1,X1.t4.1,X2⟩:TI0)]) P10) rfl (by exact rfl) (by simp) (by simp) ((rO 32 5 Z10 (ar++[(⟨X1.2.1,X1.2.2.1,X1.t3.1,X1.t4.1,X2⟩:TI0)]) P10 L5)::(oC Q1 #[iL X1.2.1,iB X1.2.2.1,S X1.t3.1,S X1.t4.1,sL Z9 X2 P9] 32)::(oC b0 #[sL Z1 aL P1,iL aM,sL Z10 (ar++[(⟨X1.2.1,X1.2.2.1,X1.t3.1,X1.t4.1,X2⟩:TI0)]) P10,.map (some bi),sL Z3 aj P3,iL aO] 62)::(Ent.obj bi (bh (Value.int .i64) vTD0 (de aw X1.2.1 aX)))::(oC Q2 #[bO ((aG aw X1.2.1).getD aX).aq,bO ((aG aw X1.2.1).getD aX).bC,S ((aG aw X1.2.1).getD aX).af] 38)::(rO 32 5 Z3 aj P3 L2)::H) rfl λW22 N42 _ f=>aA rfl (aW 3 J4 N42 rfl (jT λW23 N43=>aH ?_))
         exact⟨(X2,ar++[(⟨X1.2.1,X1.2.2.1,X1.t3.1,X1.t4.1,X2⟩:TI0)]),(sI F7).symm,V4,J4,Z9,P9,Z10,P10,L5,B7,D5,f.kp,N43⟩
        exact aQ
       exact aQ
      exact aQ
     exact aQ
    refine aV rfl (λW24 N44=>?_) ?_
    ·refine Z f (Y36 (cs:=[iL X1.2.1,iB X1.2.2.1,S X1.t3.1,S X1.t4.1,sL Z6 X2 P6]) rfl (ad:=⟨Q1,0,none⟩) (al (N44.ownCell 1 rfl) 0 rfl)) λ_ f=>aA rfl (aW 4 (mR _) N44 rfl (aV rfl (λW25 N45=>?_) ?_))
     ·refine Z f (Y35 (v:=sL Z2 ar P2) rfl (ad:=⟨b0,2,none⟩) (N45.ownCell 2 rfl 2)) λ_ f=>aA rfl (aW 4 (mR _) N45 rfl (aV rfl (λW26 N46=>?_) ?_))
      ·refine bg (k:=1) (c:=1) f N46 (.cells #[iL X1.2.1,iB X1.2.2.1,S X1.t3.1,S X1.t4.1,sL Z6 X2 P6] 32 (0,0)) kr (λ_=>by kernel_rfl) λQ5 W27 N47 _ f=>aA rfl (aW 5 (mR _) N47 rfl (aV rfl (λW28 N48=>?_) ?_))
       ·have N49:=N48.pl [1]
        obtain⟨Z11,P11,V5,H3,J5,N50,B8⟩:=N49.rowSli (f:=aY) (xs:=X2) szd_TE0 D3
        have f:=Frm.set f 42 (v:=.agg #[.int .i64 X1.2.1,.int .i8 X1.2.2.1,S X1.2.2.2.1,S X1.2.2.2.2.1,.slice Z6 X2.length P6]) (v':=.agg #[.int .i64 X1.2.1,.int .i8 X1.2.2.1,S X1.2.2.2.1,S X1.2.2.2.2.1,.slice Z11 X2.length P11]) (by kernel_rfl) (by rw[H3])
        have N51:Hp w0 V5 ((oC Q5 #[iL X1.2.1,iB X1.2.2.1,S X1.t3.1,S X1.t4.1,sL Z11 X2 P11] 32)::(oC Q1 #[iL X1.2.1,iB X1.2.2.1,S X1.t3.1,S X1.t4.1,sL Z11 X2 P11] 32)::(oC b0 #[sL Z1 aL P1,iL aM,sL Z2 ar P2,.map (some bi),sL Z3 aj P3,iL aO] 62)::(rO 32 5 Z2 ar P2 L1)::(Ent.obj bi (bh (Value.int .i64) vTD0 (de aw X1.2.1 aX)))::(oC Q2 #[bO ((aG aw X1.2.1).getD aX).aq,bO ((aG aw X1.2.1).getD aX).bC,S ((aG aw X1.2.1).getD aX).af] 38)::(rO 32 5 Z3 aj P3 L2)::H) W28:=by unfold sL at N50;rw[H3] at N50;exact N50
        have N52:=N51.pl [3]
        refine Y22 (z:=.agg #[iL 0,iB 0,S [],S [],Sn]) (f:=aJ) (xs:=ar) (ys:=[(⟨X1.2.1,X1.2.2.1,X1.t3.1,X1.t4.1,X2⟩:TI0)]) (news:=[iL X1.2.1,iB X1.2.2.1,S X1.t3.1,S X1.t4.1,sL Z11 X2 P11]) (ad:=⟨Q5,0,none⟩) (m:=1) (c:=1) f N52 (aa.mono ((J1.trans J2).trans J5) _ _ D1) (by exact⟨_,_,rfl,TI0.shut B8,rfl⟩) rfl rfl rfl rfl (al (N52.ownCell 1 rfl) 0 rfl) (by exact O1) (by have hg_:=O1;first|omega|(simp only[List.length_cons,List.length_nil] at*;omega)) λZ12 P12 L6 W29 N53 D6 _ f=>?_
        have N54:=N53.pl [1]
        have N55:=N54.drop
        refine aA rfl (aW 3 J5 N55 rfl (Y1 (v:=pP b0) rfl f rfl rfl (λ_ _=>by kernel_rfl) λ_ f=>Y1 (v:=Pa (⟨b0,2,none⟩)) rfl f rfl rfl (λ_ _=>by kernel_rfl) λ_ f=>aV rfl (λW30 N56=>?_) ?_))
        ·refine Y28 f N56 2 rfl rfl (b:=b0) (j:=2) (v:=sL Z12 (ar++[(⟨X1.2.1,X1.2.2.1,X1.t3.1,X1.t4.1,X2⟩:TI0)]) P12) rfl (by exact rfl) (by simp) (by simp) ((rO 32 5 Z12 (ar++[(⟨X1.2.1,X1.2.2.1,X1.t3.1,X1.t4.1,X2⟩:TI0)]) P12 L6)::(oC Q1 #[iL X1.2.1,iB X1.2.2.1,S X1.t3.1,S X1.t4.1,sL Z11 X2 P11] 32)::(oC b0 #[sL Z1 aL P1,iL aM,sL Z12 (ar++[(⟨X1.2.1,X1.2.2.1,X1.t3.1,X1.t4.1,X2⟩:TI0)]) P12,.map (some bi),sL Z3 aj P3,iL aO] 62)::(Ent.obj bi (bh (Value.int .i64) vTD0 (de aw X1.2.1 aX)))::(oC Q2 #[bO ((aG aw X1.2.1).getD aX).aq,bO ((aG aw X1.2.1).getD aX).bC,S ((aG aw X1.2.1).getD aX).af] 38)::(rO 32 5 Z3 aj P3 L2)::H) rfl λW31 N57 _ f=>aA rfl (aW 3 J5 N57 rfl (jT λW32 N58=>aH ?_))
         exact⟨(X2,ar++[(⟨X1.2.1,X1.2.2.1,X1.t3.1,X1.t4.1,X2⟩:TI0)]),(sI F7).symm,V5,J5,Z11,P11,Z12,P12,L6,B8,D6,f.kp,N58⟩
        exact aQ
       exact aQ
      exact aQ
     refine aV rfl (λW33 N59=>?_) ?_
     ·refine bg (k:=1) (c:=1) f N59 (.cells #[iL X1.2.1,iB X1.2.2.1,S X1.t3.1,S X1.t4.1,sL Z6 X2 P6] 32 (0,0)) kr (λ_=>by kernel_rfl) λQ6 W34 N60 _ f=>aA rfl (aW 5 (mR _) N60 rfl (aV rfl (λW35 N61=>?_) ?_))
      ·refine Z f (Y35 (v:=sL Z2 ar P2) rfl (ad:=⟨b0,2,none⟩) (N61.ownCell 3 rfl 2)) λ_ f=>aA rfl (aW 5 (mR _) N61 rfl (aV rfl (λW36 N62=>?_) ?_))
       ·have N63:=N62.pl [1]
        obtain⟨Z13,P13,V6,H4,J6,N64,B9⟩:=N63.rowSli (f:=aY) (xs:=X2) szd_TE0 D3
        have f:=Frm.set f 42 (v:=.agg #[.int .i64 X1.2.1,.int .i8 X1.2.2.1,S X1.2.2.2.1,S X1.2.2.2.2.1,.slice Z6 X2.length P6]) (v':=.agg #[.int .i64 X1.2.1,.int .i8 X1.2.2.1,S X1.2.2.2.1,S X1.2.2.2.2.1,.slice Z13 X2.length P13]) (by kernel_rfl) (by rw[H4])
        have N65:Hp w0 V6 ((oC Q6 #[iL X1.2.1,iB X1.2.2.1,S X1.t3.1,S X1.t4.1,sL Z13 X2 P13] 32)::(oC Q1 #[iL X1.2.1,iB X1.2.2.1,S X1.t3.1,S X1.t4.1,sL Z13 X2 P13] 32)::(oC b0 #[sL Z1 aL P1,iL aM,sL Z2 ar P2,.map (some bi),sL Z3 aj P3,iL aO] 62)::(rO 32 5 Z2 ar P2 L1)::(Ent.obj bi (bh (Value.int .i64) vTD0 (de aw X1.2.1 aX)))::(oC Q2 #[bO ((aG aw X1.2.1).getD aX).aq,bO ((aG aw X1.2.1).getD aX).bC,S ((aG aw X1.2.1).getD aX).af] 38)::(rO 32 5 Z3 aj P3 L2)::H) W36:=by unfold sL at N64;rw[H4] at N64;exact N64
        have N66:=N65.pl [3]
        refine Y22 (z:=.agg #[iL 0,iB 0,S [],S [],Sn]) (f:=aJ) (xs:=ar) (ys:=[(⟨X1.2.1,X1.2.2.1,X1.t3.1,X1.t4.1,X2⟩:TI0)]) (news:=[iL X1.2.1,iB X1.2.2.1,S X1.t3.1,S X1.t4.1,sL Z13 X2 P13]) (ad:=⟨Q6,0,none⟩) (m:=1) (c:=1) f N66 (aa.mono ((J1.trans J2).trans J6) _ _ D1) (by exact⟨_,_,rfl,TI0.shut B9,rfl⟩) rfl rfl rfl rfl (al (N66.ownCell 1 rfl) 0 rfl) (by exact O1) (by have hg_:=O1;first|omega|(simp only[List.length_cons,List.length_nil] at*;omega)) λZ14 P14 L7 W37 N67 D7 _ f=>?_
        have N68:=N67.pl [1]
        have N69:=N68.drop
        refine aA rfl (aW 3 J6 N69 rfl (Y1 (v:=pP b0) rfl f rfl rfl (λ_ _=>by kernel_rfl) λ_ f=>Y1 (v:=Pa (⟨b0,2,none⟩)) rfl f rfl rfl (λ_ _=>by kernel_rfl) λ_ f=>aV rfl (λW38 N70=>?_) ?_))
        ·refine Y28 f N70 2 rfl rfl (b:=b0) (j:=2) (v:=sL Z14 (ar++[(⟨X1.2.1,X1.2.2.1,X1.t3.1,X1.t4.1,X2⟩:TI0)]) P14) rfl (by exact rfl) (by simp) (by simp) ((rO 32 5 Z14 (ar++[(⟨X1.2.1,X1.2.2.1,X1.t3.1,X1.t4.1,X2⟩:TI0)]) P14 L7)::(oC Q1 #[iL X1.2.1,iB X1.2.2.1,S X1.t3.1,S X1.t4.1,sL Z13 X2 P13] 32)::(oC b0 #[sL Z1 aL P1,iL aM,sL Z14 (ar++[(⟨X1.2.1,X1.2.2.1,X1.t3.1,X1.t4.1,X2⟩:TI0)]) P14,.map (some bi),sL Z3 aj P3,iL aO] 62)::(Ent.obj bi (bh (Value.int .i64) vTD0 (de aw X1.2.1 aX)))::(oC Q2 #[bO ((aG aw X1.2.1).getD aX).aq,bO ((aG aw X1.2.1).getD aX).bC,S ((aG aw X1.2.1).getD aX).af] 38)::(rO 32 5 Z3 aj P3 L2)::H) rfl λW39 N71 _ f=>aA rfl (aW 3 J6 N71 rfl (jT λW40 N72=>aH ?_))
         exact⟨(X2,ar++[(⟨X1.2.1,X1.2.2.1,X1.t3.1,X1.t4.1,X2⟩:TI0)]),(sI F7).symm,V6,J6,Z13,P13,Z14,P14,L7,B9,D7,f.kp,N72⟩
        exact aQ
       exact aQ
      exact aQ
     exact aQ
    exact aQ
   ·rintro a_63 W41 ⟨G1,dg,V7,J7,Z15,P15,Z16,P16,L8,B10,D8,f,N73⟩
    subst cX
    refine aH ?_
    obtain⟨jd,eW,F8⟩:=bS F6
    refine bj (λa_88 W61=>∃G2:List TI0,jd=G2∧∃V8:Mem,V7.le V8∧∃ (Z20:Oa),∃ (P20:Nat),∃ (L12:Lv),aa V8 (G2.map aJ) L12∧Frm 57 [] a_88∧Hp w0 V8 ((rO 32 5 Z20 G2 P20 L12)::(oC b0 #[sL Z1 aL P1,iL aM,sL Z16 G1.2 P16,.map (some bi),sL Z20 G2 P20,iL aO] 62)::(rO 32 5 Z16 G1.2 P16 L8)::(oC Q1 #[iL X1.2.1,iB X1.2.2.1,S X1.t3.1,S X1.t4.1,sL Z15 G1.1 P15] 32)::(Ent.obj bi (bh (Value.int .i64) vTD0 (de aw X1.2.1 aX)))::(oC Q2 #[bO ((aG aw X1.2.1).getD aX).aq,bO ((aG aw X1.2.1).getD aX).bC,S ((aG aw X1.2.1).getD aX).af] 38)::H) W61) ?_ ?_
    ·have N85:=N73.pl [4,4,3,3,5,5]
     obtain⟨O2,F9⟩:=nS eW
     refine iz (ks:=[]) (E:=[oC b0 #[sL Z1 aL P1,iL aM,sL Z16 G1.2 P16,.map (some bi),sL Z3 aj P3,iL aO] 62,rO 32 5 Z3 aj P3 L2]) (Hr:=((rO 32 5 Z16 G1.2 P16 L8)::(oC Q1 #[iL X1.2.1,iB X1.2.2.1,S X1.t3.1,S X1.t4.1,sL Z15 G1.1 P15] 32)::(Ent.obj bi (bh (Value.int .i64) vTD0 (de aw X1.2.1 aX)))::(oC Q2 #[bO ((aG aw X1.2.1).getD aX).aq,bO ((aG aw X1.2.1).getD aX).bC,S ((aG aw X1.2.1).getD aX).af] 38)::H)) (.quiet 0 (.quiet 1 (.quiet 2 (.quiet 3 (.quiet 5 (.alt 4 (.alt 6 (.alt 7 (.quiet 8 (.quiet 9 (.alt 10 .done .none))) .none) .none) (.alt 6 (.alt 4 (.alt 7 (.quiet 8 (.quiet 9 (.alt 10 .done .none))) .none) .none) .none))))))) N85 kr kr kr (Y1 (v:=pP b0) rfl f rfl rfl (λ_ _=>by kernel_rfl) λ_ f=>Y1 (v:=pP b0) rfl f rfl rfl (λ_ _=>by kernel_rfl) λ_ f=>Y1 (v:=pP b0) rfl f rfl rfl (λ_ _=>by kernel_rfl) λ_ f=>Y1 (v:=Pa (⟨b0,4,none⟩)) rfl f rfl rfl (λ_ _=>by kernel_rfl) λ_ f=>Y1 (v:=.agg #[iL X1.2.1,iB X1.2.2.1,S X1.t3.1,S X1.t4.1,sL Z15 G1.1 P15]) rfl f rfl rfl (λ_ pq=>Y36 (cs:=[iL X1.2.1,iB X1.2.2.1,S X1.t3.1,S X1.t4.1,sL Z15 G1.1 P15]) rfl (ad:=⟨Q1,0,none⟩) (al (pq.ownCell 1 rfl) 0 rfl)) λ_ f=>aV rfl (λW45 N86=>?_) ?_)
     ·refine Z f (Y35 (v:=sL Z3 aj P3) rfl (ad:=⟨b0,4,none⟩) (N86.ownCell 0 rfl 4)) λ_ f=>aA rfl (aW 2 (mR _) N86 rfl (aV rfl (λW46 N87=>?_) ?_))
      ·refine bg (k:=1) (c:=1) f N87 (.cells #[iL X1.2.1,iB X1.2.2.1,S X1.t3.1,S X1.t4.1,sL Z15 G1.1 P15] 32 (0,0)) kr (λ_=>by kernel_rfl) λQ8 W47 N88 _ f=>aA rfl (aW 3 (mR _) N88 rfl (aV rfl (λW48 N89=>?_) ?_))
       ·have N90:=N89.pl [2]
        refine Y22 (z:=.agg #[iL 0,iB 0,S [],S [],Sn]) (f:=aJ) (xs:=aj) (ys:=[(⟨X1.2.1,X1.2.2.1,X1.t3.1,X1.t4.1,G1.1⟩:TI0)]) (news:=[iL X1.2.1,iB X1.2.2.1,S X1.t3.1,S X1.t4.1,sL Z15 G1.1 P15]) (ad:=⟨Q8,0,none⟩) (m:=1) (c:=1) f N90 (aa.mono ((J1.trans J2).trans J7) _ _ D2) (by exact⟨_,_,rfl,TI0.shut B10,rfl⟩) rfl rfl rfl rfl (al (N90.ownCell 1 rfl) 0 rfl) (by exact O2) (by have hg_:=O2;first|omega|(simp only[List.length_cons,List.length_nil] at*;omega)) λZ18 P18 L10 W49 N91 D10 _ f=>?_
        have N92:=N91.pl [1]
        have N93:=N92.drop
        refine aA rfl (aW 2 (mR _) N93 rfl (Y1 (v:=pP b0) rfl f rfl rfl (λ_ _=>by kernel_rfl) λ_ f=>Y1 (v:=Pa (⟨b0,4,none⟩)) rfl f rfl rfl (λ_ _=>by kernel_rfl) λ_ f=>aV rfl (λW50 N94=>?_) ?_))
        ·refine Y28 f N94 1 rfl rfl (b:=b0) (j:=4) (v:=sL Z18 (aj++[(⟨X1.2.1,X1.2.2.1,X1.t3.1,X1.t4.1,G1.1⟩:TI0)]) P18) rfl (by exact rfl) (by simp) (by simp) ((rO 32 5 Z18 (aj++[(⟨X1.2.1,X1.2.2.1,X1.t3.1,X1.t4.1,G1.1⟩:TI0)]) P18 L10)::(oC b0 #[sL Z1 aL P1,iL aM,sL Z16 G1.2 P16,.map (some bi),sL Z18 (aj++[(⟨X1.2.1,X1.2.2.1,X1.t3.1,X1.t4.1,G1.1⟩:TI0)]) P18,iL aO] 62)::(rO 32 5 Z16 G1.2 P16 L8)::(oC Q1 #[iL X1.2.1,iB X1.2.2.1,S X1.t3.1,S X1.t4.1,sL Z15 G1.1 P15] 32)::(Ent.obj bi (bh (Value.int .i64) vTD0 (de aw X1.2.1 aX)))::(oC Q2 #[bO ((aG aw X1.2.1).getD aX).aq,bO ((aG aw X1.2.1).getD aX).bC,S ((aG aw X1.2.1).getD aX).af] 38)::H) rfl λW51 N95 _ f=>aA rfl (aW 2 (mR _) N95 rfl (jT λW52 N96=>aH ?_))
         exact⟨aj++[(⟨X1.2.1,X1.2.2.1,X1.t3.1,X1.t4.1,G1.1⟩:TI0)],(sI F9).symm,V7,(mR _),Z18,P18,L10,D10,f.kp,N96⟩
        exact aQ
       exact aQ
      exact aQ
     refine aV rfl (λW53 N97=>?_) ?_
     ·refine bg (k:=1) (c:=1) f N97 (.cells #[iL X1.2.1,iB X1.2.2.1,S X1.t3.1,S X1.t4.1,sL Z15 G1.1 P15] 32 (0,0)) kr (λ_=>by kernel_rfl) λQ9 W54 N98 _ f=>aA rfl (aW 3 (mR _) N98 rfl (aV rfl (λW55 N99=>?_) ?_))
      ·refine Z f (Y35 (v:=sL Z3 aj P3) rfl (ad:=⟨b0,4,none⟩) (N99.ownCell 1 rfl 4)) λ_ f=>aA rfl (aW 3 (mR _) N99 rfl (aV rfl (λW56 N100=>?_) ?_))
       ·have N101:=N100.pl [2]
        refine Y22 (z:=.agg #[iL 0,iB 0,S [],S [],Sn]) (f:=aJ) (xs:=aj) (ys:=[(⟨X1.2.1,X1.2.2.1,X1.t3.1,X1.t4.1,G1.1⟩:TI0)]) (news:=[iL X1.2.1,iB X1.2.2.1,S X1.t3.1,S X1.t4.1,sL Z15 G1.1 P15]) (ad:=⟨Q9,0,none⟩) (m:=1) (c:=1) f N101 (aa.mono ((J1.trans J2).trans J7) _ _ D2) (by exact⟨_,_,rfl,TI0.shut B10,rfl⟩) rfl rfl rfl rfl (al (N101.ownCell 1 rfl) 0 rfl) (by exact O2) (by have hg_:=O2;first|omega|(simp only[List.length_cons,List.length_nil] at*;omega)) λZ19 P19 L11 W57 N102 D11 _ f=>?_
        have N103:=N102.pl [1]
        have N104:=N103.drop
        refine aA rfl (aW 2 (mR _) N104 rfl (Y1 (v:=pP b0) rfl f rfl rfl (λ_ _=>by kernel_rfl) λ_ f=>Y1 (v:=Pa (⟨b0,4,none⟩)) rfl f rfl rfl (λ_ _=>by kernel_rfl) λ_ f=>aV rfl (λW58 N105=>?_) ?_))
        ·refine Y28 f N105 1 rfl rfl (b:=b0) (j:=4) (v:=sL Z19 (aj++[(⟨X1.2.1,X1.2.2.1,X1.t3.1,X1.t4.1,G1.1⟩:TI0)]) P19) rfl (by exact rfl) (by simp) (by simp) ((rO 32 5 Z19 (aj++[(⟨X1.2.1,X1.2.2.1,X1.t3.1,X1.t4.1,G1.1⟩:TI0)]) P19 L11)::(oC b0 #[sL Z1 aL P1,iL aM,sL Z16 G1.2 P16,.map (some bi),sL Z19 (aj++[(⟨X1.2.1,X1.2.2.1,X1.t3.1,X1.t4.1,G1.1⟩:TI0)]) P19,iL aO] 62)::(rO 32 5 Z16 G1.2 P16 L8)::(oC Q1 #[iL X1.2.1,iB X1.2.2.1,S X1.t3.1,S X1.t4.1,sL Z15 G1.1 P15] 32)::(Ent.obj bi (bh (Value.int .i64) vTD0 (de aw X1.2.1 aX)))::(oC Q2 #[bO ((aG aw X1.2.1).getD aX).aq,bO ((aG aw X1.2.1).getD aX).bC,S ((aG aw X1.2.1).getD aX).af] 38)::H) rfl λW59 N106 _ f=>aA rfl (aW 2 (mR _) N106 rfl (jT λW60 N107=>aH ?_))
         exact⟨aj++[(⟨X1.2.1,X1.2.2.1,X1.t3.1,X1.t4.1,G1.1⟩:TI0)],(sI F9).symm,V7,(mR _),Z19,P19,L11,D11,f.kp,N107⟩
        exact aQ
       exact aQ
      exact aQ
     exact aQ
    ·rintro a_88 W61 ⟨G2,hZ,V8,J8,Z20,P20,L12,D12,f,N108⟩
     subst jd
     refine aH (RR (Ye f 1 λ_ f=>wp_ret (ao f rfl (Lk 4 (iL 0)) ?_)))
     cases sI F8
     have N113:=N108.pl [4,3,3,5,5]
     exact⟨_,rfl,V8,_,(((J1.trans J2).trans J7).trans J8),(N113.dropN 2),⟨Z1,P1,Z16,P16,L8,Z20,P20,L12,rfl,rfl,(B1.mono (((J1.trans J2).trans J7).trans J8)),(aa.mono J8 _ _ D8),D12⟩⟩
  ·have U4: ((aG aw X1.2.1).isSome)=true:=by simpa using B5
   refine St (RR (Ye f 1 λ_ f=>wp_ret (ao f rfl (Lk 4 (iL 0)) ?_)))
   cases sI F10
   exact⟨_,rfl,V1,_,J1,(N7.dropN 2),⟨Z1,P1,Z2,P2,L1,Z3,P3,L2,rfl,rfl,(B1.mono J1),(aa.mono J1 _ _ D1),(aa.mono J1 _ _ D2)⟩⟩
def dw (n:Nat) (aL:List TG0) (aM:Int) (ar:List TI0) (aw:List (Int×TD0)) (aj:List TI0) (aO:Int) (eJ:Int) (gC:Int) (gh:Bs) (ic:Bs) (cQ:List TE0):Option (TD0×List TG0×Int×List TI0× (List (Int×TD0))×List TI0×Int×Int×Int×Bs×Bs×List TE0):=
 ((bif(decide (gC=0)) then
  ((iU n (⟨aL,aM⟩:TC0) ic cQ).bind λX1=>
  some ((X1.2.1,X1.2.2,X1.1.fL,X1.1.au)))
   else
    bif(decide (gC=1)) then
     ((iV n (⟨aL,aM⟩:TC0) gh cQ).bind λX2=>
     some ((([]:Bs),X2.2,X2.1.fL,X2.1.au)))
    else
     bif(decide (gC=2)) then
      ((iX n (⟨aL,aM⟩:TC0) gh).bind λX3=>
      some ((([]:Bs),X3.2,X3.1.fL,X3.1.au)))
     else
      some ((([]:Bs),(0:Int),aL,aM)):Option (Bs×Int×List TG0×Int))).bind λG1=>
 bif(!(decide (G1.2.1=0))) then
  (some (((⟨(true),(false),([]:Bs)⟩:TD0),aL,aM,ar,aw,aj,aO,eJ,gC,gh,ic,cQ)))
 else
  bif(decide (gC=0)) then
   (aZ (inR .i64 (aO+1))<|
   some (((⟨(true),(true),G1.1⟩:TD0),G1.2.2.1,G1.2.2.2,ar,aw,aj,aO+1,eJ,gC,gh,ic,cQ)))
  else
   some (((⟨(true),(true),G1.1⟩:TD0),G1.2.2.1,G1.2.2.2,ar,aw,aj,aO,eJ,gC,gh,ic,cQ))
set_option maxRecDepth 20000 in
theorem mq (n:Nat) (M:Mem) (hG:GL M) (b0:Nat) (aL:List TG0) (Z1:Oa) (P1:Nat) (B1:Sli M 3 aK Z1 P1 aL) (aM:Int) (ar:List TI0) (Z2:Oa) (P2:Nat) (L1:Lv) (D1:aa M (ar.map aJ) L1) (bi:Nat) (aw:List (Int×TD0)) (aj:List TI0) (Z3:Oa) (P3:Nat) (L2:Lv) (D2:aa M (aj.map aJ) L2) (aO:Int) (b1:Nat) (eJ:Int) (gC:Int) (gh:Bs) (ic:Bs) (cQ:List TE0) (Z4:Oa) (P4:Nat) (B2:Sli M 8 aY Z4 P4 cQ) (r:TD0×List TG0×Int×List TI0× (List (Int×TD0))×List TI0×Int×Int×Int×Bs×Bs×List TE0) (hF:dw n aL aM ar aw aj aO eJ gC gh ic cQ=some r):OkH Tryz.prog M [oC b0 #[sL Z1 aL P1,iL aM,sL Z2 ar P2,.map (some bi),sL Z3 aj P3,iL aO] 62,rO 32 5 Z2 ar P2 L1,Ent.obj bi (bh (Value.int .i64) vTD0 aw),rO 32 5 Z3 aj P3 L2,oC b1 #[iL eJ,iB gC,S gh,S ic,sL Z4 cQ P4] 32] 32 [pP b0,pP b1] (λM' E' v=>∃ (c0:Lv) (Z9:Oa) (P9:Nat) (Z10:Oa) (P10:Nat) (L3:Lv) (Z11:Oa) (P11:Nat) (L4:Lv) (Z12:Oa) (P12:Nat),v=.agg c0.toArray∧E'=[oC b0 #[sL Z9 r.2.1 P9,iL r.2.2.1,sL Z10 r.t3.1 P10,.map (some bi),sL Z11 r.t5.1 P11,iL r.t6.1] 62,rO 32 5 Z10 r.t3.1 P10 L3,Ent.obj bi (bh (Value.int .i64) vTD0 r.t4.1),rO 32 5 Z11 r.t5.1 P11 L4,oC b1 #[iL r.t7.1,iB r.t8.1,S r.t9.1,S r.t10.1,sL Z12 r.t11 P12] 32]∧Rep M' (bK r.1) c0∧Sli M' 3 aK Z9 P9 r.2.1∧aa M' (r.t3.1.map aJ) L3∧aa M' (r.t5.1.map aJ) L4∧Sli M' 8 aY Z12 P12 r.t11):=by
 unfold dw at hF
 intro M1 hM0 w0 H w p0
 replace hG:=GL.mono hM0 hG
 replace B1:=B1.mono hM0
 replace D1:=aa.mono hM0 _ _ D1
 replace D2:=aa.mono hM0 _ _ D2
 replace B2:=B2.mono hM0
 refine Re 91 Tryz.func32 rfl λa0 f0=>RR (Y12 f0 p0 (.cells #[bO false,bO false,S []] 38 (0,0)) λQ1 W1 N1 _ f=>eT (RR (Y f 1 λ_ f=>Y28 f N1 0 rfl rfl (b:=Q1) (j:=0) (v:=bO true) rfl (by exact rfl) (by simp) (by simp) _ rfl λW2 N2 _ f=>eT (RR (Y f 3 λ_ f=>Z f (Y36 (cs:=[sL Z1 aL P1,iL aM]) rfl (ad:=⟨b0,0,none⟩) (al (N2.ownCell 1 rfl) 0 rfl)) λ_ f=>Y12 f N2 (.cells #[Sn,iL 0] 60 (0,0)) λQ2 W3 N3 _ f=>Ys [sL Z1 aL P1,iL aM] #[sL Z1 aL P1,iL aM] f N3 rfl rfl λW4 N4 _ f=>Ye f 2 λ_ f=>ag (RR (Y f 3 λ_ f=>Z f (Y35 (v:=iB gC) rfl (ad:=⟨b1,1,none⟩) (N4.ownCell 6 rfl 1)) λ_ f=>eT ?_)))))))
 obtain⟨cX,bX,F1⟩:=bS hF
 refine bj (λa_42 W20=>∃G1:Bs×Int×List TG0×Int,cX=G1∧∃V4:Mem,M1.le V4∧∃ (Z8:Oa),∃ (P8:Nat),Sli V4 3 aK Z8 P8 G1.2.2.1∧Frm 91 [(0,pP b0),(1,pP b1),(4,pP Q1),(5,pP Q2),(6,S G1.1),(7,iL G1.2.1)] a_42∧Hp w0 V4 ((oC Q2 #[sL Z8 G1.2.2.1 P8,iL G1.t3] 60)::(oC Q1 #[bO true,bO false,S []] 38)::(oC b0 #[sL Z1 aL P1,iL aM,sL Z2 ar P2,.map (some bi),sL Z3 aj P3,iL aO] 62)::(rO 32 5 Z2 ar P2 L1)::(Ent.obj bi (bh (Value.int .i64) vTD0 aw))::(rO 32 5 Z3 aj P3 L2)::(oC b1 #[iL eJ,iB gC,S gh,S ic,sL Z4 cQ P4] 32)::H) W20) ?_ ?_
 ·refine wp_block (RR (Ye f 2 λ_ f=>RcF f bX (λB3 F2=>?_) λB3 F4=>?_))
  ·have U1:=dI.1 B3
   refine oL (E:=[oC Q2 #[sL Z1 aL P1,iL aM] 60]) (Hr:=((oC Q1 #[bO true,bO false,S []] 38)::(oC b0 #[sL Z1 aL P1,iL aM,sL Z2 ar P2,.map (some bi),sL Z3 aj P3,iL aO] 62)::(rO 32 5 Z2 ar P2 L1)::(Ent.obj bi (bh (Value.int .i64) vTD0 aw))::(rO 32 5 Z3 aj P3 L2)::(oC b1 #[iL eJ,iB gC,S gh,S ic,sL Z4 cQ P4] 32)::H)) [(0,true),(1,true),(2,true),(3,true),(4,true),(5,true),(6,true),(7,true),(8,true),(9,true),(10,true),(11,true),(12,false),(13,true),(14,true),(15,true),(16,true),(17,false),(18,true),(19,true)] N4 kr kr rfl kr (Y0 default f 3 λ_ f=>iO (v:=.agg #[sL Z1 aL P1,iL aM]) f kr kr rfl rfl (λ_ pq=>Y36 (cs:=[sL Z1 aL P1,iL aM]) rfl (ad:=⟨b0,0,none⟩) (al (pq.ownCell 1 rfl) 0 rfl)) λ_ f=>Y0 default f 3 λ_ f=>iO (v:=S ic) f kr kr rfl rfl (λ_ pq=>Y35 (v:=S ic) rfl (ad:=⟨b1,3,none⟩) (pq.ownCell 5 rfl 3)) λ_ f=>Y0 default f 3 λ_ f=>iO (v:=sL Z4 cQ P4) f kr kr rfl rfl (λ_ pq=>Y35 (v:=sL Z4 cQ P4) rfl (ad:=⟨b1,4,none⟩) (pq.ownCell 5 rfl 4)) λ_ f=>eY (E:=[oC Q2 #[sL Z1 aL P1,iL aM] 60]) λW5 N5=>?_)
   obtain⟨X1,S1,F3⟩:=bS F2
   refine Y16 f N5 (qB n _ hG _ (⟨aL,aM⟩:TC0) (TC0.shut B1) ic Z4 P4 cQ B2 X1 S1) λ_ V1 W6 J1 N6 jO _ f=>?_
   obtain⟨cP,rfl,D3⟩:=jO
   obtain⟨Z5,P5,rfl,B4⟩:=TC0.opn D3
   refine aA rfl (jR (M1:=V1) (E:=[oC Q2 #[sL Z1 aL P1,iL aM] 60]) J1 N6 (Y0 default f 4 λ_ f=>eY (E:=[oC Q2 #[sL Z1 aL P1,iL aM] 60]) λW7 N7=>Ys (lTC0 X1.1 Z5 P5) (aTC0 X1.1 Z5 P5) f N7 rfl rfl λW8 N8 _ f=>aA rfl (jR (M1:=V1) (E:=[Ent.obj Q2 (.cells (aTC0 X1.1 Z5 P5) 60 (0,0))]) J1 N8 (Y0 default f 2 λ_ f=>mB rfl λW9 N9=>cG (aH ?_)))))
   exact⟨(X1.2.1,X1.2.2,X1.1.fL,X1.1.au),(sI F3).symm,V1,J1,Z5,P5,B4,f.kp,N9⟩
  ·have U2:=ap dI B3
   refine RR (Ye f 2 λ_ f=>RcF f F4 (λB5 F5=>?_) λB5 F7=>?_)
   ·have U3:=dI.1 B5
    refine oL (E:=[oC Q2 #[sL Z1 aL P1,iL aM] 60]) (Hr:=((oC Q1 #[bO true,bO false,S []] 38)::(oC b0 #[sL Z1 aL P1,iL aM,sL Z2 ar P2,.map (some bi),sL Z3 aj P3,iL aO] 62)::(rO 32 5 Z2 ar P2 L1)::(Ent.obj bi (bh (Value.int .i64) vTD0 aw))::(rO 32 5 Z3 aj P3 L2)::(oC b1 #[iL eJ,iB gC,S gh,S ic,sL Z4 cQ P4] 32)::H)) [(0,true),(1,true),(2,true),(3,true),(4,true),(5,true),(6,true),(7,true),(8,true),(9,true),(10,true),(11,true),(12,false),(13,true),(14,true),(15,true),(16,false),(17,true)] N4 kr kr rfl kr (Y0 default f 3 λ_ f=>iO (v:=.agg #[sL Z1 aL P1,iL aM]) f kr kr rfl rfl (λ_ pq=>Y36 (cs:=[sL Z1 aL P1,iL aM]) rfl (ad:=⟨b0,0,none⟩) (al (pq.ownCell 1 rfl) 0 rfl)) λ_ f=>Y0 default f 3 λ_ f=>iO (v:=S gh) f kr kr rfl rfl (λ_ pq=>Y35 (v:=S gh) rfl (ad:=⟨b1,2,none⟩) (pq.ownCell 5 rfl 2)) λ_ f=>Y0 default f 3 λ_ f=>iO (v:=sL Z4 cQ P4) f kr kr rfl rfl (λ_ pq=>Y35 (v:=sL Z4 cQ P4) rfl (ad:=⟨b1,4,none⟩) (pq.ownCell 5 rfl 4)) λ_ f=>eY (E:=[oC Q2 #[sL Z1 aL P1,iL aM] 60]) λW10 N10=>?_)
    obtain⟨X2,S2,F6⟩:=bS F5
    refine Y16 f N10 (qC n _ hG _ (⟨aL,aM⟩:TC0) (TC0.shut B1) gh Z4 P4 cQ B2 X2 S2) λ_ V2 W11 J2 N11 sj _ f=>?_
    obtain⟨jX,rfl,D4⟩:=sj
    obtain⟨Z6,P6,rfl,B6⟩:=TC0.opn D4
    refine aA rfl (jR (M1:=V2) (E:=[oC Q2 #[sL Z1 aL P1,iL aM] 60]) J2 N11 (Y0 default f 3 λ_ f=>eY (E:=[oC Q2 #[sL Z1 aL P1,iL aM] 60]) λW12 N12=>Ys (lTC0 X2.1 Z6 P6) (aTC0 X2.1 Z6 P6) f N12 rfl rfl λW13 N13 _ f=>aA rfl (jR (M1:=V2) (E:=[Ent.obj Q2 (.cells (aTC0 X2.1 Z6 P6) 60 (0,0))]) J2 N13 (Y0 default f 1 λ_ f=>mB rfl λW14 N14=>cG (aH ?_)))))
    exact⟨(([]:Bs),X2.2,X2.1.fL,X2.1.au),(sI F6).symm,V2,J2,Z6,P6,B6,f.kp,N14⟩
   ·have U4:=ap dI B5
    refine RR (Ye f 2 λ_ f=>RcF f F7 (λB7 F8=>?_) λB7 F10=>?_)
    ·have U5:=dI.1 B7
     refine oL (E:=[oC Q2 #[sL Z1 aL P1,iL aM] 60]) (Hr:=((oC Q1 #[bO true,bO false,S []] 38)::(oC b0 #[sL Z1 aL P1,iL aM,sL Z2 ar P2,.map (some bi),sL Z3 aj P3,iL aO] 62)::(rO 32 5 Z2 ar P2 L1)::(Ent.obj bi (bh (Value.int .i64) vTD0 aw))::(rO 32 5 Z3 aj P3 L2)::(oC b1 #[iL eJ,iB gC,S gh,S ic,sL Z4 cQ P4] 32)::H)) [(0,true),(1,true),(2,true),(3,true),(4,true),(5,true),(6,true),(7,true),(8,false),(9,true),(10,true),(11,true),(12,false),(13,true)] N4 kr kr rfl kr (Y0 default f 3 λ_ f=>iO (v:=.agg #[sL Z1 aL P1,iL aM]) f kr kr rfl rfl (λ_ pq=>Y36 (cs:=[sL Z1 aL P1,iL aM]) rfl (ad:=⟨b0,0,none⟩) (al (pq.ownCell 1 rfl) 0 rfl)) λ_ f=>Y0 default f 3 λ_ f=>iO (v:=S gh) f kr kr rfl rfl (λ_ pq=>Y35 (v:=S gh) rfl (ad:=⟨b1,2,none⟩) (pq.ownCell 5 rfl 2)) λ_ f=>eY (E:=[oC Q2 #[sL Z1 aL P1,iL aM] 60]) λW15 N15=>?_)
     obtain⟨X3,S3,F9⟩:=bS F8
     refine Y16 f N15 (qD n _ hG _ (⟨aL,aM⟩:TC0) (TC0.shut B1) gh X3 S3) λ_ V3 W16 J3 N16 q_3 _ f=>?_
     obtain⟨c_3,rfl,D5⟩:=q_3
     obtain⟨Z7,P7,rfl,B8⟩:=TC0.opn D5
     refine aA rfl (jR (M1:=V3) (E:=[oC Q2 #[sL Z1 aL P1,iL aM] 60]) J3 N16 (Y0 default f 3 λ_ f=>eY (E:=[oC Q2 #[sL Z1 aL P1,iL aM] 60]) λW17 N17=>Ys (lTC0 X3.1 Z7 P7) (aTC0 X3.1 Z7 P7) f N17 rfl rfl λW18 N18 _ f=>aA rfl (jR (M1:=V3) (E:=[Ent.obj Q2 (.cells (aTC0 X3.1 Z7 P7) 60 (0,0))]) J3 N18 (Y0 default f 1 λ_ f=>mB rfl λW19 N19=>cG (aH ?_)))))
     exact⟨(([]:Bs),X3.2,X3.1.fL,X3.1.au),(sI F9).symm,V3,J3,Z7,P7,B8,f.kp,N19⟩
    ·have U6:=ap dI B7
     refine wp_skip (cG (aH ?_))
     exact⟨(([]:Bs),(0:Int),aL,aM),(sI F10).symm,M1,(mR _),Z1,P1,B1,f.kp,N4⟩
 ·rintro a_42 W20 ⟨G1,dg,V4,J4,Z8,P8,B9,f,N20⟩
  subst cX
  refine aH (ag (RR (Ye f 2 λ_ f=>RcF f F1 (λB10 F11=>?_) λB10 F12=>?_)))
  ·have U7: ¬ (G1.2.1=0):=(av dI).1 B10
   refine RR (Z f (Y36 (cs:=[bO true,bO false,S []]) rfl (ad:=⟨Q1,0,none⟩) (al (N20.ownCell 1 rfl) 0 rfl)) λ_ f=>?_)
   have N21:=N20.pl [1]
   refine Ys [bO true,bO false,S []] #[bO true,bO false,S []] f N21 rfl rfl λW21 N22 _ f=>Er (aS (sO f rfl (Y10 (cs:=[bO true,bO false,S []]) (ad:=⟨Q1,0,none⟩) f (al (N22.ownCell 0 rfl) 0 rfl)) ?_))
   cases sI F11
   exact⟨_,rfl,V4,_,J4,(N22.dropN 2),⟨[bO true,bO false,S []],Z1,P1,Z2,P2,L1,Z3,P3,L2,Z4,P4,rfl,rfl,(TD0.shut),(B1.mono J4),(aa.mono J4 _ _ D1),(aa.mono J4 _ _ D2),(B2.mono J4)⟩⟩
  ·have U8: ¬ (¬ (G1.2.1=0)):=ap (av dI) B10
   refine St (RR (Y f 1 λ_ f=>Z f (Y36 (cs:=[sL Z8 G1.2.2.1 P8,iL G1.t3]) rfl (ad:=⟨Q2,0,none⟩) (al (N20.ownCell 0 rfl) 0 rfl)) λ_ f=>Y f 3 λ_ f=>?_))
   have N23:=N20.pl [2]
   refine Ys [sL Z8 G1.2.2.1 P8,iL G1.t3] #[sL Z8 G1.2.2.1 P8,iL G1.t3,sL Z2 ar P2,.map (some bi),sL Z3 aj P3,iL aO] f N23 rfl rfl λW22 N24 _ f=>Y f 1 λ_ f=>Y28 f N24 2 rfl rfl (b:=Q1) (j:=1) (v:=bO true) rfl (by exact rfl) (by simp) (by simp) _ rfl λW23 N25 _ f=>Y f 1 λ_ f=>Y28 f N25 2 rfl rfl (b:=Q1) (j:=2) (v:=S G1.1) rfl (by exact rfl) (by simp) (by simp) _ rfl λW24 N26 _ f=>eT (ag (RR (Y f 3 λ_ f=>Z f (Y35 (v:=iB gC) rfl (ad:=⟨b1,1,none⟩) (N26.ownCell 6 rfl 1)) λ_ f=>Ye f 1 λ_ f=>RcF f F12 (λB11 F13=>?_) λB11 F15=>?_)))
   ·have U9:=dI.1 B11
    refine aI (Y f 3 λ_ f=>Z f (Y35 (v:=iL aO) rfl (ad:=⟨b0,5,none⟩) (N26.ownCell 0 rfl 5)) λ_ f=>?_)
    obtain⟨O1,F14⟩:=nS F13
    refine Y f 1 λ_ f=>?_
    have f:=f.st 87 (iW O1)
    refine Y f 2 λ_ f=>Y28 f N26 0 rfl rfl (b:=b0) (j:=5) (v:=iL (aO+1)) rfl (by exact rfl) (by simp) (by simp) _ rfl λW25 N27 _ f=>eT (RR (Z f (Y36 (cs:=[bO true,bO true,S G1.1]) rfl (ad:=⟨Q1,0,none⟩) (al (N27.ownCell 2 rfl) 0 rfl)) λ_ f=>?_))
    have N28:=N27.pl [2]
    refine Ys [bO true,bO true,S G1.1] #[bO true,bO true,S G1.1] f N28 rfl rfl λW26 N29 _ f=>Er (sO f rfl (Y10 (cs:=[bO true,bO true,S G1.1]) (ad:=⟨Q1,0,none⟩) f (al (N29.ownCell 0 rfl) 0 rfl)) ?_)
    cases sI F14
    have N36:=N29.pl [6,6,6,6,5,6,6]
    exact⟨_,rfl,V4,_,J4,(N36.dropN 2),⟨[bO true,bO true,S G1.1],Z8,P8,Z2,P2,L1,Z3,P3,L2,Z4,P4,rfl,rfl,(TD0.shut),B9,(aa.mono J4 _ _ D1),(aa.mono J4 _ _ D2),(B2.mono J4)⟩⟩
   ·have U10:=ap dI B11
    refine St (RR (Z f (Y36 (cs:=[bO true,bO true,S G1.1]) rfl (ad:=⟨Q1,0,none⟩) (al (N26.ownCell 2 rfl) 0 rfl)) λ_ f=>?_))
    have N37:=N26.pl [2]
    refine Ys [bO true,bO true,S G1.1] #[bO true,bO true,S G1.1] f N37 rfl rfl λW27 N38 _ f=>Er (sO f rfl (Y10 (cs:=[bO true,bO true,S G1.1]) (ad:=⟨Q1,0,none⟩) f (al (N38.ownCell 0 rfl) 0 rfl)) ?_)
    cases sI F15
    have N45:=N38.pl [6,6,6,6,5,6,6]
    exact⟨_,rfl,V4,_,J4,(N45.dropN 2),⟨[bO true,bO true,S G1.1],Z8,P8,Z2,P2,L1,Z3,P3,L2,Z4,P4,rfl,rfl,(TD0.shut),B9,(aa.mono J4 _ _ D1),(aa.mono J4 _ _ D2),(B2.mono J4)⟩⟩
def dN (n:Nat) (aL:List TG0) (aM:Int) (ar:List TI0) (aw:List (Int×TD0)) (aj:List TI0) (aO:Int) (d1:Int) (d2:Bool):Option (Int×TD0×Int×List TG0×Int×List TI0× (List (Int×TD0))×List TI0×Int):=
 ((bif(decide (d1<0)) then
  (some ((true)))
   else
    some ((decide (((aj.length:Nat):Int)≤d1))):Option Bool)).bind λG1=>
 bif G1 then
  (some (((0:Int),aX,(4:Int),aL,aM,ar,aw,aj,aO)))
 else
  (aR aj d1).bind λX1=>
  ((aZ (inR .i64 (d1+1))<|
    aZ (0≤d1∧d1≤(aj.length:Int))<|
    aZ (0≤(d1+1)∧(d1+1)≤(aj.length:Int))<|
    aZ ((d1+1).toNat=d1.toNat+1∧d1.toNat<aj.length)<|
    aZ (aj.length*72≤140737488355328)<|
    some (aj.take d1.toNat++aj.drop (d1.toNat+1)):Option (List TI0))).bind λG2=>
  ((bif d2 then
   ((dw n aL aM ar aw G2 aO X1.ax X1.ab X1.af X1.am X1.ai).bind λX2=>
   some (((X2.1.aq),(X2.1.bC),X2.1.af,X2.2.1,X2.2.2.1,X2.2.2.2.1,X2.2.2.2.2.2.1,X2.2.2.2.2.2.2.1,X2.2.2.2.2.2.2.2.1,X2.2.2.2.2.2.2.2.2.1,X2.2.2.2.2.2.2.2.2.2.1,X2.2.2.2.2.2.2.2.2.2.2.1,X2.2.2.2.2.2.2.2.2.2.2.2,X2.2.2.2.2.1)))
    else
     some (((true),(false),([]:Bs),aL,aM,ar,G2,aO,X1.ax,X1.ab,X1.af,X1.am,X1.ai,aw)):Option (Bool×Bool×Bs×List TG0×Int×List TI0×List TI0×Int×Int×Int×Bs×Bs×List TE0× (List (Int×TD0))))).bind λG3=>
  some ((G3.2.2.2.2.2.2.2.2.1,(⟨(G3.1),(G3.2.1),G3.2.2.1⟩:TD0),(0:Int),G3.2.2.2.1,G3.2.2.2.2.1,G3.2.2.2.2.2.1,de G3.2.2.2.2.2.2.2.2.2.2.2.2.2 G3.2.2.2.2.2.2.2.2.1 (⟨(G3.1),(G3.2.1),G3.2.2.1⟩:TD0),G3.2.2.2.2.2.2.1,G3.2.2.2.2.2.2.2.1))
set_option maxRecDepth 20000 in
theorem kR (n:Nat) (M:Mem) (hG:GL M) (b0:Nat) (aL:List TG0) (Z1:Oa) (P1:Nat) (B1:Sli M 3 aK Z1 P1 aL) (aM:Int) (ar:List TI0) (Z2:Oa) (P2:Nat) (L1:Lv) (D1:aa M (ar.map aJ) L1) (bi:Nat) (aw:List (Int×TD0)) (aj:List TI0) (Z3:Oa) (P3:Nat) (L2:Lv) (D2:aa M (aj.map aJ) L2) (aO:Int) (d1:Int) (d2:Bool) (r:Int×TD0×Int×List TG0×Int×List TI0× (List (Int×TD0))×List TI0×Int) (hF:dN n aL aM ar aw aj aO d1 d2=some r):OkH Tryz.prog M [oC b0 #[sL Z1 aL P1,iL aM,sL Z2 ar P2,.map (some bi),sL Z3 aj P3,iL aO] 62,rO 32 5 Z2 ar P2 L1,Ent.obj bi (bh (Value.int .i64) vTD0 aw),rO 32 5 Z3 aj P3 L2] 10 [pP b0,iL d1,bO d2] (λM' E' v=>∃ (c1:Lv) (Z35:Oa) (P36:Nat) (Z36:Oa) (P37:Nat) (L15:Lv) (Z37:Oa) (P38:Nat) (L16:Lv),v=.tuple #[iL r.1,.agg c1.toArray,iL r.2.2.1]∧E'=[oC b0 #[sL Z35 r.t3.1 P36,iL r.t4.1,sL Z36 r.t5.1 P37,.map (some bi),sL Z37 r.t7.1 P38,iL r.t8] 62,rO 32 5 Z36 r.t5.1 P37 L15,Ent.obj bi (bh (Value.int .i64) vTD0 r.t6.1),rO 32 5 Z37 r.t7.1 P38 L16]∧Rep M' (bK r.2.1) c1∧Sli M' 3 aK Z35 P36 r.t3.1∧aa M' (r.t5.1.map aJ) L15∧aa M' (r.t7.1.map aJ) L16):=by
 unfold dN at hF
 intro M1 hM0 w0 H w p0
 replace hG:=GL.mono hM0 hG
 replace B1:=B1.mono hM0
 replace D1:=aa.mono hM0 _ _ D1
 replace D2:=aa.mono hM0 _ _ D2
 refine Re 64 Tryz.func10 rfl λa0 f0=>RR (Y f0 1 λ_ f=>Y12 f p0 (.cells #[bO false,bO false,S []] 38 (0,0)) λQ1 W1 N1 _ f=>Ye f 1 λ_ f=>ag (RR (Y f 1 λ_ f=>Z (v:=bO false) f (df (q:=some (⟨b0,0,none⟩)) (e:=62) rfl kr kr kr _) λ_ f=>eT (Y7 f (St (ag (ag ?_)))))))
 obtain⟨cX,bX,F1⟩:=bS hF
 refine bj (λpm W2=>∃G1:Bool,cX=G1∧∃V1:Mem,M1.le V1∧Frm 64 [(0,pP b0),(1,iL d1),(2,bO d2),(7,pP Q1),(23,bO G1)] pm∧Hp w0 V1 ((oC Q1 #[bO false,bO false,S []] 38)::(oC b0 #[sL Z1 aL P1,iL aM,sL Z2 ar P2,.map (some bi),sL Z3 aj P3,iL aO] 62)::(rO 32 5 Z2 ar P2 L1)::(Ent.obj bi (bh (Value.int .i64) vTD0 aw))::(rO 32 5 Z3 aj P3 L2)::H) W2) ?_ ?_
 ·refine aI (Y f 3 λ_ f=>?_)
  rcases cE bX with⟨B2,F2⟩|⟨B2,F3⟩
  ·have U1:=dI.1 B2
   have f:=f.st 15 (cB B2)
   refine Ye f 8 λ_ f=>?_
   exact⟨(true),(sI F2).symm,M1,(mR _),f.kp,N1⟩
  ·have U2:=ap dI B2
   have f:=f.st 15 (cB B2)
   refine Y f 4 λ_ f=>Z f (Y35 (v:=sL Z3 aj P3) rfl (ad:=⟨b0,4,none⟩) (N1.ownCell 1 rfl 4)) λ_ f=>Ye f 3 λ_ f=>?_
   exact⟨(decide (((aj.length:Nat):Int)≤d1)),(sI F3).symm,M1,(mR _),f.kp,N1⟩
 ·rintro pm W2 ⟨G1,dg,V1,J1,f,N2⟩
  subst cX
  refine aH (RcF f F1 (λB3 F4=>?_) λB3 F5=>?_)
  ·refine ag (kV 2 N2 kr kr λW3 N3=>bT (v:=.agg #[bO false,bO false,S []]) f kr kr rfl rfl (Y36 (cs:=[bO false,bO false,S []]) rfl (ad:=⟨Q1,0,none⟩) (al (N3.ownCell 0 rfl) 0 rfl)) λ_ f=>bT (v:=iL 0) f kr kr rfl rfl kr λ_ f=>lJ rfl (Ys [bO false,bO false,S []] #[bO false,bO false,S []] f N3 rfl rfl λW4 N4 _ f=>Ye f 1 λ_ f=>wp_ret (aS (lw f rfl (Y11 (v:=iL 0) f) (Y10 (cs:=[bO false,bO false,S []]) (ad:=⟨Q1,0,none⟩) f (al (N4.ownCell 0 rfl) 0 rfl)) (Y11 (v:=iL 4) f) ?_))))
   cases sI F4
   exact⟨_,rfl,V1,_,J1,(N4.dropN 1),⟨[bO false,bO false,S []],Z1,P1,Z2,P2,L1,Z3,P3,L2,rfl,rfl,(TD0.shut),(B1.mono J1),(aa.mono J1 _ _ D1),(aa.mono J1 _ _ D2)⟩⟩
  ·refine St (RR (Y f 3 λ_ f=>Z f (Y35 (v:=sL Z3 aj P3) rfl (ad:=⟨b0,4,none⟩) (N2.ownCell 1 rfl 4)) λ_ f=>Y f 1 λ_ f=>?_))
   obtain⟨X1,S1,F6⟩:=bS F5
   obtain⟨Q2,P4,H1,mh⟩:=N2.rowAddr 4 rfl (eX S1)
   have f:=f.st 28 (H1)
   refine Z f (Y33 rfl (ad:=⟨Q2,0,none⟩) (len:=aj.length) (cap:=P4) (k:=.i64) (i:=d1) (e:=32) (sz:=5) (aF S1) (aE S1)) λ_ f=>?_
   have f:=f.st 28 (H1.symm)
   obtain⟨cP,-,D3,R1⟩:=aa.get d1.toNat (bY dZ) (aa.mono J1 _ _ D2) (ij S1)
   obtain⟨Z4,P5,rfl,B4⟩:=TI0.opn D3
   refine Z f (Y36 (cs:=(lTI0 X1 Z4 P5)) rfl (ad:=(⟨Q2,0,none⟩:Addr).add (d1.toNat*5)) (λj v h=>lj (N2.rowCell 4 rfl H1) R1 j v h)) λ_ f=>Y12 f N2 (.cells #[iL 0,iB 0,S [],S [],Sn] 32 (0,0)) λQ3 W5 N5 _ f=>Ys (lTI0 X1 Z4 P5) (aTI0 X1 Z4 P5) f N5 rfl rfl λW6 N6 _ f=>eT (ag ?_)
   obtain⟨jd,eW,F7⟩:=bS F6
   refine bj (λa_85 W57=>∃G2:List TI0,jd=G2∧∃V2:Mem,V1.le V2∧∃ (Z26:Oa),∃ (P27:Nat),∃ (L10:Lv),aa V2 (G2.map aJ) L10∧Frm 64 [(0,pP b0),(2,bO d2),(7,pP Q1),(9,pP Q3)] a_85∧Hp w0 V2 ((rO 32 5 Z26 G2 P27 L10)::(oC b0 #[sL Z1 aL P1,iL aM,sL Z2 ar P2,.map (some bi),sL Z26 G2 P27,iL aO] 62)::(Ent.obj Q3 (.cells (aTI0 X1 Z4 P5) 32 (0,0)))::(oC Q1 #[bO false,bO false,S []] 38)::(rO 32 5 Z2 ar P2 L1)::(Ent.obj bi (bh (Value.int .i64) vTD0 aw))::H) W57) ?_ ?_
   ·have N15:=N6.pl [4,4,3,3,5,5]
    obtain⟨O1,F8⟩:=nS eW
    obtain⟨O2,F9⟩:=nS F8
    obtain⟨O3,F10⟩:=nS F9
    obtain⟨O4,F11⟩:=nS F10
    obtain⟨O5,F12⟩:=nS F11
    refine iz (ks:=[]) (E:=[oC b0 #[sL Z1 aL P1,iL aM,sL Z2 ar P2,.map (some bi),sL Z3 aj P3,iL aO] 62,rO 32 5 Z3 aj P3 L2]) (Hr:=((Ent.obj Q3 (.cells (aTI0 X1 Z4 P5) 32 (0,0)))::(oC Q1 #[bO false,bO false,S []] 38)::(rO 32 5 Z2 ar P2 L1)::(Ent.obj bi (bh (Value.int .i64) vTD0 aw))::H)) (.quiet 0 (.quiet 1 (.quiet 2 (.quiet 3 (.quiet 5 (.quiet 6 (.quiet 8 (.quiet 9 (.quiet 10 (.quiet 12 (.quiet 13 (.alt 4 (.alt 7 (.alt 11 (.alt 14 (.alt 15 (.quiet 16 (.quiet 17 (.alt 18 .done .none))) .none) .none) .none) (.alt 11 (.alt 7 (.alt 14 (.alt 15 (.quiet 16 (.quiet 17 (.alt 18 .done .none))) .none) .none) (.alt 14 (.alt 7 (.alt 15 (.quiet 16 (.quiet 17 (.alt 18 .done .none))) .none) .none) .none)) .none)) (.alt 11 (.alt 4 (.alt 7 (.alt 14 (.alt 15 (.quiet 16 (.quiet 17 (.alt 18 .done .none))) .none) .none) (.alt 14 (.alt 7 (.alt 15 (.quiet 16 (.quiet 17 (.alt 18 .done .none))) .none) .none) .none)) (.alt 14 (.alt 4 (.alt 7 (.alt 15 (.quiet 16 (.quiet 17 (.alt 18 .done .none))) .none) .none) .none) .none)) .none))))))))))))) N15 kr kr kr (Y1 (v:=pP b0) rfl f rfl rfl (λ_ _=>by kernel_rfl) λ_ f=>Y1 (v:=pP b0) rfl f rfl rfl (λ_ _=>by kernel_rfl) λ_ f=>Y1 (v:=pP b0) rfl f rfl rfl (λ_ _=>by kernel_rfl) λ_ f=>Y1 (v:=Pa (⟨b0,4,none⟩)) rfl f rfl rfl (λ_ _=>by kernel_rfl) λ_ f=>Y1 (v:=iL d1) rfl f rfl rfl (λ_ _=>by kernel_rfl) λ_ f=>Y1 (v:=iL d1) rfl f rfl rfl (λ_ _=>by kernel_rfl) λ_ f=>Y1 (v:=pP b0) rfl f rfl rfl (λ_ _=>by kernel_rfl) λ_ f=>Y1 (v:=pP b0) rfl f rfl rfl (λ_ _=>by kernel_rfl) λ_ f=>Y1 (v:=Pa (⟨b0,4,none⟩)) rfl f rfl rfl (λ_ _=>by kernel_rfl) λ_ f=>Y1 (v:=iL d1) rfl f rfl rfl (λ_ _=>by kernel_rfl) λ_ f=>Y1 (v:=iL (IntKind.wrap .i64 (d1+1))) rfl f rfl rfl (λ_ pq=>by kernel_rfl) λ_ f=>?_)
    have f:=f.st 45 (iW O1)
    refine aV rfl (λW9 N16=>?_) ?_
    ·refine Z f (Y35 (v:=sL Z3 aj P3) rfl (ad:=⟨b0,4,none⟩) (N16.ownCell 0 rfl 4)) λ_ f=>aA rfl (aW 2 (mR _) N16 rfl (aV rfl (λW10 N17=>?_) ?_))
     ·obtain⟨Z8,P9,H4,hcap_4,hcn_3⟩:=N17.rowShape 1 rfl
      have f:=f.st 36 (H4)
      refine Z (v:=.slice (cutA Z8 5 0 d1.toNat) d1.toNat d1.toNat) f (Y38 rfl (A:=Z8) (len:=aj.length) (cap:=P9) (k:=.i64) (k':=.i64) (b:=d1) (e:=32) (sz:=5) O2.1 (by omega)) λ_ f=>?_
      have f:=f.st 36 (H4.symm)
      refine aA rfl (aW 2 (mR _) N17 rfl (aV rfl (λW11 N18=>?_) ?_))
      ·refine Z f (Y35 (v:=sL Z3 aj P3) rfl (ad:=⟨b0,4,none⟩) (N18.ownCell 0 rfl 4)) λ_ f=>aA rfl (aW 2 (mR _) N18 rfl (aV rfl (λW12 N19=>?_) ?_))
       ·obtain⟨Z9,P10,H5,hcap_5,hcn_4⟩:=N19.rowShape 1 rfl
        have f:=f.st 43 (H5)
        refine Z f (Y39 rfl (A:=Z9) (len:=aj.length) (cap:=P10) (k:=.i64) (a:=d1+1) (e:=32) (sz:=5) (by omega) (by omega)) λ_ f=>?_
        have f:=f.st 43 (H5.symm)
        refine aA rfl (aW 2 (mR _) N19 rfl (aV rfl (λW13 N20=>?_) ?_))
        ·have N21:=N20.pl [1]
         have he_2:=Value.slice.inj (H5.symm.trans H4)
         have f:=Frm.set f 46 (v:=.slice (cutA Z9 5 (d1+1).toNat P10) (aj.length- (d1+1).toNat) (P10- (d1+1).toNat)) (v':=.slice (cutA Z8 5 (d1.toNat+1) P9) (aj.length- (d1.toNat+1)) (P9- (d1.toNat+1))) (by kernel_rfl) (by rw[O4.1,he_2.1,he_2.2.2])
         refine hN (z:=.agg #[iL 0,iB 0,S [],S [],Sn]) (bytes:=72) (f:=aJ) (xs:=aj) (k:=d1.toNat) f N21 dZ (aa.mono J1 _ _ D2) H4 O4.2 kr kr rfl rfl rfl kr kr kr kr O5 (by omega) λZ10 P11 L4 W14 N22 D5 _ f=>aA rfl (aW 2 (mR _) N22 rfl (Y1 (v:=pP b0) rfl f rfl rfl (λ_ _=>by kernel_rfl) λ_ f=>Y1 (v:=Pa (⟨b0,4,none⟩)) rfl f rfl rfl (λ_ _=>by kernel_rfl) λ_ f=>aV rfl (λW15 N23=>?_) ?_))
         ·refine Y28 f N23 1 rfl rfl (b:=b0) (j:=4) (v:=sL Z10 (aj.take d1.toNat++aj.drop (d1.toNat+1)) P11) rfl (by exact rfl) (by simp) (by simp) _ rfl λW16 N24 _ f=>aA rfl (aW 2 (mR _) N24 rfl (jT λW17 N25=>aH ?_))
          exact⟨aj.take d1.toNat++aj.drop (d1.toNat+1),(sI F12).symm,V1,(mR _),Z10,P11,L4,D5,f.kp,N25⟩
         exact aQ
        exact aQ
       exact aQ
      exact aQ
     refine aV rfl (λW18 N26=>?_) ?_
     ·refine Z f (Y35 (v:=sL Z3 aj P3) rfl (ad:=⟨b0,4,none⟩) (N26.ownCell 0 rfl 4)) λ_ f=>aA rfl (aW 2 (mR _) N26 rfl (aV rfl (λW19 N27=>?_) ?_))
      ·obtain⟨Z11,P12,H6,hcap_6,hcn_5⟩:=N27.rowShape 1 rfl
       have f:=f.st 36 (H6)
       refine Z (v:=.slice (cutA Z11 5 0 d1.toNat) d1.toNat d1.toNat) f (Y38 rfl (A:=Z11) (len:=aj.length) (cap:=P12) (k:=.i64) (k':=.i64) (b:=d1) (e:=32) (sz:=5) O2.1 (by omega)) λ_ f=>?_
       have f:=f.st 36 (H6.symm)
       refine aA rfl (aW 2 (mR _) N27 rfl (aV rfl (λW20 N28=>?_) ?_))
       ·obtain⟨Z12,P13,H7,hcap_7,hcn_6⟩:=N28.rowShape 1 rfl
        have f:=f.st 43 (H7)
        refine Z f (Y39 rfl (A:=Z12) (len:=aj.length) (cap:=P13) (k:=.i64) (a:=d1+1) (e:=32) (sz:=5) (by omega) (by omega)) λ_ f=>?_
        have f:=f.st 43 (H7.symm)
        refine aA rfl (aW 2 (mR _) N28 rfl (aV rfl (λW21 N29=>?_) ?_))
        ·have N30:=N29.pl [1]
         have he_3:=Value.slice.inj (H7.symm.trans H6)
         have f:=Frm.set f 46 (v:=.slice (cutA Z12 5 (d1+1).toNat P13) (aj.length- (d1+1).toNat) (P13- (d1+1).toNat)) (v':=.slice (cutA Z11 5 (d1.toNat+1) P12) (aj.length- (d1.toNat+1)) (P12- (d1.toNat+1))) (by kernel_rfl) (by rw[O4.1,he_3.1,he_3.2.2])
         refine hN (z:=.agg #[iL 0,iB 0,S [],S [],Sn]) (bytes:=72) (f:=aJ) (xs:=aj) (k:=d1.toNat) f N30 dZ (aa.mono J1 _ _ D2) H6 O4.2 kr kr rfl rfl rfl kr kr kr kr O5 (by omega) λZ13 P14 L5 W22 N31 D6 _ f=>aA rfl (aW 2 (mR _) N31 rfl (Y1 (v:=pP b0) rfl f rfl rfl (λ_ _=>by kernel_rfl) λ_ f=>Y1 (v:=Pa (⟨b0,4,none⟩)) rfl f rfl rfl (λ_ _=>by kernel_rfl) λ_ f=>aV rfl (λW23 N32=>?_) ?_))
         ·refine Y28 f N32 1 rfl rfl (b:=b0) (j:=4) (v:=sL Z13 (aj.take d1.toNat++aj.drop (d1.toNat+1)) P14) rfl (by exact rfl) (by simp) (by simp) _ rfl λW24 N33 _ f=>aA rfl (aW 2 (mR _) N33 rfl (jT λW25 N34=>aH ?_))
          exact⟨aj.take d1.toNat++aj.drop (d1.toNat+1),(sI F12).symm,V1,(mR _),Z13,P14,L5,D6,f.kp,N34⟩
         exact aQ
        exact aQ
       exact aQ
      refine aV rfl (λW26 N35=>?_) ?_
      ·obtain⟨Z14,P15,H8,hcap_8,hcn_7⟩:=N35.rowShape 1 rfl
       have f:=f.st 43 (H8)
       refine Z f (Y39 rfl (A:=Z14) (len:=aj.length) (cap:=P15) (k:=.i64) (a:=d1+1) (e:=32) (sz:=5) (by omega) (by omega)) λ_ f=>?_
       have f:=f.st 43 (H8.symm)
       refine aA rfl (aW 2 (mR _) N35 rfl (aV rfl (λW27 N36=>?_) ?_))
       ·obtain⟨Z15,P16,H9,hcap_9,hcn_8⟩:=N36.rowShape 1 rfl
        have f:=f.st 36 (H9)
        refine Z (v:=.slice (cutA Z15 5 0 d1.toNat) d1.toNat d1.toNat) f (Y38 rfl (A:=Z15) (len:=aj.length) (cap:=P16) (k:=.i64) (k':=.i64) (b:=d1) (e:=32) (sz:=5) O2.1 (by omega)) λ_ f=>?_
        have f:=f.st 36 (H9.symm)
        refine aA rfl (aW 2 (mR _) N36 rfl (aV rfl (λW28 N37=>?_) ?_))
        ·have N38:=N37.pl [1]
         have he_4:=Value.slice.inj (H8.symm.trans H9)
         have f:=Frm.set f 46 (v:=.slice (cutA Z14 5 (d1+1).toNat P15) (aj.length- (d1+1).toNat) (P15- (d1+1).toNat)) (v':=.slice (cutA Z15 5 (d1.toNat+1) P16) (aj.length- (d1.toNat+1)) (P16- (d1.toNat+1))) (by kernel_rfl) (by rw[O4.1,he_4.1,he_4.2.2])
         refine hN (z:=.agg #[iL 0,iB 0,S [],S [],Sn]) (bytes:=72) (f:=aJ) (xs:=aj) (k:=d1.toNat) f N38 dZ (aa.mono J1 _ _ D2) H9 O4.2 kr kr rfl rfl rfl kr kr kr kr O5 (by omega) λZ16 P17 L6 W29 N39 D7 _ f=>aA rfl (aW 2 (mR _) N39 rfl (Y1 (v:=pP b0) rfl f rfl rfl (λ_ _=>by kernel_rfl) λ_ f=>Y1 (v:=Pa (⟨b0,4,none⟩)) rfl f rfl rfl (λ_ _=>by kernel_rfl) λ_ f=>aV rfl (λW30 N40=>?_) ?_))
         ·refine Y28 f N40 1 rfl rfl (b:=b0) (j:=4) (v:=sL Z16 (aj.take d1.toNat++aj.drop (d1.toNat+1)) P17) rfl (by exact rfl) (by simp) (by simp) _ rfl λW31 N41 _ f=>aA rfl (aW 2 (mR _) N41 rfl (jT λW32 N42=>aH ?_))
          exact⟨aj.take d1.toNat++aj.drop (d1.toNat+1),(sI F12).symm,V1,(mR _),Z16,P17,L6,D7,f.kp,N42⟩
         exact aQ
        exact aQ
       exact aQ
      exact aQ
     exact aQ
    refine aV rfl (λW33 N43=>?_) ?_
    ·refine Z f (Y35 (v:=sL Z3 aj P3) rfl (ad:=⟨b0,4,none⟩) (N43.ownCell 0 rfl 4)) λ_ f=>aA rfl (aW 2 (mR _) N43 rfl (aV rfl (λW34 N44=>?_) ?_))
     ·refine Z f (Y35 (v:=sL Z3 aj P3) rfl (ad:=⟨b0,4,none⟩) (N44.ownCell 0 rfl 4)) λ_ f=>aA rfl (aW 2 (mR _) N44 rfl (aV rfl (λW35 N45=>?_) ?_))
      ·obtain⟨Z17,P18,H10,hcap_10,hcn_9⟩:=N45.rowShape 1 rfl
       have f:=f.st 36 (H10)
       refine Z (v:=.slice (cutA Z17 5 0 d1.toNat) d1.toNat d1.toNat) f (Y38 rfl (A:=Z17) (len:=aj.length) (cap:=P18) (k:=.i64) (k':=.i64) (b:=d1) (e:=32) (sz:=5) O2.1 (by omega)) λ_ f=>?_
       have f:=f.st 36 (H10.symm)
       refine aA rfl (aW 2 (mR _) N45 rfl (aV rfl (λW36 N46=>?_) ?_))
       ·obtain⟨Z18,P19,H11,hcap_11,hcn_10⟩:=N46.rowShape 1 rfl
        have f:=f.st 43 (H11)
        refine Z f (Y39 rfl (A:=Z18) (len:=aj.length) (cap:=P19) (k:=.i64) (a:=d1+1) (e:=32) (sz:=5) (by omega) (by omega)) λ_ f=>?_
        have f:=f.st 43 (H11.symm)
        refine aA rfl (aW 2 (mR _) N46 rfl (aV rfl (λW37 N47=>?_) ?_))
        ·have N48:=N47.pl [1]
         have he_5:=Value.slice.inj (H11.symm.trans H10)
         have f:=Frm.set f 46 (v:=.slice (cutA Z18 5 (d1+1).toNat P19) (aj.length- (d1+1).toNat) (P19- (d1+1).toNat)) (v':=.slice (cutA Z17 5 (d1.toNat+1) P18) (aj.length- (d1.toNat+1)) (P18- (d1.toNat+1))) (by kernel_rfl) (by rw[O4.1,he_5.1,he_5.2.2])
         refine hN (z:=.agg #[iL 0,iB 0,S [],S [],Sn]) (bytes:=72) (f:=aJ) (xs:=aj) (k:=d1.toNat) f N48 dZ (aa.mono J1 _ _ D2) H10 O4.2 kr kr rfl rfl rfl kr kr kr kr O5 (by omega) λZ19 P20 L7 W38 N49 D8 _ f=>aA rfl (aW 2 (mR _) N49 rfl (Y1 (v:=pP b0) rfl f rfl rfl (λ_ _=>by kernel_rfl) λ_ f=>Y1 (v:=Pa (⟨b0,4,none⟩)) rfl f rfl rfl (λ_ _=>by kernel_rfl) λ_ f=>aV rfl (λW39 N50=>?_) ?_))
         ·refine Y28 f N50 1 rfl rfl (b:=b0) (j:=4) (v:=sL Z19 (aj.take d1.toNat++aj.drop (d1.toNat+1)) P20) rfl (by exact rfl) (by simp) (by simp) _ rfl λW40 N51 _ f=>aA rfl (aW 2 (mR _) N51 rfl (jT λW41 N52=>aH ?_))
          exact⟨aj.take d1.toNat++aj.drop (d1.toNat+1),(sI F12).symm,V1,(mR _),Z19,P20,L7,D8,f.kp,N52⟩
         exact aQ
        exact aQ
       exact aQ
      refine aV rfl (λW42 N53=>?_) ?_
      ·obtain⟨Z20,P21,H12,hcap_12,hcn_11⟩:=N53.rowShape 1 rfl
       have f:=f.st 43 (H12)
       refine Z f (Y39 rfl (A:=Z20) (len:=aj.length) (cap:=P21) (k:=.i64) (a:=d1+1) (e:=32) (sz:=5) (by omega) (by omega)) λ_ f=>?_
       have f:=f.st 43 (H12.symm)
       refine aA rfl (aW 2 (mR _) N53 rfl (aV rfl (λW43 N54=>?_) ?_))
       ·obtain⟨Z21,P22,H13,hcap_13,hcn_12⟩:=N54.rowShape 1 rfl
        have f:=f.st 36 (H13)
        refine Z (v:=.slice (cutA Z21 5 0 d1.toNat) d1.toNat d1.toNat) f (Y38 rfl (A:=Z21) (len:=aj.length) (cap:=P22) (k:=.i64) (k':=.i64) (b:=d1) (e:=32) (sz:=5) O2.1 (by omega)) λ_ f=>?_
        have f:=f.st 36 (H13.symm)
        refine aA rfl (aW 2 (mR _) N54 rfl (aV rfl (λW44 N55=>?_) ?_))
        ·have N56:=N55.pl [1]
         have he_6:=Value.slice.inj (H12.symm.trans H13)
         have f:=Frm.set f 46 (v:=.slice (cutA Z20 5 (d1+1).toNat P21) (aj.length- (d1+1).toNat) (P21- (d1+1).toNat)) (v':=.slice (cutA Z21 5 (d1.toNat+1) P22) (aj.length- (d1.toNat+1)) (P22- (d1.toNat+1))) (by kernel_rfl) (by rw[O4.1,he_6.1,he_6.2.2])
         refine hN (z:=.agg #[iL 0,iB 0,S [],S [],Sn]) (bytes:=72) (f:=aJ) (xs:=aj) (k:=d1.toNat) f N56 dZ (aa.mono J1 _ _ D2) H13 O4.2 kr kr rfl rfl rfl kr kr kr kr O5 (by omega) λZ22 P23 L8 W45 N57 D9 _ f=>aA rfl (aW 2 (mR _) N57 rfl (Y1 (v:=pP b0) rfl f rfl rfl (λ_ _=>by kernel_rfl) λ_ f=>Y1 (v:=Pa (⟨b0,4,none⟩)) rfl f rfl rfl (λ_ _=>by kernel_rfl) λ_ f=>aV rfl (λW46 N58=>?_) ?_))
         ·refine Y28 f N58 1 rfl rfl (b:=b0) (j:=4) (v:=sL Z22 (aj.take d1.toNat++aj.drop (d1.toNat+1)) P23) rfl (by exact rfl) (by simp) (by simp) _ rfl λW47 N59 _ f=>aA rfl (aW 2 (mR _) N59 rfl (jT λW48 N60=>aH ?_))
          exact⟨aj.take d1.toNat++aj.drop (d1.toNat+1),(sI F12).symm,V1,(mR _),Z22,P23,L8,D9,f.kp,N60⟩
         exact aQ
        exact aQ
       exact aQ
      exact aQ
     refine aV rfl (λW49 N61=>?_) ?_
     ·obtain⟨Z23,P24,H14,hcap_14,hcn_13⟩:=N61.rowShape 1 rfl
      have f:=f.st 43 (H14)
      refine Z f (Y39 rfl (A:=Z23) (len:=aj.length) (cap:=P24) (k:=.i64) (a:=d1+1) (e:=32) (sz:=5) (by omega) (by omega)) λ_ f=>?_
      have f:=f.st 43 (H14.symm)
      refine aA rfl (aW 2 (mR _) N61 rfl (aV rfl (λW50 N62=>?_) ?_))
      ·refine Z f (Y35 (v:=sL Z3 aj P3) rfl (ad:=⟨b0,4,none⟩) (N62.ownCell 0 rfl 4)) λ_ f=>aA rfl (aW 2 (mR _) N62 rfl (aV rfl (λW51 N63=>?_) ?_))
       ·obtain⟨Z24,P25,H15,hcap_15,hcn_14⟩:=N63.rowShape 1 rfl
        have f:=f.st 36 (H15)
        refine Z (v:=.slice (cutA Z24 5 0 d1.toNat) d1.toNat d1.toNat) f (Y38 rfl (A:=Z24) (len:=aj.length) (cap:=P25) (k:=.i64) (k':=.i64) (b:=d1) (e:=32) (sz:=5) O2.1 (by omega)) λ_ f=>?_
        have f:=f.st 36 (H15.symm)
        refine aA rfl (aW 2 (mR _) N63 rfl (aV rfl (λW52 N64=>?_) ?_))
        ·have N65:=N64.pl [1]
         have he_7:=Value.slice.inj (H14.symm.trans H15)
         have f:=Frm.set f 46 (v:=.slice (cutA Z23 5 (d1+1).toNat P24) (aj.length- (d1+1).toNat) (P24- (d1+1).toNat)) (v':=.slice (cutA Z24 5 (d1.toNat+1) P25) (aj.length- (d1.toNat+1)) (P25- (d1.toNat+1))) (by kernel_rfl) (by rw[O4.1,he_7.1,he_7.2.2])
         refine hN (z:=.agg #[iL 0,iB 0,S [],S [],Sn]) (bytes:=72) (f:=aJ) (xs:=aj) (k:=d1.toNat) f N65 dZ (aa.mono J1 _ _ D2) H15 O4.2 kr kr rfl rfl rfl kr kr kr kr O5 (by omega) λZ25 P26 L9 W53 N66 D10 _ f=>aA rfl (aW 2 (mR _) N66 rfl (Y1 (v:=pP b0) rfl f rfl rfl (λ_ _=>by kernel_rfl) λ_ f=>Y1 (v:=Pa (⟨b0,4,none⟩)) rfl f rfl rfl (λ_ _=>by kernel_rfl) λ_ f=>aV rfl (λW54 N67=>?_) ?_))
         ·refine Y28 f N67 1 rfl rfl (b:=b0) (j:=4) (v:=sL Z25 (aj.take d1.toNat++aj.drop (d1.toNat+1)) P26) rfl (by exact rfl) (by simp) (by simp) _ rfl λW55 N68 _ f=>aA rfl (aW 2 (mR _) N68 rfl (jT λW56 N69=>aH ?_))
          exact⟨aj.take d1.toNat++aj.drop (d1.toNat+1),(sI F12).symm,V1,(mR _),Z25,P26,L9,D10,f.kp,N69⟩
         exact aQ
        exact aQ
       exact aQ
      exact aQ
     exact aQ
    exact aQ
   ·rintro a_85 W57 ⟨G2,hZ,V2,J2,Z26,P27,L10,D11,f,N70⟩
    subst jd
    refine aH (ag (RR (Y f 1 λ_ f=>Y28 f N70 3 rfl rfl (b:=Q1) (j:=0) (v:=bO true) rfl (by exact rfl) (by simp) (by simp) _ rfl λW58 N71 _ f=>eT (RR (Ye f 1 λ_ f=>?_)))))
    obtain⟨tt,pZ,F13⟩:=bS F7
    refine bj (λa_92 W61=>∃G3:Bool×Bool×Bs×List TG0×Int×List TI0×List TI0×Int×Int×Int×Bs×Bs×List TE0× (List (Int×TD0)),tt=G3∧∃V4:Mem,V2.le V4∧∃ (Z31:Oa),∃ (P32:Nat),∃ (Z32:Oa),∃ (P33:Nat),∃ (L13:Lv),∃ (Z33:Oa),∃ (P34:Nat),∃ (L14:Lv),∃ (Z34:Oa),∃ (P35:Nat),Sli V4 3 aK Z31 P32 G3.t3.1∧aa V4 (G3.t5.1.map aJ) L13∧aa V4 (G3.t6.1.map aJ) L14∧Sli V4 8 aY Z34 P35 G3.t12.1∧Frm 64 [(0,pP b0),(7,pP Q1),(9,pP Q3)] a_92∧Hp w0 V4 ((rO 32 5 Z32 G3.t5.1 P33 L13)::(rO 32 5 Z33 G3.t6.1 P34 L14)::(Ent.obj bi (bh (Value.int .i64) vTD0 G3.t13))::(oC Q1 #[bO G3.1,bO G3.2.1,S G3.2.2.1] 38)::(oC b0 #[sL Z31 G3.t3.1 P32,iL G3.t4.1,sL Z32 G3.t5.1 P33,.map (some bi),sL Z33 G3.t6.1 P34,iL G3.t7.1] 62)::(oC Q3 #[iL G3.t8.1,iB G3.t9.1,S G3.t10.1,S G3.t11.1,sL Z34 G3.t12.1 P35] 32)::H) W61) ?_ ?_
    ·refine RcF f pZ (λB5 F14=>?_) λB5 F16=>?_
     ·refine aI (Y f 1 λ_ f=>?_)
      obtain⟨X2,S2,F15⟩:=bS F14
      have N77:=N71.pl [2,1,5,5,4]
      refine Y17 (E:=[oC b0 #[sL Z1 aL P1,iL aM,sL Z2 ar P2,.map (some bi),sL Z26 G2 P27,iL aO] 62,rO 32 5 Z2 ar P2 L1,Ent.obj bi (bh (Value.int .i64) vTD0 aw),rO 32 5 Z26 G2 P27 L10,Ent.obj Q3 (.cells (aTI0 X1 Z4 P5) 32 (0,0))]) (H:=((oC Q1 #[bO true,bO false,S []] 38)::H)) f N77 (mq n _ (GL.mono (J1.trans J2) hG) b0 aL Z1 P1 (B1.mono (J1.trans J2)) aM ar Z2 P2 L1 (aa.mono (J1.trans J2) _ _ D1) bi aw G2 Z26 P27 L10 D11 aO Q3 X1.ax X1.ab X1.af X1.am X1.ai Z4 P5 (B4.mono J2) X2 S2) λ_ V3 E_1 W59 J3 N72 jO _ f=>?_
      obtain⟨jX,Z27,P28,Z28,P29,L11,Z29,P30,L12,Z30,P31,rfl,rfl,D12,B6,D13,D14,B7⟩:=jO
      obtain rfl:=TD0.opn D12
      have N78:=N72.pl [5]
      refine Ys (lTD0 X2.1) (aTD0 X2.1) f N78 rfl rfl λW60 N79 _ f=>aA rfl ?_
      have N86:=N79.pl [5,2,2,4,5,5]
      refine aH ?_
      exact⟨((X2.1.aq),(X2.1.bC),X2.1.af,X2.2.1,X2.2.2.1,X2.t3.1,X2.t5.1,X2.t6.1,X2.t7.1,X2.t8.1,X2.t9.1,X2.t10.1,X2.t11,X2.t4.1),(sI F15).symm,V3,J3,Z27,P28,Z28,P29,L11,Z29,P30,L12,Z30,P31,B6,D13,D14,B7,f.kp,N86⟩
     ·refine wp_skip ?_
      have N92:=N71.pl [2,2,3,5,4,5]
      refine aH ?_
      exact⟨((true),(false),([]:Bs),aL,aM,ar,G2,aO,X1.ax,X1.ab,X1.af,X1.am,X1.ai,aw),(sI F16).symm,V2,(mR _),Z1,P1,Z2,P2,L1,Z26,P27,L10,Z4,P5,(B1.mono (J1.trans J2)),(aa.mono (J1.trans J2) _ _ D1),D11,(B4.mono J2),f.kp,N92⟩
    ·rintro a_92 W61 ⟨G3,sH,V4,J4,Z31,P32,Z32,P33,L13,Z33,P34,L14,Z34,P35,B8,D15,D16,B9,f,N80⟩
     subst tt
     refine aH (ag (kV 7 N80 kr kr λW62 N93=>bT (v:=pP b0) f kr kr rfl rfl kr λ_ f=>bT (v:=pP b0) f kr kr rfl rfl kr λ_ f=>bT (v:=Pa (⟨b0,3,none⟩)) f kr kr rfl rfl kr λ_ f=>bT (v:=.map (some bi)) f kr kr rfl rfl (Y35 (v:=.map (some bi)) rfl (ad:=⟨b0,3,none⟩) (N93.ownCell 4 rfl 3)) λ_ f=>bT (v:=pP Q3) f kr kr rfl rfl kr λ_ f=>bT (v:=iL G3.t8.1) f kr kr rfl rfl (Y35 (v:=iL G3.t8.1) rfl (ad:=⟨Q3,0,none⟩) (N93.ownCell 5 rfl 0)) λ_ f=>bT (v:=.agg #[bO G3.1,bO G3.2.1,S G3.2.2.1]) f kr kr rfl rfl (Y36 (cs:=[bO G3.1,bO G3.2.1,S G3.2.2.1]) rfl (ad:=⟨Q1,0,none⟩) (al (N93.ownCell 3 rfl) 0 rfl)) λ_ f=>lJ rfl ?_))
     have N94:=N93.pl [2]
     refine my (ek:=(Value.int .i64)) (ev:=vTD0) (m:=G3.t13) (k:=G3.t8.1) (v:=(⟨(G3.1),(G3.2.1),G3.2.2.1⟩:TD0)) (kt:=3) (et:=38) f N94 kr kr rfl (.inl rfl) kr kr kr kr (intKey kr) λW63 N95 _ f=>eT (ag (kV 4 N95 kr kr λW64 N96=>bT (v:=pP Q3) f kr kr rfl rfl kr λ_ f=>bT (v:=iL G3.t8.1) f kr kr rfl rfl (Y35 (v:=iL G3.t8.1) rfl (ad:=⟨Q3,0,none⟩) (N96.ownCell 5 rfl 0)) λ_ f=>bT (v:=.agg #[bO G3.1,bO G3.2.1,S G3.2.2.1]) f kr kr rfl rfl (Y36 (cs:=[bO G3.1,bO G3.2.1,S G3.2.2.1]) rfl (ad:=⟨Q1,0,none⟩) (al (N96.ownCell 3 rfl) 0 rfl)) λ_ f=>bT (v:=iL G3.t8.1) f kr kr rfl rfl kr λ_ f=>lJ rfl ?_))
     have N97:=N96.pl [3]
     refine Ys [bO G3.1,bO G3.2.1,S G3.2.2.1] #[bO G3.1,bO G3.2.1,S G3.2.2.1] f N97 rfl rfl λW65 N98 _ f=>Ye f 1 λ_ f=>wp_ret (lw f rfl (Y11 (v:=iL G3.t8.1) f) (Y10 (cs:=[bO G3.1,bO G3.2.1,S G3.2.2.1]) (ad:=⟨Q1,0,none⟩) f (al (N98.ownCell 0 rfl) 0 rfl)) (Y11 (v:=iL 0) f) ?_)
     cases sI F13
     have N104:=N98.pl [3,2,3,4,5,5]
     exact⟨_,rfl,V4,_,((J1.trans J2).trans J4),(N104.dropN 2),⟨[bO G3.1,bO G3.2.1,S G3.2.2.1],Z31,P32,Z32,P33,L13,Z33,P34,L14,rfl,rfl,(TD0.shut),B8,D15,D16⟩⟩
def eG (n:Nat) (aL:List TG0) (aM:Int) (ar:List TI0) (aw:List (Int×TD0)) (aj:List TI0) (aO:Int):Option (Int×List TG0×Int×List TI0× (List (Int×TD0))×List TI0×Int):=
 some ((aO,aL,aM,ar,aw,aj,aO))
theorem jV (n:Nat) (M:Mem) (hG:GL M) (b0:Nat) (aL:List TG0) (Z1:Oa) (P1:Nat) (B1:Sli M 3 aK Z1 P1 aL) (aM:Int) (ar:List TI0) (Z2:Oa) (P2:Nat) (L1:Lv) (D1:aa M (ar.map aJ) L1) (bi:Nat) (aw:List (Int×TD0)) (aj:List TI0) (Z3:Oa) (P3:Nat) (L2:Lv) (D2:aa M (aj.map aJ) L2) (aO:Int) (r:Int×List TG0×Int×List TI0× (List (Int×TD0))×List TI0×Int) (hF:eG n aL aM ar aw aj aO=some r):OkH Tryz.prog M [oC b0 #[sL Z1 aL P1,iL aM,sL Z2 ar P2,.map (some bi),sL Z3 aj P3,iL aO] 62,rO 32 5 Z2 ar P2 L1,Ent.obj bi (bh (Value.int .i64) vTD0 aw),rO 32 5 Z3 aj P3 L2] 20 [pP b0] (λM' E' v=>∃ (Z4:Oa) (P4:Nat) (Z5:Oa) (P5:Nat) (L3:Lv) (Z6:Oa) (P6:Nat) (L4:Lv),v=iL r.1∧E'=[oC b0 #[sL Z4 r.2.1 P4,iL r.2.2.1,sL Z5 r.t3.1 P5,.map (some bi),sL Z6 r.t5.1 P6,iL r.t6] 62,rO 32 5 Z5 r.t3.1 P5 L3,Ent.obj bi (bh (Value.int .i64) vTD0 r.t4.1),rO 32 5 Z6 r.t5.1 P6 L4]∧Sli M' 3 aK Z4 P4 r.2.1∧aa M' (r.t3.1.map aJ) L3∧aa M' (r.t5.1.map aJ) L4):=by
 unfold eG at hF
 intro M1 hM0 w0 H w p0
 replace hG:=GL.mono hM0 hG
 replace B1:=B1.mono hM0
 replace D1:=aa.mono hM0 _ _ D1
 replace D2:=aa.mono hM0 _ _ D2
 refine Re 9 Tryz.func20 rfl λa0 f0=>RR (Ye f0 1 λ_ f=>ag (RR (Y f 1 λ_ f=>Z (v:=bO false) f (df (q:=some (⟨b0,0,none⟩)) (e:=62) rfl kr kr kr _) λ_ f=>eT (Y7 f (St (RR (Y f 3 λ_ f=>Z f (Y35 (v:=iL aO) rfl (ad:=⟨b0,5,none⟩) (p0.ownCell 0 rfl 5)) λ_ f=>Ye f 1 λ_ f=>wp_ret (ao f rfl (Lk 2 (iL aO)) ?_))))))))
 cases sI hF
 exact⟨_,rfl,M1,_,(mR _),p0,⟨Z1,P1,Z2,P2,L1,Z3,P3,L2,rfl,rfl,B1,D1,D2⟩⟩
def ct (n:Nat) (d0:List TG0) (z0:Bool):Option (List TG0):=
 bif z0 then
  (some (([]:List TG0)))
 else
  aZ ((([]:List TG0).length+d0.length)*56≤140737488355328)<|
  some (([]:List TG0)++d0)
theorem ig (n:Nat) (M:Mem) (A0:Oa) (cap0:Nat) (d0:List TG0) (h0:Sli M 3 aK A0 cap0 d0) (z0:Bool) (hz0:A0.isNone=z0) (r:List TG0) (hF:ct n d0 z0=some r):OkH Tryz.prog M [] 39 [sL A0 d0 cap0] (λM' E' v=>∃ (A0:Oa) (k0:Nat) (s0:Lv),v=sL A0 r k0∧E'=[.row 44 3 (sL A0 r k0) r.length s0]∧aa M' (r.map aK) s0):=by
 unfold ct at hF
 intro M1 hM0 w0 H w p0
 replace h0:=h0.mono hM0
 refine Re 8 Tryz.func39 rfl λa0 f0=>RR (Ye f0 1 λ_ f=>ag (RR (Y f 1 λ_ f=>Z (v:=bO A0.isNone) f (lI (A:=A0) (n:=d0.length) (c:=cap0) (e:=44) rfl kr kr kr _) λ_ f=>?_)))
 have f:=Frm.set f 4 (v:=bO A0.isNone) (v':=bO z0) kr (cB hz0)
 refine eT (RcF f hF (λB1 F1=>?_) λB1 F2=>?_)
 ·refine RR (Ye f 1 λ_ f=>wp_ret (aS ?_))
  obtain⟨Z1,P1,H1,N1⟩:=p0.nilR 44 3 TG0
  have f:=f.st 2 (H1)
  have D1:aa M1 (([]:List TG0).map aK) []:=rfl
  refine ao f rfl (Lk 2 (sL Z1 ([]:List TG0) P1)) ?_
  cases sI F1
  exact⟨_,rfl,M1,_,(mR _),N1,⟨Z1,P1,[],rfl,rfl,D1⟩⟩
 ·refine St (RR (bg (k:=0) (c:=0) f p0 (.cells #[] 44 (0,0)) kr (λ_=>by kernel_rfl) λQ1 W1 N2 _ f=>Y f 1 λ_ f=>?_))
  have D2:aa M1 (([]:List TG0).map aK) []:=rfl
  have N3:Hp w0 M1 ((Ent.row 44 3 (.slice (some ⟨Q1,0,none⟩) 0 0) ([]:List TG0).length [])::H) W1:=N2.objRow (n:=0) (cap:=0) (size:=3) (by decide) (by decide) (eO (by decide) rfl) rfl rfl
  obtain⟨O1,F3⟩:=nS F2
  refine Y24 (z:=.agg #[S [],S [],Sn]) (f:=aK) (xs:=([]:List TG0)) (ys:=d0) (c:=cap0) f N3 D2 h0 rfl rfl rfl O1 (by omega) λZ2 P2 L1 W2 N4 D3 _ f=>Ye f 1 λ_ f=>wp_ret (ao f rfl (Lk 2 (sL Z2 (([]:List TG0)++d0) P2)) ?_)
  cases sI F3
  exact⟨_,rfl,M1,_,(mR _),N4,⟨Z2,P2,L1,rfl,rfl,D3⟩⟩
def bP (_:Nat) (d0:List TG0):Option (List TG0):=aZ (d0.length*56≤140737488355328) (some d0)
theorem iG (n:Nat) (M:Mem) (A0:Oa) (cap0:Nat) (d0:List TG0) (h0:Sli M 3 aK A0 cap0 d0) (r:List TG0) (hF:bP n d0=some r):OkH Tryz.prog M [] 39 [sL A0 d0 cap0] (λM' E' v=>∃ (A0:Oa) (k0:Nat) (s0:Lv),v=sL A0 r k0∧E'=[.row 44 3 (sL A0 r k0) r.length s0]∧aa M' (r.map aK) s0):=by
 unfold bP at hF
 obtain⟨g,hF⟩:=nS hF
 cases sI hF
 refine ig n M A0 cap0 d0 h0 A0.isNone rfl d0 ?_
 unfold ct
 cases A0 with
 |none=>
  obtain⟨h1,h2,_⟩:=h0
  have h3:=h2 rfl
  obtain rfl:d0=[]:=List.eq_nil_of_length_eq_zero (by omega)
  rfl
 |some a=>simp[aZ];omega
def cJ (n:Nat) (aL:List TG0) (aM:Int) (ar:List TI0) (aw:List (Int×TD0)) (aj:List TI0) (aO:Int):Option (List TG0×List TG0×Int×List TI0× (List (Int×TD0))×List TI0×Int):=
 (bP n aL).bind λX1=>
 some ((X1,aL,aM,ar,aw,aj,aO))
theorem je (n:Nat) (M:Mem) (hG:GL M) (b0:Nat) (aL:List TG0) (Z1:Oa) (P1:Nat) (B1:Sli M 3 aK Z1 P1 aL) (aM:Int) (ar:List TI0) (Z2:Oa) (P2:Nat) (L1:Lv) (D1:aa M (ar.map aJ) L1) (bi:Nat) (aw:List (Int×TD0)) (aj:List TI0) (Z3:Oa) (P3:Nat) (L2:Lv) (D2:aa M (aj.map aJ) L2) (aO:Int) (r:List TG0×List TG0×Int×List TI0× (List (Int×TD0))×List TI0×Int) (hF:cJ n aL aM ar aw aj aO=some r):OkH Tryz.prog M [oC b0 #[sL Z1 aL P1,iL aM,sL Z2 ar P2,.map (some bi),sL Z3 aj P3,iL aO] 62,rO 32 5 Z2 ar P2 L1,Ent.obj bi (bh (Value.int .i64) vTD0 aw),rO 32 5 Z3 aj P3 L2] 22 [pP b0] (λM' E' v=>∃ (A0:Oa) (k0:Nat) (s0:Lv) (Z5:Oa) (P5:Nat) (Z6:Oa) (P6:Nat) (L4:Lv) (Z7:Oa) (P7:Nat) (L5:Lv),v=sL A0 r.1 k0∧E'=[.row 44 3 (sL A0 r.1 k0) r.1.length s0,oC b0 #[sL Z5 r.2.1 P5,iL r.2.2.1,sL Z6 r.t3.1 P6,.map (some bi),sL Z7 r.t5.1 P7,iL r.t6] 62,rO 32 5 Z6 r.t3.1 P6 L4,Ent.obj bi (bh (Value.int .i64) vTD0 r.t4.1),rO 32 5 Z7 r.t5.1 P7 L5]∧aa M' (r.1.map aK) s0∧Sli M' 3 aK Z5 P5 r.2.1∧aa M' (r.t3.1.map aJ) L4∧aa M' (r.t5.1.map aJ) L5):=by
 unfold cJ at hF
 intro M1 hM0 w0 H w p0
 replace hG:=GL.mono hM0 hG
 replace B1:=B1.mono hM0
 replace D1:=aa.mono hM0 _ _ D1
 replace D2:=aa.mono hM0 _ _ D2
 refine Re 11 Tryz.func22 rfl λa0 f0=>RR (Ye f0 1 λ_ f=>ag (RR (Y f 1 λ_ f=>Z (v:=bO false) f (df (q:=some (⟨b0,0,none⟩)) (e:=62) rfl kr kr kr _) λ_ f=>eT (Y7 f (St (RR (Y f 4 λ_ f=>Z f (Y35 (v:=sL Z1 aL P1) rfl (ad:=⟨b0,0,none⟩) (p0.ownCell 0 rfl 0)) λ_ f=>?_)))))))
 obtain⟨X1,S1,F1⟩:=bS hF
 refine Y17 (E:=[]) (H:=((oC b0 #[sL Z1 aL P1,iL aM,sL Z2 ar P2,.map (some bi),sL Z3 aj P3,iL aO] 62)::(rO 32 5 Z2 ar P2 L1)::(Ent.obj bi (bh (Value.int .i64) vTD0 aw))::(rO 32 5 Z3 aj P3 L2)::H)) f p0 (iG n _ Z1 P1 aL B1 X1 S1) λ_ V1 E_1 W1 J1 N1 jO _ f=>?_
 obtain⟨Z4,P4,L3,rfl,rfl,D3⟩:=jO
 refine Ye f 1 λ_ f=>wp_ret (ao f rfl (Lk 2 (sL Z4 X1 P4)) ?_)
 cases sI F1
 exact⟨_,rfl,V1,_,J1,N1,⟨Z4,P4,L3,Z1,P1,Z2,P2,L1,Z3,P3,L2,rfl,rfl,D3,(B1.mono J1),(aa.mono J1 _ _ D1),(aa.mono J1 _ _ D2)⟩⟩
def iN (n:Nat):Option Bool:=
 (lF n).bind λX1=>
 (cn n ([]:List TG0) (0:Int) ([]:List TI0) ([]:List (Int×TD0)) ([]:List TI0) (0:Int) (⟨(1:Int),(0:Int),([]:Bs),[68,105,115,107],([]:List TE0)⟩:TI0)).bind λX2=>
 (cn n X2.2.1 X2.2.2.1 X2.2.2.2.1 X2.2.2.2.2.1 X2.2.2.2.2.2.1 X2.2.2.2.2.2.2 (⟨(1:Int),(0:Int),([]:Bs),[68,105,115,107],([]:List TE0)⟩:TI0)).bind λX3=>
 (dN n X3.2.1 X3.2.2.1 X3.2.2.2.1 X3.2.2.2.2.1 X3.2.2.2.2.2.1 X3.2.2.2.2.2.2 (0:Int) (true)).bind λX4=>
 bif(decide (X2.1=0)) then
  (bif(decide (X3.1=0)) then
   (bif(decide (X4.1=1)) then
    (bif(andL [(X4.2.1.aq==true),(X4.2.1.bC==true),decide (X4.2.1.af=[112,49])]) then
     (bif(decide (X4.2.2.1=0)) then
      ((eG n X4.2.2.2.1 X4.2.2.2.2.1 X4.2.2.2.2.2.1 X4.2.2.2.2.2.2.1 X4.2.2.2.2.2.2.2.1 X4.2.2.2.2.2.2.2.2).bind λX5=>
      bif(decide (X5.1=1)) then
       ((cJ n X5.2.1 X5.2.2.1 X5.2.2.2.1 X5.2.2.2.2.1 X5.2.2.2.2.2.1 X5.2.2.2.2.2.2).bind λX6=>
       some ((decide (((X6.1.length:Nat):Int)=1))))
      else
       some ((false)))
     else
      some ((false)))
    else
     some ((false)))
   else
    some ((false)))
  else
   some ((false)))
 else
  some ((false))
set_option maxRecDepth 20000 in
theorem mT (n:Nat) (M:Mem) (hG:GL M) (r:Bool) (hF:iN n=some r):Ok Tryz.prog M 5 [] (λ_ v=>v=bO r):=by
 unfold iN at hF
 intro M1 hM0 w0 H w p0
 replace hG:=GL.mono hM0 hG
 refine Re 52 Tryz.func5 rfl λa0 f0=>RR (Ye f0 1 λ_ f=>RR ?_)
 obtain⟨X1,S1,F1⟩:=bS hF
 refine Y17 (E:=[]) (H:=(H)) f p0 (pj n _ hG X1 S1) λ_ V1 E_1 W1 J1 N1 jO _ f=>?_
 obtain⟨y1,aP,rfl,rfl⟩:=jO
 refine Ye f 1 λ_ f=>RR (Y f 1 λ_ f=>Y12 f N1 (.cells #[iL 0,iB 0,S [],S [],Sn] 32 (0,0)) λQ1 W2 N2 _ f=>Ys [iL 1,iB 0,S [],S [68,105,115,107],Sn] #[iL 1,iB 0,S [],S [68,105,115,107],Sn] f N2 rfl rfl λW3 N3 _ f=>eT (ag ?_))
 have N5:=N3.pl [2,2]
 refine oL (E:=[oC y1 #[Sn,iL 0,Sn,.map (some aP),Sn,iL 0] 62,Ent.obj aP (bh (Value.int .i64) vTD0 ([]:List (Int×TD0)))]) (Hr:=((oC Q1 #[iL 1,iB 0,S [],S [68,105,115,107],Sn] 32)::H)) [(0,true),(1,true),(3,true),(4,true),(2,false),(5,false),(6,true),(7,true)] N5 kr kr rfl kr (Y0 default f 1 λ_ f=>iO (v:=.agg #[iL 1,iB 0,S [],S [68,105,115,107],Sn]) f kr kr rfl rfl (λ_ pq=>Y36 (cs:=[iL 1,iB 0,S [],S [68,105,115,107],Sn]) rfl (ad:=⟨Q1,0,none⟩) (al (pq.ownCell 0 rfl) 0 rfl)) λ_ f=>Y0 default f 1 λ_ f=>iO (v:=.agg #[iL 1,iB 0,S [],S [68,105,115,107],Sn]) f kr kr rfl rfl (λ_ pq=>Y36 (cs:=[iL 1,iB 0,S [],S [68,105,115,107],Sn]) rfl (ad:=⟨Q1,0,none⟩) (al (pq.ownCell 0 rfl) 0 rfl)) λ_ f=>eY (E:=[oC y1 #[Sn,iL 0,Sn,.map (some aP),Sn,iL 0] 62,Ent.obj aP (bh (Value.int .i64) vTD0 ([]:List (Int×TD0)))]) λW4 N6=>?_)
 obtain⟨Z1,P1,H1⟩: ∃A cap,Value.slice none 0 0=.slice A ([]:List TI0).length cap:=⟨none,0,rfl⟩
 have N7:Hp w0 V1 ((Ent.row 32 5 (.slice Z1 ([]:List TI0).length P1) ([]:List TI0).length [])::(Ent.obj y1 (.cells #[.slice none 0 0,.int .i64 0,.slice Z1 ([]:List TI0).length P1,.map (some aP),.slice none 0 0,.int .i64 0] 62 (0,0)))::(Ent.obj aP (bh (Value.int .i64) (λx:TD0=>Value.agg #[.bool x.aq,.bool x.bC,S x.af]) ([]:List (Int×TD0))))::(Ent.obj Q1 (.cells #[.int .i64 1,.int .i8 0,S [],S [68,105,115,107],.slice none 0 0] 32 (0,0)))::H) W4:=by rw[←H1];exact N6.nilRow 32 5
 have D1:aa V1 (([]:List TI0).map aJ) []:=rfl
 obtain⟨Z2,P2,H2⟩: ∃A cap,Value.slice none 0 0=.slice A ([]:List TI0).length cap:=⟨none,0,rfl⟩
 have N8:Hp w0 V1 ((Ent.row 32 5 (.slice Z2 ([]:List TI0).length P2) ([]:List TI0).length [])::(Ent.row 32 5 (.slice Z1 ([]:List TI0).length P1) ([]:List TI0).length [])::(Ent.obj y1 (.cells #[.slice none 0 0,.int .i64 0,.slice Z1 ([]:List TI0).length P1,.map (some aP),.slice Z2 ([]:List TI0).length P2,.int .i64 0] 62 (0,0)))::(Ent.obj aP (bh (Value.int .i64) (λx:TD0=>Value.agg #[.bool x.aq,.bool x.bC,S x.af]) ([]:List (Int×TD0))))::(Ent.obj Q1 (.cells #[.int .i64 1,.int .i8 0,S [],S [68,105,115,107],.slice none 0 0] 32 (0,0)))::H) W4:=by rw[←H2];exact N7.nilRow 32 5
 have D2:aa V1 (([]:List TI0).map aJ) []:=rfl
 obtain⟨X2,S2,F2⟩:=bS F1
 have N12:=N8.pl [3,2,3]
 refine Y17 (E:=[oC y1 #[Sn,iL 0,sL Z1 ([]:List TI0) P1,.map (some aP),sL Z2 ([]:List TI0) P2,iL 0] 62,rO 32 5 Z1 ([]:List TI0) P1 [],Ent.obj aP (bh (Value.int .i64) vTD0 ([]:List (Int×TD0))),rO 32 5 Z2 ([]:List TI0) P2 []]) (H:=((oC Q1 #[iL 1,iB 0,S [],S [68,105,115,107],Sn] 32)::H)) f N12 (gw n _ (GL.mono J1 hG) y1 ([]:List TG0) none 0 Sli.nil (0:Int) ([]:List TI0) Z1 P1 [] D1 aP ([]:List (Int×TD0)) ([]:List TI0) Z2 P2 [] D2 (0:Int) _ (⟨(1:Int),(0:Int),([]:Bs),[68,105,115,107],([]:List TE0)⟩:TI0) (TI0.shut Sli.nil) X2 S2) λ_ V2 E_2 W5 J2 N9 sj _ f=>?_
 obtain⟨Z3,P3,Z4,P4,L1,Z5,P5,L2,rfl,rfl,B1,D3,D4⟩:=sj
 refine aA rfl (jR (M1:=V2) (E:=[oC y1 #[sL Z3 X2.2.1 P3,iL X2.2.2.1,sL Z4 X2.t3.1 P4,.map (some aP),sL Z5 X2.t5.1 P5,iL X2.t6] 62,rO 32 5 Z4 X2.t3.1 P4 L1,Ent.obj aP (bh (Value.int .i64) vTD0 X2.t4.1),rO 32 5 Z5 X2.t5.1 P5 L2]) J2 N9 (eY (E:=[oC y1 #[sL Z3 X2.2.1 P3,iL X2.2.2.1,sL Z4 X2.t3.1 P4,.map (some aP),sL Z5 X2.t5.1 P5,iL X2.t6] 62,rO 32 5 Z4 X2.t3.1 P4 L1,Ent.obj aP (bh (Value.int .i64) vTD0 X2.t4.1),rO 32 5 Z5 X2.t5.1 P5 L2]) λW6 N13=>?_))
 obtain⟨X3,S3,F3⟩:=bS F2
 refine Y17 (E:=[oC y1 #[sL Z3 X2.2.1 P3,iL X2.2.2.1,sL Z4 X2.t3.1 P4,.map (some aP),sL Z5 X2.t5.1 P5,iL X2.t6] 62,rO 32 5 Z4 X2.t3.1 P4 L1,Ent.obj aP (bh (Value.int .i64) vTD0 X2.t4.1),rO 32 5 Z5 X2.t5.1 P5 L2]) (H:=((oC Q1 #[iL 1,iB 0,S [],S [68,105,115,107],Sn] 32)::H)) f N13 (gw n _ (GL.mono (J1.trans J2) hG) y1 X2.2.1 Z3 P3 B1 X2.2.2.1 X2.t3.1 Z4 P4 L1 D3 aP X2.t4.1 X2.t5.1 Z5 P5 L2 D4 X2.t6 _ (⟨(1:Int),(0:Int),([]:Bs),[68,105,115,107],([]:List TE0)⟩:TI0) (TI0.shut Sli.nil) X3 S3) λ_ V3 E_3 W7 J3 N14 q_3 _ f=>?_
 obtain⟨Z6,P6,Z7,P7,L3,Z8,P8,L4,rfl,rfl,B2,D5,D6⟩:=q_3
 refine aA rfl (jR (M1:=V3) (E:=[oC y1 #[sL Z6 X3.2.1 P6,iL X3.2.2.1,sL Z7 X3.t3.1 P7,.map (some aP),sL Z8 X3.t5.1 P8,iL X3.t6] 62,rO 32 5 Z7 X3.t3.1 P7 L3,Ent.obj aP (bh (Value.int .i64) vTD0 X3.t4.1),rO 32 5 Z8 X3.t5.1 P8 L4]) (J2.trans J3) N14 (Y0 default f 2 λ_ f=>mB rfl λW8 N15=>aH (RR (Y f 1 λ_ f=>?_))))
 obtain⟨X4,S4,F4⟩:=bS F3
 refine Y17 (E:=[oC y1 #[sL Z6 X3.2.1 P6,iL X3.2.2.1,sL Z7 X3.t3.1 P7,.map (some aP),sL Z8 X3.t5.1 P8,iL X3.t6] 62,rO 32 5 Z7 X3.t3.1 P7 L3,Ent.obj aP (bh (Value.int .i64) vTD0 X3.t4.1),rO 32 5 Z8 X3.t5.1 P8 L4]) (H:=((oC Q1 #[iL 1,iB 0,S [],S [68,105,115,107],Sn] 32)::H)) f N15 (kR n _ (GL.mono ((J1.trans J2).trans J3) hG) y1 X3.2.1 Z6 P6 B2 X3.2.2.1 X3.t3.1 Z7 P7 L3 D5 aP X3.t4.1 X3.t5.1 Z8 P8 L4 D6 X3.t6 (0:Int) (true) X4 S4) λ_ V4 E_4 W9 J4 N16 q_4 _ f=>?_
 obtain⟨cP,Z9,P9,Z10,P10,L5,Z11,P11,L6,rfl,rfl,D7,B3,D8,D9⟩:=q_4
 obtain rfl:=TD0.opn D7
 refine Y f 4 λ_ f=>Y12 f N16 (.cells #[bO false,bO false,S []] 38 (0,0)) λQ2 W10 N17 _ f=>Y f 1 λ_ f=>Ys (lTD0 X4.2.1) (aTD0 X4.2.1) f N17 rfl rfl λW11 N18 _ f=>Ye f 1 λ_ f=>RR (Y f 3 λ_ f=>?_)
 rcases cE F4 with⟨B4,F5⟩|⟨B4,F18⟩
 ·have U1:=dI.1 B4
  have f:=f.st 24 (cB B4)
  refine Y f 4 λ_ f=>?_
  rcases cE F5 with⟨B5,F6⟩|⟨B5,F17⟩
  ·have U2:=dI.1 B5
   have f:=f.st 28 (cB B5)
   refine Y f 4 λ_ f=>?_
   rcases cE F6 with⟨B6,F7⟩|⟨B6,F16⟩
   ·have U3:=dI.1 B6
    have f:=f.st 32 (cB B6)
    refine Z f (Y36 (cs:=(lTD0 X4.2.1)) rfl (ad:=⟨Q2,0,none⟩) (al (N18.ownCell 0 rfl) 0 rfl)) λ_ f=>Y f 1 λ_ f=>Z (v:=bO (andL [(X4.2.1.aq==true),(X4.2.1.bC==true),decide (X4.2.1.af=[112,49])])) f (Y30 rfl (xs:=(aTD0 X4.2.1)) (ys:=#[bO true,bO true,S [112,49]]) (s:=[(4,0),(4,1),(9,2)]) (rs:=[(X4.2.1.aq==true),(X4.2.1.bC==true),decide (X4.2.1.af=[112,49])]) (λw=>⟨⟨.bool X4.2.1.aq,bO true,by kernel_rfl,by kernel_rfl,EqB kr⟩,⟨.bool X4.2.1.bC,bO true,by kernel_rfl,by kernel_rfl,EqB kr⟩,⟨S X4.2.1.af,S [112,49],by kernel_rfl,by kernel_rfl,EqS kr⟩,trivial⟩) _) λ_ f=>Y f 2 λ_ f=>?_
    rcases cE F7 with⟨B7,F8⟩|⟨B7,F15⟩
    ·have f:=f.st 37 (cB B7)
     refine Y f 4 λ_ f=>?_
     rcases cE F8 with⟨B8,F9⟩|⟨B8,F14⟩
     ·have U5:=dI.1 B8
      have f:=f.st 41 (cB B8)
      refine Y f 1 λ_ f=>?_
      obtain⟨X5,S5,F10⟩:=bS F9
      have N23:=N18.pl [4,4,4,4]
      refine Y17 (E:=[oC y1 #[sL Z9 X4.t3.1 P9,iL X4.t4.1,sL Z10 X4.t5.1 P10,.map (some aP),sL Z11 X4.t7.1 P11,iL X4.t8] 62,rO 32 5 Z10 X4.t5.1 P10 L5,Ent.obj aP (bh (Value.int .i64) vTD0 X4.t6.1),rO 32 5 Z11 X4.t7.1 P11 L6]) (H:=((Ent.obj Q2 (.cells (aTD0 X4.2.1) 38 (0,0)))::(oC Q1 #[iL 1,iB 0,S [],S [68,105,115,107],Sn] 32)::H)) f N23 (jV n _ (GL.mono (((J1.trans J2).trans J3).trans J4) hG) y1 X4.t3.1 Z9 P9 B3 X4.t4.1 X4.t5.1 Z10 P10 L5 D8 aP X4.t6.1 X4.t7.1 Z11 P11 L6 D9 X4.t8 X5 S5) λ_ V5 E_5 W12 J5 N19 q_5 _ f=>?_
      obtain⟨Z12,P12,Z13,P13,L7,Z14,P14,L8,rfl,rfl,B9,D10,D11⟩:=q_5
      refine Y f 3 λ_ f=>?_
      rcases cE F10 with⟨B10,F11⟩|⟨B10,F13⟩
      ·have U6:=dI.1 B10
       have f:=f.st 46 (cB B10)
       refine Y f 1 λ_ f=>?_
       obtain⟨X6,S6,F12⟩:=bS F11
       refine Y17 (E:=[oC y1 #[sL Z12 X5.2.1 P12,iL X5.2.2.1,sL Z13 X5.t3.1 P13,.map (some aP),sL Z14 X5.t5.1 P14,iL X5.t6] 62,rO 32 5 Z13 X5.t3.1 P13 L7,Ent.obj aP (bh (Value.int .i64) vTD0 X5.t4.1),rO 32 5 Z14 X5.t5.1 P14 L8]) (H:=((Ent.obj Q2 (.cells (aTD0 X4.2.1) 38 (0,0)))::(oC Q1 #[iL 1,iB 0,S [],S [68,105,115,107],Sn] 32)::H)) f N19 (je n _ (GL.mono ((((J1.trans J2).trans J3).trans J4).trans J5) hG) y1 X5.2.1 Z12 P12 B9 X5.2.2.1 X5.t3.1 Z13 P13 L7 D10 aP X5.t4.1 X5.t5.1 Z14 P14 L8 D11 X5.t6 X6 S6) λ_ V6 E_6 W13 J6 N24 q_6 _ f=>?_
       obtain⟨Z15,P15,L9,Z16,P16,Z17,P17,L10,Z18,P18,L11,rfl,rfl,D12,B11,D13,D14⟩:=q_6
       refine Ye f 4 λ_ f=>wp_ret (ao f rfl (Lk 0 (bO (decide (((X6.1.length:Nat):Int)=1)))) ?_)
       cases sI F12
       exact⟨_,rfl,V6,(((((J1.trans J2).trans J3).trans J4).trans J5).trans J6),(N24.dropN 7),rfl⟩
      ·have U7:=ap dI B10
       have f:=f.st 46 (cB B10)
       refine Ye f 6 λ_ f=>wp_ret (ao f rfl (Lk 0 (bO false)) ?_)
       cases sI F13
       exact⟨_,rfl,V5,((((J1.trans J2).trans J3).trans J4).trans J5),(N19.dropN 6),rfl⟩
     ·have U8:=ap dI B8
      have f:=f.st 41 (cB B8)
      refine Ye f 11 λ_ f=>wp_ret (ao f rfl (Lk 0 (bO false)) ?_)
      cases sI F14
      exact⟨_,rfl,V4,(((J1.trans J2).trans J3).trans J4),(N18.dropN 6),rfl⟩
    ·have f:=f.st 37 (cB B7)
     refine Ye f 15 λ_ f=>wp_ret (ao f rfl (Lk 0 (bO false)) ?_)
     cases sI F15
     exact⟨_,rfl,V4,(((J1.trans J2).trans J3).trans J4),(N18.dropN 6),rfl⟩
   ·have U10:=ap dI B6
    have f:=f.st 32 (cB B6)
    refine Ye f 20 λ_ f=>wp_ret (ao f rfl (Lk 0 (bO false)) ?_)
    cases sI F16
    exact⟨_,rfl,V4,(((J1.trans J2).trans J3).trans J4),(N18.dropN 6),rfl⟩
  ·have U11:=ap dI B5
   have f:=f.st 28 (cB B5)
   refine Ye f 24 λ_ f=>wp_ret (ao f rfl (Lk 0 (bO false)) ?_)
   cases sI F17
   exact⟨_,rfl,V4,(((J1.trans J2).trans J3).trans J4),(N18.dropN 6),rfl⟩
 ·have U12:=ap dI B4
  have f:=f.st 24 (cB B4)
  refine Ye f 28 λ_ f=>wp_ret (ao f rfl (Lk 0 (bO false)) ?_)
  cases sI F18
  exact⟨_,rfl,V4,(((J1.trans J2).trans J3).trans J4),(N18.dropN 6),rfl⟩
def cz (n:Nat) (d0:List TG0) (d1:List TG0) (K1:Int):Option (Lp Int (Sum Unit Unit)):=
    bif(decide (K1<((d0.length:Nat):Int))) then
     ((aR d0 K1).bind λX1=>
     (aR d1 K1).bind λX2=>
     bif(!(decide (X1.af=X2.af))) then
      (some (.br (.inl ())))
     else
      (aR d0 K1).bind λX3=>
      (aR d1 K1).bind λX4=>
      bif(!(decide (X3.am=X4.am))) then
       (some (.br (.inl ())))
      else
       (aR d0 K1).bind λX5=>
       (aR d1 K1).bind λX6=>
       (iD n X5.ai X6.ai).bind λX7=>
       bif !X7 then
        (some (.br (.inl ())))
       else
        aZ (inR .i64 (K1+1))<|
        some (.nx (K1+1)))
    else
     some (.br (.inr ()))
def dt (n:Nat) (d0:List TG0) (d1:List TG0):Option Bool:=
 bif(!(decide (((d0.length:Nat):Int)=((d1.length:Nat):Int)))) then
  (some ((false)))
 else
  (aN (cz n d0 d1) n (0:Int)).bind λQ1=>
  (match Q1 with
  |.inl G1=>some ((false))
  |.inr G2=>some ((true)))
set_option maxRecDepth 20000 in
theorem jW (n:Nat) (M:Mem) (hG:GL M) (A0:Oa) (cap0:Nat) (d0:List TG0) (h0:Sli M 3 aK A0 cap0 d0) (A1:Oa) (cap1:Nat) (d1:List TG0) (h1:Sli M 3 aK A1 cap1 d1) (r:Bool) (hF:dt n d0 d1=some r):Ok Tryz.prog M 16 [sL A0 d0 cap0,sL A1 d1 cap1] (λ_ v=>v=bO r):=by
 unfold dt at hF
 intro M1 hM0 w0 H w p0
 replace hG:=GL.mono hM0 hG
 replace h0:=h0.mono hM0
 replace h1:=h1.mono hM0
 refine Re 55 Tryz.func16 rfl λa0 f0=>RR (Ye f0 1 λ_ f=>ag (RR (Ye f 5 λ_ f=>RcF f hF (λB1 F1=>?_) λB1 F2=>?_)))
 ·have U1: ¬ (((d0.length:Nat):Int)=((d1.length:Nat):Int)):=(av dI).1 B1
  refine RR (Ye f 1 λ_ f=>wp_ret (aS (ao f rfl (Lk 4 (bO false)) ?_)))
  cases sI F1
  exact⟨_,rfl,M1,(mR _),p0,rfl⟩
 ·have U2: ¬ (¬ (((d0.length:Nat):Int)=((d1.length:Nat):Int))):=ap (av dI) B1
  refine St (ag (RR (Ye f 1 λ_ f=>wp_block ?_)))
  obtain⟨Q1,bH,F3⟩:=bS F2
  refine wp_mono (Q:=λe a w=>(e=.ret∧(∃G1:Unit,Q1=.inl G1∧∃V2:Mem,M1.le V2∧Frm 55 [(4,bO false)] a∧Hp w0 V2 (H) w))∨(e=.exit 0∧(∃G2:Unit,Q1=.inr G2∧∃V3:Mem,M1.le V3∧Frm 55 [] a∧Hp w0 V3 (H) w))) (bu (n:=55) (w0:=w0) (M:=M1) (λ (I1,K1)=>[(0,sL A0 d0 cap0),(1,sL A1 d1 cap1),(5,iL K1)]) (λ (I1,K1)=>(H)) (λ (I1,K1) MM=>aN (cz n d0 d1) I1 K1=some Q1) (λ (I1,K1)=>I1) (n,(0:Int)) (f.kp) p0 bH ?_) ?_
  ·rintro⟨I1,K1⟩ V1 _ W1 J1 dc f N1
   have bI:=dc
   obtain⟨I2,jP,rfl,be,T1⟩:=aT bI
   unfold cz at be
   refine ag (RR (Ye f 4 λ_ f=>RcF f be (λB2 F4=>?_) λB2 F19=>?_))
   ·have U3:=dI.1 B2
    refine St (ag (wp_block (ag (cR N1 kr kr (Y5 default f 2 λ_ f=>?_)))))
    obtain⟨X1,S1,F5⟩:=bS F4
    obtain⟨C1,cP,dS,-,D1,R1⟩:=Sli.at_ (h0.mono J1) S1
    obtain⟨Z1,P1,rfl,B3⟩:=TG0.opn D1
    refine Y2 (v:=Pa (C1.add (K1.toNat*3))) f (λ_ pq=>Y34 dS rfl (len:=d0.length) (cap:=cap0) (k:=.i64) (i:=K1) (e:=44) (sz:=3) (aF S1) (aE S1)) λ_ f=>Y5 default f 1 λ_ f=>Y4 f R1 0 rfl λ_ f=>Y5 default f 2 λ_ f=>?_
    obtain⟨X2,S2,F6⟩:=bS F5
    obtain⟨C2,jX,lp,-,D2,R2⟩:=Sli.at_ (h1.mono J1) S2
    obtain⟨Z2,P2,rfl,B4⟩:=TG0.opn D2
    refine Y2 (v:=Pa (C2.add (K1.toNat*3))) f (λ_ pq=>Y34 lp rfl (len:=d1.length) (cap:=cap1) (k:=.i64) (i:=K1) (e:=44) (sz:=3) (aF S2) (aE S2)) λ_ f=>Y5 default f 1 λ_ f=>Y4 f R2 0 rfl λ_ f=>Y2 (v:=bO (!(decide (X1.af=X2.af)))) f (λ_ pq=>Y43 rfl (l:=X1.af) (m:=X2.af)) λ_ f=>Y5 default f 1 λ_ f=>?_
    rcases cE F6 with⟨B5,F7⟩|⟨B5,F8⟩
    ·have U4: ¬ (X1.af=X2.af):=(av dI).1 B5
     have f:=f.st 28 (cB B5)
     refine Y5 default f 26 λ_ f=>bW rfl ?_
     intro W2 N2
     refine aH (Y8 f (RR (Ye f 1 λ_ f=>wp_ret (bV (aS (aS ?_))))))
     cases sI F7
     exact .inl ⟨rfl,(),(sI T1).symm,V1,J1,f.kp,N2⟩
    ·have U5: ¬ (¬ (X1.af=X2.af)):=ap (av dI) B5
     have f:=f.st 28 (cB B5)
     refine Y5 default f 2 λ_ f=>?_
     obtain⟨X3,S3,F9⟩:=bS F8
     obtain⟨C3,c_3,sh,-,D3,R3⟩:=Sli.at_ (h0.mono J1) S3
     obtain⟨Z3,P3,rfl,B6⟩:=TG0.opn D3
     refine Y2 (v:=Pa (C3.add (K1.toNat*3))) f (λ_ pq=>Y34 sh rfl (len:=d0.length) (cap:=cap0) (k:=.i64) (i:=K1) (e:=44) (sz:=3) (aF S3) (aE S3)) λ_ f=>Y5 default f 1 λ_ f=>Y4 f R3 1 rfl λ_ f=>Y5 default f 2 λ_ f=>?_
     obtain⟨X4,S4,F10⟩:=bS F9
     obtain⟨C4,c_4,qG,-,D4,R4⟩:=Sli.at_ (h1.mono J1) S4
     obtain⟨Z4,P4,rfl,B7⟩:=TG0.opn D4
     refine Y2 (v:=Pa (C4.add (K1.toNat*3))) f (λ_ pq=>Y34 qG rfl (len:=d1.length) (cap:=cap1) (k:=.i64) (i:=K1) (e:=44) (sz:=3) (aF S4) (aE S4)) λ_ f=>Y5 default f 1 λ_ f=>Y4 f R4 1 rfl λ_ f=>Y2 (v:=bO (!(decide (X3.am=X4.am)))) f (λ_ pq=>Y43 rfl (l:=X3.am) (m:=X4.am)) λ_ f=>Y5 default f 2 λ_ f=>?_
     rcases cE F10 with⟨B8,F11⟩|⟨B8,F12⟩
     ·have U6: ¬ (X3.am=X4.am):=(av dI).1 B8
      have f:=f.st 41 (cB B8)
      refine Y5 default f 13 λ_ f=>bW rfl ?_
      intro W3 N3
      refine aH (Y8 f (RR (Ye f 1 λ_ f=>wp_ret (bV (aS (aS ?_))))))
      cases sI F11
      exact .inl ⟨rfl,(),(sI T1).symm,V1,J1,f.kp,N3⟩
     ·have U7: ¬ (¬ (X3.am=X4.am)):=ap (av dI) B8
      have f:=f.st 41 (cB B8)
      refine Y5 default f 2 λ_ f=>?_
      obtain⟨X5,S5,F13⟩:=bS F12
      obtain⟨C5,c_5,e_5,-,D5,R5⟩:=Sli.at_ (h0.mono J1) S5
      obtain⟨Z5,P5,rfl,B9⟩:=TG0.opn D5
      refine Y2 (v:=Pa (C5.add (K1.toNat*3))) f (λ_ pq=>Y34 e_5 rfl (len:=d0.length) (cap:=cap0) (k:=.i64) (i:=K1) (e:=44) (sz:=3) (aF S5) (aE S5)) λ_ f=>Y5 default f 1 λ_ f=>Y4 f R5 2 rfl λ_ f=>Y5 default f 2 λ_ f=>?_
      obtain⟨X6,S6,F14⟩:=bS F13
      obtain⟨C6,c_6,e_6,-,D6,R6⟩:=Sli.at_ (h1.mono J1) S6
      obtain⟨Z6,P6,rfl,B10⟩:=TG0.opn D6
      refine Y2 (v:=Pa (C6.add (K1.toNat*3))) f (λ_ pq=>Y34 e_6 rfl (len:=d1.length) (cap:=cap1) (k:=.i64) (i:=K1) (e:=44) (sz:=3) (aF S6) (aE S6)) λ_ f=>Y5 default f 1 λ_ f=>Y4 f R6 2 rfl λ_ f=>?_
      obtain⟨X7,S7,F15⟩:=bS F14
      refine Y3 f (nU n _ (GL.mono J1 hG) Z5 P5 X5.ai B9 Z6 P6 X6.ai B10 X7 S7) λ_ f=>Y5 default f 2 λ_ f=>bW rfl ?_
      intro W5 N5
      refine aH (RcF f F15 (λB11 F16=>?_) λB11 F17=>?_)
      ·have U8: (X7)=false:=by simpa using B11
       refine RR (Ye f 1 λ_ f=>wp_ret (bV (aS (aS ?_))))
       cases sI F16
       exact .inl ⟨rfl,(),(sI T1).symm,V1,J1,f.kp,N5⟩
      ·have U9: (X7)=true:=by simpa using B11
       refine wp_skip (cG (aH (aI (Y f 1 λ_ f=>?_))))
       obtain⟨O1,F18⟩:=nS F17
       refine Y f 1 λ_ f=>?_
       have f:=f.st 16 (iW O1)
       refine Ye f 1 λ_ f=>?_
       cases sI F18
       exact⟨⟨I2,K1+1⟩,Nat.lt_succ_self _,V1,J1,T1,f.kp,N5⟩
   ·have U10:=ap dI B2
    refine wp_exit (co (co ?_))
    cases sI F19
    exact .inr ⟨rfl,(),(sI T1).symm,V1,J1,f.kp,N1⟩
  ·rintro _ _ W8 (⟨rfl,G1,rfl,V2,J2,f,N6⟩|⟨rfl,G2,rfl,V3,J3,f,N7⟩)
   ·refine bV (aS (ao f rfl (Lk 4 (bO false)) ?_))
    cases sI F3
    exact⟨_,rfl,V2,J2,N6,rfl⟩
   ·refine iq (aH (RR (Ye f 1 λ_ f=>wp_ret (ao f rfl (Lk 4 (bO true)) ?_))))
    cases sI F3
    exact⟨_,rfl,V3,J3,N7,rfl⟩
def jH (n:Nat) (d0:TI0):Option Bool:=
 bif(decide ((200:Int)<(d0.af.length:Int))) then
  (some ((true)))
 else
  bif(decide ((200:Int)<(d0.am.length:Int))) then
   (some ((true)))
  else
   (jD n d0.ai).bind λX1=>
   some ((X1))
theorem rW (n:Nat) (M:Mem) (hG:GL M) (c0:Lv) (d0:TI0) (h0:Rep M (aJ d0) c0) (r:Bool) (hF:jH n d0=some r):Ok Tryz.prog M 27 [.agg c0.toArray] (λ_ v=>v=bO r):=by
 unfold jH at hF
 intro M1 hM0 w0 H w p0
 replace hG:=GL.mono hM0 hG
 replace h0:=Rep.mono hM0 _ _ h0
 obtain⟨Z1,P1,rfl,B1⟩:=TI0.opn h0
 refine Re 18 Tryz.func27 rfl λa0 f0=>RR (Y13 (cs:=(aTI0 d0 Z1 P1)) (T:=32) f0 p0 λQ1 V1 W1 J1 R1 N1 _ f=>?_)
 have R2:=bR R1
 refine Ye f 1 λ_ f=>RR (Y f 1 λ_ f=>Y15 f N1 R2 2 rfl λ_ f=>Y f 3 λ_ f=>?_)
 rcases cE hF with⟨B2,F1⟩|⟨B2,F2⟩
 ·have U1:=dI.1 B2
  have f:=f.st 7 (cB B2)
  refine Ye f 11 λ_ f=>wp_ret (ao f rfl (Lk 2 (bO true)) ?_)
  cases sI F1
  exact⟨_,rfl,V1,J1,N1,rfl⟩
 ·have U2:=ap dI B2
  have f:=f.st 7 (cB B2)
  refine Y f 1 λ_ f=>Y15 f N1 R2 3 rfl λ_ f=>Y f 4 λ_ f=>?_
  rcases cE F2 with⟨B3,F3⟩|⟨B3,F4⟩
  ·have U3:=dI.1 B3
   have f:=f.st 13 (cB B3)
   refine Ye f 5 λ_ f=>wp_ret (ao f rfl (Lk 2 (bO true)) ?_)
   cases sI F3
   exact⟨_,rfl,V1,J1,N1,rfl⟩
  ·have U4:=ap dI B3
   have f:=f.st 13 (cB B3)
   refine Y f 1 λ_ f=>Y15 f N1 R2 4 rfl λ_ f=>?_
   obtain⟨X1,S1,F5⟩:=bS F4
   refine Y18 f N1 (rB n _ (GL.mono J1 hG) Z1 P1 d0.ai (B1.mono J1) X1 S1) λW2 N2 _ f=>Ye f 2 λ_ f=>wp_ret (ao f rfl (Lk 2 (bO X1)) ?_)
   cases sI F5
   exact⟨_,rfl,V1,J1,N2,rfl⟩
def eH (n:Nat) (d0:List TB0) (K1:Int):Option (Lp Int (Sum Unit Unit)):=
    bif(decide (K1<((d0.length:Nat):Int))) then
     ((aR d0 K1).bind λX1=>
     (jH n (⟨X1.fX.ax,X1.fX.ab,X1.fX.af,X1.fX.am,X1.fX.ai⟩:TI0)).bind λX2=>
     bif X2 then
      (some (.br (.inl ())))
     else
      aZ (inR .i64 (K1+1))<|
      some (.nx (K1+1)))
    else
     some (.br (.inr ()))
def jI (n:Nat) (d0:List TB0):Option Bool:=
 bif(decide ((100:Int)<((d0.length:Nat):Int))) then
  (some ((true)))
 else
  (aN (eH n d0) n (0:Int)).bind λQ1=>
  (match Q1 with
  |.inl G1=>some ((true))
  |.inr G2=>some ((false)))
set_option maxRecDepth 20000 in
theorem rX (n:Nat) (M:Mem) (hG:GL M) (A0:Oa) (cap0:Nat) (d0:List TB0) (h0:Sli M 7 lO A0 cap0 d0) (r:Bool) (hF:jI n d0=some r):Ok Tryz.prog M 4 [sL A0 d0 cap0] (λ_ v=>v=bO r):=by
 unfold jI at hF
 intro M1 hM0 w0 H w p0
 replace hG:=GL.mono hM0 hG
 replace h0:=h0.mono hM0
 refine Re 18 Tryz.func4 rfl λa0 f0=>RR (Ye f0 1 λ_ f=>ag (RR (Ye f 3 λ_ f=>RcF f hF (λB1 F1=>?_) λB1 F2=>?_)))
 ·have U1:=dI.1 B1
  refine RR (Ye f 1 λ_ f=>wp_ret (aS (ao f rfl (Lk 2 (bO true)) ?_)))
  cases sI F1
  exact⟨_,rfl,M1,(mR _),p0,rfl⟩
 ·have U2:=ap dI B1
  refine St (ag (RR (Ye f 3 λ_ f=>wp_block ?_)))
  obtain⟨Q1,bH,F3⟩:=bS F2
  refine wp_mono (Q:=λe a w=>(e=.ret∧(∃G1:Unit,Q1=.inl G1∧∃V2:Mem,M1.le V2∧Frm 18 [(2,bO true)] a∧Hp w0 V2 (H) w))∨(e=.exit 0∧(∃G2:Unit,Q1=.inr G2∧∃V3:Mem,M1.le V3∧Frm 18 [] a∧Hp w0 V3 (H) w))) (bu (n:=18) (w0:=w0) (M:=M1) (λ (I1,K1)=>[(8,sL A0 d0 cap0),(9,iL ((d0.length:Nat):Int)),(10,iL K1)]) (λ (I1,K1)=>(H)) (λ (I1,K1) MM=>aN (eH n d0) I1 K1=some Q1) (λ (I1,K1)=>I1) (n,(0:Int)) (f.kp) p0 bH ?_) ?_
  ·rintro⟨I1,K1⟩ V1 _ W1 J1 dc f N1
   have bI:=dc
   obtain⟨I2,jP,rfl,be,T1⟩:=aT bI
   unfold eH at be
   refine RR (Ye f 1 λ_ f=>ag (RcF f be (λB2 F4=>?_) λB2 F10=>?_))
   ·have U3:=dI.1 B2
    refine St (ag (wp_block (RR ?_)))
    obtain⟨X1,S1,F5⟩:=bS F4
    obtain⟨C1,cP,dS,-,D1,R1⟩:=Sli.at_ (h0.mono J1) S1
    obtain⟨Z1,P1,rfl,B3⟩:=TB0.opn D1
    refine Z f (Y34 dS rfl (len:=d0.length) (cap:=cap0) (k:=.i64) (i:=K1) (e:=34) (sz:=7) (aF S1) (aE S1)) λ_ f=>Z f (Y36 (cs:=(lTB0 X1 Z1 P1)) rfl (ad:=C1.add (K1.toNat*7)) (λj v h=>N1.cell (R1 j v h))) λ_ f=>Y12 f N1 (.cells #[iL 0,iL 0,iL 0,iB 0,S [],S [],Sn] 34 (0,0)) λQ2 W2 N2 _ f=>Ys (lTB0 X1 Z1 P1) (aTB0 X1 Z1 P1) f N2 rfl rfl λW3 N3 _ f=>eT (RR (Y f 1 λ_ f=>Z f (Y36 (cs:=(lTI0 X1.fX Z1 P1)) rfl (ad:=⟨Q2,2,none⟩) (al (N3.ownCell 0 rfl) 2 rfl)) λ_ f=>?_))
    obtain⟨X2,S2,F6⟩:=bS F5
    refine Y18 f N3 (rW n _ (GL.mono J1 hG) _ (⟨X1.fX.ax,X1.fX.ab,X1.fX.af,X1.fX.am,X1.fX.ai⟩:TI0) (TI0.shut B3) X2 S2) λW4 N4 _ f=>eT (RcF f F6 (λB4 F7=>?_) λB4 F8=>?_)
    ·refine RR (Ye f 1 λ_ f=>wp_ret (bV (aS (aS ?_))))
     cases sI F7
     exact .inl ⟨rfl,(),(sI T1).symm,V1,J1,f.kp,(N4.dropN 1)⟩
    ·refine wp_skip (cG (aH (aI ?_)))
     obtain⟨O1,F9⟩:=nS F8
     refine Y f 1 λ_ f=>?_
     have f:=f.st 17 (iW O1)
     refine Ye f 1 λ_ f=>?_
     cases sI F9
     exact⟨⟨I2,K1+1⟩,Nat.lt_succ_self _,V1,J1,T1,f.kp,(N4.dropN 1)⟩
   ·have U6:=ap dI B2
    refine wp_exit (co (co ?_))
    cases sI F10
    exact .inr ⟨rfl,(),(sI T1).symm,V1,J1,f.kp,N1⟩
  ·rintro _ _ W7 (⟨rfl,G1,rfl,V2,J2,f,N5⟩|⟨rfl,G2,rfl,V3,J3,f,N6⟩)
   ·refine bV (aS (ao f rfl (Lk 2 (bO true)) ?_))
    cases sI F3
    exact⟨_,rfl,V2,J2,N5,rfl⟩
   ·refine iq (aH (RR (Ye f 1 λ_ f=>wp_ret (ao f rfl (Lk 2 (bO false)) ?_))))
    cases sI F3
    exact⟨_,rfl,V3,J3,N6,rfl⟩
def gq (n:Nat) (d0:List Int) (d1:List Int) (K1:Int):Option (Lp Int (Sum Unit Unit)):=
    bif(decide (K1<((d0.length:Nat):Int))) then
     ((aR d0 K1).bind λX1=>
     (aR d1 K1).bind λX2=>
     bif(!(decide (X1=X2))) then
      (some (.br (.inl ())))
     else
      aZ (inR .i64 (K1+1))<|
      some (.nx (K1+1)))
    else
     some (.br (.inr ()))
def kS (n:Nat) (d0:List Int) (d1:List Int):Option Bool:=
 bif(!(decide (((d0.length:Nat):Int)=((d1.length:Nat):Int)))) then
  (some ((false)))
 else
  (aN (gq n d0 d1) n (0:Int)).bind λQ1=>
  (match Q1 with
  |.inl G1=>some ((false))
  |.inr G2=>some ((true)))
set_option maxRecDepth 20000 in
theorem sE (n:Nat) (M:Mem) (hG:GL M) (A0:Oa) (cap0:Nat) (d0:List Int) (h0:Sli M 1 (Dat.int .i64) A0 cap0 d0) (A1:Oa) (cap1:Nat) (d1:List Int) (h1:Sli M 1 (Dat.int .i64) A1 cap1 d1) (r:Bool) (hF:kS n d0 d1=some r):Ok Tryz.prog M 17 [sL A0 d0 cap0,sL A1 d1 cap1] (λ_ v=>v=bO r):=by
 unfold kS at hF
 intro M1 hM0 w0 H w p0
 replace hG:=GL.mono hM0 hG
 replace h0:=h0.mono hM0
 replace h1:=h1.mono hM0
 refine Re 26 Tryz.func17 rfl λa0 f0=>RR (Ye f0 1 λ_ f=>ag (RR (Ye f 5 λ_ f=>RcF f hF (λB1 F1=>?_) λB1 F2=>?_)))
 ·have U1: ¬ (((d0.length:Nat):Int)=((d1.length:Nat):Int)):=(av dI).1 B1
  refine RR (Ye f 1 λ_ f=>wp_ret (aS (ao f rfl (Lk 4 (bO false)) ?_)))
  cases sI F1
  exact⟨_,rfl,M1,(mR _),p0,rfl⟩
 ·have U2: ¬ (¬ (((d0.length:Nat):Int)=((d1.length:Nat):Int))):=ap (av dI) B1
  refine St (ag (RR (Ye f 3 λ_ f=>wp_block ?_)))
  obtain⟨Q1,bH,F3⟩:=bS F2
  refine wp_mono (Q:=λe a w=>(e=.ret∧(∃G1:Unit,Q1=.inl G1∧∃V2:Mem,M1.le V2∧Frm 26 [(4,bO false)] a∧Hp w0 V2 (H) w))∨(e=.exit 0∧(∃G2:Unit,Q1=.inr G2∧∃V3:Mem,M1.le V3∧Frm 26 [] a∧Hp w0 V3 (H) w))) (bu (n:=26) (w0:=w0) (M:=M1) (λ (I1,K1)=>[(0,sL A0 d0 cap0),(1,sL A1 d1 cap1),(12,iL ((d0.length:Nat):Int)),(13,iL K1)]) (λ (I1,K1)=>(H)) (λ (I1,K1) MM=>aN (gq n d0 d1) I1 K1=some Q1) (λ (I1,K1)=>I1) (n,(0:Int)) (f.kp) p0 bH ?_) ?_
  ·rintro⟨I1,K1⟩ V1 _ W1 J1 dc f N1
   have bI:=dc
   obtain⟨I2,jP,rfl,be,T1⟩:=aT bI
   unfold gq at be
   refine RR (Ye f 1 λ_ f=>ag (RcF f be (λB2 F4=>?_) λB2 F10=>?_))
   ·have U3:=dI.1 B2
    refine St (ag (wp_block (RR (Ye f 2 λ_ f=>ag (cR N1 kr kr (Y5 default f 2 λ_ f=>?_))))))
    obtain⟨X1,S1,F5⟩:=bS F4
    obtain⟨C1,cP,dS,-,D1,R1⟩:=Sli.at_ (h0.mono J1) S1
    obtain rfl:cP=[iL X1]:=D1
    refine Y2 (v:=Pa (C1.add (K1.toNat*1))) f (λ_ pq=>Y34 dS rfl (len:=d0.length) (cap:=cap0) (k:=.i64) (i:=K1) (e:=3) (sz:=1) (aF S1) (aE S1)) λ_ f=>Y4 f R1 0 rfl λ_ f=>Y5 default f 2 λ_ f=>?_
    obtain⟨X2,S2,F6⟩:=bS F5
    obtain⟨C2,jX,lp,-,D2,R2⟩:=Sli.at_ (h1.mono J1) S2
    obtain rfl:jX=[iL X2]:=D2
    refine Y2 (v:=Pa (C2.add (K1.toNat*1))) f (λ_ pq=>Y34 lp rfl (len:=d1.length) (cap:=cap1) (k:=.i64) (i:=K1) (e:=3) (sz:=1) (aF S2) (aE S2)) λ_ f=>Y4 f R2 0 rfl λ_ f=>Y5 default f 1 λ_ f=>bW rfl ?_
    intro W2 N2
    refine aH (RcF f F6 (λB3 F7=>?_) λB3 F8=>?_)
    ·have U4: ¬ (X1=X2):=(av dI).1 B3
     refine RR (Ye f 1 λ_ f=>wp_ret (bV (aS (aS ?_))))
     cases sI F7
     exact .inl ⟨rfl,(),(sI T1).symm,V1,J1,f.kp,N2⟩
    ·have U5: ¬ (¬ (X1=X2)):=ap (av dI) B3
     refine wp_skip (cG (aH (aI ?_)))
     obtain⟨O1,F9⟩:=nS F8
     refine Y f 1 λ_ f=>?_
     have f:=f.st 25 (iW O1)
     refine Ye f 1 λ_ f=>?_
     cases sI F9
     exact⟨⟨I2,K1+1⟩,Nat.lt_succ_self _,V1,J1,T1,f.kp,N2⟩
   ·have U6:=ap dI B2
    refine wp_exit (co (co ?_))
    cases sI F10
    exact .inr ⟨rfl,(),(sI T1).symm,V1,J1,f.kp,N1⟩
  ·rintro _ _ W5 (⟨rfl,G1,rfl,V2,J2,f,N3⟩|⟨rfl,G2,rfl,V3,J3,f,N4⟩)
   ·refine bV (aS (ao f rfl (Lk 4 (bO false)) ?_))
    cases sI F3
    exact⟨_,rfl,V2,J2,N3,rfl⟩
   ·refine iq (aH (RR (Ye f 1 λ_ f=>wp_ret (ao f rfl (Lk 4 (bO true)) ?_))))
    cases sI F3
    exact⟨_,rfl,V3,J3,N4,rfl⟩
structure CS where
 L:List TG0
 made:Int
 calls:List TI0
 ans:List (Int×TD0)
 inn:List TI0
 good:Int
def new11:CS:=⟨[],0,[],[],[],0⟩
def CS.tup (c:CS):List TG0×Int×List TI0×List (Int×TD0)×List TI0×Int:=(c.L,c.made,c.calls,c.ans,c.inn,c.good)
theorem evC (x:TI0): (⟨x.ax,x.ab,x.af,x.am,x.ai⟩:TI0)=x:=by cases x;rfl
set_option maxRecDepth 100000 in
theorem wakes11:iN 10000=some true:=by decide+kernel
theorem wakes11b: ((iN 10000).bind λx=>some x)=some true:=by rw[wakes11,bnd]
theorem unknown11 {n:Nat} {l:List TE0} (hl:l.length<n) (h6:l.length≤6000):bz n l=some (!knownV l):=by
 unfold bz bN knownV
 obtain⟨b,hb,hp⟩:=cj (step:=bm n l) (n:=n) (s0:=(0:Int)) (λk s=>s=(k:Int)∧∀x∈l.take k,x.az=false)
  (λb=>match b with|.inl i=>0≤i∧l.any (·.az)=true|.inr _=>l.any (·.az)=false) l.length ⟨rfl,by simp⟩
  (λk s hk hI=>by
   obtain⟨rfl,hf⟩:=hI
   have hx:l[k]? =some l[k]:=List.getElem?_eq_getElem hk
   have hg:l.getD k aC=l[k]:=by simp[List.getD,hk]
   unfold bm jr
   rw[dT (by omega),cT,bf aC hk,bnd,bnd,hg]
   cases hv:l[k].az with
   |true=>exact .inr ⟨_,rfl,by omega,List.any_eq_true.2 ⟨_,List.getElem_mem hk,hv⟩⟩
   |false=>
    rw[cF,aU (by omega) (by omega)]
    refine .inl ⟨_,rfl,rfl,λy hy=>?_⟩
    rcases(dm hx y).1 hy with h|h
    ·exact hf y h
    ·rw[h];exact hv)
  (λs hI=>by
   obtain⟨rfl,hf⟩:=hI
   rw[List.take_length] at hf
   unfold bm
   rw[dF (by omega),cF]
   refine⟨_,rfl,?_⟩
   show l.any (·.az)=false
   rw[List.any_eq_false]
   intro x hx
   rw[hf x hx];decide) hl
 rw[hb,bnd]
 cases b with
 |inl i=>
  rw[bnd,Bool.not_not,hp.2,dT hp.1]
 |inr u=>
  have hp:l.any (·.az)=false:=hp
  rw[bnd,Bool.not_not,hp];rfl
def badC (x:TI0):Bool:=decide (x.ax<1)|| (decide (x.ab<0)|| (decide ((2:Int)<x.ab)|| !(decide (x.ab=0)==decide (x.af=[]))))
def badD (x:TI0):Bool:=(decide (x.ab=2)&&decide ((0:Int)<((x.ai.length:Nat):Int)))|| (decide (x.ab=1)&&decide (x.am=[]))
def checkC (x:TI0):Int:=bif badC x then 2 else bif badD x then 2 else bif decide (x.ab=2) then 0 else bif !knownV x.ai then 2 else checkG x.am x.ai
theorem checkC_run {n:Nat} (hn:6000<n) {x:TI0} (hp:GoodP x.ai):jG n x.ax x.ab x.af x.am x.ai=some (checkC x,x.ax,x.ab,x.af,x.am,x.ai):=by
 have e4: ∀a b c d:Bool,(bif a then some a else bif b then some b else bif c then some c else some d:Option Bool)=some (a|| (b|| (c||d))):=by intro a b c d;cases a<;>cases b<;>cases c<;>rfl
 have e2: ∀a b:Bool,(bif a then some b else some false:Option Bool)=some (a&&b):=by intro a b;cases a<;>rfl
 have e3: ∀a b c:Bool,(bif a then some a else bif b then some c else some false:Option Bool)=some (a|| (b&&c)):=by intro a b c;cases a<;>cases b<;>rfl
 have h6:=hp.few
 unfold jG checkC
 rw[e4,bnd,e2,bnd,e3,bnd,unknown11 (by omega) (by omega),bnd,dJ hn x.am hp.few hp.fine]
 show((bif badC x then _ else bif badD x then _ else bif decide (x.ab=2) then _ else bif !knownV x.ai then _ else _:Option (Lp Unit _))).bind _=_
 cases badC x<;>cases badD x<;>cases decide (x.ab=2)<;>cases knownV x.ai<;>rfl
def submitC (c:CS) (x:TI0):Int×CS:=
 if checkC x≠0 then(checkC x,c) else if (aG c.ans x.ax).isSome=true then(0,c)
 else(0,⟨c.L,c.made,c.calls++[x],de c.ans x.ax aX,c.inn++[x],c.good⟩)
theorem submit_run {n:Nat} (hn:6000<n) {c:CS} {x:TI0} (hp:GoodP x.ai) (hc:c.calls.length≤1000) (hi:c.inn.length≤1000):
 cn n c.L c.made c.calls c.ans c.inn c.good x=some ((submitC c x).1,(submitC c x).2.tup):=by
 have h6:=hp.few
 unfold cn submitC bZ
 rw[checkC_run hn hp,bnd]
 by_cases h0:checkC x=0
 ·rw[dT h0,nT,cF,if_neg (λh=>h h0)]
  cases hm: (aG c.ans x.ax).isSome with
  |true=>rw[nT,cF,if_pos rfl];rfl
  |false=>
   rw[nF,cT,if_neg (by decide),bn (by dsimp only;omega),bnd,bn (by omega),bnd,bn (by omega),bnd]
   rfl
 ·rw[dF h0,nF,cT,if_pos h0];rfl
def bad11:TD0:=⟨true,false,[]⟩
def effC (c:CS) (x:TI0):TD0×CS:=
 if x.ab=0 then if (createS ⟨c.L,c.made⟩ x.am x.ai).2.2=0 then(⟨true,true,(createS ⟨c.L,c.made⟩ x.am x.ai).2.1⟩,⟨(createS ⟨c.L,c.made⟩ x.am x.ai).1.fL,(createS ⟨c.L,c.made⟩ x.am x.ai).1.au,c.calls,c.ans,c.inn,c.good+1⟩) else(bad11,c)
 else if x.ab=1 then if (updateS ⟨c.L,c.made⟩ x.af x.ai).2=0 then(⟨true,true,[]⟩,⟨(updateS ⟨c.L,c.made⟩ x.af x.ai).1.fL,(updateS ⟨c.L,c.made⟩ x.af x.ai).1.au,c.calls,c.ans,c.inn,c.good⟩) else(bad11,c)
 else if x.ab=2 then if (deleteS ⟨c.L,c.made⟩ x.af).2=0 then(⟨true,true,[]⟩,⟨(deleteS ⟨c.L,c.made⟩ x.af).1.fL,(deleteS ⟨c.L,c.made⟩ x.af).1.au,c.calls,c.ans,c.inn,c.good⟩) else(bad11,c)
 else(⟨true,true,[]⟩,c)
theorem effect_run {n:Nat} (hn:6000<n) {c:CS} {x:TI0} (hp:GoodP x.ai) (hg:GoodL c.L) (h0:0≤c.good) (h1:c.good≤1000):
 dw n c.L c.made c.calls c.ans c.inn c.good x.ax x.ab x.af x.am x.ai=some ((effC c x).1,(effC c x).2.L,(effC c x).2.made,(effC c x).2.calls,(effC c x).2.ans,(effC c x).2.inn,(effC c x).2.good,x.ax,x.ab,x.af,x.am,x.ai):=by
 unfold dw effC
 have hgs:GoodL (⟨c.L,c.made⟩:TC0).fL:=hg
 rw[Create_run hn hgs x.am hp,bnd,Update_run hn hgs x.af hp,bnd,Delete_run hn hgs x.af,bnd]
 by_cases k0:x.ab=0
 ·rw[dT k0,cT,bnd,if_pos k0]
  dsimp only
  by_cases e0: (createS ⟨c.L,c.made⟩ x.am x.ai).2.2=0
  ·rw[dT e0,nT,cF,if_pos e0,cT,aU (by omega) (by omega)]
  ·rw[dF e0,nF,cT,if_neg e0];rfl
 ·rw[dF k0,cF,if_neg k0]
  by_cases k1:x.ab=1
  ·rw[dT k1,cT,bnd,if_pos k1]
   dsimp only
   by_cases e0: (updateS ⟨c.L,c.made⟩ x.af x.ai).2=0
   ·rw[dT e0,nT,cF,if_pos e0,cF]
   ·rw[dF e0,nF,cT,if_neg e0];rfl
  ·rw[dF k1,cF,if_neg k1]
   by_cases k2:x.ab=2
   ·rw[dT k2,cT,bnd,if_pos k2]
    dsimp only
    by_cases e0: (deleteS ⟨c.L,c.made⟩ x.af).2=0
    ·rw[dT e0,nT,cF,if_pos e0,cF]
    ·rw[dF e0,nF,cT,if_neg e0];rfl
   ·rw[dF k2,cF,bnd,if_neg k2]
    dsimp only
    rw[dT rfl,nT,cF,cF]
def cutC (c:CS) (k:Nat):CS:=⟨c.L,c.made,c.calls,c.ans,c.inn.take k++c.inn.drop (k+1),c.good⟩
def outC (c:CS) (k:Nat) (well:Bool):TD0×CS:=bif well then effC (cutC c k) (c.inn.getD k ee) else(bad11,cutC c k)
def tellC (r:TD0×CS) (t:Int):CS:=⟨r.2.L,r.2.made,r.2.calls,de r.2.ans t r.1,r.2.inn,r.2.good⟩
def endC (c:CS) (k:Int) (well:Bool):Int×TD0×Int×CS:=
 if 0≤k∧k<c.inn.length then((c.inn.getD k.toNat ee).ax,(outC c k.toNat well).1,0,tellC (outC c k.toNat well) (c.inn.getD k.toNat ee).ax) else(0,aX,4,c)
theorem nE {l:List TI0} {k:Nat} (hk:k<l.length):l.getD k ee∈l:=by simp[List.getD,hk]
theorem end_run {n:Nat} (hn:6000<n) {c:CS} (k:Int) (well:Bool) (hp: ∀x∈c.inn,GoodP x.ai) (hg:GoodL c.L) (hi:c.inn.length≤1000) (h0:0≤c.good) (h1:c.good≤1000):
 dN n c.L c.made c.calls c.ans c.inn c.good k well=some ((endC c k well).1,(endC c k well).2.1,(endC c k well).2.2.1,(endC c k well).2.2.2.tup):=by
 unfold dN endC
 by_cases hk:0≤k∧k<c.inn.length
 ·obtain⟨m,rfl⟩:=Int.eq_ofNat_of_zero_le hk.1
  have hm:m<c.inn.length:=by omega
  have em: (m:Int).toNat=m:=by omega
  rw[dF (by omega),cF,dF (by omega),bnd,cF,if_pos hk,bf ee hm,bnd,aU (by omega) (by omega),bn (by omega),bn (by omega),bn (by omega),bn (by omega),bnd,em]
  cases well with
  |false=>rw[cF,bnd];rfl
  |true=>
   have:=effect_run hn (c:=cutC c m) (x:=c.inn.getD m ee) (hp _ (nE hm)) hg h0 h1
   rw[cT]
   unfold cutC at this
   dsimp only at this
   rw[this,bnd,bnd]
   rfl
 ·rw[if_neg hk]
  have e: (bif decide (k<0) then some true else some (decide (((c.inn.length:Nat):Int)≤k)):Option Bool)=some true:=by
   by_cases h:k<0
   ·rw[dT h,cT]
   ·rw[dF h,cF,dT (by omega)]
  rw[e,bnd,cT]
  rfl
theorem clone11 {n:Nat} {L:List TG0} (hl:L.length≤1000):bP n L=some L:=by
 unfold bP
 rw[bn (by omega)]
theorem things_run {n:Nat} {c:CS} (hg:GoodL c.L):cJ n c.L c.made c.calls c.ans c.inn c.good=some (c.L,c.tup):=by
 have:=hg.few
 unfold cJ
 rw[clone11 (by omega),bnd];rfl
theorem mU {n:Nat} {c:CS}:eG n c.L c.made c.calls c.ans c.inn c.good=some (c.good,c.tup):=rfl
structure OkC (m:Nat) (c:CS):Prop where
 good:GoodL c.L
 few:c.L.length≤m
 calls:c.calls.length≤m
 inn:c.inn.length≤m
 props: ∀x∈c.inn,GoodP x.ai
 g0:0≤c.good
 g1:c.good≤m
theorem OkC.new:OkC 0 new11:=⟨⟨by decide,λx hx=>(by cases hx)⟩,by decide,by decide,by decide,λx hx=>(by cases hx),by decide,by decide⟩
theorem OkC.le {m k:Nat} {c:CS} (h:OkC m c) (hmk:m≤k):OkC k c:=⟨h.good,Nat.le_trans h.few hmk,Nat.le_trans h.calls hmk,Nat.le_trans h.inn hmk,h.props,h.g0,by have:=h.g1;omega⟩
theorem OkC.submit {m:Nat} {c:CS} (h:OkC m c) {x:TI0} (hp:GoodP x.ai):OkC (m+1) (submitC c x).2:=by
 unfold submitC
 split
 ·exact h.le (by omega)
 ·split
  ·exact h.le (by omega)
  ·refine⟨h.good,by have:=h.few;show c.L.length≤m+1;omega,by have:=h.calls;show(c.calls++[x]).length≤m+1;simp;omega,by have:=h.inn;show(c.inn++[x]).length≤m+1;simp;omega,λy hy=>?_,h.g0,by have:=h.g1;show c.good≤((m+1:Nat):Int);omega⟩
   rcases List.mem_append.1 hy with hy|hy
   ·exact h.props y hy
   ·rw[List.mem_singleton.1 hy];exact hp
theorem create_len {s:TC0} {kind:Bs} {props:List TE0}: (createS s kind props).1.fL.length≤s.fL.length+1:=by
 unfold createS
 split
 ·exact Nat.zero_le _
 ·split
  ·exact Nat.zero_le _
  ·split
   ·exact Nat.zero_le _
   ·split
    ·exact Nat.zero_le _
    ·simp
theorem update_len {s:TC0} {phys:Bs} {props:List TE0}: (updateS s phys props).1.fL.length≤s.fL.length:=by
 unfold updateS
 split
 ·exact Nat.zero_le _
 ·split
  ·exact Nat.zero_le _
  ·split
   ·exact Nat.zero_le _
   ·split
    ·exact Nat.zero_le _
    ·unfold updT;simp
theorem delete_len {s:TC0} {phys:Bs}: (deleteS s phys).1.fL.length≤s.fL.length:=by
 unfold deleteS
 split
 ·exact Nat.zero_le _
 ·split
  ·exact Nat.zero_le _
  ·exact List.length_filter_le _ _
theorem OkC.eff {m:Nat} {c:CS} (h:OkC m c) (hm:m<200) {x:TI0} (hp:GoodP x.ai):OkC (m+1) (effC c x).2:=by
 have hf:=h.few
 have hg:=h.g1
 have hg0:=h.g0
 have hi:=h.inn
 have hc:=h.calls
 have key: ∀ (s:TC0) (g:Int),GoodL s.fL→s.fL.length≤m+1→0≤g→g≤((m+1:Nat):Int)→OkC (m+1) ⟨s.fL,s.au,c.calls,c.ans,c.inn,g⟩:=λs g a b d e=>⟨a,b,Nat.le_trans hc (by omega),Nat.le_trans hi (by omega),h.props,d,e⟩
 unfold effC
 split
 ·split
  ·have:=create_len (s:=⟨c.L,c.made⟩) (kind:=x.am) (props:=x.ai)
   exact key _ _ (good_create (s:=⟨c.L,c.made⟩) h.good (by show c.L.length<200;omega) _ hp) (by have e: (⟨c.L,c.made⟩:TC0).fL=c.L:=rfl;rw[e] at this;omega) (by omega) (by omega)
  ·exact h.le (by omega)
 ·split
  ·split
   ·have:=update_len (s:=⟨c.L,c.made⟩) (phys:=x.af) (props:=x.ai)
    exact key _ _ (good_update (s:=⟨c.L,c.made⟩) h.good _ hp) (by have e: (⟨c.L,c.made⟩:TC0).fL=c.L:=rfl;rw[e] at this;omega) (by omega) (by omega)
   ·exact h.le (by omega)
  ·split
   ·split
    ·have:=delete_len (s:=⟨c.L,c.made⟩) (phys:=x.af)
     exact key _ _ (good_delete (s:=⟨c.L,c.made⟩) h.good _) (by have e: (⟨c.L,c.made⟩:TC0).fL=c.L:=rfl;rw[e] at this;omega) (by omega) (by omega)
    ·exact h.le (by omega)
   ·exact h.le (by omega)
theorem qJ {α:Type} {l:List α} {k:Nat} {x:α} (h:x∈l.take k++l.drop (k+1)):x∈l:=by
 rcases List.mem_append.1 h with h|h
 ·exact List.mem_of_mem_take h
 ·exact List.mem_of_mem_drop h
theorem OkC.cut {m:Nat} {c:CS} (h:OkC m c) (k:Nat):OkC m (cutC c k):=⟨h.good,h.few,h.calls,by have:=h.inn;show(c.inn.take k++c.inn.drop (k+1)).length≤m;simp;omega,λx hx=>h.props x (qJ hx),h.g0,h.g1⟩
theorem OkC.end_ {m:Nat} {c:CS} (h:OkC m c) (hm:m<200) (k:Int) (well:Bool):OkC (m+1) (endC c k well).2.2.2:=by
 unfold endC
 split
 ·rename_i hk
  have hb:OkC (m+1) (outC c k.toNat well).2:=by
   unfold outC
   cases well with
   |false=>exact(h.cut _).le (by omega)
   |true=>exact(h.cut _).eff hm (h.props _ (nE (by omega)))
  exact⟨hb.good,hb.few,hb.calls,hb.inn,hb.props,hb.g0,hb.g1⟩
 ·exact h.le (by omega)
theorem rY {n:Nat} (hn:6000<n) {L:List TG0} (hg:GoodL L):dt n L L=some true:=by
 have hl:=hg.few
 unfold dt
 rw[dT rfl,nT,cF]
 have l1:=cD (step:=cz n L L) (n:=n) (λk=>(k:Int)) L.length (.inr ()) (λk hk=>by
  unfold cz
  rw[dT (by omega),cT,bf dU hk,bnd,bnd,dT rfl,nT,cF,bnd,bnd,dT rfl,nT,cF,bnd,bnd,rU hn ((hg.each _ (by simp[List.getD,hk])).props),bnd,nT,cF,aU (by omega) (by omega)]
  rfl) (by
  unfold cz
  rw[dF (by omega),cF]) (by omega)
 have e0: ((0:Nat):Int)=0:=rfl
 simp only[e0] at l1
 rw[l1,bnd]
theorem great11 {n:Nat} (hn:6000<n) (x:TI0): ∃g,jH n x=some g∧(g=false→GoodP x.ai):=by
 unfold jH
 by_cases h1: (200:Int)<(x.af.length:Int)
 ·exact⟨true,by rw[dT h1,cT],λh=>by cases h⟩
 rw[dF h1,cF]
 by_cases h2: (200:Int)<(x.am.length:Int)
 ·exact⟨true,by rw[dT h2,cT],λh=>by cases h⟩
 rw[dF h2,cF]
 obtain⟨g,hg,hf⟩:=great9 hn x.ai
 exact⟨g,by rw[hg,bnd],λh=>⟨(hf h).1,λy hy=>((hf h).2 y hy).2⟩⟩
theorem greatL11 {n:Nat} (hn:6000<n) (l:List TB0): ∃g,jI n l=some g∧(g=false→l.length≤100∧∀x∈l,GoodP x.fX.ai):=by
 unfold jI
 by_cases hl: (100:Int)<((l.length:Nat):Int)
 ·exact⟨true,by rw[dT hl,cT],λh=>by cases h⟩
 rw[dF hl,cF]
 obtain⟨b,hb,hp⟩:=cj (step:=eH n l) (n:=n) (s0:=(0:Int)) (λk s=>s=(k:Int)∧∀x∈l.take k,GoodP x.fX.ai)
  (λb=>match b with|.inl _=>True|.inr _=>∀x∈l,GoodP x.fX.ai) l.length ⟨rfl,by simp⟩
  (λk s hk hI=>by
   obtain⟨rfl,hf⟩:=hI
   have hx:l[k]? =some l[k]:=List.getElem?_eq_getElem hk
   have hg:l.getD k z_TB0=l[k]:=by simp[List.getD,hk]
   unfold eH
   rw[dT (by omega),cT,bf z_TB0 hk,bnd,hg,evC]
   obtain⟨g,hgr,hgf⟩:=great11 hn l[k].fX
   rw[hgr,bnd]
   cases g with
   |true=>exact .inr ⟨_,rfl,trivial⟩
   |false=>
    rw[cF,aU (by omega) (by omega)]
    refine .inl ⟨_,rfl,rfl,λy hy=>?_⟩
    rcases(dm hx y).1 hy with h|h
    ·exact hf y h
    ·rw[h];exact hgf rfl)
  (λs hI=>by
   obtain⟨rfl,hf⟩:=hI
   rw[List.take_length] at hf
   unfold eH
   rw[dF (by omega),cF]
   exact⟨_,rfl,hf⟩) (by omega)
 rw[hb,bnd]
 cases b with
 |inl u=>exact⟨true,rfl,λh=>by cases h⟩
 |inr u=>exact⟨false,rfl,λ_=>⟨by omega,hp⟩⟩
def ba (l:List TI0):List Int:=l.map (·.ax)
theorem eff_keep (c:CS) (x:TI0): (effC c x).2.calls=c.calls∧(effC c x).2.ans=c.ans∧(effC c x).2.inn=c.inn∧(effC c x).1.aq=true:=by
 unfold effC bad11
 split
 ·split<;>exact⟨rfl,rfl,rfl,rfl⟩
 ·split
  ·split<;>exact⟨rfl,rfl,rfl,rfl⟩
  ·split
   ·split<;>exact⟨rfl,rfl,rfl,rfl⟩
   ·exact⟨rfl,rfl,rfl,rfl⟩
theorem submit_fresh {c:CS} {x:TI0} (h0:checkC x=0) (hf:aG c.ans x.ax=none):submitC c x=(0,⟨c.L,c.made,c.calls++[x],de c.ans x.ax aX,c.inn++[x],c.good⟩):=by
 unfold submitC
 rw[if_neg (λh=>h h0),hf,if_neg (by decide)]
section
variable {V:Type}
theorem jJ: ∀ {m:List (Int×V)} {k:Int},aG m k=none↔k∉m.map (·.1)
 |[],k=>by simp[aG]
 |p::r,k=>by
  unfold aG
  by_cases h:p.1=k
  ·simp[h]
  ·rw[if_neg h,jJ (m:=r)]
   simp only[List.map_cons,List.mem_cons,not_or]
   exact⟨λh2=>⟨λe=>h e.symm,h2⟩,λh2=>h2.2⟩
theorem mV: ∀ (m:List (Int×V)) (k:Int) (v:V),(de m k v).map (·.1)=if k∈m.map (·.1) then m.map (·.1) else m.map (·.1)++[k]
 |[],k,v=>by simp[de]
 |p::r,k,v=>by
  unfold de
  by_cases h:p.1=k
  ·simp[h]
  ·rw[if_neg h,List.map_cons,mV r k v]
   have hk: ¬k=p.1:=λe=>h e.symm
   by_cases hr:k∈r.map (·.1)
   ·rw[if_pos hr,if_pos (by simp only[List.map_cons,List.mem_cons];exact .inr hr)];rfl
   ·rw[if_neg hr,if_neg (by simp only[List.map_cons,List.mem_cons,not_or];exact⟨hk,hr⟩)];rfl
theorem mget_some11 {m:List (Int×V)} {k:Int} (h:k∈m.map (·.1)): ∃v,aG m k=some v:=by
 cases e:aG m k with
 |none=>exact absurd h (jJ.1 e)
 |some v=>exact⟨v,rfl⟩
end
theorem mem_cutN {l:List Int} (hn:l.Nodup) {k:Nat} (hk:k<l.length) (y:Int):y∈l.take k++l.drop (k+1)↔y∈l∧y≠l[k]:=by
 obtain⟨a,b,x,ha,hb,hx,e⟩: ∃a b x,l.take k=a∧l.drop (k+1)=b∧l[k]=x∧l=a++x::b:=⟨_,_,_,rfl,rfl,rfl,by rw[←List.drop_eq_getElem_cons hk,List.take_append_drop]⟩
 rw[ha,hb,hx]
 rw[e,List.nodup_append] at hn
 obtain⟨h1,h2,h3⟩:=hn
 have h2:=List.nodup_cons.1 h2
 rw[e]
 constructor
 ·intro h
  rcases List.mem_append.1 h with h|h
  ·exact⟨List.mem_append_left _ h,λe=>by subst e;exact h3 _ h _ List.mem_cons_self rfl⟩
  ·exact⟨List.mem_append_right _ (List.mem_cons_of_mem _ h),λe=>by subst e;exact h2.1 h⟩
 ·rintro⟨h,hne⟩
  rcases List.mem_append.1 h with h|h
  ·exact List.mem_append_left _ h
  ·rcases List.mem_cons.1 h with h|h
   ·exact absurd h hne
   ·exact List.mem_append_right _ h
theorem nodup_cutN {l:List Int} (hn:l.Nodup) {k:Nat}: (l.take k++l.drop (k+1)).Nodup:=by
 by_cases hk:k<l.length
 ·have e:l=l.take k++l[k]::l.drop (k+1):=by rw[←List.drop_eq_getElem_cons hk,List.take_append_drop]
  refine List.Pairwise.sublist ?_ hn
  conv=>rhs;rw[e]
  exact List.Sublist.append (List.Sublist.refl _) (List.sublist_cons_self _ _)
 ·rw[List.take_of_length_le (by omega),List.drop_eq_nil_of_le (by omega),List.append_nil];exact hn
theorem rZ {l:List TI0} {k:Nat}:ba (l.take k++l.drop (k+1))=(ba l).take k++(ba l).drop (k+1):=by
 unfold ba;rw[List.map_append,List.map_take,List.map_drop]
theorem ox {l m:List TI0}:ba (l++m)=ba l++ba m:=by unfold ba;exact List.map_append
theorem tok_mem {l:List TI0} {x:TI0} (h:x∈l):x.ax∈ba l:=List.mem_map_of_mem (f:=λ (y:TI0)=>y.ax) h
theorem sa {l:List Int} {x:Int} (h:l.Nodup) (hx:x∉l): (l++[x]).Nodup:=by
 rw[List.nodup_append]
 exact⟨h,by simp,λa ha b hb e=>by rw[List.mem_singleton.1 hb] at e;subst e;exact hx ha⟩
structure Bk (c:CS):Prop where
 keys:c.ans.map (·.1)=ba c.calls
 nd: (ba c.calls).Nodup
 sub: ∀x∈c.inn,x∈c.calls
 ind: (ba c.inn).Nodup
 zero: ∀t∈ba c.inn,aG c.ans t=some aX
 done: ∀t∈ba c.calls,t∉ba c.inn→∃a,aG c.ans t=some a∧a.aq=true
theorem Bk.new:Bk new11:=⟨rfl,by simp[ba,new11],λx hx=>(by cases hx),by simp[ba,new11],λt ht=>(by cases ht),λt ht=>(by cases ht)⟩
theorem Bk.inn_calls {c:CS} (h:Bk c) {t:Int} (ht:t∈ba c.inn):t∈ba c.calls:=by
 obtain⟨x,hx,rfl⟩:=List.mem_map.1 ht
 exact tok_mem (h.sub x hx)
theorem Bk.fresh {c:CS} (h:Bk c) {t:Int} (hm: ¬ (aG c.ans t).isSome=true):t∉ba c.calls:=by
 rw[←h.keys]
 refine jJ.1 ?_
 cases e:aG c.ans t with
 |none=>rfl
 |some v=>rw[e] at hm;exact absurd rfl hm
theorem Bk.submit {c:CS} (h:Bk c) (x:TI0):Bk (submitC c x).2:=by
 unfold submitC
 split
 ·exact h
 ·split
  ·exact h
  ·rename_i hm
   have hk:=h.fresh hm
   have hk2:x.ax∉ba c.inn:=λh2=>hk (h.inn_calls h2)
   have e1:ba (c.calls++[x])=ba c.calls++[x.ax]:=ox
   have e2:ba (c.inn++[x])=ba c.inn++[x.ax]:=ox
   refine⟨?_,?_,λy hy=>?_,?_,λt ht=>?_,λt ht hn=>?_⟩
   ·show(de c.ans x.ax aX).map (·.1)=ba (c.calls++[x])
    rw[mV,h.keys,if_neg hk,e1]
   ·show(ba (c.calls++[x])).Nodup
    rw[e1];exact sa h.nd hk
   ·rcases List.mem_append.1 hy with hy|hy
    ·exact List.mem_append_left _ (h.sub y hy)
    ·exact List.mem_append_right _ hy
   ·show(ba (c.inn++[x])).Nodup
    rw[e2];exact sa h.ind hk2
   ·have ht:t∈ba (c.inn++[x]):=ht
    rw[e2] at ht
    show aG (de c.ans x.ax aX) t=_
    rw[jg]
    by_cases e:x.ax=t
    ·rw[if_pos e]
    ·rw[if_neg e]
     rcases List.mem_append.1 ht with ht|ht
     ·exact h.zero t ht
     ·exact absurd (List.mem_singleton.1 ht).symm e
   ·have ht:t∈ba (c.calls++[x]):=ht
    have hn:t∉ba (c.inn++[x]):=hn
    rw[e1] at ht
    rw[e2] at hn
    have e: ¬x.ax=t:=λe=>hn (List.mem_append_right _ (by rw[e];simp))
    show ∃a,aG (de c.ans x.ax aX) t=some a∧_
    rw[jg,if_neg e]
    rcases List.mem_append.1 ht with ht|ht
    ·exact h.done t ht (λh2=>hn (List.mem_append_left _ h2))
    ·exact absurd (List.mem_singleton.1 ht).symm e
theorem sb (c:CS) (k:Nat) (well:Bool): (outC c k well).2.calls=c.calls∧(outC c k well).2.ans=c.ans∧(outC c k well).2.inn=c.inn.take k++c.inn.drop (k+1)∧(outC c k well).1.aq=true:=by
 unfold outC
 cases well with
 |false=>exact⟨rfl,rfl,rfl,rfl⟩
 |true=>exact eff_keep (cutC c k) _
theorem Bk.end_ {c:CS} (h:Bk c) (k:Int) (well:Bool):Bk (endC c k well).2.2.2:=by
 unfold endC
 split
 ·rename_i hk
  obtain⟨m,rfl⟩:=Int.eq_ofNat_of_zero_le hk.1
  have hm:m<c.inn.length:=by omega
  have em: (m:Int).toNat=m:=by omega
  rw[em]
  obtain⟨k1,k2,k3,k4⟩:=sb c m well
  have hx:c.inn.getD m ee=c.inn[m]:=by simp[List.getD,hm]
  have htl:m<(ba c.inn).length:=by unfold ba;simpa using hm
  have htx: (ba c.inn)[m]=(c.inn[m]).ax:=List.getElem_map _
  have hcut: ∀t,t∈ba (c.inn.take m++c.inn.drop (m+1))↔t∈ba c.inn∧t≠ (c.inn[m]).ax:=λt=>by
   rw[rZ,mem_cutN h.ind htl,htx]
  have hin: (c.inn[m]).ax∈ba c.calls:=tok_mem (h.sub _ (List.getElem_mem hm))
  rw[hx]
  refine⟨?_,?_,λy hy=>?_,?_,λt ht=>?_,λt ht hn=>?_⟩
  ·show(de (outC c m well).2.ans _ _).map (·.1)=ba (outC c m well).2.calls
   rw[k1,k2,mV,h.keys,if_pos hin]
  ·show(ba (outC c m well).2.calls).Nodup;rw[k1];exact h.nd
  ·have hy:y∈ (outC c m well).2.inn:=hy
   show y∈ (outC c m well).2.calls
   rw[k3] at hy;rw[k1]
   exact h.sub y (qJ hy)
  ·show(ba (outC c m well).2.inn).Nodup;rw[k3,rZ];exact nodup_cutN h.ind
  ·have ht:t∈ba (outC c m well).2.inn:=ht
   rw[k3,hcut] at ht
   show aG (de (outC c m well).2.ans _ _) t=_
   rw[k2,jg,if_neg (λe=>ht.2 e.symm)]
   exact h.zero t ht.1
  ·have ht:t∈ba (outC c m well).2.calls:=ht
   have hn:t∉ba (outC c m well).2.inn:=hn
   rw[k1] at ht
   rw[k3,hcut] at hn
   show ∃a,aG (de (outC c m well).2.ans _ _) t=some a∧_
   rw[k2,jg]
   by_cases e: (c.inn[m]).ax=t
   ·rw[if_pos e];exact⟨_,rfl,k4⟩
   ·rw[if_neg e]
    exact h.done t ht (λh2=>hn ⟨h2,λe2=>e e2.symm⟩)
 ·exact h
end Go.Proofs.YtkhdpnamfndonaaGreatDoor
