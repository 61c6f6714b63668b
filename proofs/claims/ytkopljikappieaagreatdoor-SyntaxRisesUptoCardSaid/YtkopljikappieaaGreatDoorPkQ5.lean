/-
  Printed by a program: of each function its shallow reading, and the proof that the function gives what the reading gives. No condition.
-/
import Derived.Test.YtkopljikappieaaGreatDoorPkQ4
set_option linter.unusedVariables false
set_option linter.unusedSimpArgs false
set_option maxHeartbeats 2000000
namespace Go.Proofs.YtkopljikappieaaGreatDoor
open Go Go.Vc Go.RowKit
def aR (n:Nat) (d0:Bs) (d1:TD0) (d2:Bs):Option (TD0×Bs×Bool):=
 (jx n d1 d0).bind λX1=>
 (aM n d2 d0).bind λX2=>
 some ((X1.1,X2,(X1.2)))
theorem aV (n:Nat) (M:Mem) (hG:GL M) (d0:Bs) (ad1:Addr) (c1:Lv) (d1:TD0) (h1:Rep M (ap d1) c1) (q1: ∀j v,c1[j]? =some v→M.cell? (ad1.add j)=some v) (ad2:Addr) (c2:Lv) (d2:Bs) (h2:Rep M (Dat.str d2) c2) (q2: ∀j v,c2[j]? =some v→M.cell? (ad2.add j)=some v) (r:TD0×Bs×Bool) (hF:aR n d0 d1 d2=some r):Ok Tryz.prog M 93 [S d0,Pa ad1,Pa ad2] (λM' v=>∃ (c0:Lv),v=.tuple #[.agg c0.toArray,S r.2.1,bO r.2.2]∧Rep M' (ap r.1) c0):=by
 unfold aR at hF
 intro M1 hM0 w0 H w p0
 replace hG:=GL.mono hM0 hG
 replace h1:=Rep.mono hM0 _ _ h1
 replace q1:=λj v h=>hM0.cell (q1 j v h)
 replace h2:=Rep.mono hM0 _ _ h2
 replace q2:=λj v h=>hM0.cell (q2 j v h)
 obtain⟨Z1,P1,Z2,P2,rfl,B1,B2⟩:=TD0.opn h1
 obtain rfl:c2=[S d2]:=h2
 refine Re 20 Tryz.func93 rfl λa0 f0=>RR (Y12 f0 p0 (.cells #[iB 0,bO false,iL 0,S [],Sn,Sn] 26 (0,0)) λQ1 W1 N1 _ f=>Ye f 2 λ_ f=>RR (Z f (Y31 (cs:=(lTD0 d1 Z1 P1 Z2 P2)) rfl (ad:=ad1) (λj v h=>N1.cell (q1 j v h))) λ_ f=>Y f 1 λ_ f=>?_))
 obtain⟨X1,l1,F1⟩:=bS hF
 refine Y16 f N1 (mH n _ hG _ d1 (TD0.shutx (x:=d1) B1 B2) d0 X1 l1) λ_ V1 W2 J1 N2 eM _ f=>?_
 obtain⟨eF,rfl,D1⟩:=eM
 obtain⟨Z3,P3,Z4,P4,rfl,B3,B4⟩:=TD0.opn D1
 refine Y f 3 λ_ f=>Y12 f N2 (.cells #[iB 0,bO false,iL 0,S [],Sn,Sn] 26 (0,0)) λQ2 W3 N3 _ f=>Ys (lTD0 X1.1 Z3 P3 Z4 P4) (aTD0 X1.1 Z3 P3 Z4 P4) f N3 rfl rfl λW4 N4 _ f=>Ye f 1 λ_ f=>aq ?_
 have N5:=N4.pl [1]
 refine ei (E:=[oC Q1 #[iB 0,bO false,iL 0,S [],Sn,Sn] 26]) (Hr:=((Ent.obj Q2 (.cells (aTD0 X1.1 Z3 P3 Z4 P4) 26 (0,0)))::H)) [(0,true),(1,true),(2,true),(3,true),(4,true),(5,false),(6,true),(7,true)] N5 kr kr rfl kr (cg (v:=.agg (aTD0 X1.1 Z3 P3 Z4 P4)) f kr kr rfl rfl (λ_ pq=>Y31 (cs:=(lTD0 X1.1 Z3 P3 Z4 P4)) rfl (ad:=⟨Q2,0,none⟩) (an (pq.ownCell 0 rfl) 0 rfl)) λ_ f=>cg (v:=S d2) f kr kr rfl rfl (λ_ pq=>Y30 (v:=S d2) rfl (ad:=ad2) (pq.cell ((fzu J1 q2) 0 _ rfl))) λ_ f=>Y0 default f 1 λ_ f=>?_)
 obtain⟨X2,l2,F2⟩:=bS F1
 refine eE (v:=S X2) f kr kr rfl rfl (λ_=>by kernel_rfl) (aK n _ (GL.mono J1 hG) d2 d0 X2 l2) λ_ f=>Y0 default f 1 λ_ f=>cd (E:=[oC Q1 #[iB 0,bO false,iL 0,S [],Sn,Sn] 26]) λW6 N7=>Ys (lTD0 X1.1 Z3 P3 Z4 P4) (aTD0 X1.1 Z3 P3 Z4 P4) f N7 rfl rfl λW7 N8 _ f=>am rfl (dC (M1:=V1) (E:=[Ent.obj Q1 (.cells (aTD0 X1.1 Z3 P3 Z4 P4) 26 (0,0))]) (mR _) N8 (Y0 default f 2 λ_ f=>eh rfl λW8 N9=>aS (wp_ret (nZ f rfl (Y10 (cs:=(lTD0 X1.1 Z3 P3 Z4 P4)) (ad:=⟨Q1,0,none⟩) f (an (N9.ownCell 0 rfl) 0 rfl)) (Y11 (v:=S X2) f) (Y11 (v:=bO X1.2) f) ?_))))
 cases sI F2
 exact⟨_,rfl,V1,J1,(N9.dropN 2),⟨[iB X1.1.ab,bO X1.1.ah,iL X1.1.ai,S X1.1.aa,sL Z3 X1.1.ac P3,sL Z4 X1.1.af P4],rfl,(TD0.shutx (x:=X1.1) B3 B4)⟩⟩
def gd (n:Nat) (d0:TD0) (al:Bs) (eB:Bool) (jQ:Bool) (jR:Int) (jS:Bool) (jT:Int) (jU:Bs) (jf:List TD0) (jg:List Bs) (iC:List TD0):Option (Bool×Bs×Bool×Bool×Int×Bool×Int×Bs×List TD0×List Bs×List TD0):=
 bif eB then
  (bif(decide (d0.ab=2)) then
   (some (((true),al,(eB),(jQ),jR,(jS),jT,jU,jf,jg,iC)))
  else
   bif !eB then
    ((dr n d0).bind λX1=>
    some (((X1),al,(eB),(jQ),jR,(jS),jT,jU,jf,jg,iC)))
   else
    some (((false),al,(eB),(jQ),jR,(jS),jT,jU,jf,jg,iC)))
 else
  bif !eB then
   ((dr n d0).bind λX2=>
   some (((X2),al,(eB),(jQ),jR,(jS),jT,jU,jf,jg,iC)))
  else
   some (((false),al,(eB),(jQ),jR,(jS),jT,jU,jf,jg,iC))
theorem lK (n:Nat) (M:Mem) (hG:GL M) (c0:Lv) (d0:TD0) (h0:Rep M (ap d0) c0) (b1:Nat) (al:Bs) (eB:Bool) (jQ:Bool) (jR:Int) (jS:Bool) (jT:Int) (jU:Bs) (jf:List TD0) (Z1:Oa) (P1:Nat) (L1:Lv) (D1:ag M (jf.map ap) L1) (jg:List Bs) (Z2:Oa) (P2:Nat) (L2:Lv) (D2:ag M (jg.map Dat.str) L2) (iC:List TD0) (Z3:Oa) (P3:Nat) (L3:Lv) (D3:ag M (iC.map ap) L3) (r:Bool×Bs×Bool×Bool×Int×Bool×Int×Bs×List TD0×List Bs×List TD0) (hF:gd n d0 al eB jQ jR jS jT jU jf jg iC=some r):OkH Tryz.prog M [oC b1 #[S al,bO eB,bO jQ,iB jR,bO jS,iL jT,S jU,sL Z1 jf P1,sL Z2 jg P2,sL Z3 iC P3] 58,rO 26 6 Z1 jf P1 L1,rO 9 1 Z2 jg P2 L2,rO 26 6 Z3 iC P3 L3] 97 [.agg c0.toArray,pP b1] (λM' E' v=>∃ (Z6:Oa) (P6:Nat) (L4:Lv) (Z7:Oa) (P7:Nat) (L5:Lv) (Z8:Oa) (P8:Nat) (L6:Lv),v=bO r.1∧E'=[oC b1 #[S r.2.1,bO r.2.2.1,bO r.t3.1,iB r.t4.1,bO r.t5.1,iL r.t6.1,S r.t7.1,sL Z6 r.t8.1 P6,sL Z7 r.t9.1 P7,sL Z8 r.t10 P8] 58,rO 26 6 Z6 r.t8.1 P6 L4,rO 9 1 Z7 r.t9.1 P7 L5,rO 26 6 Z8 r.t10 P8 L6]∧ag M' (r.t8.1.map ap) L4∧ag M' (r.t9.1.map Dat.str) L5∧ag M' (r.t10.map ap) L6):=by
 unfold gd at hF
 intro M1 hM0 w0 H w p0
 replace hG:=GL.mono hM0 hG
 replace h0:=Rep.mono hM0 _ _ h0
 replace D1:=ag.mono hM0 _ _ D1
 replace D2:=ag.mono hM0 _ _ D2
 replace D3:=ag.mono hM0 _ _ D3
 obtain⟨Z4,P4,Z5,P5,rfl,B1,B2⟩:=TD0.opn h0
 refine Re 20 Tryz.func97 rfl λa0 f0=>RR (Y13 (cs:=(aTD0 d0 Z4 P4 Z5 P5)) (T:=26) f0 p0 λQ1 V1 W1 J1 R1 N1 _ f=>?_)
 have R2:=bR R1
 refine Ye f 1 λ_ f=>RR (Y f 1 λ_ f=>Z f (Y30 (v:=bO eB) rfl (ad:=⟨b1,1,none⟩) (N1.ownCell 0 rfl 1)) λ_ f=>Y f 1 λ_ f=>?_)
 rcases cE hF with⟨B3,F1⟩|⟨B3,F7⟩
 ·have f:=f.st 6 (cB B3)
  refine Y f 1 λ_ f=>Y15 f N1 R2 0 rfl λ_ f=>Y f 3 λ_ f=>?_
  rcases cE F1 with⟨B4,F2⟩|⟨B4,F3⟩
  ·have U2:=dI.1 B4
   have f:=f.st 11 (cB B4)
   refine Ye f 9 λ_ f=>wp_ret (aJ f rfl (Lk 3 (bO true)) ?_)
   cases sI F2
   exact⟨_,rfl,V1,_,J1,N1,⟨Z1,P1,L1,Z2,P2,L2,Z3,P3,L3,rfl,rfl,(ag.mono J1 _ _ D1),(ag.mono J1 _ _ D2),(ag.mono J1 _ _ D3)⟩⟩
  ·have U3:=aA dI B4
   have f:=f.st 11 (cB B4)
   refine Y f 1 λ_ f=>Z f (Y30 (v:=bO eB) rfl (ad:=⟨b1,1,none⟩) (N1.ownCell 0 rfl 1)) λ_ f=>Y f 2 λ_ f=>?_
   rcases cE F3 with⟨B5,F4⟩|⟨B5,F6⟩
   ·have U4: (eB)=false:=by simpa using B5
    have f:=f.st 15 (cB B5)
    refine Z f (Y31 (cs:=(lTD0 d0 Z4 P4 Z5 P5)) rfl (ad:=⟨Q1,0,none⟩) (λj v h=>N1.cell (R2 j v h))) λ_ f=>?_
    obtain⟨X1,l1,F5⟩:=bS F4
    refine Y18 f N1 (ec n _ (GL.mono J1 hG) _ d0 (TD0.shutx (x:=d0) (B1.mono J1) (B2.mono J1)) X1 l1) λW2 N2 _ f=>Ye f 3 λ_ f=>wp_ret (aJ f rfl (Lk 3 (bO X1)) ?_)
    cases sI F5
    exact⟨_,rfl,V1,_,J1,N2,⟨Z1,P1,L1,Z2,P2,L2,Z3,P3,L3,rfl,rfl,(ag.mono J1 _ _ D1),(ag.mono J1 _ _ D2),(ag.mono J1 _ _ D3)⟩⟩
   ·have U5: (eB)=true:=by simpa using B5
    have f:=f.st 15 (cB B5)
    refine Ye f 5 λ_ f=>wp_ret (aJ f rfl (Lk 3 (bO false)) ?_)
    cases sI F6
    exact⟨_,rfl,V1,_,J1,N1,⟨Z1,P1,L1,Z2,P2,L2,Z3,P3,L3,rfl,rfl,(ag.mono J1 _ _ D1),(ag.mono J1 _ _ D2),(ag.mono J1 _ _ D3)⟩⟩
 ·have f:=f.st 6 (cB B3)
  refine Y f 6 λ_ f=>Z f (Y30 (v:=bO eB) rfl (ad:=⟨b1,1,none⟩) (N1.ownCell 0 rfl 1)) λ_ f=>Y f 2 λ_ f=>?_
  rcases cE F7 with⟨B6,F8⟩|⟨B6,F10⟩
  ·have U7: (eB)=false:=by simpa using B6
   have f:=f.st 15 (cB B6)
   refine Z f (Y31 (cs:=(lTD0 d0 Z4 P4 Z5 P5)) rfl (ad:=⟨Q1,0,none⟩) (λj v h=>N1.cell (R2 j v h))) λ_ f=>?_
   obtain⟨X2,l2,F9⟩:=bS F8
   refine Y18 f N1 (ec n _ (GL.mono J1 hG) _ d0 (TD0.shutx (x:=d0) (B1.mono J1) (B2.mono J1)) X2 l2) λW3 N3 _ f=>Ye f 3 λ_ f=>wp_ret (aJ f rfl (Lk 3 (bO X2)) ?_)
   cases sI F9
   exact⟨_,rfl,V1,_,J1,N3,⟨Z1,P1,L1,Z2,P2,L2,Z3,P3,L3,rfl,rfl,(ag.mono J1 _ _ D1),(ag.mono J1 _ _ D2),(ag.mono J1 _ _ D3)⟩⟩
  ·have U8: (eB)=true:=by simpa using B6
   have f:=f.st 15 (cB B6)
   refine Ye f 5 λ_ f=>wp_ret (aJ f rfl (Lk 3 (bO false)) ?_)
   cases sI F10
   exact⟨_,rfl,V1,_,J1,N1,⟨Z1,P1,L1,Z2,P2,L2,Z3,P3,L3,rfl,rfl,(ag.mono J1 _ _ D1),(ag.mono J1 _ _ D2),(ag.mono J1 _ _ D3)⟩⟩
def eb (n:Nat) (d0:TD0) (al:Bs) (eB:Bool) (jQ:Bool) (jR:Int) (jS:Bool) (jT:Int) (jU:Bs) (jf:List TD0) (jg:List Bs) (iC:List TD0):Option (Bool×Bs×Bool×Bool×Int×Bool×Int×Bs×List TD0×List Bs×List TD0):=
 bif eB then
  (bif(decide (d0.ab=2)) then
   (some (((true),al,(eB),(jQ),jR,(jS),jT,jU,jf,jg,iC)))
  else
   bif !eB then
    ((dr n d0).bind λX1=>
    some (((X1),al,(eB),(jQ),jR,(jS),jT,jU,jf,jg,iC)))
   else
    some (((false),al,(eB),(jQ),jR,(jS),jT,jU,jf,jg,iC)))
 else
  bif !eB then
   ((dr n d0).bind λX2=>
   some (((X2),al,(eB),(jQ),jR,(jS),jT,jU,jf,jg,iC)))
  else
   some (((false),al,(eB),(jQ),jR,(jS),jT,jU,jf,jg,iC))
theorem kO (n:Nat) (M:Mem) (hG:GL M) (c0:Lv) (d0:TD0) (h0:Rep M (ap d0) c0) (b1:Nat) (al:Bs) (eB:Bool) (jQ:Bool) (jR:Int) (jS:Bool) (jT:Int) (jU:Bs) (jf:List TD0) (Z1:Oa) (P1:Nat) (B1:Sli M 6 ap Z1 P1 jf) (jg:List Bs) (Z2:Oa) (P2:Nat) (B2:Sli M 1 Dat.str Z2 P2 jg) (iC:List TD0) (Z3:Oa) (P3:Nat) (L1:Lv) (D1:ag M (iC.map ap) L1) (r:Bool×Bs×Bool×Bool×Int×Bool×Int×Bs×List TD0×List Bs×List TD0) (hF:eb n d0 al eB jQ jR jS jT jU jf jg iC=some r):OkH Tryz.prog M [oC b1 #[S al,bO eB,bO jQ,iB jR,bO jS,iL jT,S jU,sL Z1 jf P1,sL Z2 jg P2,sL Z3 iC P3] 58,rO 26 6 Z3 iC P3 L1] 97 [.agg c0.toArray,pP b1] (λM' E' v=>∃ (Z6:Oa) (P6:Nat) (Z7:Oa) (P7:Nat) (Z8:Oa) (P8:Nat) (L2:Lv),v=bO r.1∧E'=[oC b1 #[S r.2.1,bO r.2.2.1,bO r.t3.1,iB r.t4.1,bO r.t5.1,iL r.t6.1,S r.t7.1,sL Z6 r.t8.1 P6,sL Z7 r.t9.1 P7,sL Z8 r.t10 P8] 58,rO 26 6 Z8 r.t10 P8 L2]∧Sli M' 6 ap Z6 P6 r.t8.1∧Sli M' 1 Dat.str Z7 P7 r.t9.1∧ag M' (r.t10.map ap) L2):=by
 unfold eb at hF
 intro M1 hM0 w0 H w p0
 replace hG:=GL.mono hM0 hG
 replace h0:=Rep.mono hM0 _ _ h0
 replace B1:=B1.mono hM0
 replace B2:=B2.mono hM0
 replace D1:=ag.mono hM0 _ _ D1
 obtain⟨Z4,P4,Z5,P5,rfl,B3,B4⟩:=TD0.opn h0
 refine Re 20 Tryz.func97 rfl λa0 f0=>RR (Y13 (cs:=(aTD0 d0 Z4 P4 Z5 P5)) (T:=26) f0 p0 λQ1 V1 W1 J1 R1 N1 _ f=>?_)
 have R2:=bR R1
 refine Ye f 1 λ_ f=>RR (Y f 1 λ_ f=>Z f (Y30 (v:=bO eB) rfl (ad:=⟨b1,1,none⟩) (N1.ownCell 0 rfl 1)) λ_ f=>Y f 1 λ_ f=>?_)
 rcases cE hF with⟨B5,F1⟩|⟨B5,F7⟩
 ·have f:=f.st 6 (cB B5)
  refine Y f 1 λ_ f=>Y15 f N1 R2 0 rfl λ_ f=>Y f 3 λ_ f=>?_
  rcases cE F1 with⟨B6,F2⟩|⟨B6,F3⟩
  ·have U2:=dI.1 B6
   have f:=f.st 11 (cB B6)
   refine Ye f 9 λ_ f=>wp_ret (aJ f rfl (Lk 3 (bO true)) ?_)
   cases sI F2
   exact⟨_,rfl,V1,_,J1,N1,⟨Z1,P1,Z2,P2,Z3,P3,L1,rfl,rfl,(B1.mono J1),(B2.mono J1),(ag.mono J1 _ _ D1)⟩⟩
  ·have U3:=aA dI B6
   have f:=f.st 11 (cB B6)
   refine Y f 1 λ_ f=>Z f (Y30 (v:=bO eB) rfl (ad:=⟨b1,1,none⟩) (N1.ownCell 0 rfl 1)) λ_ f=>Y f 2 λ_ f=>?_
   rcases cE F3 with⟨B7,F4⟩|⟨B7,F6⟩
   ·have U4: (eB)=false:=by simpa using B7
    have f:=f.st 15 (cB B7)
    refine Z f (Y31 (cs:=(lTD0 d0 Z4 P4 Z5 P5)) rfl (ad:=⟨Q1,0,none⟩) (λj v h=>N1.cell (R2 j v h))) λ_ f=>?_
    obtain⟨X1,l1,F5⟩:=bS F4
    refine Y18 f N1 (ec n _ (GL.mono J1 hG) _ d0 (TD0.shutx (x:=d0) (B3.mono J1) (B4.mono J1)) X1 l1) λW2 N2 _ f=>Ye f 3 λ_ f=>wp_ret (aJ f rfl (Lk 3 (bO X1)) ?_)
    cases sI F5
    exact⟨_,rfl,V1,_,J1,N2,⟨Z1,P1,Z2,P2,Z3,P3,L1,rfl,rfl,(B1.mono J1),(B2.mono J1),(ag.mono J1 _ _ D1)⟩⟩
   ·have U5: (eB)=true:=by simpa using B7
    have f:=f.st 15 (cB B7)
    refine Ye f 5 λ_ f=>wp_ret (aJ f rfl (Lk 3 (bO false)) ?_)
    cases sI F6
    exact⟨_,rfl,V1,_,J1,N1,⟨Z1,P1,Z2,P2,Z3,P3,L1,rfl,rfl,(B1.mono J1),(B2.mono J1),(ag.mono J1 _ _ D1)⟩⟩
 ·have f:=f.st 6 (cB B5)
  refine Y f 6 λ_ f=>Z f (Y30 (v:=bO eB) rfl (ad:=⟨b1,1,none⟩) (N1.ownCell 0 rfl 1)) λ_ f=>Y f 2 λ_ f=>?_
  rcases cE F7 with⟨B8,F8⟩|⟨B8,F10⟩
  ·have U7: (eB)=false:=by simpa using B8
   have f:=f.st 15 (cB B8)
   refine Z f (Y31 (cs:=(lTD0 d0 Z4 P4 Z5 P5)) rfl (ad:=⟨Q1,0,none⟩) (λj v h=>N1.cell (R2 j v h))) λ_ f=>?_
   obtain⟨X2,l2,F9⟩:=bS F8
   refine Y18 f N1 (ec n _ (GL.mono J1 hG) _ d0 (TD0.shutx (x:=d0) (B3.mono J1) (B4.mono J1)) X2 l2) λW3 N3 _ f=>Ye f 3 λ_ f=>wp_ret (aJ f rfl (Lk 3 (bO X2)) ?_)
   cases sI F9
   exact⟨_,rfl,V1,_,J1,N3,⟨Z1,P1,Z2,P2,Z3,P3,L1,rfl,rfl,(B1.mono J1),(B2.mono J1),(ag.mono J1 _ _ D1)⟩⟩
  ·have U8: (eB)=true:=by simpa using B8
   have f:=f.st 15 (cB B8)
   refine Ye f 5 λ_ f=>wp_ret (aJ f rfl (Lk 3 (bO false)) ?_)
   cases sI F10
   exact⟨_,rfl,V1,_,J1,N1,⟨Z1,P1,Z2,P2,Z3,P3,L1,rfl,rfl,(B1.mono J1),(B2.mono J1),(ag.mono J1 _ _ D1)⟩⟩
def eu (n:Nat) (X7:TD0×Bs×Bool) (K1:Int×Bs×Bool×Bool×Int×Bool×Int×Bs×List TD0×List Bs×List TD0):Option (Lp (Int×Bs×Bool×Bool×Int×Bool×Int×Bs×List TD0×List Bs×List TD0) (Sum (Int×Bs) (Bs×Bool×Bool×Int×Bool×Int×Bs×List TD0×List Bs×List TD0))):=
    bif(decide (K1.1<((X7.1.ac.length:Nat):Int))) then
     ((aU X7.1.ac K1.1).bind λX8=>
     (eb n X8 K1.2.1 (K1.2.2.1) (K1.2.2.2.1) K1.2.2.2.2.1 (K1.2.2.2.2.2.1) K1.2.2.2.2.2.2.1 K1.2.2.2.2.2.2.2.1 K1.2.2.2.2.2.2.2.2.1 K1.2.2.2.2.2.2.2.2.2.1 K1.2.2.2.2.2.2.2.2.2.2).bind λX9=>
     (cM n X7.2.1 K1.1).bind λX10=>
     bif X9.1 then
      (bb (inR .i64 (K1.1+1))<|
      some (.nx (K1.1+1,X9.2.1,(X9.2.2.1),(X9.2.2.2.1),X9.2.2.2.2.1,(X9.2.2.2.2.2.1),X9.2.2.2.2.2.2.1,X9.2.2.2.2.2.2.2.1,X9.2.2.2.2.2.2.2.2.1,X9.2.2.2.2.2.2.2.2.2.1,X9.2.2.2.2.2.2.2.2.2.2)))
     else
      some (.br (.inl ((120:Int),X10))))
    else
     some (.br (.inr (K1.2.1,(K1.2.2.1),(K1.2.2.2.1),K1.2.2.2.2.1,(K1.2.2.2.2.2.1),K1.2.2.2.2.2.2.1,K1.2.2.2.2.2.2.2.1,K1.2.2.2.2.2.2.2.2.1,K1.2.2.2.2.2.2.2.2.2.1,K1.2.2.2.2.2.2.2.2.2.2)))
def gN (n:Nat) (d0:Bs) (d1:TD0) (d2:Bs):Option (Sum (Int×Bs) TE0):=
 (cr n d1 d2 ([[84,121,112,101],[68,101,102,97,117,108,116],[65,108,108,111,119,101,100,86,97,108,117,101,115]]:List Bs)).bind λX1=>
 (match X1 with
 |.inl X2=>some (.inl X2)
 |.inr X3=>(aR n [84,121,112,101] X3.1 X3.2).bind λX4=>
  bif X4.2.2 then
   (((bif(decide (X4.1.ab=3)) then
    (bif(decide (X4.1.aa=[83,116,114,105,110,103])) then
     (some (.nx ()))
    else
     bif(decide (X4.1.aa=[78,117,109,98,101,114])) then
      (some (.nx ()))
     else
      ((some (.inl ((120:Int),X4.2.1)):Option (Sum (Int×Bs) TE0))).map Lp.br)
     else
      ((some (.inl ((120:Int),X4.2.1)):Option (Sum (Int×Bs) TE0))).map Lp.br:Option (Lp Unit (Sum (Int×Bs) TE0)))).bind λj=>joinF j λG1=>
   (aR n [68,101,102,97,117,108,116] X3.1 X3.2).bind λX5=>
   ((bif X5.2.2 then
    ((gd n X5.1 d0 (decide (X4.1.aa=[78,117,109,98,101,114])) (false) (0:Int) (false) (0:Int) ([]:Bs) ([]:List TD0) ([]:List Bs) ([]:List TD0)).bind λX6=>
    bif X6.1 then
     (some (.nx (X6.2.1,(X6.2.2.1),(true),X5.1.ab,(X5.1.ah),X5.1.ai,X5.1.aa,X5.1.ac,X5.1.af,X6.2.2.2.2.2.2.2.2.2.2)))
    else
     ((some (.inl ((120:Int),X5.2.1)):Option (Sum (Int×Bs) TE0))).map Lp.br)
     else
      some (.nx (d0,(decide (X4.1.aa=[78,117,109,98,101,114])),(false),(0:Int),(false),(0:Int),([]:Bs),([]:List TD0),([]:List Bs),([]:List TD0))):Option (Lp (Bs×Bool×Bool×Int×Bool×Int×Bs×List TD0×List Bs×List TD0) (Sum (Int×Bs) TE0)))).bind λj=>joinF j λG2=>
   (aR n [65,108,108,111,119,101,100,86,97,108,117,101,115] X3.1 X3.2).bind λX7=>
   bif X7.2.2 then
    (((bif(decide (X7.1.ab=4)) then
     (bif(decide ((0:Int)<((X7.1.ac.length:Nat):Int))) then
      (some (.nx ()))
     else
      ((some (.inl ((120:Int),X7.2.1)):Option (Sum (Int×Bs) TE0))).map Lp.br)
      else
       ((some (.inl ((120:Int),X7.2.1)):Option (Sum (Int×Bs) TE0))).map Lp.br:Option (Lp Unit (Sum (Int×Bs) TE0)))).bind λj=>joinF j λG3=>
    bif(decide (((X7.1.ac.length:Nat):Int)≤8)) then
     ((aL (eu n X7) n ((0:Int),G2.1,(G2.2.1),(G2.2.2.1),G2.2.2.2.1,(G2.2.2.2.2.1),G2.2.2.2.2.2.1,G2.2.2.2.2.2.2.1,G2.2.2.2.2.2.2.2.1,G2.2.2.2.2.2.2.2.2.1,G2.2.2.2.2.2.2.2.2.2)).bind λQ8=>
     (match Q8 with
     |.inl G4=>some (.inl G4)
     |.inr G5=>some (.inr (⟨G5.1,(G5.2.1),(G5.2.2.1),(⟨G5.2.2.2.1,(G5.2.2.2.2.1),G5.2.2.2.2.2.1,G5.2.2.2.2.2.2.1,G5.2.2.2.2.2.2.2.1,G5.2.2.2.2.2.2.2.2.1⟩:TD0),X7.1.ac⟩:TE0))))
    else
     some (.inl ((3:Int),X7.2.1)))
   else
    some (.inr (⟨G2.1,(G2.2.1),(G2.2.2.1),(⟨G2.2.2.2.1,(G2.2.2.2.2.1),G2.2.2.2.2.2.1,G2.2.2.2.2.2.2.1,G2.2.2.2.2.2.2.2.1,G2.2.2.2.2.2.2.2.2.1⟩:TD0),G2.2.2.2.2.2.2.2.2.2⟩:TE0)))
  else
   some (.inl ((120:Int),d2)))
set_option maxRecDepth 20000 in
theorem jM (n:Nat) (M:Mem) (hG:GL M) (d0:Bs) (c1:Lv) (d1:TD0) (h1:Rep M (ap d1) c1) (d2:Bs) (r:Sum (Int×Bs) TE0) (hF:gN n d0 d1 d2=some r):OkX Tryz.prog M 50 [S d0,.agg c1.toArray,S d2] 78 r (λr=>λM' v=>∃ (c0:Lv),v=.agg c0.toArray∧Rep M' (bx r) c0):=by
 unfold gN at hF
 intro M1 hM0 w0 H w p0
 replace hG:=GL.mono hM0 hG
 replace h1:=Rep.mono hM0 _ _ h1
 obtain⟨Z1,P1,Z2,P2,rfl,B1,B2⟩:=TD0.opn h1
 refine Re 114 Tryz.func50 rfl λa0 f0=>RR (Y13 (cs:=(aTD0 d1 Z1 P1 Z2 P2)) (T:=26) f0 p0 λQ1 V1 W1 J1 R1 N1 _ f=>?_)
 have R2:=bR R1
 refine Y12 f N1 (.cells #[S [],bO false,bO false,iB 0,bO false,iL 0,S [],Sn,Sn,Sn] 58 (0,0)) λQ2 W2 N2 _ f=>eT (RR (Z f (Y31 (cs:=(lTD0 d1 Z1 P1 Z2 P2)) rfl (ad:=⟨Q1,0,none⟩) (λj v h=>N2.cell (R2 j v h))) λ_ f=>Y f 1 λ_ f=>aQ (k:=3) (c:=3) f N2 (.cells #[S [84,121,112,101],S [68,101,102,97,117,108,116],S [65,108,108,111,119,101,100,86,97,108,117,101,115]] 9 (0,0)) kr (λ_=>by kernel_rfl) λQ3 W3 N3 _ f=>?_))
 have D1:ag V1 (([[84,121,112,101],[68,101,102,97,117,108,116],[65,108,108,111,119,101,100,86,97,108,117,101,115]]:List Bs).map Dat.str) [S [84,121,112,101],S [68,101,102,97,117,108,116],S [65,108,108,111,119,101,100,86,97,108,117,101,115]]:=⟨_,_,rfl,rfl,⟨_,_,rfl,rfl,⟨_,_,rfl,rfl,rfl⟩⟩⟩
 have N4:Hp w0 V1 ((Ent.row 9 1 (.slice (some ⟨Q3,0,none⟩) 3 3) ([[84,121,112,101],[68,101,102,97,117,108,116],[65,108,108,111,119,101,100,86,97,108,117,101,115]]:List Bs).length [S [84,121,112,101],S [68,101,102,97,117,108,116],S [65,108,108,111,119,101,100,86,97,108,117,101,115]])::(oC Q2 #[S [],bO false,bO false,iB 0,bO false,iL 0,S [],Sn,Sn,Sn] 58)::H) W3:=N3.objRow (n:=3) (cap:=3) (size:=1) (by decide) (by decide) (dS (by decide) rfl) rfl rfl
 obtain⟨Z3,P3,V2,H1,J2,N5,B3⟩:=N4.rowSli (f:=Dat.str) (xs:=([[84,121,112,101],[68,101,102,97,117,108,116],[65,108,108,111,119,101,100,86,97,108,117,101,115]]:List Bs)) bZ D1
 have f:=f.st 23 (H1)
 obtain⟨X1,l1,F1⟩:=bS hF
 rcases X1 with X2|X3
 ·refine aH f N5 (bH n _ (GL.mono (J1.trans J2) hG) _ d1 (TD0.shutx (x:=d1) (B1.mono (J1.trans J2)) (B2.mono (J1.trans J2))) d2 Z3 P3 ([[84,121,112,101],[68,101,102,97,117,108,116],[65,108,108,111,119,101,100,86,97,108,117,101,115]]:List Bs) B3 (.inl X2) l1) kr (λ_=>by kernel_rfl) λV3 W4 J3 N6=>bM (aP f ?_)
  cases sI F1
  exact⟨V3,((J1.trans J2).trans J3),(N6.dropN 1),rfl⟩
 ·refine Y16 f N5 (OkX.ok (bH n _ (GL.mono (J1.trans J2) hG) _ d1 (TD0.shutx (x:=d1) (B1.mono (J1.trans J2)) (B2.mono (J1.trans J2))) d2 Z3 P3 ([[84,121,112,101],[68,101,102,97,117,108,116],[65,108,108,111,119,101,100,86,97,108,117,101,115]]:List Bs) B3 (.inr X3) l1)) λ_ V4 W5 J4 N7 eM _ f=>?_
  obtain⟨C1,eF,C2,iA,rfl,D2,dg,D3,dD⟩:=eM
  obtain⟨Z4,P4,Z5,P5,rfl,B4,B5⟩:=TD0.opn D2
  obtain rfl:iA=[S X3.2]:=D3
  refine Ye f 1 λ_ f=>RR (Y f 1 λ_ f=>?_)
  obtain⟨X4,l2,F2⟩:=bS F1
  refine Y16 f N7 (aV n _ (GL.mono ((J1.trans J2).trans J4) hG) [84,121,112,101] C1 (lTD0 X3.1 Z4 P4 Z5 P5) X3.1 (TD0.shutx (x:=X3.1) B4 B5) (bL (dg) 0 rfl) C2 [S X3.2] X3.2 (rfl) (bL (dD) 0 rfl) X4 l2) λ_ V5 W6 J5 N8 iQ _ f=>?_
  obtain⟨c_3,rfl,D4⟩:=iQ
  obtain⟨Z6,P6,Z7,P7,rfl,B6,B7⟩:=TD0.opn D4
  refine Y f 4 λ_ f=>Y12 f N8 (.cells #[iB 0,bO false,iL 0,S [],Sn,Sn] 26 (0,0)) λQ4 W7 N9 _ f=>Ys (lTD0 X4.1 Z6 P6 Z7 P7) (aTD0 X4.1 Z6 P6 Z7 P7) f N9 rfl rfl λW8 N10 _ f=>Ye f 2 λ_ f=>RR (Y f 2 λ_ f=>?_)
  rcases cE F2 with⟨B8,F3⟩|⟨B8,F42⟩
  ·have f:=f.st 31 (cB B8)
   refine Y18 f N10 (be _ (120:Int) d2) λW9 N11 _ f=>eT (aq ?_)
   obtain⟨ip,eD,F4⟩:=bS F3
   refine ct (λa_31 W14=>∃G1:Unit,ip=.nx G1∧∃V8:Mem,V5.le V8∧Frm 114 [(0,S d0),(6,pP Q2),(7,.func (.func 93) #[] #[Pa C1,Pa C2]),(8,pP Q4)] a_31∧Hp w0 V8 ((Ent.obj Q4 (.cells (aTD0 X4.1 Z6 P6 Z7 P7) 26 (0,0)))::(oC Q2 #[S [],bO false,bO false,iB 0,bO false,iL 0,S [],Sn,Sn,Sn] 58)::H) W14) ?_ ?_
   ·refine aN (Y f 1 λ_ f=>Z f (Y30 (v:=iB X4.1.ab) rfl (ad:=⟨Q4,0,none⟩) (N11.ownCell 0 rfl 0)) λ_ f=>Y f 2 λ_ f=>?_)
    rcases cE eD with⟨B9,F5⟩|⟨B9,F11⟩
    ·have U2:=dI.1 B9
     have f:=f.st 37 (cB B9)
     refine Y f 1 λ_ f=>Z f (Y30 (v:=S X4.1.aa) rfl (ad:=⟨Q4,3,none⟩) (N11.ownCell 0 rfl 3)) λ_ f=>Z f (Y35 rfl (l:=X4.1.aa) (m:=[83,116,114,105,110,103])) λ_ f=>Y f 1 λ_ f=>?_
     rcases cE F5 with⟨B10,F6⟩|⟨B10,F7⟩
     ·have U3:=dI.1 B10
      have f:=f.st 41 (cB B10)
      refine Y f 6 λ_ f=>Y18 f N11 (be _ (120:Int) X4.2.1) λW10 N12 _ f=>eT ?_
      exact⟨(),(sI F6).symm,V5,(mR _),f.kp,N12⟩
     ·have U4:=aA dI B10
      have f:=f.st 41 (cB B10)
      refine Y f 1 λ_ f=>Z f (Y30 (v:=S X4.1.aa) rfl (ad:=⟨Q4,3,none⟩) (N11.ownCell 0 rfl 3)) λ_ f=>Z f (Y35 rfl (l:=X4.1.aa) (m:=[78,117,109,98,101,114])) λ_ f=>Y f 3 λ_ f=>?_
      rcases cE F7 with⟨B11,F8⟩|⟨B11,F9⟩
      ·have U5:=dI.1 B11
       have f:=f.st 46 (cB B11)
       refine Y18 f N11 (be _ (120:Int) X4.2.1) λW11 N13 _ f=>eT ?_
       exact⟨(),(sI F8).symm,V5,(mR _),f.kp,N13⟩
      ·have U6:=aA dI B11
       have f:=f.st 46 (cB B11)
       refine aH f N11 (bc _ (120:Int) X4.2.1) kr (λ_=>by kernel_rfl) λV6 W12 J6 N14=>?_
       have F10:=bK F9 F4
       refine bM (bM (aP f ?_))
       cases sI F10
       exact⟨V6,((((J1.trans J2).trans J4).trans J5).trans J6),(N14.dropN 2),rfl⟩
    ·have U7:=aA dI B9
     have f:=f.st 37 (cB B9)
     refine Y f 10 λ_ f=>aH f N11 (bc _ (120:Int) X4.2.1) kr (λ_=>by kernel_rfl) λV7 W13 J7 N15=>?_
     have F12:=bK F11 F4
     refine bM (bM (aP f ?_))
     cases sI F12
     exact⟨V7,((((J1.trans J2).trans J4).trans J5).trans J7),(N15.dropN 2),rfl⟩
   ·rintro a_31 W14 ⟨G1,rfl,V8,J8,f,N16⟩
    refine aS (RR (Y f 2 λ_ f=>Z f (Y30 (v:=S X4.1.aa) rfl (ad:=⟨Q4,3,none⟩) (N16.ownCell 0 rfl 3)) λ_ f=>Z f (Y35 rfl (l:=X4.1.aa) (m:=[78,117,109,98,101,114])) λ_ f=>Y f 1 λ_ f=>Y12 f N16 (.cells #[S [],bO false,bO false,iB 0,bO false,iL 0,S [],Sn,Sn,Sn] 58 (0,0)) λQ5 W15 N17 _ f=>Ys [S d0,bO (decide (X4.1.aa=[78,117,109,98,101,114])),bO false,iB 0,bO false,iL 0,S [],Sn,Sn,Sn] #[S d0,bO (decide (X4.1.aa=[78,117,109,98,101,114])),bO false,iB 0,bO false,iL 0,S [],Sn,Sn,Sn] f N17 rfl rfl λW16 N18 _ f=>eT (RR (Ye f 2 λ_ f=>aq (RR (Y f 1 λ_ f=>?_))))))
    obtain⟨X5,l3,F13⟩:=bS F4
    refine Y16 f N18 (aV n _ (GL.mono ((((J1.trans J2).trans J4).trans J5).trans J8) hG) [68,101,102,97,117,108,116] C1 (lTD0 X3.1 Z4 P4 Z5 P5) X3.1 (TD0.shutx (x:=X3.1) (B4.mono (J5.trans J8)) (B5.mono (J5.trans J8))) (bL ((fzu (J5.trans J8) dg)) 0 rfl) C2 [S X3.2] X3.2 (rfl) (bL ((fzu (J5.trans J8) dD)) 0 rfl) X5 l3) λ_ V9 W17 J9 N19 mg _ f=>?_
    obtain⟨c_4,rfl,D5⟩:=mg
    obtain⟨Z8,P8,Z9,P9,rfl,B12,B13⟩:=TD0.opn D5
    refine Y f 4 λ_ f=>Y12 f N19 (.cells #[iB 0,bO false,iL 0,S [],Sn,Sn] 26 (0,0)) λQ6 W18 N20 _ f=>Ys (lTD0 X5.1 Z8 P8 Z9 P9) (aTD0 X5.1 Z8 P8 Z9 P9) f N20 rfl rfl λW19 N21 _ f=>Ye f 2 λ_ f=>RR (Ye f 1 λ_ f=>?_)
    obtain⟨nR,kl,F14⟩:=bS F13
    refine ct (λa_56 W28=>∃G2:Bs×Bool×Bool×Int×Bool×Int×Bs×List TD0×List Bs×List TD0,nR=.nx G2∧∃V12:Mem,V9.le V12∧∃ (Z16:Oa),∃ (P16:Nat),∃ (Z17:Oa),∃ (P17:Nat),∃ (Z18:Oa),∃ (P18:Nat),∃ (L4:Lv),Sli V12 6 ap Z16 P16 G2.t7.1∧Sli V12 1 Dat.str Z17 P17 G2.t8.1∧ag V12 (G2.t9.map ap) L4∧Frm 114 [(6,pP Q2),(7,.func (.func 93) #[] #[Pa C1,Pa C2]),(11,pP Q5),(12,.func (.func 97) #[] #[pP Q5])] a_56∧Hp w0 V12 ((rO 26 6 Z18 G2.t9 P18 L4)::(oC Q5 #[S G2.1,bO G2.2.1,bO G2.2.2.1,iB G2.t3.1,bO G2.t4.1,iL G2.t5.1,S G2.t6.1,sL Z16 G2.t7.1 P16,sL Z17 G2.t8.1 P17,sL Z18 G2.t9 P18] 58)::(Ent.obj Q6 (.cells (aTD0 X5.1 Z8 P8 Z9 P9) 26 (0,0)))::(Ent.obj Q4 (.cells (aTD0 X4.1 Z6 P6 Z7 P7) 26 (0,0)))::(oC Q2 #[S [],bO false,bO false,iB 0,bO false,iL 0,S [],Sn,Sn,Sn] 58)::H) W28) ?_ ?_
    ·refine RcF f kl (λB14 F15=>?_) λB14 F20=>?_
     ·refine RR (Y f 1 λ_ f=>Z f (Y31 (cs:=(lTD0 X5.1 Z8 P8 Z9 P9)) rfl (ad:=⟨Q6,0,none⟩) (an (N21.ownCell 0 rfl) 0 rfl)) λ_ f=>?_)
      obtain⟨Z10,P10,H2⟩: ∃A cap,Value.slice none 0 0=.slice A ([]:List TD0).length cap:=⟨none,0,rfl⟩
      have N22:Hp w0 V9 ((Ent.row 26 6 (.slice Z10 ([]:List TD0).length P10) ([]:List TD0).length [])::(Ent.obj Q6 (.cells #[.int .i8 X5.1.ab,.bool X5.1.ah,.int .i64 X5.1.ai,S X5.1.aa,.slice Z8 X5.1.ac.length P8,.slice Z9 X5.1.af.length P9] 26 (0,0)))::(Ent.obj Q5 (.cells #[S d0,.bool (decide (X4.1.aa=[78,117,109,98,101,114])),.bool false,.int .i8 0,.bool false,.int .i64 0,S [],.slice Z10 ([]:List TD0).length P10,.slice none 0 0,.slice none 0 0] 58 (0,0)))::(Ent.obj Q4 (.cells #[.int .i8 X4.1.ab,.bool X4.1.ah,.int .i64 X4.1.ai,S X4.1.aa,.slice Z6 X4.1.ac.length P6,.slice Z7 X4.1.af.length P7] 26 (0,0)))::(Ent.obj Q2 (.cells #[S [],.bool false,.bool false,.int .i8 0,.bool false,.int .i64 0,S [],.slice none 0 0,.slice none 0 0,.slice none 0 0] 58 (0,0)))::H) W19:=by rw[←H2];exact N21.nilRow 26 6
      have D6:ag V9 (([]:List TD0).map ap) []:=rfl
      obtain⟨Z11,P11,H3⟩: ∃A cap,Value.slice none 0 0=.slice A ([]:List (List UInt8)).length cap:=⟨none,0,rfl⟩
      have N23:Hp w0 V9 ((Ent.row 9 1 (.slice Z11 ([]:List (List UInt8)).length P11) ([]:List (List UInt8)).length [])::(Ent.row 26 6 (.slice Z10 ([]:List TD0).length P10) ([]:List TD0).length [])::(Ent.obj Q6 (.cells #[.int .i8 X5.1.ab,.bool X5.1.ah,.int .i64 X5.1.ai,S X5.1.aa,.slice Z8 X5.1.ac.length P8,.slice Z9 X5.1.af.length P9] 26 (0,0)))::(Ent.obj Q5 (.cells #[S d0,.bool (decide (X4.1.aa=[78,117,109,98,101,114])),.bool false,.int .i8 0,.bool false,.int .i64 0,S [],.slice Z10 ([]:List TD0).length P10,.slice Z11 ([]:List (List UInt8)).length P11,.slice none 0 0] 58 (0,0)))::(Ent.obj Q4 (.cells #[.int .i8 X4.1.ab,.bool X4.1.ah,.int .i64 X4.1.ai,S X4.1.aa,.slice Z6 X4.1.ac.length P6,.slice Z7 X4.1.af.length P7] 26 (0,0)))::(Ent.obj Q2 (.cells #[S [],.bool false,.bool false,.int .i8 0,.bool false,.int .i64 0,S [],.slice none 0 0,.slice none 0 0,.slice none 0 0] 58 (0,0)))::H) W19:=by rw[←H3];exact N22.nilRow 9 1
      have D7:ag V9 (([]:List Bs).map Dat.str) []:=rfl
      obtain⟨Z12,P12,H4⟩: ∃A cap,Value.slice none 0 0=.slice A ([]:List TD0).length cap:=⟨none,0,rfl⟩
      have N24:Hp w0 V9 ((Ent.row 26 6 (.slice Z12 ([]:List TD0).length P12) ([]:List TD0).length [])::(Ent.row 9 1 (.slice Z11 ([]:List (List UInt8)).length P11) ([]:List (List UInt8)).length [])::(Ent.row 26 6 (.slice Z10 ([]:List TD0).length P10) ([]:List TD0).length [])::(Ent.obj Q6 (.cells #[.int .i8 X5.1.ab,.bool X5.1.ah,.int .i64 X5.1.ai,S X5.1.aa,.slice Z8 X5.1.ac.length P8,.slice Z9 X5.1.af.length P9] 26 (0,0)))::(Ent.obj Q5 (.cells #[S d0,.bool (decide (X4.1.aa=[78,117,109,98,101,114])),.bool false,.int .i8 0,.bool false,.int .i64 0,S [],.slice Z10 ([]:List TD0).length P10,.slice Z11 ([]:List (List UInt8)).length P11,.slice Z12 ([]:List TD0).length P12] 58 (0,0)))::(Ent.obj Q4 (.cells #[.int .i8 X4.1.ab,.bool X4.1.ah,.int .i64 X4.1.ai,S X4.1.aa,.slice Z6 X4.1.ac.length P6,.slice Z7 X4.1.af.length P7] 26 (0,0)))::(Ent.obj Q2 (.cells #[S [],.bool false,.bool false,.int .i8 0,.bool false,.int .i64 0,S [],.slice none 0 0,.slice none 0 0,.slice none 0 0] 58 (0,0)))::H) W19:=by rw[←H4];exact N23.nilRow 26 6
      have D8:ag V9 (([]:List TD0).map ap) []:=rfl
      obtain⟨X6,l4,F16⟩:=bS F15
      have N28:=N24.pl [1,2,4]
      refine Y17 (E:=[oC Q5 #[S d0,bO (decide (X4.1.aa=[78,117,109,98,101,114])),bO false,iB 0,bO false,iL 0,S [],sL Z10 ([]:List TD0) P10,sL Z11 ([]:List Bs) P11,sL Z12 ([]:List TD0) P12] 58,rO 26 6 Z10 ([]:List TD0) P10 [],rO 9 1 Z11 ([]:List Bs) P11 [],rO 26 6 Z12 ([]:List TD0) P12 []]) (H:=((Ent.obj Q6 (.cells (aTD0 X5.1 Z8 P8 Z9 P9) 26 (0,0)))::(Ent.obj Q4 (.cells (aTD0 X4.1 Z6 P6 Z7 P7) 26 (0,0)))::(oC Q2 #[S [],bO false,bO false,iB 0,bO false,iL 0,S [],Sn,Sn,Sn] 58)::H)) f N28 (lK n _ (GL.mono (((((J1.trans J2).trans J4).trans J5).trans J8).trans J9) hG) _ X5.1 (TD0.shutx (x:=X5.1) B12 B13) Q5 d0 (decide (X4.1.aa=[78,117,109,98,101,114])) (false) (0:Int) (false) (0:Int) ([]:Bs) ([]:List TD0) Z10 P10 [] D6 ([]:List Bs) Z11 P11 [] D7 ([]:List TD0) Z12 P12 [] D8 X6 l4) λ_ V10 mN W20 J10 N25 q_4 _ f=>?_
      obtain⟨Z13,P13,L1,Z14,P14,L2,Z15,P15,L3,rfl,rfl,D9,D10,D11⟩:=q_4
      refine Y f 1 λ_ f=>?_
      rcases cE F16 with⟨B15,F17⟩|⟨B15,F18⟩
      ·have f:=f.st 64 (cB B15)
       refine Y18 f N25 (be _ (120:Int) X5.2.1) λW21 N29 _ f=>eT (ei (E:=[oC Q5 #[S X6.2.1,bO X6.2.2.1,bO X6.t3.1,iB X6.t4.1,bO X6.t5.1,iL X6.t6.1,S X6.t7.1,sL Z13 X6.t8.1 P13,sL Z14 X6.t9.1 P14,sL Z15 X6.t10 P15] 58]) (Hr:=((rO 26 6 Z13 X6.t8.1 P13 L1)::(rO 9 1 Z14 X6.t9.1 P14 L2)::(rO 26 6 Z15 X6.t10 P15 L3)::(Ent.obj Q6 (.cells (aTD0 X5.1 Z8 P8 Z9 P9) 26 (0,0)))::(Ent.obj Q4 (.cells (aTD0 X4.1 Z6 P6 Z7 P7) 26 (0,0)))::(oC Q2 #[S [],bO false,bO false,iB 0,bO false,iL 0,S [],Sn,Sn,Sn] 58)::H)) [(0,true),(1,true),(2,false),(3,true),(4,false)] N29 kr kr rfl kr (cg (v:=.agg (aTD0 X5.1 Z8 P8 Z9 P9)) f kr kr rfl rfl (λ_ pq=>Y31 (cs:=(lTD0 X5.1 Z8 P8 Z9 P9)) rfl (ad:=⟨Q6,0,none⟩) (an (pq.ownCell 3 rfl) 0 rfl)) λ_ f=>Y0 default f 1 λ_ f=>cd (E:=[oC Q5 #[S X6.2.1,bO X6.2.2.1,bO X6.t3.1,iB X6.t4.1,bO X6.t5.1,iL X6.t6.1,S X6.t7.1,sL Z13 X6.t8.1 P13,sL Z14 X6.t9.1 P14,sL Z15 X6.t10 P15] 58]) λW22 N30=>Y25 f N30 0 rfl rfl (b:=Q5) (j:=2) (v:=bO true) rfl (by exact rfl) (by simp) (by simp) ((oC Q5 #[S X6.2.1,bO X6.2.2.1,bO true,iB X6.t4.1,bO X6.t5.1,iL X6.t6.1,S X6.t7.1,sL Z13 X6.t8.1 P13,sL Z14 X6.t9.1 P14,sL Z15 X6.t10 P15] 58)::(rO 26 6 Z13 X6.t8.1 P13 L1)::(rO 9 1 Z14 X6.t9.1 P14 L2)::(rO 26 6 Z15 X6.t10 P15 L3)::(Ent.obj Q6 (.cells (aTD0 X5.1 Z8 P8 Z9 P9) 26 (0,0)))::(Ent.obj Q4 (.cells (aTD0 X4.1 Z6 P6 Z7 P7) 26 (0,0)))::(oC Q2 #[S [],bO false,bO false,iB 0,bO false,iL 0,S [],Sn,Sn,Sn] 58)::H) rfl λW23 N31 _ f=>am rfl (dC (M1:=V10) (E:=[oC Q5 #[S X6.2.1,bO X6.2.2.1,bO true,iB X6.t4.1,bO X6.t5.1,iL X6.t6.1,S X6.t7.1,sL Z13 X6.t8.1 P13,sL Z14 X6.t9.1 P14,sL Z15 X6.t10 P15] 58]) (mR _) N31 (Y0 default f 1 λ_ f=>cd (E:=[oC Q5 #[S X6.2.1,bO X6.2.2.1,bO true,iB X6.t4.1,bO X6.t5.1,iL X6.t6.1,S X6.t7.1,sL Z13 X6.t8.1 P13,sL Z14 X6.t9.1 P14,sL Z15 X6.t10 P15] 58]) λW24 N32=>Y26 (vs:=(lTD0 X5.1 Z8 P8 Z9 P9)) (j:=3) f N32 rfl rfl (by simp[Value.oneCell',S]) (by simp) (by decide) (cs':=#[S X6.2.1,bO X6.2.2.1,bO true,iB X5.1.ab,bO X5.1.ah,iL X5.1.ai,S X5.1.aa,sL Z8 X5.1.ac P8,sL Z9 X5.1.af P9,sL Z15 X6.t10 P15]) λW25 N33 _ f=>am rfl (dC (M1:=V10) (E:=[oC Q5 #[S X6.2.1,bO X6.2.2.1,bO true,iB X5.1.ab,bO X5.1.ah,iL X5.1.ai,S X5.1.aa,sL Z8 X5.1.ac P8,sL Z9 X5.1.af P9,sL Z15 X6.t10 P15] 58]) (mR _) N33 (eh rfl λW26 N34=>?_))))))
       have N43:=N34.pl [6,6,6,3,6,6,6]
       refine aS ?_
       exact⟨(X6.2.1,(X6.2.2.1),(true),X5.1.ab,(X5.1.ah),X5.1.ai,X5.1.aa,X5.1.ac,X5.1.af,X6.t10),(sI F17).symm,V10,J10,Z8,P8,Z9,P9,Z15,P15,L3,(B12.mono J10),(B13.mono J10),D11,f.kp,(N43.dropN 2)⟩
      ·have f:=f.st 64 (cB B15)
       refine aH f N25 (bc _ (120:Int) X5.2.1) kr (λ_=>by kernel_rfl) λV11 W27 J11 N35=>bM ?_
       have F19:=bK F18 F14
       refine bM (bM (aP f ?_))
       cases sI F19
       exact⟨V11,(((((((J1.trans J2).trans J4).trans J5).trans J8).trans J9).trans J10).trans J11),(N35.dropN 7),rfl⟩
     ·refine wp_skip ?_
      obtain⟨Z19,P19,H5⟩: ∃A cap,Value.slice none 0 0=.slice A ([]:List TD0).length cap:=⟨none,0,rfl⟩
      have N44:Hp w0 V9 ((Ent.row 26 6 (.slice Z19 ([]:List TD0).length P19) ([]:List TD0).length [])::(Ent.obj Q6 (.cells #[.int .i8 X5.1.ab,.bool X5.1.ah,.int .i64 X5.1.ai,S X5.1.aa,.slice Z8 X5.1.ac.length P8,.slice Z9 X5.1.af.length P9] 26 (0,0)))::(Ent.obj Q5 (.cells #[S d0,.bool (decide (X4.1.aa=[78,117,109,98,101,114])),.bool false,.int .i8 0,.bool false,.int .i64 0,S [],.slice none 0 0,.slice none 0 0,.slice Z19 ([]:List TD0).length P19] 58 (0,0)))::(Ent.obj Q4 (.cells #[.int .i8 X4.1.ab,.bool X4.1.ah,.int .i64 X4.1.ai,S X4.1.aa,.slice Z6 X4.1.ac.length P6,.slice Z7 X4.1.af.length P7] 26 (0,0)))::(Ent.obj Q2 (.cells #[S [],.bool false,.bool false,.int .i8 0,.bool false,.int .i64 0,S [],.slice none 0 0,.slice none 0 0,.slice none 0 0] 58 (0,0)))::H) W19:=by rw[←H5];exact N21.nilRow 26 6
      have D13:ag V9 (([]:List TD0).map ap) []:=rfl
      have N49:=N44.pl [4,4,3,4,4]
      refine aS ?_
      exact⟨(d0,(decide (X4.1.aa=[78,117,109,98,101,114])),(false),(0:Int),(false),(0:Int),([]:Bs),([]:List TD0),([]:List Bs),([]:List TD0)),(sI F20).symm,V9,(mR _),none,0,none,0,Z19,P19,[],Sli.nil,Sli.nil,D13,f.kp,N49⟩
    ·rintro a_56 W28 ⟨G2,rfl,V12,J12,Z16,P16,Z17,P17,Z18,P18,L4,B16,B17,D12,f,N36⟩
     refine aS (aq (RR (Y f 1 λ_ f=>?_)))
     obtain⟨X7,l5,F21⟩:=bS F14
     refine Y16 f N36 (aV n _ (GL.mono ((((((J1.trans J2).trans J4).trans J5).trans J8).trans J9).trans J12) hG) [65,108,108,111,119,101,100,86,97,108,117,101,115] C1 (lTD0 X3.1 Z4 P4 Z5 P5) X3.1 (TD0.shutx (x:=X3.1) (B4.mono (((J5.trans J8).trans J9).trans J12)) (B5.mono (((J5.trans J8).trans J9).trans J12))) (bL ((fzu (((J5.trans J8).trans J9).trans J12) dg)) 0 rfl) C2 [S X3.2] X3.2 (rfl) (bL ((fzu (((J5.trans J8).trans J9).trans J12) dD)) 0 rfl) X7 l5) λ_ V13 W29 J13 N50 q_5 _ f=>?_
     obtain⟨c_5,rfl,D14⟩:=q_5
     obtain⟨Z20,P20,Z21,P21,rfl,B18,B19⟩:=TD0.opn D14
     refine Y f 4 λ_ f=>Y12 f N50 (.cells #[iB 0,bO false,iL 0,S [],Sn,Sn] 26 (0,0)) λQ7 W30 N51 _ f=>Ys (lTD0 X7.1 Z20 P20 Z21 P21) (aTD0 X7.1 Z20 P20 Z21 P21) f N51 rfl rfl λW31 N52 _ f=>Ye f 2 λ_ f=>RR (Ye f 1 λ_ f=>RcF f F21 (λB20 F22=>?_) λB20 F41=>?_)
     ·refine aq ?_
      obtain⟨j_3,hj_3,F23⟩:=bS F22
      refine ct (λa_72 W35=>∃G3:Unit,j_3=.nx G3∧∃V16:Mem,V13.le V16∧Frm 114 [(6,pP Q2),(11,pP Q5),(12,.func (.func 97) #[] #[pP Q5]),(16,pP Q7),(17,S X7.2.1)] a_72∧Hp w0 V16 ((Ent.obj Q7 (.cells (aTD0 X7.1 Z20 P20 Z21 P21) 26 (0,0)))::(rO 26 6 Z18 G2.t9 P18 L4)::(oC Q5 #[S G2.1,bO G2.2.1,bO G2.2.2.1,iB G2.t3.1,bO G2.t4.1,iL G2.t5.1,S G2.t6.1,sL Z16 G2.t7.1 P16,sL Z17 G2.t8.1 P17,sL Z18 G2.t9 P18] 58)::(Ent.obj Q6 (.cells (aTD0 X5.1 Z8 P8 Z9 P9) 26 (0,0)))::(Ent.obj Q4 (.cells (aTD0 X4.1 Z6 P6 Z7 P7) 26 (0,0)))::(oC Q2 #[S [],bO false,bO false,iB 0,bO false,iL 0,S [],Sn,Sn,Sn] 58)::H) W35) ?_ ?_
      ·refine aN (Y f 1 λ_ f=>Z f (Y30 (v:=iB X7.1.ab) rfl (ad:=⟨Q7,0,none⟩) (N52.ownCell 0 rfl 0)) λ_ f=>Y f 2 λ_ f=>?_)
       rcases cE hj_3 with⟨B21,F24⟩|⟨B21,F28⟩
       ·have U13:=dI.1 B21
        have f:=f.st 80 (cB B21)
        refine Y f 1 λ_ f=>Z f (Y30 (v:=sL Z20 X7.1.ac P20) rfl (ad:=⟨Q7,4,none⟩) (N52.ownCell 0 rfl 4)) λ_ f=>Y f 4 λ_ f=>?_
        rcases cE F24 with⟨B22,F25⟩|⟨B22,F26⟩
        ·have U14:=dI.1 B22
         have f:=f.st 85 (cB B22)
         refine Y18 f N52 (be _ (120:Int) X7.2.1) λW32 N53 _ f=>eT ?_
         exact⟨(),(sI F25).symm,V13,(mR _),f.kp,N53⟩
        ·have U15:=aA dI B22
         have f:=f.st 85 (cB B22)
         refine aH f N52 (bc _ (120:Int) X7.2.1) kr (λ_=>by kernel_rfl) λV14 W33 J14 N54=>?_
         have F27:=bK F26 F23
         refine bM (bM (bM (aP f ?_)))
         cases sI F27
         exact⟨V14,((((((((J1.trans J2).trans J4).trans J5).trans J8).trans J9).trans J12).trans J13).trans J14),(N54.dropN 6),rfl⟩
       ·have U16:=aA dI B21
        have f:=f.st 80 (cB B21)
        refine Y f 6 λ_ f=>aH f N52 (bc _ (120:Int) X7.2.1) kr (λ_=>by kernel_rfl) λV15 W34 J15 N55=>?_
        have F29:=bK F28 F23
        refine bM (bM (bM (aP f ?_)))
        cases sI F29
        exact⟨V15,((((((((J1.trans J2).trans J4).trans J5).trans J8).trans J9).trans J12).trans J13).trans J15),(N55.dropN 6),rfl⟩
      ·rintro a_72 W35 ⟨G3,rfl,V16,J16,f,N56⟩
       refine aS (RR (Y f 1 λ_ f=>Z f (Y30 (v:=sL Z20 X7.1.ac P20) rfl (ad:=⟨Q7,4,none⟩) (N56.ownCell 0 rfl 4)) λ_ f=>Y f 3 λ_ f=>?_))
       rcases cE F23 with⟨B23,F30⟩|⟨B23,F40⟩
       ·have U17:=dI.1 B23
        have f:=f.st 91 (cB B23)
        refine Y18 f N56 (be _ (3:Int) X7.2.1) λW36 N57 _ f=>eT (aq (RR (Y f 1 λ_ f=>Z f (Y30 (v:=sL Z20 X7.1.ac P20) rfl (ad:=⟨Q7,4,none⟩) (N57.ownCell 0 rfl 4)) λ_ f=>Ye f 2 λ_ f=>wp_block ?_)))
        have N63:=N57.pl [5,5,5,5,4,5]
        obtain⟨Q8,dy,F31⟩:=bS F30
        refine wp_mono (Q:=λe a w=>(∃G4:Int×Bs,e=.panic (flawE 78 G4)∧Q8=.inl G4∧∃V20:Mem,V16.le V20∧Frm 114 [] a∧Hp w0 V20 (H) w)∨(e=.exit 0∧(∃G5:Bs×Bool×Bool×Int×Bool×Int×Bs×List TD0×List Bs×List TD0,Q8=.inr G5∧∃V21:Mem,V16.le V21∧∃ (Z30:Oa),∃ (P30:Nat),∃ (Z31:Oa),∃ (P31:Nat),∃ (Z32:Oa),∃ (P32:Nat),∃ (L7:Lv),Sli V21 6 ap Z30 P30 G5.t7.1∧Sli V21 1 Dat.str Z31 P31 G5.t8.1∧ag V21 (G5.t9.map ap) L7∧Frm 114 [(6,pP Q2),(11,pP Q5),(16,pP Q7)] a∧Hp w0 V21 ((rO 26 6 Z32 G5.t9 P32 L7)::(Ent.obj Q7 (.cells (aTD0 X7.1 Z20 P20 Z21 P21) 26 (0,0)))::(oC Q5 #[S G5.1,bO G5.2.1,bO G5.2.2.1,iB G5.t3.1,bO G5.t4.1,iL G5.t5.1,S G5.t6.1,sL Z30 G5.t7.1 P30,sL Z31 G5.t8.1 P31,sL Z32 G5.t9 P32] 58)::(Ent.obj Q6 (.cells (aTD0 X5.1 Z8 P8 Z9 P9) 26 (0,0)))::(Ent.obj Q4 (.cells (aTD0 X4.1 Z6 P6 Z7 P7) 26 (0,0)))::(oC Q2 #[S [],bO false,bO false,iB 0,bO false,iL 0,S [],Sn,Sn,Sn] 58)::H) w))) (cD (n:=114) (w0:=w0) (M:=V16) (λ (I1,K1,Z22,P22,Z23,P23,Z24,P24,L5)=>[(6,pP Q2),(11,pP Q5),(12,.func (.func 97) #[] #[pP Q5]),(16,pP Q7),(17,S X7.2.1),(95,sL Z20 X7.1.ac P20),(96,iL ((X7.1.ac.length:Nat):Int)),(97,iL K1.1)]) (λ (I1,K1,Z22,P22,Z23,P23,Z24,P24,L5)=>((rO 26 6 Z24 K1.t10 P24 L5)::(Ent.obj Q7 (.cells (aTD0 X7.1 Z20 P20 Z21 P21) 26 (0,0)))::(oC Q5 #[S K1.2.1,bO K1.2.2.1,bO K1.t3.1,iB K1.t4.1,bO K1.t5.1,iL K1.t6.1,S K1.t7.1,sL Z22 K1.t8.1 P22,sL Z23 K1.t9.1 P23,sL Z24 K1.t10 P24] 58)::(Ent.obj Q6 (.cells (aTD0 X5.1 Z8 P8 Z9 P9) 26 (0,0)))::(Ent.obj Q4 (.cells (aTD0 X4.1 Z6 P6 Z7 P7) 26 (0,0)))::(oC Q2 #[S [],bO false,bO false,iB 0,bO false,iL 0,S [],Sn,Sn,Sn] 58)::H)) (λ (I1,K1,Z22,P22,Z23,P23,Z24,P24,L5) MM=>aL (eu n X7) I1 K1=some Q8∧Sli MM 6 ap Z22 P22 K1.t8.1∧Sli MM 1 Dat.str Z23 P23 K1.t9.1∧ag MM (K1.t10.map ap) L5) (λ (I1,K1,Z22,P22,Z23,P23,Z24,P24,L5)=>I1) (n,((0:Int),G2.1,(G2.2.1),(G2.2.2.1),G2.t3.1,(G2.t4.1),G2.t5.1,G2.t6.1,G2.t7.1,G2.t8.1,G2.t9),Z16,P16,Z17,P17,Z18,P18,L4) (f.kp) N63 ⟨dy,(B16.mono (J13.trans J16)),(B17.mono (J13.trans J16)),(ag.mono (J13.trans J16) _ _ D12)⟩ ?_) ?_
        ·rintro⟨I1,K1,Z22,P22,Z23,P23,Z24,P24,L5⟩ V17 _ W37 J17 je f N64
         obtain⟨dL,B24,B25,D15⟩:=je
         obtain⟨I2,nL,rfl,ca,T1⟩:=bB dL
         unfold eu at ca
         refine RR (Ye f 1 λ_ f=>aq (RcF f ca (λB26 F32=>?_) λB26 F39=>?_))
         ·have U18:=dI.1 B26
          refine St (aq (wp_block (RR (Y f 1 λ_ f=>?_))))
          obtain⟨X8,l6,F33⟩:=bS F32
          obtain⟨C3,c_6,jV,-,D16,R3⟩:=Sli.at_ (B18.mono (J16.trans J17)) l6
          obtain⟨Z25,P25,Z26,P26,rfl,B27,B28⟩:=TD0.opn D16
          refine Z f (Y29 jV rfl (len:=X7.1.ac.length) (cap:=P20) (k:=.i64) (i:=K1.1) (e:=26) (sz:=6) (az l6) (ay l6)) λ_ f=>Z f (Y31 (cs:=(lTD0 X8 Z25 P25 Z26 P26)) rfl (ad:=C3.add (K1.1.toNat*6)) (λj v h=>N64.cell (R3 j v h))) λ_ f=>Y12 f N64 (.cells #[iB 0,bO false,iL 0,S [],Sn,Sn] 26 (0,0)) λQ9 W38 N65 _ f=>Y f 1 λ_ f=>Ys (lTD0 X8 Z25 P25 Z26 P26) (aTD0 X8 Z25 P25 Z26 P26) f N65 rfl rfl λW39 N66 _ f=>eT (aN (Y f 1 λ_ f=>Z f (Y31 (cs:=(lTD0 X8 Z25 P25 Z26 P26)) rfl (ad:=⟨Q9,0,none⟩) (an (N66.ownCell 0 rfl) 0 rfl)) λ_ f=>?_))
          obtain⟨X9,l7,F34⟩:=bS F33
          have N69:=N66.pl [1,3]
          refine Y17 (E:=[oC Q5 #[S K1.2.1,bO K1.2.2.1,bO K1.t3.1,iB K1.t4.1,bO K1.t5.1,iL K1.t6.1,S K1.t7.1,sL Z22 K1.t8.1 P22,sL Z23 K1.t9.1 P23,sL Z24 K1.t10 P24] 58,rO 26 6 Z24 K1.t10 P24 L5]) (H:=((Ent.obj Q9 (.cells (aTD0 X8 Z25 P25 Z26 P26) 26 (0,0)))::(Ent.obj Q7 (.cells (aTD0 X7.1 Z20 P20 Z21 P21) 26 (0,0)))::(Ent.obj Q6 (.cells (aTD0 X5.1 Z8 P8 Z9 P9) 26 (0,0)))::(Ent.obj Q4 (.cells (aTD0 X4.1 Z6 P6 Z7 P7) 26 (0,0)))::(oC Q2 #[S [],bO false,bO false,iB 0,bO false,iL 0,S [],Sn,Sn,Sn] 58)::H)) f N69 (kO n _ (GL.mono (((((((((J1.trans J2).trans J4).trans J5).trans J8).trans J9).trans J12).trans J13).trans J16).trans J17) hG) _ X8 (TD0.shutx (x:=X8) B27 B28) Q5 K1.2.1 (K1.2.2.1) (K1.t3.1) K1.t4.1 (K1.t5.1) K1.t6.1 K1.t7.1 K1.t8.1 Z22 P22 B24 K1.t9.1 Z23 P23 B25 K1.t10 Z24 P24 L5 D15 X9 l7) λ_ V18 E_2 W40 J18 N67 q_6 _ f=>?_
          obtain⟨Z27,P27,Z28,P28,Z29,P29,L6,rfl,rfl,B29,B30,D17⟩:=q_6
          refine Y f 2 λ_ f=>?_
          obtain⟨X10,l8,F35⟩:=bS F34
          refine Y18 f N67 (dA n _ (GL.mono ((((((((((J1.trans J2).trans J4).trans J5).trans J8).trans J9).trans J12).trans J13).trans J16).trans J17).trans J18) hG) X7.2.1 K1.1 X10 l8) λW41 N70 _ f=>?_
          rcases cE F35 with⟨B31,F36⟩|⟨B31,F38⟩
          ·have f:=f.st 104 (cB B31)
           refine Y18 f N70 (be _ (120:Int) X10) λW42 N71 _ f=>am rfl (gh (aS (aN ?_)))
           obtain⟨O1,F37⟩:=nS F36
           refine Y f 1 λ_ f=>?_
           have f:=f.st 109 (iW O1)
           refine Y f 1 λ_ f=>am rfl ?_
           have N81:=N71.pl [6,6,6,3,6,5,6]
           refine aS ?_
           cases sI F37
           exact⟨⟨I2,(K1.1+1,X9.2.1,(X9.2.2.1),(X9.t3.1),X9.t4.1,(X9.t5.1),X9.t6.1,X9.t7.1,X9.t8.1,X9.t9.1,X9.t10),Z27,P27,Z28,P28,Z29,P29,L6⟩,Nat.lt_succ_self _,V18,(J17.trans J18),⟨T1,B29,B30,D17⟩,f.kp,(N81.dropN 1)⟩
          ·have f:=f.st 104 (cB B31)
           refine aH f N70 (bc _ (120:Int) X10) kr (λ_=>by kernel_rfl) λV19 W43 J19 N72=>kU (bM (bM ?_))
           cases sI F38
           exact .inl ⟨((120:Int),X10),rfl,(sI T1).symm,V19,((J17.trans J18).trans J19),f.kp,(N72.dropN 7)⟩
         ·have U21:=aA dI B26
          refine wp_exit (gT (gT ?_))
          cases sI F39
          exact .inr ⟨rfl,(K1.2.1,(K1.2.2.1),(K1.t3.1),K1.t4.1,(K1.t5.1),K1.t6.1,K1.t7.1,K1.t8.1,K1.t9.1,K1.t10),(sI T1).symm,V17,J17,Z22,P22,Z23,P23,Z24,P24,L5,B24,B25,D15,f.kp,N64⟩
        ·rintro _ _ W46 (⟨G4,rfl,rfl,V20,J20,f,N73⟩|⟨rfl,G5,rfl,V21,J21,Z30,P30,Z31,P31,Z32,P32,L7,B32,B33,D18,f,N74⟩)
         ·refine kU (bM (bM (aP f ?_)))
          cases sI F31
          exact⟨V20,(((((((((J1.trans J2).trans J4).trans J5).trans J8).trans J9).trans J12).trans J13).trans J16).trans J20),N73,rfl⟩
         ·refine lO (aS (aN (Y f 1 λ_ f=>Z f (Y30 (v:=sL Z20 X7.1.ac P20) rfl (ad:=⟨Q7,4,none⟩) (N74.ownCell 1 rfl 4)) λ_ f=>Y f 1 λ_ f=>Y25 f N74 2 rfl rfl (b:=Q5) (j:=9) (v:=sL Z20 X7.1.ac P20) rfl (by exact rfl) (by simp) (by simp) ((rO 26 6 Z32 G5.t9 P32 L7)::(Ent.obj Q7 (.cells (aTD0 X7.1 Z20 P20 Z21 P21) 26 (0,0)))::(oC Q5 #[S G5.1,bO G5.2.1,bO G5.2.2.1,iB G5.t3.1,bO G5.t4.1,iL G5.t5.1,S G5.t6.1,sL Z30 G5.t7.1 P30,sL Z31 G5.t8.1 P31,sL Z20 X7.1.ac P20] 58)::(Ent.obj Q6 (.cells (aTD0 X5.1 Z8 P8 Z9 P9) 26 (0,0)))::(Ent.obj Q4 (.cells (aTD0 X4.1 Z6 P6 Z7 P7) 26 (0,0)))::(oC Q2 #[S [],bO false,bO false,iB 0,bO false,iL 0,S [],Sn,Sn,Sn] 58)::H) rfl λW47 N82 _ f=>eT (RR (Z f (Y31 (cs:=[S G5.1,bO G5.2.1,bO G5.2.2.1,iB G5.t3.1,bO G5.t4.1,iL G5.t5.1,S G5.t6.1,sL Z30 G5.t7.1 P30,sL Z31 G5.t8.1 P31,sL Z20 X7.1.ac P20]) rfl (ad:=⟨Q5,0,none⟩) (an (N82.ownCell 2 rfl) 0 rfl)) λ_ f=>?_)))))
          have N83:=N82.pl [5]
          refine Ys [S G5.1,bO G5.2.1,bO G5.2.2.1,iB G5.t3.1,bO G5.t4.1,iL G5.t5.1,S G5.t6.1,sL Z30 G5.t7.1 P30,sL Z31 G5.t8.1 P31,sL Z20 X7.1.ac P20] #[S G5.1,bO G5.2.1,bO G5.2.2.1,iB G5.t3.1,bO G5.t4.1,iL G5.t5.1,S G5.t6.1,sL Z30 G5.t7.1 P30,sL Z31 G5.t8.1 P31,sL Z20 X7.1.ac P20] f N83 rfl rfl λW48 N84 _ f=>Er (ef f rfl (Y10 (cs:=[S G5.1,bO G5.2.1,bO G5.2.2.1,iB G5.t3.1,bO G5.t4.1,iL G5.t5.1,S G5.t6.1,sL Z30 G5.t7.1 P30,sL Z31 G5.t8.1 P31,sL Z20 X7.1.ac P20]) (ad:=⟨Q2,0,none⟩) f (an (N84.ownCell 0 rfl) 0 rfl)) ?_)
          cases sI F31
          exact⟨_,rfl,V21,(((((((((J1.trans J2).trans J4).trans J5).trans J8).trans J9).trans J12).trans J13).trans J16).trans J21),(N84.dropN 6),⟨[S G5.1,bO G5.2.1,bO G5.2.2.1,iB G5.t3.1,bO G5.t4.1,iL G5.t5.1,S G5.t6.1,sL Z30 G5.t7.1 P30,sL Z31 G5.t8.1 P31,sL Z20 X7.1.ac P20],rfl,(TE0.shut B32 B33 (B18.mono (J16.trans J21)))⟩⟩
       ·have U22:=aA dI B23
        have f:=f.st 91 (cB B23)
        refine aH f N56 (bc _ (3:Int) X7.2.1) kr (λ_=>by kernel_rfl) λV22 W49 J22 N85=>bM (bM (aP f ?_))
        cases sI F40
        exact⟨V22,(((((((((J1.trans J2).trans J4).trans J5).trans J8).trans J9).trans J12).trans J13).trans J16).trans J22),(N85.dropN 6),rfl⟩
     ·refine St (RR (Z f (Y31 (cs:=[S G2.1,bO G2.2.1,bO G2.2.2.1,iB G2.t3.1,bO G2.t4.1,iL G2.t5.1,S G2.t6.1,sL Z16 G2.t7.1 P16,sL Z17 G2.t8.1 P17,sL Z18 G2.t9 P18]) rfl (ad:=⟨Q5,0,none⟩) (an (N52.ownCell 2 rfl) 0 rfl)) λ_ f=>?_))
      have N86:=N52.pl [1]
      obtain⟨Z33,P33,V23,H6,J23,N87,B34⟩:=N86.rowSli (f:=ap) (xs:=G2.t9) jG (ag.mono J13 _ _ D12)
      have f:=Frm.set f 113 (v:=.agg #[S G2.1,.bool G2.2.1,.bool G2.2.2.1,.int .i8 G2.2.2.2.1,.bool G2.2.2.2.2.1,.int .i64 G2.2.2.2.2.2.1,S G2.2.2.2.2.2.2.1,.slice Z16 G2.2.2.2.2.2.2.2.1.length P16,.slice Z17 G2.2.2.2.2.2.2.2.2.1.length P17,.slice Z18 G2.2.2.2.2.2.2.2.2.2.length P18]) (v':=.agg #[S G2.1,.bool G2.2.1,.bool G2.2.2.1,.int .i8 G2.2.2.2.1,.bool G2.2.2.2.2.1,.int .i64 G2.2.2.2.2.2.1,S G2.2.2.2.2.2.2.1,.slice Z16 G2.2.2.2.2.2.2.2.1.length P16,.slice Z17 G2.2.2.2.2.2.2.2.2.1.length P17,.slice Z33 G2.2.2.2.2.2.2.2.2.2.length P33]) (by kernel_rfl) (by rw[H6])
      have N88:Hp w0 V23 ((Ent.obj Q7 (.cells (aTD0 X7.1 Z20 P20 Z21 P21) 26 (0,0)))::(oC Q5 #[S G2.1,bO G2.2.1,bO G2.2.2.1,iB G2.t3.1,bO G2.t4.1,iL G2.t5.1,S G2.t6.1,sL Z16 G2.t7.1 P16,sL Z17 G2.t8.1 P17,sL Z33 G2.t9 P33] 58)::(Ent.obj Q6 (.cells (aTD0 X5.1 Z8 P8 Z9 P9) 26 (0,0)))::(Ent.obj Q4 (.cells (aTD0 X4.1 Z6 P6 Z7 P7) 26 (0,0)))::(oC Q2 #[S [],bO false,bO false,iB 0,bO false,iL 0,S [],Sn,Sn,Sn] 58)::H) W31:=by unfold sL at N87;rw[H6] at N87;exact N87
      have N89:=N88.pl [4]
      refine Ys [S G2.1,bO G2.2.1,bO G2.2.2.1,iB G2.t3.1,bO G2.t4.1,iL G2.t5.1,S G2.t6.1,sL Z16 G2.t7.1 P16,sL Z17 G2.t8.1 P17,sL Z33 G2.t9 P33] #[S G2.1,bO G2.2.1,bO G2.2.2.1,iB G2.t3.1,bO G2.t4.1,iL G2.t5.1,S G2.t6.1,sL Z16 G2.t7.1 P16,sL Z17 G2.t8.1 P17,sL Z33 G2.t9 P33] f N89 rfl rfl λW50 N90 _ f=>Er (ef f rfl (Y10 (cs:=[S G2.1,bO G2.2.1,bO G2.2.2.1,iB G2.t3.1,bO G2.t4.1,iL G2.t5.1,S G2.t6.1,sL Z16 G2.t7.1 P16,sL Z17 G2.t8.1 P17,sL Z33 G2.t9 P33]) (ad:=⟨Q2,0,none⟩) f (an (N90.ownCell 0 rfl) 0 rfl)) ?_)
      cases sI F41
      exact⟨_,rfl,V23,((((((((J1.trans J2).trans J4).trans J5).trans J8).trans J9).trans J12).trans J13).trans J23),(N90.dropN 5),⟨[S G2.1,bO G2.2.1,bO G2.2.2.1,iB G2.t3.1,bO G2.t4.1,iL G2.t5.1,S G2.t6.1,sL Z16 G2.t7.1 P16,sL Z17 G2.t8.1 P17,sL Z33 G2.t9 P33],rfl,(TE0.shut (B16.mono (J13.trans J23)) (B17.mono (J13.trans J23)) B34)⟩⟩
  ·have f:=f.st 31 (cB B8)
   refine aH f N10 (bc _ (120:Int) d2) kr (λ_=>by kernel_rfl) λV24 W51 J24 N91=>bM (aP f ?_)
   cases sI F42
   exact⟨V24,((((J1.trans J2).trans J4).trans J5).trans J24),(N91.dropN 2),rfl⟩
def cZ (n:Nat) (d0:Bs) (d1:TD0) (d2:Bs) (aB:List TE0) (ak:List TH0) (aC:List TB0) (aD:List TC0):Option (Sum (Int×Bs) (List TE0×List TH0×List TB0×List TC0)):=
 (((gN n d0 d1 d2).bind λX1=>
   bb ((aB.length+1)*128≤140737488355328)<|
   (match X1 with
   |.inl X5=>((some (.inl X5):Option (Sum (Int×Bs) (List TE0×List TH0×List TB0×List TC0)))).map Lp.br
   |.inr X6=>some (.nx (aB++[(⟨X6.aj,(X6.gD),(X6.nl),(⟨X6.aI.ab,(X6.aI.ah),X6.aI.ai,X6.aI.aa,X6.aI.ac,X6.aI.af⟩:TD0),X6.ep⟩:TE0)]))):Option (Lp (List TE0) (Sum (Int×Bs) (List TE0×List TH0×List TB0×List TC0))))).bind λj=>joinF j λG1=>
 some (.inr (G1,ak,aC,aD))
theorem ie (n:Nat) (M:Mem) (hG:GL M) (d0:Bs) (c1:Lv) (d1:TD0) (h1:Rep M (ap d1) c1) (d2:Bs) (b3:Nat) (aB:List TE0) (Z1:Oa) (P1:Nat) (L1:Lv) (D1:ag M (aB.map bx) L1) (ak:List TH0) (Z2:Oa) (P2:Nat) (L2:Lv) (D2:ag M (ak.map aF) L2) (aC:List TB0) (Z3:Oa) (P3:Nat) (L3:Lv) (D3:ag M (aC.map bu) L3) (aD:List TC0) (Z4:Oa) (P4:Nat) (L4:Lv) (D4:ag M (aD.map bw) L4) (r:Sum (Int×Bs) (List TE0×List TH0×List TB0×List TC0)) (hF:cZ n d0 d1 d2 aB ak aC aD=some r):OkXH Tryz.prog M [oC b3 #[sL Z1 aB P1,sL Z2 ak P2,sL Z3 aC P3,sL Z4 aD P4] 41,rO 58 10 Z1 aB P1 L1,rO 61 15 Z2 ak P2 L2,rO 66 7 Z3 aC P3 L3,rO 68 8 Z4 aD P4 L4] 49 [S d0,.agg c1.toArray,S d2,pP b3] 78 r (λr=>λM' E' v=>∃ (Z16:Oa) (P16:Nat) (L8:Lv) (Z17:Oa) (P17:Nat) (L9:Lv) (Z18:Oa) (P18:Nat) (L10:Lv) (Z19:Oa) (P19:Nat) (L11:Lv),v=.tuple #[]∧E'=[oC b3 #[sL Z16 r.1 P16,sL Z17 r.2.1 P17,sL Z18 r.2.2.1 P18,sL Z19 r.t3 P19] 41,rO 58 10 Z16 r.1 P16 L8,rO 61 15 Z17 r.2.1 P17 L9,rO 66 7 Z18 r.2.2.1 P18 L10,rO 68 8 Z19 r.t3 P19 L11]∧ag M' (r.1.map bx) L8∧ag M' (r.2.1.map aF) L9∧ag M' (r.2.2.1.map bu) L10∧ag M' (r.t3.map bw) L11):=by
 unfold cZ at hF
 intro M1 hM0 w0 H w p0
 replace hG:=GL.mono hM0 hG
 replace h1:=Rep.mono hM0 _ _ h1
 replace D1:=ag.mono hM0 _ _ D1
 replace D2:=ag.mono hM0 _ _ D2
 replace D3:=ag.mono hM0 _ _ D3
 replace D4:=ag.mono hM0 _ _ D4
 obtain⟨Z5,P5,Z6,P6,rfl,B1,B2⟩:=TD0.opn h1
 refine Re 16 Tryz.func49 rfl λa0 f0=>RR (Y13 (cs:=(aTD0 d1 Z5 P5 Z6 P6)) (T:=26) f0 p0 λQ1 V1 W1 J1 R1 N1 _ f=>?_)
 have R2:=bR R1
 refine eT ?_
 obtain⟨ip,eD,F1⟩:=bS hF
 refine ct (λa_22 W15=>∃G1:List TE0,ip=.nx G1∧∃V6:Mem,V1.le V6∧∃ (Z15:Oa),∃ (P15:Nat),∃ (L7:Lv),ag V6 (G1.map bx) L7∧Frm 16 [] a_22∧Hp w0 V6 ((rO 58 10 Z15 G1 P15 L7)::(oC b3 #[sL Z15 G1 P15,sL Z2 ak P2,sL Z3 aC P3,sL Z4 aD P4] 41)::(rO 61 15 Z2 ak P2 L2)::(rO 66 7 Z3 aC P3 L3)::(rO 68 8 Z4 aD P4 L4)::H) W15) ?_ ?_
 ·have N13:=N1.pl [4,4,4,3,4]
  obtain⟨X1,l1,F2⟩:=bS eD
  obtain⟨O1,F3⟩:=nS F2
  refine kV (ks:=[8,9]) (E:=[rO 58 10 Z1 aB P1 L1]) (Hr:=((oC b3 #[sL Z1 aB P1,sL Z2 ak P2,sL Z3 aC P3,sL Z4 aD P4] 41)::(rO 61 15 Z2 ak P2 L2)::(rO 66 7 Z3 aC P3 L3)::(rO 68 8 Z4 aD P4 L4)::H)) (.quiet 0 (.quiet 1 (.quiet 2 (.quiet 3 (.quiet 4 (.alt 5 (.alt 6 (.alt 7 .done .none) .none) .none)))))) N13 kr kr kr (Y1 (v:=pP b3) rfl f rfl rfl (λ_ _=>by kernel_rfl) λ_ f=>Y1 (v:=sL Z1 aB P1) rfl f rfl rfl (λ_ pq=>Y30 (v:=sL Z1 aB P1) rfl (ad:=⟨b3,0,none⟩) (pq.ownCell 0 rfl 0)) λ_ f=>Y1 (v:=S d0) rfl f rfl rfl (λ_ _=>by kernel_rfl) λ_ f=>Y1 (v:=.agg (aTD0 d1 Z5 P5 Z6 P6)) rfl f rfl rfl (λ_ pq=>Y31 (cs:=(lTD0 d1 Z5 P5 Z6 P6)) rfl (ad:=⟨Q1,0,none⟩) (λj v h=>pq.cell (R2 j v h))) λ_ f=>Y1 (v:=S d2) rfl f rfl rfl (λ_ _=>by kernel_rfl) λ_ f=>av rfl (λW6 N14=>?_) ?_)
  ·rcases X1 with X5|X6
   ·refine aH f N14 (jM n _ (GL.mono J1 hG) d0 _ d1 (TD0.shutx (x:=d1) (B1.mono J1) (B2.mono J1)) d2 (.inl X5) l1) kr (λ_=>by kernel_rfl) λV4 W7 J4 N15=>lj f λ_ f=>?_
    have F4:=bK F3 F1
    refine bM (aP f ?_)
    cases sI F4
    exact⟨V4,(J1.trans J4),(N15.dropN 5),rfl⟩
   ·refine Y16 f N14 (OkX.ok (jM n _ (GL.mono J1 hG) d0 _ d1 (TD0.shutx (x:=d1) (B1.mono J1) (B2.mono J1)) d2 (.inr X6) l1)) λ_ V5 W8 J5 N16 iQ _ f=>?_
    obtain⟨iA,rfl,D7⟩:=iQ
    obtain⟨Z11,P11,Z12,P12,Z13,P13,rfl,B6,B7,B8⟩:=TE0.opn D7
    refine am rfl (aw 1 J5 N16 rfl (av rfl (λW9 N17=>?_) ?_))
    ·refine aQ (k:=1) (c:=1) f N17 (.cells (aTE0 X6 Z11 P11 Z12 P12 Z13 P13) 58 (0,0)) kr (λ_=>by kernel_rfl) λQ3 W10 N18 _ f=>am rfl (aw 2 J5 N18 rfl (av rfl (λW11 N19=>?_) ?_))
     ·have N20:=N19.pl [1]
      refine Y20 (z:=.agg #[S [],bO false,bO false,iB 0,bO false,iL 0,S [],Sn,Sn,Sn]) (f:=bx) (xs:=aB) (ys:=[(⟨X6.aj,(X6.gD),(X6.nl),(⟨X6.aI.ab,(X6.aI.ah),X6.aI.ai,X6.aI.aa,X6.aI.ac,X6.aI.af⟩:TD0),X6.ep⟩:TE0)]) (news:=(lTE0 X6 Z11 P11 Z12 P12 Z13 P13)) (ad:=⟨Q3,0,none⟩) (m:=1) (c:=1) f N20 (ag.mono (J1.trans J5) _ _ D1) (by exact⟨_,_,rfl,TE0.shut B6 B7 B8,rfl⟩) rfl rfl rfl rfl (an (N20.ownCell 1 rfl) 0 rfl) (by exact O1) (by have hg_:=O1;first|omega|(simp only[List.length_cons,List.length_nil] at*;omega)) λZ14 P14 L6 W12 N21 D8 _ f=>?_
      have N22:=N21.pl [1]
      have N23:=N22.drop
      refine am rfl (aw 1 J5 N23 rfl (N_tail λW13 N24=>Y f 1 λ_ f=>Y25 f N24 1 rfl rfl (b:=b3) (j:=0) (v:=sL Z14 (aB++[(⟨X6.aj,(X6.gD),(X6.nl),(⟨X6.aI.ab,(X6.aI.ah),X6.aI.ai,X6.aI.aa,X6.aI.ac,X6.aI.af⟩:TD0),X6.ep⟩:TE0)]) P14) rfl (by exact rfl) (by simp) (by simp) _ rfl λW14 N25 _ f=>am rfl (N_te (aS ?_))))
      exact⟨aB++[(⟨X6.aj,(X6.gD),(X6.nl),(⟨X6.aI.ab,(X6.aI.ah),X6.aI.ai,X6.aI.aa,X6.aI.ac,X6.aI.af⟩:TD0),X6.ep⟩:TE0)],(sI F3).symm,V5,J5,Z14,P14,L6,D8,f.kp,N25⟩
     exact ar
    exact ar
  exact ar
 ·rintro a_22 W15 ⟨G1,rfl,V6,J6,Z15,P15,L7,D9,f,N26⟩
  refine dK f rfl ?_
  cases sI F1
  have N31:=N26.pl [4,4,4,3,4]
  exact⟨_,rfl,V6,_,(J1.trans J6),N31,⟨Z15,P15,L7,Z2,P2,L2,Z3,P3,L3,Z4,P4,L4,rfl,rfl,D9,(ag.mono (J1.trans J6) _ _ D2),(ag.mono (J1.trans J6) _ _ D3),(ag.mono (J1.trans J6) _ _ D4)⟩⟩
def gf (n:Nat) (X1:TD0×Bs×Bool) (X2:List ax) (K1:Int×List TE0×List TH0×List TB0×List TC0):Option (Lp (Int×List TE0×List TH0×List TB0×List TC0) (Sum (Int×Bs) (List TE0×List TH0×List TB0×List TC0))):=
    bif(decide (K1.1<((X2.length:Nat):Int))) then
     ((aU X2 K1.1).bind λX3=>
     (ck n X3.key).bind λX4=>
     (aM n X1.2.1 X3.key).bind λX5=>
     bif X4 then
      ((aM n X1.2.1 X3.key).bind λX6=>
      (cZ n X3.key (⟨X3.v.ab,(X3.v.ah),X3.v.ai,X3.v.aa,X3.v.ac,X3.v.af⟩:TD0) X6 K1.2.1 K1.2.2.1 K1.2.2.2.1 K1.2.2.2.2).bind λX7=>
      (match X7 with
      |.inl X8=>some (.br (.inl X8))
      |.inr X9=>bb (inR .i64 (K1.1+1))<|
       some (.nx (K1.1+1,X9.1,X9.2.1,X9.2.2.1,X9.2.2.2))))
     else
      some (.br (.inl ((120:Int),X5))))
    else
     some (.br (.inr (K1.2.1,K1.2.2.1,K1.2.2.2.1,K1.2.2.2.2)))
def eI (n:Nat) (d0:Bs) (d1:Int) (bl:List TE0) (bm:List TH0) (bn:List TB0) (bq:List TC0) (d3_f_0:TD0) (d3_f_1:Bs):Option (Sum (Int×Bs) (List TE0×List TH0×List TB0×List TC0)):=
 (aR n d0 d3_f_0 d3_f_1).bind λX1=>
 bif !X1.2.2 then
  (some (.inr (bl,bm,bn,bq)))
 else
  bif(decide (X1.1.ab=5)) then
   (bif(decide (((X1.1.af.length:Nat):Int)≤d1)) then
    ((bX n X1.1).bind λX2=>
    (aL (gf n X1 X2) n ((0:Int),bl,bm,bn,bq)).bind λQ2=>
    (match Q2 with
    |.inl G1=>some (.inl G1)
    |.inr G2=>some (.inr (G2.1,G2.2.1,G2.2.2.1,G2.2.2.2))))
   else
    some (.inl ((3:Int),X1.2.1)))
  else
   some (.inl ((120:Int),X1.2.1))
set_option maxRecDepth 20000 in
theorem ic (n:Nat) (M:Mem) (hG:GL M) (d0:Bs) (d1:Int) (cj:Nat) (bl:List TE0) (Z1:Oa) (P1:Nat) (L1:Lv) (D1:ag M (bl.map bx) L1) (bm:List TH0) (Z2:Oa) (P2:Nat) (L2:Lv) (D2:ag M (bm.map aF) L2) (bn:List TB0) (Z3:Oa) (P3:Nat) (L3:Lv) (D3:ag M (bn.map bu) L3) (bq:List TC0) (Z4:Oa) (P4:Nat) (L4:Lv) (D4:ag M (bq.map bw) L4) (ad3_f_0:Addr) (c3_f_0:Lv) (d3_f_0:TD0) (h3_f_0:Rep M (ap d3_f_0) c3_f_0) (q3_f_0: ∀j v,c3_f_0[j]? =some v→M.cell? (ad3_f_0.add j)=some v) (ad3_f_1:Addr) (c3_f_1:Lv) (d3_f_1:Bs) (h3_f_1:Rep M (Dat.str d3_f_1) c3_f_1) (q3_f_1: ∀j v,c3_f_1[j]? =some v→M.cell? (ad3_f_1.add j)=some v) (ad3:Addr) (q3: ∀j v,[(.func (.func 93) #[] #[Pa ad3_f_0,Pa ad3_f_1]:Value)][j]? =some v→M.cell? (ad3.add j)=some v) (r:Sum (Int×Bs) (List TE0×List TH0×List TB0×List TC0)) (hF:eI n d0 d1 bl bm bn bq d3_f_0 d3_f_1=some r):OkXH Tryz.prog M [oC cj #[sL Z1 bl P1,sL Z2 bm P2,sL Z3 bn P3,sL Z4 bq P4] 41,rO 58 10 Z1 bl P1 L1,rO 61 15 Z2 bm P2 L2,rO 66 7 Z3 bn P3 L3,rO 68 8 Z4 bq P4 L4] 46 [S d0,iL d1,.func (.func 49) #[] #[pP cj],Pa ad3] 78 r (λr=>λM' E' v=>∃ (Z24:Oa) (P25:Nat) (L18:Lv) (Z25:Oa) (P26:Nat) (L19:Lv) (Z26:Oa) (P27:Nat) (L20:Lv) (Z27:Oa) (P28:Nat) (L21:Lv),v=.tuple #[]∧E'=[oC cj #[sL Z24 r.1 P25,sL Z25 r.2.1 P26,sL Z26 r.2.2.1 P27,sL Z27 r.t3 P28] 41,rO 58 10 Z24 r.1 P25 L18,rO 61 15 Z25 r.2.1 P26 L19,rO 66 7 Z26 r.2.2.1 P27 L20,rO 68 8 Z27 r.t3 P28 L21]∧ag M' (r.1.map bx) L18∧ag M' (r.2.1.map aF) L19∧ag M' (r.2.2.1.map bu) L20∧ag M' (r.t3.map bw) L21):=by
 unfold eI at hF
 intro M1 hM0 w0 H w p0
 replace hG:=GL.mono hM0 hG
 replace D1:=ag.mono hM0 _ _ D1
 replace D2:=ag.mono hM0 _ _ D2
 replace D3:=ag.mono hM0 _ _ D3
 replace D4:=ag.mono hM0 _ _ D4
 replace h3_f_0:=Rep.mono hM0 _ _ h3_f_0
 replace q3_f_0:=λj v h=>hM0.cell (q3_f_0 j v h)
 replace h3_f_1:=Rep.mono hM0 _ _ h3_f_1
 replace q3_f_1:=λj v h=>hM0.cell (q3_f_1 j v h)
 replace q3:=λj v h=>hM0.cell (q3 j v h)
 obtain⟨Z5,P5,Z6,P6,rfl,B1,B2⟩:=TD0.opn h3_f_0
 obtain rfl:c3_f_1=[S d3_f_1]:=h3_f_1
 refine Re 59 Tryz.func46 rfl λa0 f0=>RR (Y15 f0 p0 q3 0 rfl λ_ f=>Y f 1 λ_ f=>?_)
 obtain⟨X1,l1,F1⟩:=bS hF
 refine Y16 f p0 (aV n _ hG d0 ad3_f_0 (lTD0 d3_f_0 Z5 P5 Z6 P6) d3_f_0 (TD0.shutx (x:=d3_f_0) B1 B2) (bL (q3_f_0) 0 rfl) ad3_f_1 [S d3_f_1] d3_f_1 (rfl) (bL (q3_f_1) 0 rfl) X1 l1) λ_ V1 W1 J1 N1 eM _ f=>?_
 obtain⟨eF,rfl,D5⟩:=eM
 obtain⟨Z7,P7,Z8,P8,rfl,B3,B4⟩:=TD0.opn D5
 refine Y f 4 λ_ f=>Y12 f N1 (.cells #[iB 0,bO false,iL 0,S [],Sn,Sn] 26 (0,0)) λQ1 W2 N2 _ f=>Ys (lTD0 X1.1 Z7 P7 Z8 P8) (aTD0 X1.1 Z7 P7 Z8 P8) f N2 rfl rfl λW3 N3 _ f=>Ye f 2 λ_ f=>aq (RR (Ye f 2 λ_ f=>RcF f F1 (λB5 F2=>?_) λB5 F3=>?_))
 ·have U1: (X1.2.2)=false:=by simpa using B5
  refine wp_ret (dj (E_ret0 f rfl ?_))
  cases sI F2
  exact⟨_,rfl,V1,_,J1,(N3.dropN 1),⟨Z1,P1,L1,Z2,P2,L2,Z3,P3,L3,Z4,P4,L4,rfl,rfl,(ag.mono J1 _ _ D1),(ag.mono J1 _ _ D2),(ag.mono J1 _ _ D3),(ag.mono J1 _ _ D4)⟩⟩
 ·have U2: (X1.2.2)=true:=by simpa using B5
  refine St (RR (Y f 1 λ_ f=>Z f (Y30 (v:=iB X1.1.ab) rfl (ad:=⟨Q1,0,none⟩) (N3.ownCell 0 rfl 0)) λ_ f=>Y f 2 λ_ f=>?_))
  rcases cE F3 with⟨B6,F4⟩|⟨B6,F19⟩
  ·have U3:=dI.1 B6
   have f:=f.st 23 (cB B6)
   refine Y18 f N3 (be _ (120:Int) X1.2.1) λW4 N4 _ f=>eT (RR (Y f 1 λ_ f=>Z f (Y30 (v:=sL Z8 X1.1.af P8) rfl (ad:=⟨Q1,5,none⟩) (N4.ownCell 0 rfl 5)) λ_ f=>Y f 4 λ_ f=>?_))
   rcases cE F4 with⟨B7,F5⟩|⟨B7,F18⟩
   ·have U4:=dI.1 B7
    have f:=f.st 30 (cB B7)
    refine Y18 f N4 (be _ (3:Int) X1.2.1) λW5 N5 _ f=>eT (RR (Z f (Y31 (cs:=(lTD0 X1.1 Z7 P7 Z8 P8)) rfl (ad:=⟨Q1,0,none⟩) (an (N5.ownCell 0 rfl) 0 rfl)) λ_ f=>?_))
    obtain⟨X2,l2,F6⟩:=bS F5
    refine Y17 (E:=[]) (H:=((Ent.obj Q1 (.cells (aTD0 X1.1 Z7 P7 Z8 P8) 26 (0,0)))::(oC cj #[sL Z1 bl P1,sL Z2 bm P2,sL Z3 bn P3,sL Z4 bq P4] 41)::(rO 58 10 Z1 bl P1 L1)::(rO 61 15 Z2 bm P2 L2)::(rO 66 7 Z3 bn P3 L3)::(rO 68 8 Z4 bq P4 L4)::H)) f N5 (cX n _ (GL.mono J1 hG) _ X1.1 (TD0.shutx (x:=X1.1) B3 B4) X2 l2) λ_ V2 mN W6 J2 N6 iQ _ f=>?_
    obtain⟨Z9,P9,L5,rfl,rfl,D6⟩:=iQ
    refine Ye f 2 λ_ f=>wp_block ?_
    have N13:=N6.pl [2,2,2,6,6,6,6]
    obtain⟨Q2,dy,F7⟩:=bS F6
    refine wp_mono (Q:=λe a w=>(∃G1:Int×Bs,e=.panic (flawE 78 G1)∧Q2=.inl G1∧∃V7:Mem,V2.le V7∧Frm 59 [] a∧Hp w0 V7 (H) w)∨(e=.exit 0∧(∃G2:List TE0×List TH0×List TB0×List TC0,Q2=.inr G2∧∃V8:Mem,V2.le V8∧∃ (Z20:Oa),∃ (P21:Nat),∃ (L14:Lv),∃ (Z21:Oa),∃ (P22:Nat),∃ (L15:Lv),∃ (Z22:Oa),∃ (P23:Nat),∃ (L16:Lv),∃ (Z23:Oa),∃ (P24:Nat),∃ (L17:Lv),ag V8 (G2.1.map bx) L14∧ag V8 (G2.2.1.map aF) L15∧ag V8 (G2.2.2.1.map bu) L16∧ag V8 (G2.t3.map bw) L17∧Frm 59 [] a∧Hp w0 V8 ((rO 58 10 Z20 G2.1 P21 L14)::(rO 61 15 Z21 G2.2.1 P22 L15)::(rO 66 7 Z22 G2.2.2.1 P23 L16)::(rO 68 8 Z23 G2.t3 P24 L17)::(rO 99 7 Z9 X2 P9 L5)::(Ent.obj Q1 (.cells (aTD0 X1.1 Z7 P7 Z8 P8) 26 (0,0)))::(oC cj #[sL Z20 G2.1 P21,sL Z21 G2.2.1 P22,sL Z22 G2.2.2.1 P23,sL Z23 G2.t3 P24] 41)::H) w))) (cD (n:=59) (w0:=w0) (M:=V2) (λ (I1,K1,Z10,P10,L6,Z11,P11,L7,Z12,P12,L8,Z13,P13,L9)=>[(2,.func (.func 49) #[] #[pP cj]),(8,S X1.2.1),(34,sL Z9 X2 P9),(35,iL ((X2.length:Nat):Int)),(36,iL K1.1)]) (λ (I1,K1,Z10,P10,L6,Z11,P11,L7,Z12,P12,L8,Z13,P13,L9)=>((rO 58 10 Z10 K1.2.1 P10 L6)::(rO 61 15 Z11 K1.2.2.1 P11 L7)::(rO 66 7 Z12 K1.t3.1 P12 L8)::(rO 68 8 Z13 K1.t4 P13 L9)::(rO 99 7 Z9 X2 P9 L5)::(Ent.obj Q1 (.cells (aTD0 X1.1 Z7 P7 Z8 P8) 26 (0,0)))::(oC cj #[sL Z10 K1.2.1 P10,sL Z11 K1.2.2.1 P11,sL Z12 K1.t3.1 P12,sL Z13 K1.t4 P13] 41)::H)) (λ (I1,K1,Z10,P10,L6,Z11,P11,L7,Z12,P12,L8,Z13,P13,L9) MM=>aL (gf n X1 X2) I1 K1=some Q2∧ag MM (K1.2.1.map bx) L6∧ag MM (K1.2.2.1.map aF) L7∧ag MM (K1.t3.1.map bu) L8∧ag MM (K1.t4.map bw) L9) (λ (I1,K1,Z10,P10,L6,Z11,P11,L7,Z12,P12,L8,Z13,P13,L9)=>I1) (n,((0:Int),bl,bm,bn,bq),Z1,P1,L1,Z2,P2,L2,Z3,P3,L3,Z4,P4,L4) (f.kp) N13 ⟨dy,(ag.mono (J1.trans J2) _ _ D1),(ag.mono (J1.trans J2) _ _ D2),(ag.mono (J1.trans J2) _ _ D3),(ag.mono (J1.trans J2) _ _ D4)⟩ ?_) ?_
    ·rintro⟨I1,K1,Z10,P10,L6,Z11,P11,L7,Z12,P12,L8,Z13,P13,L9⟩ V3 _ W7 J3 je f N14
     obtain⟨dL,D7,D8,D9,D10⟩:=je
     obtain⟨I2,nL,rfl,ca,T1⟩:=bB dL
     unfold gf at ca
     refine RR (Ye f 1 λ_ f=>aq (RcF f ca (λB8 F8=>?_) λB8 F17=>?_))
     ·have U5:=dI.1 B8
      refine St (aq (wp_block (RR ?_)))
      obtain⟨X3,l3,F9⟩:=bS F8
      obtain⟨Q3,P14,H1,ld⟩:=N14.rowAddr 4 rfl (bh l3)
      have f:=f.st 34 (H1)
      refine Z f (Y28 rfl (ad:=⟨Q3,0,none⟩) (len:=X2.length) (cap:=P14) (k:=.i64) (i:=K1.1) (e:=99) (sz:=7) (az l3) (ay l3)) λ_ f=>?_
      have f:=f.st 34 (H1.symm)
      obtain⟨iA,-,D11,R1⟩:=ag.get K1.1.toNat (eJ cK) (ag.mono J3 _ _ D6) (gE l3)
      obtain⟨Z14,P15,Z15,P16,rfl,B9,B10⟩:=ax.opn D11
      refine Z f (Y31 (cs:=[S X3.key,iB X3.v.ab,bO X3.v.ah,iL X3.v.ai,S X3.v.aa,sL Z14 X3.v.ac P15,sL Z15 X3.v.af P16]) rfl (ad:=(⟨Q3,0,none⟩:Addr).add (K1.1.toNat*7)) (λj v h=>jD (N14.rowCell 4 rfl H1) R1 j v h)) λ_ f=>Y12 f N14 (.cells #[S [],iB 0,bO false,iL 0,S [],Sn,Sn] 99 (0,0)) λQ4 W8 N15 _ f=>Ys [S X3.key,iB X3.v.ab,bO X3.v.ah,iL X3.v.ai,S X3.v.aa,sL Z14 X3.v.ac P15,sL Z15 X3.v.af P16] #[S X3.key,iB X3.v.ab,bO X3.v.ah,iL X3.v.ai,S X3.v.aa,sL Z14 X3.v.ac P15,sL Z15 X3.v.af P16] f N15 rfl rfl λW9 N16 _ f=>eT (aq (ei (E:=[]) (Hr:=((oC Q4 #[S X3.key,iB X3.v.ab,bO X3.v.ah,iL X3.v.ai,S X3.v.aa,sL Z14 X3.v.ac P15,sL Z15 X3.v.af P16] 99)::(rO 58 10 Z10 K1.2.1 P10 L6)::(rO 61 15 Z11 K1.2.2.1 P11 L7)::(rO 66 7 Z12 K1.t3.1 P12 L8)::(rO 68 8 Z13 K1.t4 P13 L9)::(rO 99 7 Z9 X2 P9 L5)::(Ent.obj Q1 (.cells (aTD0 X1.1 Z7 P7 Z8 P8) 26 (0,0)))::(oC cj #[sL Z10 K1.2.1 P10,sL Z11 K1.2.2.1 P11,sL Z12 K1.t3.1 P12,sL Z13 K1.t4 P13] 41)::H)) [(0,true),(1,true),(2,true),(3,true),(4,true),(5,true),(6,true),(7,false)] N16 kr kr rfl kr (Y0 default f 1 λ_ f=>cg (v:=S X3.key) f kr kr rfl rfl (λ_ pq=>Y30 (v:=S X3.key) rfl (ad:=⟨Q4,0,none⟩) (pq.ownCell 0 rfl 0)) λ_ f=>?_)))
      obtain⟨X4,l4,F10⟩:=bS F9
      refine eE (v:=bO X4) f kr kr rfl rfl (λ_=>by kernel_rfl) (cp n _ X3.key X4 l4) λ_ f=>Y0 default f 2 λ_ f=>cg (v:=S X3.key) f kr kr rfl rfl (λ_ pq=>Y30 (v:=S X3.key) rfl (ad:=⟨Q4,0,none⟩) (pq.ownCell 0 rfl 0)) λ_ f=>?_
      obtain⟨X5,l5,F11⟩:=bS F10
      refine eE (v:=S X5) f kr kr rfl rfl (λ_=>by kernel_rfl) (aK n _ (GL.mono ((J1.trans J2).trans J3) hG) X1.2.1 X3.key X5 l5) λ_ f=>cd (E:=[]) λW12 N19=>?_
      rcases cE F11 with⟨B11,F12⟩|⟨B11,F16⟩
      ·have f:=f.st 42 (cB B11)
       refine Y18 f N19 (be _ (120:Int) X5) λW13 N20 _ f=>am rfl (dC (M1:=V3) (E:=[]) (mR _) N20 (eh rfl λW14 N21=>aS ?_))
       have N29:=N21.pl [6,6,2,7,7,7,7,7]
       refine ei (E:=[rO 58 10 Z10 K1.2.1 P10 L6,rO 61 15 Z11 K1.2.2.1 P11 L7,rO 66 7 Z12 K1.t3.1 P12 L8,rO 68 8 Z13 K1.t4 P13 L9,oC cj #[sL Z10 K1.2.1 P10,sL Z11 K1.2.2.1 P11,sL Z12 K1.t3.1 P12,sL Z13 K1.t4 P13] 41]) (Hr:=((oC Q4 #[S X3.key,iB X3.v.ab,bO X3.v.ah,iL X3.v.ai,S X3.v.aa,sL Z14 X3.v.ac P15,sL Z15 X3.v.af P16] 99)::(rO 99 7 Z9 X2 P9 L5)::(Ent.obj Q1 (.cells (aTD0 X1.1 Z7 P7 Z8 P8) 26 (0,0)))::H)) [(0,true),(1,true),(2,true),(3,true),(4,true),(5,true),(6,true),(7,true),(8,true),(9,false)] N29 kr kr rfl kr (Y0 default f 2 λ_ f=>cg (v:=S X3.key) f kr kr rfl rfl (λ_ pq=>Y30 (v:=S X3.key) rfl (ad:=⟨Q4,0,none⟩) (pq.ownCell 0 rfl 0)) λ_ f=>Y0 default f 1 λ_ f=>cg (v:=.agg (aTD0 X3.v Z14 P15 Z15 P16)) f kr kr rfl rfl (λ_ pq=>Y31 (cs:=(lTD0 X3.v Z14 P15 Z15 P16)) rfl (ad:=⟨Q4,1,none⟩) (an (pq.ownCell 0 rfl) 1 rfl)) λ_ f=>Y0 default f 2 λ_ f=>cg (v:=S X3.key) f kr kr rfl rfl (λ_ pq=>Y30 (v:=S X3.key) rfl (ad:=⟨Q4,0,none⟩) (pq.ownCell 0 rfl 0)) λ_ f=>?_)
       obtain⟨X6,l6,F13⟩:=bS F12
       refine eE (v:=S X6) f kr kr rfl rfl (λ_=>by kernel_rfl) (aK n _ (GL.mono ((J1.trans J2).trans J3) hG) X1.2.1 X3.key X6 l6) λ_ f=>cd (E:=[rO 58 10 Z10 K1.2.1 P10 L6,rO 61 15 Z11 K1.2.2.1 P11 L7,rO 66 7 Z12 K1.t3.1 P12 L8,rO 68 8 Z13 K1.t4 P13 L9,oC cj #[sL Z10 K1.2.1 P10,sL Z11 K1.2.2.1 P11,sL Z12 K1.t3.1 P12,sL Z13 K1.t4 P13] 41]) λW16 N31=>?_
       obtain⟨X7,l7,F14⟩:=bS F13
       rcases X7 with X8|X9
       ·have N37:=N31.pl [3,3,3,3,4]
        refine ej (E:=[oC cj #[sL Z10 K1.2.1 P10,sL Z11 K1.2.2.1 P11,sL Z12 K1.t3.1 P12,sL Z13 K1.t4 P13] 41,rO 58 10 Z10 K1.2.1 P10 L6,rO 61 15 Z11 K1.2.2.1 P11 L7,rO 66 7 Z12 K1.t3.1 P12 L8,rO 68 8 Z13 K1.t4 P13 L9]) (H:=((oC Q4 #[S X3.key,iB X3.v.ab,bO X3.v.ah,iL X3.v.ai,S X3.v.aa,sL Z14 X3.v.ac P15,sL Z15 X3.v.af P16] 99)::(rO 99 7 Z9 X2 P9 L5)::(Ent.obj Q1 (.cells (aTD0 X1.1 Z7 P7 Z8 P8) 26 (0,0)))::H)) f N37 (ie n _ (GL.mono ((J1.trans J2).trans J3) hG) X3.key _ (⟨X3.v.ab,(X3.v.ah),X3.v.ai,X3.v.aa,X3.v.ac,X3.v.af⟩:TD0) (TD0.shut B9 B10) X6 cj K1.2.1 Z10 P10 L6 D7 K1.2.2.1 Z11 P11 L7 D8 K1.t3.1 Z12 P12 L8 D9 K1.t4 Z13 P13 L9 D10 (.inl X8) l7) kr (λ_=>by kernel_rfl) λV4 W17 J4 N32=>lj f λ_ f=>kU (bM (bM ?_))
        cases sI F14
        exact .inl ⟨X8,rfl,(sI T1).symm,V4,(J3.trans J4),f.kp,(N32.dropN 3)⟩
       ·have N43:=N31.pl [3,3,3,3,4]
        refine Y17 (E:=[oC cj #[sL Z10 K1.2.1 P10,sL Z11 K1.2.2.1 P11,sL Z12 K1.t3.1 P12,sL Z13 K1.t4 P13] 41,rO 58 10 Z10 K1.2.1 P10 L6,rO 61 15 Z11 K1.2.2.1 P11 L7,rO 66 7 Z12 K1.t3.1 P12 L8,rO 68 8 Z13 K1.t4 P13 L9]) (H:=((oC Q4 #[S X3.key,iB X3.v.ab,bO X3.v.ah,iL X3.v.ai,S X3.v.aa,sL Z14 X3.v.ac P15,sL Z15 X3.v.af P16] 99)::(rO 99 7 Z9 X2 P9 L5)::(Ent.obj Q1 (.cells (aTD0 X1.1 Z7 P7 Z8 P8) 26 (0,0)))::H)) f N43 (OkXH.ok (ie n _ (GL.mono ((J1.trans J2).trans J3) hG) X3.key _ (⟨X3.v.ab,(X3.v.ah),X3.v.ai,X3.v.aa,X3.v.ac,X3.v.af⟩:TD0) (TD0.shut B9 B10) X6 cj K1.2.1 Z10 P10 L6 D7 K1.2.2.1 Z11 P11 L7 D8 K1.t3.1 Z12 P12 L8 D9 K1.t4 Z13 P13 L9 D10 (.inr X9) l7)) λ_ V5 E_2 W18 J5 N38 mg _ f=>?_
        obtain⟨Z16,P17,L10,Z17,P18,L11,Z18,P19,L12,Z19,P20,L13,rfl,rfl,D12,D13,D14,D15⟩:=mg
        refine am rfl (dC (M1:=V5) (E:=[oC cj #[sL Z16 X9.1 P17,sL Z17 X9.2.1 P18,sL Z18 X9.2.2.1 P19,sL Z19 X9.t3 P20] 41,rO 58 10 Z16 X9.1 P17 L10,rO 61 15 Z17 X9.2.1 P18 L11,rO 66 7 Z18 X9.2.2.1 P19 L12,rO 68 8 Z19 X9.t3 P20 L13]) J5 N38 (eh rfl λW19 N44=>gh (aS (aN ?_))))
        obtain⟨O1,F15⟩:=nS F14
        refine Y f 1 λ_ f=>?_
        have f:=f.st 58 (iW O1)
        refine Y f 1 λ_ f=>am rfl ?_
        have N54:=N44.pl [7,7,6,6,6,6,7]
        refine aS ?_
        cases sI F15
        exact⟨⟨I2,(K1.1+1,X9.1,X9.2.1,X9.2.2.1,X9.t3),Z16,P17,L10,Z17,P18,L11,Z18,P19,L12,Z19,P20,L13⟩,Nat.lt_succ_self _,V5,(J3.trans J5),⟨T1,D12,D13,D14,D15⟩,f.kp,(N54.dropN 1)⟩
      ·have f:=f.st 42 (cB B11)
       refine aH f N19 (bc _ (120:Int) X5) kr (λ_=>by kernel_rfl) λV6 W20 J6 N45=>lj f λ_ f=>bM (kU (bM (bM ?_)))
       cases sI F16
       exact .inl ⟨((120:Int),X5),rfl,(sI T1).symm,V6,(J3.trans J6),f.kp,(N45.dropN 8)⟩
     ·have U8:=aA dI B8
      refine wp_exit (gT (gT ?_))
      cases sI F17
      exact .inr ⟨rfl,(K1.2.1,K1.2.2.1,K1.t3.1,K1.t4),(sI T1).symm,V3,J3,Z10,P10,L6,Z11,P11,L7,Z12,P12,L8,Z13,P13,L9,D7,D8,D9,D10,f.kp,N14⟩
    ·rintro _ _ W23 (⟨G1,rfl,rfl,V7,J7,f,N46⟩|⟨rfl,G2,rfl,V8,J8,Z20,P21,L14,Z21,P22,L15,Z22,P23,L16,Z23,P24,L17,D16,D17,D18,D19,f,N47⟩)
     ·refine kU (aP f ?_)
      cases sI F7
      exact⟨V7,((J1.trans J2).trans J7),N46,rfl⟩
     ·refine lO (dK f rfl ?_)
      cases sI F7
      have N61:=N47.pl [3,3,3,3,6,6,6]
      exact⟨_,rfl,V8,_,((J1.trans J2).trans J8),(N61.dropN 2),⟨Z20,P21,L14,Z21,P22,L15,Z22,P23,L16,Z23,P24,L17,rfl,rfl,D16,D17,D18,D19⟩⟩
   ·have U9:=aA dI B7
    have f:=f.st 30 (cB B7)
    refine aH f N4 (bc _ (3:Int) X1.2.1) kr (λ_=>by kernel_rfl) λV9 W24 J9 N62=>bM (aP f ?_)
    cases sI F18
    exact⟨V9,(J1.trans J9),(N62.dropN 6),rfl⟩
  ·have U10:=aA dI B6
   have f:=f.st 23 (cB B6)
   refine aH f N3 (bc _ (120:Int) X1.2.1) kr (λ_=>by kernel_rfl) λV10 W25 J10 N63=>bM (aP f ?_)
   cases sI F19
   exact⟨V10,(J1.trans J10),(N63.dropN 6),rfl⟩
def im (n:Nat) (d0:List TD0) (d2:Bs) (K1:List TF0×Int):Option (Lp (List TF0×Int) (Sum (Int×Bs) (List TF0))):=
    bif(decide (K1.2<((d0.length:Nat):Int))) then
     ((aU d0 K1.2).bind λX1=>
     (cM n d2 K1.2).bind λX2=>
     (gc n X1 X2).bind λX3=>
     (match X3 with
     |.inl X4=>some (.br (.inl X4))
     |.inr X5=>bb ((K1.1.length+1)*88≤140737488355328)<|
      bb (inR .i64 (K1.2+1))<|
      some (.nx (K1.1++[(⟨X5.ab,X5.aa,X5.ai,X5.aj,X5.ao,X5.fL⟩:TF0)],K1.2+1))))
    else
     some (.br (.inr K1.1))
def iu (n:Nat) (d0:List TD0) (d1:Int) (d2:Bs):Option (Sum (Int×Bs) (List TF0)):=
 (aL (im n d0 d2) n (([]:List TF0),d1)).bind λQ1=>
 (match Q1 with
 |.inl G1=>some (.inl G1)
 |.inr G2=>some (.inr G2))
theorem jL (n:Nat) (M:Mem) (hG:GL M) (A0:Oa) (cap0:Nat) (d0:List TD0) (h0:Sli M 6 ap A0 cap0 d0) (d1:Int) (d2:Bs) (r:Sum (Int×Bs) (List TF0)) (hF:iu n d0 d1 d2=some r):OkXH Tryz.prog M [] 33 [sL A0 d0 cap0,iL d1,S d2] 78 r (λr=>λM' E' v=>∃ (A0:Oa) (k0:Nat) (s0:Lv),v=sL A0 r k0∧E'=[.row 31 6 (sL A0 r k0) r.length s0]∧ag M' (r.map au) s0):=by
 unfold iu at hF
 intro M1 hM0 w0 H w p0
 replace hG:=GL.mono hM0 hG
 replace h0:=h0.mono hM0
 refine Re 27 Tryz.func33 rfl λa0 f0=>RR (Ye f0 1 λ_ f=>aq (RR (Ye f 2 λ_ f=>wp_block ?_)))
 obtain⟨Z1,P1,H1,N1⟩:=p0.nilR 31 6 TF0
 have f:=f.st 6 (H1)
 have D1:ag M1 (([]:List TF0).map au) []:=rfl
 obtain⟨Q1,dy,F1⟩:=bS hF
 refine wp_mono (Q:=λe a w=>(∃G1:Int×Bs,e=.panic (flawE 78 G1)∧Q1=.inl G1∧∃V4:Mem,M1.le V4∧Frm 27 [] a∧Hp w0 V4 (H) w)∨(e=.exit 0∧(∃G2:List TF0,Q1=.inr G2∧∃V5:Mem,M1.le V5∧∃ (Z7:Oa),∃ (P7:Nat),∃ (L3:Lv),ag V5 (G2.map au) L3∧Frm 27 [(6,sL Z7 G2 P7)] a∧Hp w0 V5 ((rO 31 6 Z7 G2 P7 L3)::H) w))) (cD (n:=27) (w0:=w0) (M:=M1) (λ (I1,K1,Z2,P2,L1)=>[(0,sL A0 d0 cap0),(2,S d2),(6,sL Z2 K1.1 P2),(7,iL K1.2)]) (λ (I1,K1,Z2,P2,L1)=>((rO 31 6 Z2 K1.1 P2 L1)::H)) (λ (I1,K1,Z2,P2,L1) MM=>aL (im n d0 d2) I1 K1=some Q1∧ag MM (K1.1.map au) L1) (λ (I1,K1,Z2,P2,L1)=>I1) (n,(([]:List TF0),d1),Z1,P1,[]) (f.kp) N1 ⟨dy,D1⟩ ?_) ?_
 ·rintro⟨I1,K1,Z2,P2,L1⟩ V1 _ W1 J1 je f N2
  obtain⟨dL,D2⟩:=je
  obtain⟨I2,nL,rfl,ca,T1⟩:=bB dL
  unfold im at ca
  refine aq (RR (Ye f 4 λ_ f=>RcF f ca (λB1 F2=>?_) λB1 F8=>?_))
  ·have U1:=dI.1 B1
   refine St (aq (wp_block (ei (E:=[rO 31 6 Z2 K1.1 P2 L1]) (Hr:=(H)) [(0,true),(1,true),(2,true),(3,true),(4,true),(5,true),(6,true),(7,true),(8,false),(9,false),(10,false),(11,true)] N2 kr kr rfl kr (Y0 default f 3 λ_ f=>?_))))
   obtain⟨X1,l1,F3⟩:=bS F2
   obtain⟨C1,eF,jV,-,D3,R1⟩:=Sli.at_ (h0.mono J1) l1
   obtain⟨Z3,P3,Z4,P4,rfl,B2,B3⟩:=TD0.opn D3
   refine cg (v:=Pa (C1.add (K1.2.toNat*6))) f kr kr rfl rfl (λ_ pq=>Y29 jV rfl (len:=d0.length) (cap:=cap0) (k:=.i64) (i:=K1.2) (e:=26) (sz:=6) (az l1) (ay l1)) λ_ f=>cg (v:=.agg (aTD0 X1 Z3 P3 Z4 P4)) f kr kr rfl rfl (λ_ pq=>Y31 (cs:=(lTD0 X1 Z3 P3 Z4 P4)) rfl (ad:=C1.add (K1.2.toNat*6)) (λj v h=>pq.cell (R1 j v h))) λ_ f=>Y0 default f 2 λ_ f=>?_
   obtain⟨X2,l2,F4⟩:=bS F3
   refine eE (v:=S X2) f kr kr rfl rfl (λ_=>by kernel_rfl) (dA n _ (GL.mono J1 hG) d2 K1.2 X2 l2) λ_ f=>cd (E:=[rO 31 6 Z2 K1.1 P2 L1]) λW3 N4=>?_
   obtain⟨X3,l3,F5⟩:=bS F4
   rcases X3 with X4|X5
   ·refine aH f N4 (cP n _ (GL.mono J1 hG) _ X1 (TD0.shutx (x:=X1) B2 B3) X2 (.inl X4) l3) kr (λ_=>by kernel_rfl) λV2 W4 J2 N5=>lj f λ_ f=>kU (bM (bM ?_))
    cases sI F5
    exact .inl ⟨X4,rfl,(sI T1).symm,V2,(J1.trans J2),f.kp,(N5.dropN 1)⟩
   ·refine Y16 f N4 (OkX.ok (cP n _ (GL.mono J1 hG) _ X1 (TD0.shutx (x:=X1) B2 B3) X2 (.inr X5) l3)) λ_ V3 W5 J3 N6 eM _ f=>?_
    obtain⟨iA,rfl,D4⟩:=eM
    obtain⟨Z5,P5,rfl,B4⟩:=TF0.opn D4
    refine am rfl (dC (M1:=V3) (E:=[rO 31 6 Z2 K1.1 P2 L1]) J3 N6 (cd (E:=[rO 31 6 Z2 K1.1 P2 L1]) λW6 N7=>aQ (k:=1) (c:=1) f N7 (.cells (aTF0 X5 Z5 P5) 31 (0,0)) kr (λ_=>by kernel_rfl) λQ2 W7 N8 _ f=>am rfl (dC (M1:=V3) (E:=[Ent.obj Q2 (.cells (aTF0 X5 Z5 P5) 31 (0,0)),rO 31 6 Z2 K1.1 P2 L1]) J3 N8 (cd (E:=[Ent.obj Q2 (.cells (aTF0 X5 Z5 P5) 31 (0,0)),rO 31 6 Z2 K1.1 P2 L1]) λW8 N9=>?_))))
    have N10:=N9.pl [1]
    obtain⟨O1,F6⟩:=nS F5
    refine Y20 (z:=.agg #[iB 0,S [],iL 0,S [],S [],Sn]) (f:=au) (xs:=K1.1) (ys:=[(⟨X5.ab,X5.aa,X5.ai,X5.aj,X5.ao,X5.fL⟩:TF0)]) (news:=(lTF0 X5 Z5 P5)) (ad:=⟨Q2,0,none⟩) (m:=1) (c:=1) f N10 (ag.mono J3 _ _ D2) (by exact⟨_,_,rfl,TF0.shut B4,rfl⟩) rfl rfl rfl rfl (an (N10.ownCell 1 rfl) 0 rfl) (by exact O1) (by have hg_:=O1;first|omega|(simp only[List.length_cons,List.length_nil] at*;omega)) λZ6 P6 L2 W9 N11 D5 _ f=>?_
    have N12:=N11.pl [1]
    have N13:=N12.drop
    refine am rfl (dC (M1:=V3) (E:=[rO 31 6 Z6 (K1.1++[(⟨X5.ab,X5.aa,X5.ai,X5.aj,X5.ao,X5.fL⟩:TF0)]) P6 L2]) J3 N13 (Y0 default f 1 λ_ f=>eh rfl λW10 N14=>gh (aS (aN (Y f 1 λ_ f=>?_)))))
    obtain⟨O2,F7⟩:=nS F6
    refine Y f 1 λ_ f=>?_
    have f:=f.st 14 (iW O2)
    refine Ye f 1 λ_ f=>?_
    cases sI F7
    exact⟨⟨I2,(K1.1++[(⟨X5.ab,X5.aa,X5.ai,X5.aj,X5.ao,X5.fL⟩:TF0)],K1.2+1),Z6,P6,L2⟩,Nat.lt_succ_self _,V3,(J1.trans J3),⟨T1,D5⟩,f.kp,N14⟩
  ·have U2:=aA dI B1
   refine wp_exit (gT (gT ?_))
   cases sI F8
   exact .inr ⟨rfl,K1.1,(sI T1).symm,V1,J1,Z2,P2,L1,D2,f.kp,N2⟩
 ·rintro _ _ W13 (⟨G1,rfl,rfl,V4,J4,f,N15⟩|⟨rfl,G2,rfl,V5,J5,Z7,P7,L3,D6,f,N16⟩)
  ·refine kU (bM (aP f ?_))
   cases sI F1
   exact⟨V4,J4,N15,rfl⟩
  ·refine lO (aS (RR (Ye f 2 λ_ f=>wp_ret (aJ f rfl (Lk 6 (sL Z7 G2 P7)) ?_))))
   cases sI F1
   exact⟨_,rfl,V5,_,J5,N16,⟨Z7,P7,L3,rfl,rfl,D6⟩⟩
def eZ (n:Nat) (rec_syntax_cond:TD0→Bs→Option (Sum (Int×Bs) TH0)) (X5:TD0) (X6:Bs) (K1:Int×List TH0):Option (Lp (Int×List TH0) (Sum (Int×Bs) (List TH0))):=
    bif(decide (K1.1<((X5.ac.length:Nat):Int))) then
     ((aU X5.ac K1.1).bind λX13=>
     (((cM n X6 K1.1).bind λX14=>
       (rec_syntax_cond X13 X14).bind λX15=>
       bb ((K1.2.length+1)*224≤140737488355328)<|
       (match X15 with
       |.inl X20=>((some (.br (.inl X20)):Option (Lp (Int×List TH0) (Sum (Int×Bs) (List TH0))))).map Lp.br
       |.inr X21=>some (.nx (K1.2++[(⟨X21.aj,X21.ab,(⟨X21.fA.ab,X21.fA.aa,X21.fA.ai,X21.fA.aj,X21.fA.ao,X21.fA.fL⟩:TF0),(⟨X21.fB.ab,X21.fB.aa,X21.fB.ai,X21.fB.aj,X21.fB.ao,X21.fB.fL⟩:TF0),X21.fL⟩:TH0)]))):Option (Lp (List TH0) (Lp (Int×List TH0) (Sum (Int×Bs) (List TH0)))))).bind λj=>joinF j λG2=>
     bb (inR .i64 (K1.1+1))<|
     some (.nx (K1.1+1,G2)))
    else
     some (.br (.inr K1.2))
def gn (n:Nat) (rec_syntax_cond:TD0→Bs→Option (Sum (Int×Bs) TH0)) (d0:TD0) (d1:Bs):Option (Sum (Int×Bs) TH0):=
 (cr n d0 d1 ([[69,113,117,97,108,115],[65,110,100],[79,114],[78,111,116],[67,111,110,100,105,116,105,111,110]]:List Bs)).bind λX1=>
 (match X1 with
 |.inl X2=>some (.inl X2)
 |.inr X3=>bif(decide (((d0.af.length:Nat):Int)=1)) then
  ((aU d0.af (0:Int)).bind λX4=>
  (aU d0.ac (0:Int)).bind λX5=>
  (aM n d1 X4).bind λX6=>
  bif(decide (X4=[67,111,110,100,105,116,105,111,110])) then
   ((cS n X5).bind λX7=>
   bif X7 then
    (some (.inr (⟨X5.aa,(4:Int),ae,ae,([]:List TH0)⟩:TH0)))
   else
    some (.inl ((120:Int),X6)))
  else
   ((bif(decide (X5.ab=4)) then
    (bif(decide (((cb (aE (aE (aE (aE ([]:List (Bs× (Int×Int))) [69,113,117,97,108,115] ((2:Int),(2:Int))) [65,110,100] ((1:Int),(4:Int))) [79,114] ((1:Int),(4:Int))) [78,111,116] ((1:Int),(1:Int))) X4).getD ((0:Int),(0:Int))).1≤((X5.ac.length:Nat):Int))) then
     (bif(decide (((X5.ac.length:Nat):Int)≤((cb (aE (aE (aE (aE ([]:List (Bs× (Int×Int))) [69,113,117,97,108,115] ((2:Int),(2:Int))) [65,110,100] ((1:Int),(4:Int))) [79,114] ((1:Int),(4:Int))) [78,111,116] ((1:Int),(1:Int))) X4).getD ((0:Int),(0:Int))).2)) then
      (some (.nx ()))
     else
      ((some (.inl ((120:Int),X6)):Option (Sum (Int×Bs) TH0))).map Lp.br)
    else
     ((some (.inl ((120:Int),X6)):Option (Sum (Int×Bs) TH0))).map Lp.br)
     else
      ((some (.inl ((120:Int),X6)):Option (Sum (Int×Bs) TH0))).map Lp.br:Option (Lp Unit (Sum (Int×Bs) TH0)))).bind λj=>joinF j λG1=>
   bif(decide (X4=[69,113,117,97,108,115])) then
    ((iu n X5.ac (0:Int) X6).bind λX8=>
    (match X8 with
    |.inl X9=>some (.inl X9)
    |.inr X10=>(aU X10 (0:Int)).bind λX11=>
     (aU X10 (1:Int)).bind λX12=>
     some (.inr (⟨([]:Bs),(0:Int),(⟨X11.ab,X11.aa,X11.ai,X11.aj,X11.ao,X11.fL⟩:TF0),(⟨X12.ab,X12.aa,X12.ai,X12.aj,X12.ao,X12.fL⟩:TF0),([]:List TH0)⟩:TH0))))
   else
    (aL (eZ n rec_syntax_cond X5 X6) n ((0:Int),([]:List TH0))).bind λQ7=>
    (match Q7 with
    |.inl G3=>some (.inl G3)
    |.inr G4=>some (.inr (⟨([]:Bs),(cb (aE (aE (aE ([]:List (Bs×Int)) [65,110,100] (1:Int)) [79,114] (2:Int)) [78,111,116] (3:Int)) X4).getD (0:Int),ae,ae,G4⟩:TH0))))
  else
   some (.inl ((120:Int),d1)))
set_option maxRecDepth 20000 in
theorem ml (n:Nat) (rec_syntax_cond:TD0→Bs→Option (Sum (Int×Bs) TH0)) (hrec_syntax_cond: ∀ (M:Mem) (hG:GL M) (c0:Lv) (d0:TD0) (h0:Rep M (ap d0) c0) (d1:Bs) (r:Sum (Int×Bs) TH0) (hF:rec_syntax_cond d0 d1=some r),OkX Tryz.prog M 98 [.agg c0.toArray,S d1] 78 r (λr=>λM' v=>∃ (c0:Lv),v=.agg c0.toArray∧Rep M' (aF r) c0)) (M:Mem) (hG:GL M) (c0:Lv) (d0:TD0) (h0:Rep M (ap d0) c0) (d1:Bs) (r:Sum (Int×Bs) TH0) (hF:gn n rec_syntax_cond d0 d1=some r):OkX Tryz.prog M 98 [.agg c0.toArray,S d1] 78 r (λr=>λM' v=>∃ (c0:Lv),v=.agg c0.toArray∧Rep M' (aF r) c0):=by
 unfold gn at hF
 intro M1 hM0 w0 H w p0
 replace hG:=GL.mono hM0 hG
 replace h0:=Rep.mono hM0 _ _ h0
 obtain⟨Z1,P1,Z2,P2,rfl,B1,B2⟩:=TD0.opn h0
 refine Re 110 Tryz.func98 rfl λa0 f0=>RR (Y13 (cs:=(aTD0 d0 Z1 P1 Z2 P2)) (T:=26) f0 p0 λQ1 V1 W1 J1 R1 N1 _ f=>?_)
 have R2:=bR R1
 refine Y12 f N1 (.cells #[S [],iB 0,iB 0,S [],iL 0,S [],S [],Sn,iB 0,S [],iL 0,S [],S [],Sn,Sn] 61 (0,0)) λQ2 W2 N2 _ f=>eT (RR (Z f (Y31 (cs:=(lTD0 d0 Z1 P1 Z2 P2)) rfl (ad:=⟨Q1,0,none⟩) (λj v h=>N2.cell (R2 j v h))) λ_ f=>Y f 1 λ_ f=>aQ (k:=5) (c:=5) f N2 (.cells #[S [69,113,117,97,108,115],S [65,110,100],S [79,114],S [78,111,116],S [67,111,110,100,105,116,105,111,110]] 9 (0,0)) kr (λ_=>by kernel_rfl) λQ3 W3 N3 _ f=>?_))
 have D1:ag V1 (([[69,113,117,97,108,115],[65,110,100],[79,114],[78,111,116],[67,111,110,100,105,116,105,111,110]]:List Bs).map Dat.str) [S [69,113,117,97,108,115],S [65,110,100],S [79,114],S [78,111,116],S [67,111,110,100,105,116,105,111,110]]:=⟨_,_,rfl,rfl,⟨_,_,rfl,rfl,⟨_,_,rfl,rfl,⟨_,_,rfl,rfl,⟨_,_,rfl,rfl,rfl⟩⟩⟩⟩⟩
 have N4:Hp w0 V1 ((Ent.row 9 1 (.slice (some ⟨Q3,0,none⟩) 5 5) ([[69,113,117,97,108,115],[65,110,100],[79,114],[78,111,116],[67,111,110,100,105,116,105,111,110]]:List Bs).length [S [69,113,117,97,108,115],S [65,110,100],S [79,114],S [78,111,116],S [67,111,110,100,105,116,105,111,110]])::(oC Q2 #[S [],iB 0,iB 0,S [],iL 0,S [],S [],Sn,iB 0,S [],iL 0,S [],S [],Sn,Sn] 61)::H) W3:=N3.objRow (n:=5) (cap:=5) (size:=1) (by decide) (by decide) (dS (by decide) rfl) rfl rfl
 obtain⟨Z3,P3,V2,H1,J2,N5,B3⟩:=N4.rowSli (f:=Dat.str) (xs:=([[69,113,117,97,108,115],[65,110,100],[79,114],[78,111,116],[67,111,110,100,105,116,105,111,110]]:List Bs)) bZ D1
 have f:=f.st 13 (H1)
 obtain⟨X1,l1,F1⟩:=bS hF
 rcases X1 with X2|X3
 ·refine aH f N5 (bH n _ (GL.mono (J1.trans J2) hG) _ d0 (TD0.shutx (x:=d0) (B1.mono (J1.trans J2)) (B2.mono (J1.trans J2))) d1 Z3 P3 ([[69,113,117,97,108,115],[65,110,100],[79,114],[78,111,116],[67,111,110,100,105,116,105,111,110]]:List Bs) B3 (.inl X2) l1) kr (λ_=>by kernel_rfl) λV3 W4 J3 N6=>bM (aP f ?_)
  cases sI F1
  exact⟨V3,((J1.trans J2).trans J3),(N6.dropN 1),rfl⟩
 ·refine Y16 f N5 (OkX.ok (bH n _ (GL.mono (J1.trans J2) hG) _ d0 (TD0.shutx (x:=d0) (B1.mono (J1.trans J2)) (B2.mono (J1.trans J2))) d1 Z3 P3 ([[69,113,117,97,108,115],[65,110,100],[79,114],[78,111,116],[67,111,110,100,105,116,105,111,110]]:List Bs) B3 (.inr X3) l1)) λ_ V4 W5 J4 N7 eM _ f=>?_
  obtain⟨C1,eF,C2,iA,rfl,D2,dg,D3,dD⟩:=eM
  obtain⟨Z4,P4,Z5,P5,rfl,B4,B5⟩:=TD0.opn D2
  obtain rfl:iA=[S X3.2]:=D3
  refine eT (RR (Y f 1 λ_ f=>Y15 f N7 (fzu (J2.trans J4) R2) 5 rfl λ_ f=>Y f 3 λ_ f=>?_))
  rcases cE F1 with⟨B6,F2⟩|⟨B6,F36⟩
  ·have U1:=dI.1 B6
   have f:=f.st 18 (cB B6)
   refine Y18 f N7 (be _ (120:Int) d1) λW6 N8 _ f=>eT (aq (ei (E:=[]) (Hr:=((oC Q2 #[S [],iB 0,iB 0,S [],iL 0,S [],S [],Sn,iB 0,S [],iL 0,S [],S [],Sn,Sn] 61)::H)) [(0,true),(1,true),(2,true),(3,true),(4,true),(5,true),(6,true),(7,true),(8,false),(9,true),(10,false)] N8 kr kr rfl kr (Y0 default f 1 λ_ f=>cg (v:=sL Z2 d0.af P2) f kr kr rfl rfl (λ_ pq=>Y30 (v:=sL Z2 d0.af P2) rfl (ad:=(⟨Q1,0,none⟩:Addr).add 5) (pq.cell ((fzu (J2.trans J4) R2) 5 _ rfl))) λ_ f=>?_)))
   obtain⟨X4,l2,F3⟩:=bS F2
   obtain⟨C3,c_3,jV,-,D4,R3⟩:=Sli.at_ (B2.mono ((J1.trans J2).trans J4)) l2
   obtain rfl:c_3=[S X4]:=D4
   refine cg (v:=Pa (C3.add ((0:Int).toNat*1))) f kr kr rfl rfl (λ_ pq=>Y29 jV rfl (len:=d0.af.length) (cap:=P2) (k:=.i64) (i:=(0:Int)) (e:=9) (sz:=1) (az l2) (ay l2)) λ_ f=>cg (v:=S X4) f kr kr rfl rfl (λ_ pq=>Y30 (v:=S X4) rfl (ad:=C3.add ((0:Int).toNat*1)) (pq.cell (R3 0 _ rfl))) λ_ f=>Y0 default f 1 λ_ f=>cg (v:=sL Z1 d0.ac P1) f kr kr rfl rfl (λ_ pq=>Y30 (v:=sL Z1 d0.ac P1) rfl (ad:=(⟨Q1,0,none⟩:Addr).add 4) (pq.cell ((fzu (J2.trans J4) R2) 4 _ rfl))) λ_ f=>?_
   obtain⟨X5,l3,F4⟩:=bS F3
   obtain⟨C4,c_4,e_2,-,D5,R4⟩:=Sli.at_ (B1.mono ((J1.trans J2).trans J4)) l3
   obtain⟨Z6,P6,Z7,P7,rfl,B7,B8⟩:=TD0.opn D5
   refine cg (v:=Pa (C4.add ((0:Int).toNat*6))) f kr kr rfl rfl (λ_ pq=>Y29 e_2 rfl (len:=d0.ac.length) (cap:=P1) (k:=.i64) (i:=(0:Int)) (e:=26) (sz:=6) (az l3) (ay l3)) λ_ f=>cg (v:=.agg (aTD0 X5 Z6 P6 Z7 P7)) f kr kr rfl rfl (λ_ pq=>Y31 (cs:=(lTD0 X5 Z6 P6 Z7 P7)) rfl (ad:=C4.add ((0:Int).toNat*6)) (λj v h=>pq.cell (R4 j v h))) λ_ f=>cd (E:=[]) λW7 N9=>Y12 f N9 (.cells #[iB 0,bO false,iL 0,S [],Sn,Sn] 26 (0,0)) λQ4 W8 N10 _ f=>am rfl (dC (M1:=V4) (E:=[oC Q4 #[iB 0,bO false,iL 0,S [],Sn,Sn] 26]) (mR _) N10 (Y0 default f 1 λ_ f=>cd (E:=[oC Q4 #[iB 0,bO false,iL 0,S [],Sn,Sn] 26]) λW9 N11=>Ys (lTD0 X5 Z6 P6 Z7 P7) (aTD0 X5 Z6 P6 Z7 P7) f N11 rfl rfl λW10 N12 _ f=>am rfl (dC (M1:=V4) (E:=[Ent.obj Q4 (.cells (aTD0 X5 Z6 P6 Z7 P7) 26 (0,0))]) (mR _) N12 (eh rfl λW11 N13=>aS (RR (Y f 2 λ_ f=>?_))))))
   obtain⟨X6,l4,F5⟩:=bS F4
   refine Y18 f N13 (aK n _ (GL.mono ((J1.trans J2).trans J4) hG) d1 X4 X6 l4) λW12 N14 _ f=>Ye f 1 λ_ f=>aq (RR (Y f 1 λ_ f=>Z f (Y35 rfl (l:=X4) (m:=[67,111,110,100,105,116,105,111,110])) λ_ f=>eT (RcF f F5 (λB9 F6=>?_) λB9 F10=>?_)))
   ·have U2:=dI.1 B9
    refine RR (Z f (Y31 (cs:=(lTD0 X5 Z6 P6 Z7 P7)) rfl (ad:=⟨Q4,0,none⟩) (an (N14.ownCell 0 rfl) 0 rfl)) λ_ f=>?_)
    obtain⟨X7,l5,F7⟩:=bS F6
    refine Y18 f N14 (dw n _ (GL.mono ((J1.trans J2).trans J4) hG) _ X5 (TD0.shutx (x:=X5) B7 B8) X7 l5) λW13 N15 _ f=>Y f 1 λ_ f=>?_
    rcases cE F7 with⟨B10,F8⟩|⟨B10,F9⟩
    ·have f:=f.st 35 (cB B10)
     refine Y18 f N15 (be _ (120:Int) X6) λW14 N16 _ f=>eT (RR (Y f 1 λ_ f=>Z f (Y30 (v:=S X5.aa) rfl (ad:=⟨Q4,3,none⟩) (N16.ownCell 0 rfl 3)) λ_ f=>Y f 1 λ_ f=>?_))
     have N17:=N16.pl [1]
     refine Ys [S X5.aa,iB 4,iB 0,S [],iL 0,S [],S [],Sn,iB 0,S [],iL 0,S [],S [],Sn,Sn] #[S X5.aa,iB 4,iB 0,S [],iL 0,S [],S [],Sn,iB 0,S [],iL 0,S [],S [],Sn,Sn] f N17 rfl rfl λW15 N18 _ f=>Er (dj (ef f rfl (Y10 (cs:=[S X5.aa,iB 4,iB 0,S [],iL 0,S [],S [],Sn,iB 0,S [],iL 0,S [],S [],Sn,Sn]) (ad:=⟨Q2,0,none⟩) f (an (N18.ownCell 0 rfl) 0 rfl)) ?_))
     cases sI F8
     exact⟨_,rfl,V4,((J1.trans J2).trans J4),(N18.dropN 2),⟨[S X5.aa,iB 4,iB 0,S [],iL 0,S [],S [],Sn,iB 0,S [],iL 0,S [],S [],Sn,Sn],rfl,(TH0.shut Sli.nil Sli.nil Sli.nil)⟩⟩
    ·have f:=f.st 35 (cB B10)
     refine aH f N15 (bc _ (120:Int) X6) kr (λ_=>by kernel_rfl) λV5 W16 J5 N19=>bM (bM (aP f ?_))
     cases sI F9
     exact⟨V5,(((J1.trans J2).trans J4).trans J5),(N19.dropN 2),rfl⟩
   ·have U5:=aA dI B9
    refine St (RR (lk S (λx:Int×Int=>Value.agg #[iL x.1,iL x.2]) f N14 kr kr rfl rfl rfl λo1 W17 N20 _ f=>Y f 1 λ_ f=>Y23 (ek:=S) (ev:=(λx:Int×Int=>Value.agg #[iL x.1,iL x.2])) (m:=([]:List (Bs× (Int×Int)))) (k:=[69,113,117,97,108,115]) (v:=((2:Int),(2:Int))) (kt:=9) (et:=164) f N20 rfl (.inr rfl) (strKey kr) λW18 N21 _ f=>Y f 1 λ_ f=>Y23 (ek:=S) (ev:=(λx:Int×Int=>Value.agg #[iL x.1,iL x.2])) (m:=aE ([]:List (Bs× (Int×Int))) [69,113,117,97,108,115] ((2:Int),(2:Int))) (k:=[65,110,100]) (v:=((1:Int),(4:Int))) (kt:=9) (et:=164) f N21 rfl (.inr rfl) (strKey kr) λW19 N22 _ f=>Y f 1 λ_ f=>Y23 (ek:=S) (ev:=(λx:Int×Int=>Value.agg #[iL x.1,iL x.2])) (m:=aE (aE ([]:List (Bs× (Int×Int))) [69,113,117,97,108,115] ((2:Int),(2:Int))) [65,110,100] ((1:Int),(4:Int))) (k:=[79,114]) (v:=((1:Int),(4:Int))) (kt:=9) (et:=164) f N22 rfl (.inr rfl) (strKey kr) λW20 N23 _ f=>Y f 1 λ_ f=>Y23 (ek:=S) (ev:=(λx:Int×Int=>Value.agg #[iL x.1,iL x.2])) (m:=aE (aE (aE ([]:List (Bs× (Int×Int))) [69,113,117,97,108,115] ((2:Int),(2:Int))) [65,110,100] ((1:Int),(4:Int))) [79,114] ((1:Int),(4:Int))) (k:=[78,111,116]) (v:=((1:Int),(1:Int))) (kt:=9) (et:=164) f N23 rfl (.inr rfl) (strKey kr) λW21 N24 _ f=>Ye f 2 λ_ f=>aq ?_))
    obtain⟨ip,eD,F11⟩:=bS F10
    refine ct (λa_63 W26=>∃G1:Unit,ip=.nx G1∧∃V9:Mem,V4.le V9∧Frm 110 [(1,S X6),(4,pP Q2),(5,S X4),(6,pP Q4)] a_63∧Hp w0 V9 ((Ent.obj o1 (eK S (λx:Int×Int=>Value.agg #[iL x.1,iL x.2]) (aE (aE (aE (aE ([]:List (Bs× (Int×Int))) [69,113,117,97,108,115] ((2:Int),(2:Int))) [65,110,100] ((1:Int),(4:Int))) [79,114] ((1:Int),(4:Int))) [78,111,116] ((1:Int),(1:Int)))))::(Ent.obj Q4 (.cells (aTD0 X5 Z6 P6 Z7 P7) 26 (0,0)))::(oC Q2 #[S [],iB 0,iB 0,S [],iL 0,S [],S [],Sn,iB 0,S [],iL 0,S [],S [],Sn,Sn] 61)::H) W26) ?_ ?_
    ·refine aN (Y f 1 λ_ f=>Z f (Y30 (v:=iB X5.ab) rfl (ad:=⟨Q4,0,none⟩) (N24.ownCell 1 rfl 0)) λ_ f=>Y f 2 λ_ f=>?_)
     rcases cE eD with⟨B11,F12⟩|⟨B11,F19⟩
     ·have U6:=dI.1 B11
      have f:=f.st 50 (cB B11)
      refine Y f 1 λ_ f=>Z f (Y30 (v:=sL Z6 X5.ac P6) rfl (ad:=⟨Q4,4,none⟩) (N24.ownCell 1 rfl 4)) λ_ f=>Y f 3 λ_ f=>Z (v:=.agg #[iL ((cb (aE (aE (aE (aE ([]:List (Bs× (Int×Int))) [69,113,117,97,108,115] ((2:Int),(2:Int))) [65,110,100] ((1:Int),(4:Int))) [79,114] ((1:Int),(4:Int))) [78,111,116] ((1:Int),(1:Int))) X4).getD ((0:Int),(0:Int))).1,iL ((cb (aE (aE (aE (aE ([]:List (Bs× (Int×Int))) [69,113,117,97,108,115] ((2:Int),(2:Int))) [65,110,100] ((1:Int),(4:Int))) [79,114] ((1:Int),(4:Int))) [78,111,116] ((1:Int),(1:Int))) X4).getD ((0:Int),(0:Int))).2]) f (Y32 (ek:=S) (ev:=(λx:Int×Int=>Value.agg #[iL x.1,iL x.2])) (m:=aE (aE (aE (aE ([]:List (Bs× (Int×Int))) [69,113,117,97,108,115] ((2:Int),(2:Int))) [65,110,100] ((1:Int),(4:Int))) [79,114] ((1:Int),(4:Int))) [78,111,116] ((1:Int),(1:Int))) (k:=X4) (z:=((0:Int),(0:Int))) (kt:=9) (et:=164) rfl (strKey kr) (N24.ownObj 0 rfl)) λ_ f=>Y f 1 λ_ f=>Y f 3 λ_ f=>?_
      rcases cE F12 with⟨B12,F13⟩|⟨B12,F17⟩
      ·have U7:=dI.1 B12
       have f:=f.st 60 (cB B12)
       refine Y f 1 λ_ f=>Z f (Y30 (v:=sL Z6 X5.ac P6) rfl (ad:=⟨Q4,4,none⟩) (N24.ownCell 1 rfl 4)) λ_ f=>Y f 3 λ_ f=>Z (v:=.agg #[iL ((cb (aE (aE (aE (aE ([]:List (Bs× (Int×Int))) [69,113,117,97,108,115] ((2:Int),(2:Int))) [65,110,100] ((1:Int),(4:Int))) [79,114] ((1:Int),(4:Int))) [78,111,116] ((1:Int),(1:Int))) X4).getD ((0:Int),(0:Int))).1,iL ((cb (aE (aE (aE (aE ([]:List (Bs× (Int×Int))) [69,113,117,97,108,115] ((2:Int),(2:Int))) [65,110,100] ((1:Int),(4:Int))) [79,114] ((1:Int),(4:Int))) [78,111,116] ((1:Int),(1:Int))) X4).getD ((0:Int),(0:Int))).2]) f (Y32 (ek:=S) (ev:=(λx:Int×Int=>Value.agg #[iL x.1,iL x.2])) (m:=aE (aE (aE (aE ([]:List (Bs× (Int×Int))) [69,113,117,97,108,115] ((2:Int),(2:Int))) [65,110,100] ((1:Int),(4:Int))) [79,114] ((1:Int),(4:Int))) [78,111,116] ((1:Int),(1:Int))) (k:=X4) (z:=((0:Int),(0:Int))) (kt:=9) (et:=164) rfl (strKey kr) (N24.ownObj 0 rfl)) λ_ f=>Y f 1 λ_ f=>Y f 3 λ_ f=>?_
       rcases cE F13 with⟨B13,F14⟩|⟨B13,F15⟩
       ·have U8:=dI.1 B13
        have f:=f.st 69 (cB B13)
        refine Y18 f N24 (be _ (120:Int) X6) λW22 N25 _ f=>eT ?_
        exact⟨(),(sI F14).symm,V4,(mR _),f.kp,N25⟩
       ·have U9:=aA dI B13
        have f:=f.st 69 (cB B13)
        refine aH f N24 (bc _ (120:Int) X6) kr (λ_=>by kernel_rfl) λV6 W23 J6 N26=>?_
        have F16:=bK F15 F11
        refine bM (bM (aP f ?_))
        cases sI F16
        exact⟨V6,(((J1.trans J2).trans J4).trans J6),(N26.dropN 3),rfl⟩
      ·have U10:=aA dI B12
       have f:=f.st 60 (cB B12)
       refine Y f 10 λ_ f=>aH f N24 (bc _ (120:Int) X6) kr (λ_=>by kernel_rfl) λV7 W24 J7 N27=>?_
       have F18:=bK F17 F11
       refine bM (bM (aP f ?_))
       cases sI F18
       exact⟨V7,(((J1.trans J2).trans J4).trans J7),(N27.dropN 3),rfl⟩
     ·have U11:=aA dI B11
      have f:=f.st 50 (cB B11)
      refine Y f 20 λ_ f=>aH f N24 (bc _ (120:Int) X6) kr (λ_=>by kernel_rfl) λV8 W25 J8 N28=>?_
      have F20:=bK F19 F11
      refine bM (bM (aP f ?_))
      cases sI F20
      exact⟨V8,(((J1.trans J2).trans J4).trans J8),(N28.dropN 3),rfl⟩
    ·rintro a_63 W26 ⟨G1,rfl,V9,J9,f,N29⟩
     refine aS (aq (RR (Y f 1 λ_ f=>Z f (Y35 rfl (l:=X4) (m:=[69,113,117,97,108,115])) λ_ f=>eT (RcF f F11 (λB14 F21=>?_) λB14 F25=>?_))))
     ·have U12:=dI.1 B14
      refine RR (Y f 1 λ_ f=>Z f (Y30 (v:=sL Z6 X5.ac P6) rfl (ad:=⟨Q4,4,none⟩) (N29.ownCell 1 rfl 4)) λ_ f=>Y f 1 λ_ f=>?_)
      obtain⟨X8,l6,F22⟩:=bS F21
      rcases X8 with X9|X10
      ·refine ej (E:=[]) (H:=((Ent.obj o1 (eK S (λx:Int×Int=>Value.agg #[iL x.1,iL x.2]) (aE (aE (aE (aE ([]:List (Bs× (Int×Int))) [69,113,117,97,108,115] ((2:Int),(2:Int))) [65,110,100] ((1:Int),(4:Int))) [79,114] ((1:Int),(4:Int))) [78,111,116] ((1:Int),(1:Int)))))::(Ent.obj Q4 (.cells (aTD0 X5 Z6 P6 Z7 P7) 26 (0,0)))::(oC Q2 #[S [],iB 0,iB 0,S [],iL 0,S [],S [],Sn,iB 0,S [],iL 0,S [],S [],Sn,Sn] 61)::H)) f N29 (jL n _ (GL.mono (((J1.trans J2).trans J4).trans J9) hG) Z6 P6 X5.ac (B7.mono J9) (0:Int) X6 (.inl X9) l6) kr (λ_=>by kernel_rfl) λV10 W27 J10 N30=>bM (bM (aP f ?_))
       cases sI F22
       exact⟨V10,((((J1.trans J2).trans J4).trans J9).trans J10),(N30.dropN 3),rfl⟩
      ·refine Y17 (E:=[]) (H:=((Ent.obj o1 (eK S (λx:Int×Int=>Value.agg #[iL x.1,iL x.2]) (aE (aE (aE (aE ([]:List (Bs× (Int×Int))) [69,113,117,97,108,115] ((2:Int),(2:Int))) [65,110,100] ((1:Int),(4:Int))) [79,114] ((1:Int),(4:Int))) [78,111,116] ((1:Int),(1:Int)))))::(Ent.obj Q4 (.cells (aTD0 X5 Z6 P6 Z7 P7) 26 (0,0)))::(oC Q2 #[S [],iB 0,iB 0,S [],iL 0,S [],S [],Sn,iB 0,S [],iL 0,S [],S [],Sn,Sn] 61)::H)) f N29 (OkXH.ok (jL n _ (GL.mono (((J1.trans J2).trans J4).trans J9) hG) Z6 P6 X5.ac (B7.mono J9) (0:Int) X6 (.inr X10) l6)) λ_ V11 mN W28 J11 N31 iQ _ f=>?_
       obtain⟨Z8,P8,L1,rfl,rfl,D6⟩:=iQ
       refine Ye f 1 λ_ f=>aq (mO 7 N31 kr kr λW29 N32=>cN (v:=sL Z8 X10 P8) f kr kr rfl rfl kr λ_ f=>?_)
       obtain⟨X11,l7,F23⟩:=bS F22
       obtain⟨Q5,P9,H2,ld⟩:=N32.rowAddr 0 rfl (bh l7)
       have f:=f.st 78 (H2)
       refine cN (v:=Pa ((⟨Q5,0,none⟩:Addr).add ((0:Int).toNat*6))) f kr kr rfl rfl (Y28 rfl (ad:=⟨Q5,0,none⟩) (len:=X10.length) (cap:=P9) (k:=.i64) (i:=(0:Int)) (e:=31) (sz:=6) (az l7) (ay l7)) λ_ f=>?_
       have f:=f.st 78 (H2.symm)
       obtain⟨c_5,-,D7,R5⟩:=ag.get (0:Int).toNat (eJ bI) D6 (gE l7)
       obtain⟨Z9,P10,rfl,B15⟩:=TF0.opn D7
       refine cN (v:=.agg (aTF0 X11 Z9 P10)) f kr kr rfl rfl (Y31 (cs:=(lTF0 X11 Z9 P10)) rfl (ad:=(⟨Q5,0,none⟩:Addr).add ((0:Int).toNat*6)) (λj v h=>jD (N32.rowCell 0 rfl H2) R5 j v h)) λ_ f=>cN (v:=sL Z8 X10 P8) f kr kr rfl rfl kr λ_ f=>?_
       obtain⟨X12,l8,F24⟩:=bS F23
       obtain⟨Q6,P11,H3,hcap_2⟩:=N32.rowAddr 0 rfl (bh l8)
       have f:=f.st 81 (H3)
       refine cN (v:=Pa ((⟨Q6,0,none⟩:Addr).add ((1:Int).toNat*6))) f kr kr rfl rfl (Y28 rfl (ad:=⟨Q6,0,none⟩) (len:=X10.length) (cap:=P11) (k:=.i64) (i:=(1:Int)) (e:=31) (sz:=6) (az l8) (ay l8)) λ_ f=>?_
       have f:=f.st 81 (H3.symm)
       obtain⟨c_6,-,D8,R6⟩:=ag.get (1:Int).toNat (eJ bI) D6 (gE l8)
       obtain⟨Z10,P12,rfl,B16⟩:=TF0.opn D8
       refine cN (v:=.agg (aTF0 X12 Z10 P12)) f kr kr rfl rfl (Y31 (cs:=(lTF0 X12 Z10 P12)) rfl (ad:=(⟨Q6,0,none⟩:Addr).add ((1:Int).toNat*6)) (λj v h=>jD (N32.rowCell 0 rfl H3) R6 j v h)) λ_ f=>cN (v:=.agg #[S [],iB 0,iB X11.ab,S X11.aa,iL X11.ai,S X11.aj,S X11.ao,sL Z9 X11.fL P10,iB X12.ab,S X12.aa,iL X12.ai,S X12.aj,S X12.ao,sL Z10 X12.fL P12,Sn]) f kr kr rfl rfl kr λ_ f=>mX rfl ?_
       have N33:=N32.pl [3]
       refine Ys [S [],iB 0,iB X11.ab,S X11.aa,iL X11.ai,S X11.aj,S X11.ao,sL Z9 X11.fL P10,iB X12.ab,S X12.aa,iL X12.ai,S X12.aj,S X12.ao,sL Z10 X12.fL P12,Sn] #[S [],iB 0,iB X11.ab,S X11.aa,iL X11.ai,S X11.aj,S X11.ao,sL Z9 X11.fL P10,iB X12.ab,S X12.aa,iL X12.ai,S X12.aj,S X12.ao,sL Z10 X12.fL P12,Sn] f N33 rfl rfl λW30 N34 _ f=>Er (dj (ef f rfl (Y10 (cs:=[S [],iB 0,iB X11.ab,S X11.aa,iL X11.ai,S X11.aj,S X11.ao,sL Z9 X11.fL P10,iB X12.ab,S X12.aa,iL X12.ai,S X12.aj,S X12.ao,sL Z10 X12.fL P12,Sn]) (ad:=⟨Q2,0,none⟩) f (an (N34.ownCell 0 rfl) 0 rfl)) ?_))
       cases sI F24
       exact⟨_,rfl,V11,((((J1.trans J2).trans J4).trans J9).trans J11),(N34.dropN 4),⟨[S [],iB 0,iB X11.ab,S X11.aa,iL X11.ai,S X11.aj,S X11.ao,sL Z9 X11.fL P10,iB X12.ab,S X12.aa,iL X12.ai,S X12.aj,S X12.ao,sL Z10 X12.fL P12,Sn],rfl,(TH0.shut B15 B16 Sli.nil)⟩⟩
     ·have U13:=aA dI B14
      refine St (RR (lk S (Value.int .i8) f N29 kr kr rfl rfl rfl λo2 W31 N35 _ f=>Y23 (ek:=S) (ev:=(Value.int .i8)) (m:=([]:List (Bs×Int))) (k:=[65,110,100]) (v:=(1:Int)) (kt:=9) (et:=22) f N35 rfl (.inr rfl) (strKey kr) λW32 N36 _ f=>Y23 (ek:=S) (ev:=(Value.int .i8)) (m:=aE ([]:List (Bs×Int)) [65,110,100] (1:Int)) (k:=[79,114]) (v:=(2:Int)) (kt:=9) (et:=22) f N36 rfl (.inr rfl) (strKey kr) λW33 N37 _ f=>Y23 (ek:=S) (ev:=(Value.int .i8)) (m:=aE (aE ([]:List (Bs×Int)) [65,110,100] (1:Int)) [79,114] (2:Int)) (k:=[78,111,116]) (v:=(3:Int)) (kt:=9) (et:=22) f N37 rfl (.inr rfl) (strKey kr) λW34 N38 _ f=>Y f 2 λ_ f=>Z (v:=iB ((cb (aE (aE (aE ([]:List (Bs×Int)) [65,110,100] (1:Int)) [79,114] (2:Int)) [78,111,116] (3:Int)) X4).getD (0:Int))) f (Y32 (ek:=S) (ev:=(Value.int .i8)) (m:=aE (aE (aE ([]:List (Bs×Int)) [65,110,100] (1:Int)) [79,114] (2:Int)) [78,111,116] (3:Int)) (k:=X4) (z:=(0:Int)) (kt:=9) (et:=22) rfl (strKey kr) (N38.ownObj 0 rfl)) λ_ f=>Y f 1 λ_ f=>Y25 f N38 3 rfl rfl (b:=Q2) (j:=1) (v:=iB ((cb (aE (aE (aE ([]:List (Bs×Int)) [65,110,100] (1:Int)) [79,114] (2:Int)) [78,111,116] (3:Int)) X4).getD (0:Int))) rfl (by exact rfl) (by simp) (by simp) _ rfl λW35 N39 _ f=>eT (aq (RR (Y f 1 λ_ f=>Z f (Y30 (v:=sL Z6 X5.ac P6) rfl (ad:=⟨Q4,4,none⟩) (N39.ownCell 2 rfl 4)) λ_ f=>Ye f 2 λ_ f=>wp_block ?_)))))
      obtain⟨Z11,P13,H4⟩: ∃A cap,Value.slice none 0 0=.slice A ([]:List TH0).length cap:=⟨none,0,rfl⟩
      have N40:Hp w0 V9 ((Ent.row 61 15 (.slice Z11 ([]:List TH0).length P13) ([]:List TH0).length [])::(Ent.obj o2 (eK S (Value.int .i8) (aE (aE (aE ([]:List ((List UInt8)×Int)) [65,110,100] (1:Int)) [79,114] (2:Int)) [78,111,116] (3:Int))))::(Ent.obj o1 (eK S (λx:Int×Int=>Value.agg #[.int .i64 x.1,.int .i64 x.2]) (aE (aE (aE (aE ([]:List ((List UInt8)× (Int×Int))) [69,113,117,97,108,115] ((2:Int),(2:Int))) [65,110,100] ((1:Int),(4:Int))) [79,114] ((1:Int),(4:Int))) [78,111,116] ((1:Int),(1:Int)))))::(Ent.obj Q4 (.cells #[.int .i8 X5.ab,.bool X5.ah,.int .i64 X5.ai,S X5.aa,.slice Z6 X5.ac.length P6,.slice Z7 X5.af.length P7] 26 (0,0)))::(Ent.obj Q2 (.cells #[S [],.int .i8 ((cb (aE (aE (aE ([]:List ((List UInt8)×Int)) [65,110,100] (1:Int)) [79,114] (2:Int)) [78,111,116] (3:Int)) X4).getD (0:Int)),.int .i8 0,S [],.int .i64 0,S [],S [],.slice none 0 0,.int .i8 0,S [],.int .i64 0,S [],S [],.slice none 0 0,.slice Z11 ([]:List TH0).length P13] 61 (0,0)))::H) W35:=by rw[←H4];exact N39.nilRow 61 15
      have D9:ag V9 (([]:List TH0).map aF) []:=rfl
      obtain⟨Q7,dy,F26⟩:=bS F25
      refine wp_mono (Q:=λe a w=>(∃G3:Int×Bs,e=.panic (flawE 78 G3)∧Q7=.inl G3∧∃V18:Mem,V9.le V18∧Frm 110 [] a∧Hp w0 V18 (H) w)∨(e=.exit 0∧(∃G4:List TH0,Q7=.inr G4∧∃V19:Mem,V9.le V19∧∃ (Z24:Oa),∃ (P26:Nat),∃ (L6:Lv),ag V19 (G4.map aF) L6∧Frm 110 [(4,pP Q2)] a∧Hp w0 V19 ((rO 61 15 Z24 G4 P26 L6)::(Ent.obj o2 (eK S (Value.int .i8) (aE (aE (aE ([]:List (Bs×Int)) [65,110,100] (1:Int)) [79,114] (2:Int)) [78,111,116] (3:Int))))::(Ent.obj o1 (eK S (λx:Int×Int=>Value.agg #[iL x.1,iL x.2]) (aE (aE (aE (aE ([]:List (Bs× (Int×Int))) [69,113,117,97,108,115] ((2:Int),(2:Int))) [65,110,100] ((1:Int),(4:Int))) [79,114] ((1:Int),(4:Int))) [78,111,116] ((1:Int),(1:Int)))))::(Ent.obj Q4 (.cells (aTD0 X5 Z6 P6 Z7 P7) 26 (0,0)))::(oC Q2 #[S [],iB ((cb (aE (aE (aE ([]:List (Bs×Int)) [65,110,100] (1:Int)) [79,114] (2:Int)) [78,111,116] (3:Int)) X4).getD (0:Int)),iB 0,S [],iL 0,S [],S [],Sn,iB 0,S [],iL 0,S [],S [],Sn,sL Z24 G4 P26] 61)::H) w))) (cD (n:=110) (w0:=w0) (M:=V9) (λ (I1,K1,Z12,P14,L2)=>[(1,S X6),(4,pP Q2),(91,sL Z6 X5.ac P6),(92,iL ((X5.ac.length:Nat):Int)),(93,iL K1.1)]) (λ (I1,K1,Z12,P14,L2)=>((rO 61 15 Z12 K1.2 P14 L2)::(Ent.obj o2 (eK S (Value.int .i8) (aE (aE (aE ([]:List (Bs×Int)) [65,110,100] (1:Int)) [79,114] (2:Int)) [78,111,116] (3:Int))))::(Ent.obj o1 (eK S (λx:Int×Int=>Value.agg #[iL x.1,iL x.2]) (aE (aE (aE (aE ([]:List (Bs× (Int×Int))) [69,113,117,97,108,115] ((2:Int),(2:Int))) [65,110,100] ((1:Int),(4:Int))) [79,114] ((1:Int),(4:Int))) [78,111,116] ((1:Int),(1:Int)))))::(Ent.obj Q4 (.cells (aTD0 X5 Z6 P6 Z7 P7) 26 (0,0)))::(oC Q2 #[S [],iB ((cb (aE (aE (aE ([]:List (Bs×Int)) [65,110,100] (1:Int)) [79,114] (2:Int)) [78,111,116] (3:Int)) X4).getD (0:Int)),iB 0,S [],iL 0,S [],S [],Sn,iB 0,S [],iL 0,S [],S [],Sn,sL Z12 K1.2 P14] 61)::H)) (λ (I1,K1,Z12,P14,L2) MM=>aL (eZ n rec_syntax_cond X5 X6) I1 K1=some Q7∧ag MM (K1.2.map aF) L2) (λ (I1,K1,Z12,P14,L2)=>I1) (n,((0:Int),([]:List TH0)),Z11,P13,[]) (f.kp) N40 ⟨dy,D9⟩ ?_) ?_
      ·rintro⟨I1,K1,Z12,P14,L2⟩ V12 _ W36 J12 je f N41
       obtain⟨dL,D10⟩:=je
       obtain⟨I2,nL,rfl,ca,T1⟩:=bB dL
       unfold eZ at ca
       refine RR (Ye f 1 λ_ f=>aq (RcF f ca (λB17 F27=>?_) λB17 F35=>?_))
       ·have U14:=dI.1 B17
        refine St (aq (wp_block (RR (Y f 1 λ_ f=>?_))))
        obtain⟨X13,l9,F28⟩:=bS F27
        obtain⟨C5,c_7,e_3,-,D11,R7⟩:=Sli.at_ (B7.mono (J9.trans J12)) l9
        obtain⟨Z13,P15,Z14,P16,rfl,B18,B19⟩:=TD0.opn D11
        refine Z f (Y29 e_3 rfl (len:=X5.ac.length) (cap:=P6) (k:=.i64) (i:=K1.1) (e:=26) (sz:=6) (az l9) (ay l9)) λ_ f=>Z f (Y31 (cs:=(lTD0 X13 Z13 P15 Z14 P16)) rfl (ad:=C5.add (K1.1.toNat*6)) (λj v h=>N41.cell (R7 j v h))) λ_ f=>Y12 f N41 (.cells #[iB 0,bO false,iL 0,S [],Sn,Sn] 26 (0,0)) λQ8 W37 N42 _ f=>Y f 1 λ_ f=>Ys (lTD0 X13 Z13 P15 Z14 P16) (aTD0 X13 Z13 P15 Z14 P16) f N42 rfl rfl λW38 N43 _ f=>eT ?_
        obtain⟨nR,kl,F29⟩:=bS F28
        refine ct (λa_119 W54=>∃G2:List TH0,nR=.nx G2∧∃V17:Mem,V12.le V17∧∃ (Z23:Oa),∃ (P25:Nat),∃ (L5:Lv),ag V17 (G2.map aF) L5∧Frm 110 [(1,S X6),(4,pP Q2),(91,sL Z6 X5.ac P6),(92,iL ((X5.ac.length:Nat):Int)),(93,iL K1.1)] a_119∧Hp w0 V17 ((rO 61 15 Z23 G2 P25 L5)::(Ent.obj Q8 (.cells (aTD0 X13 Z13 P15 Z14 P16) 26 (0,0)))::(Ent.obj o2 (eK S (Value.int .i8) (aE (aE (aE ([]:List (Bs×Int)) [65,110,100] (1:Int)) [79,114] (2:Int)) [78,111,116] (3:Int))))::(Ent.obj o1 (eK S (λx:Int×Int=>Value.agg #[iL x.1,iL x.2]) (aE (aE (aE (aE ([]:List (Bs× (Int×Int))) [69,113,117,97,108,115] ((2:Int),(2:Int))) [65,110,100] ((1:Int),(4:Int))) [79,114] ((1:Int),(4:Int))) [78,111,116] ((1:Int),(1:Int)))))::(Ent.obj Q4 (.cells (aTD0 X5 Z6 P6 Z7 P7) 26 (0,0)))::(oC Q2 #[S [],iB ((cb (aE (aE (aE ([]:List (Bs×Int)) [65,110,100] (1:Int)) [79,114] (2:Int)) [78,111,116] (3:Int)) X4).getD (0:Int)),iB 0,S [],iL 0,S [],S [],Sn,iB 0,S [],iL 0,S [],S [],Sn,sL Z23 G2 P25] 61)::H) W54) ?_ ?_
        ·have N57:=N43.pl [5,5,5,5,4,5]
         obtain⟨X14,l10,F30⟩:=bS kl
         obtain⟨X15,l11,F31⟩:=bS F30
         obtain⟨O1,F32⟩:=nS F31
         refine kV (ks:=[9,10]) (E:=[rO 61 15 Z12 K1.2 P14 L2]) (Hr:=((Ent.obj Q8 (.cells (aTD0 X13 Z13 P15 Z14 P16) 26 (0,0)))::(Ent.obj o2 (eK S (Value.int .i8) (aE (aE (aE ([]:List (Bs×Int)) [65,110,100] (1:Int)) [79,114] (2:Int)) [78,111,116] (3:Int))))::(Ent.obj o1 (eK S (λx:Int×Int=>Value.agg #[iL x.1,iL x.2]) (aE (aE (aE (aE ([]:List (Bs× (Int×Int))) [69,113,117,97,108,115] ((2:Int),(2:Int))) [65,110,100] ((1:Int),(4:Int))) [79,114] ((1:Int),(4:Int))) [78,111,116] ((1:Int),(1:Int)))))::(Ent.obj Q4 (.cells (aTD0 X5 Z6 P6 Z7 P7) 26 (0,0)))::(oC Q2 #[S [],iB ((cb (aE (aE (aE ([]:List (Bs×Int)) [65,110,100] (1:Int)) [79,114] (2:Int)) [78,111,116] (3:Int)) X4).getD (0:Int)),iB 0,S [],iL 0,S [],S [],Sn,iB 0,S [],iL 0,S [],S [],Sn,sL Z12 K1.2 P14] 61)::H)) (.quiet 0 (.quiet 1 (.quiet 2 (.quiet 3 (.quiet 4 (.quiet 5 (.alt 6 (.alt 7 (.alt 8 .done .none) .none) .none))))))) N57 kr kr kr (Y1 (v:=Pa (⟨Q2,14,none⟩)) rfl f rfl rfl (λ_ _=>by kernel_rfl) λ_ f=>Y1 (v:=sL Z12 K1.2 P14) rfl f rfl rfl (λ_ pq=>Y30 (v:=sL Z12 K1.2 P14) rfl (ad:=⟨Q2,14,none⟩) (pq.ownCell 4 rfl 14)) λ_ f=>Y1 (v:=.agg (aTD0 X13 Z13 P15 Z14 P16)) rfl f rfl rfl (λ_ pq=>Y31 (cs:=(lTD0 X13 Z13 P15 Z14 P16)) rfl (ad:=⟨Q8,0,none⟩) (an (pq.ownCell 0 rfl) 0 rfl)) λ_ f=>Y1 (v:=S X6) rfl f rfl rfl (λ_ _=>by kernel_rfl) λ_ f=>Y1 (v:=iL K1.1) rfl f rfl rfl (λ_ _=>by kernel_rfl) λ_ f=>Y2 (v:=S X14) rfl f rfl rfl (dA n _ (GL.mono ((((J1.trans J2).trans J4).trans J9).trans J12) hG) X6 K1.1 X14 l10) λ_ f=>av rfl (λW45 N59=>?_) ?_)
         ·rcases X15 with X20|X21
          ·refine aH f N59 (hrec_syntax_cond _ (GL.mono ((((J1.trans J2).trans J4).trans J9).trans J12) hG) _ X13 (TD0.shutx (x:=X13) B18 B19) X14 (.inl X20) l11) kr (λ_=>by kernel_rfl) λV15 W46 J15 N60=>lj f λ_ f=>?_
           have F33:=bK F32 F29
           refine bM (kU (bM (bM ?_)))
           cases sI F33
           exact .inl ⟨X20,rfl,(sI T1).symm,V15,(J12.trans J15),f.kp,(N60.dropN 6)⟩
          ·refine Y16 f N59 (OkX.ok (hrec_syntax_cond _ (GL.mono ((((J1.trans J2).trans J4).trans J9).trans J12) hG) _ X13 (TD0.shutx (x:=X13) B18 B19) X14 (.inr X21) l11)) λ_ V16 W47 J16 N61 q_4 _ f=>?_
           obtain⟨c_9,rfl,D14⟩:=q_4
           obtain⟨Z19,P21,Z20,P22,Z21,P23,rfl,B23,B24,B25⟩:=TH0.opn D14
           refine am rfl (aw 1 J16 N61 rfl (av rfl (λW48 N62=>?_) ?_))
           ·refine aQ (k:=1) (c:=1) f N62 (.cells (aTH0 X21 Z19 P21 Z20 P22 Z21 P23) 61 (0,0)) kr (λ_=>by kernel_rfl) λQ10 W49 N63 _ f=>am rfl (aw 2 J16 N63 rfl (av rfl (λW50 N64=>?_) ?_))
            ·have N65:=N64.pl [1]
             refine Y20 (z:=.agg #[S [],iB 0,iB 0,S [],iL 0,S [],S [],Sn,iB 0,S [],iL 0,S [],S [],Sn,Sn]) (f:=aF) (xs:=K1.2) (ys:=[(⟨X21.aj,X21.ab,(⟨X21.fA.ab,X21.fA.aa,X21.fA.ai,X21.fA.aj,X21.fA.ao,X21.fA.fL⟩:TF0),(⟨X21.fB.ab,X21.fB.aa,X21.fB.ai,X21.fB.aj,X21.fB.ao,X21.fB.fL⟩:TF0),X21.fL⟩:TH0)]) (news:=(lTH0 X21 Z19 P21 Z20 P22 Z21 P23)) (ad:=⟨Q10,0,none⟩) (m:=1) (c:=1) f N65 (ag.mono J16 _ _ D10) (by exact⟨_,_,rfl,TH0.shut B23 B24 B25,rfl⟩) rfl rfl rfl rfl (an (N65.ownCell 1 rfl) 0 rfl) (by exact O1) (by have hg_:=O1;first|omega|(simp only[List.length_cons,List.length_nil] at*;omega)) λZ22 P24 L4 W51 N66 D15 _ f=>?_
             have N67:=N66.pl [1]
             have N68:=N67.drop
             refine am rfl (aw 1 J16 N68 rfl (N_tail λW52 N69=>Y f 1 λ_ f=>Y25 f N69 5 rfl rfl (b:=Q2) (j:=14) (v:=sL Z22 (K1.2++[(⟨X21.aj,X21.ab,(⟨X21.fA.ab,X21.fA.aa,X21.fA.ai,X21.fA.aj,X21.fA.ao,X21.fA.fL⟩:TF0),(⟨X21.fB.ab,X21.fB.aa,X21.fB.ai,X21.fB.aj,X21.fB.ao,X21.fB.fL⟩:TF0),X21.fL⟩:TH0)]) P24) rfl (by exact rfl) (by simp) (by simp) _ rfl λW53 N70 _ f=>am rfl (N_te (aS ?_))))
             exact⟨K1.2++[(⟨X21.aj,X21.ab,(⟨X21.fA.ab,X21.fA.aa,X21.fA.ai,X21.fA.aj,X21.fA.ao,X21.fA.fL⟩:TF0),(⟨X21.fB.ab,X21.fB.aa,X21.fB.ai,X21.fB.aj,X21.fB.ao,X21.fB.fL⟩:TF0),X21.fL⟩:TH0)],(sI F32).symm,V16,J16,Z22,P24,L4,D15,f.kp,N70⟩
            exact ar
           exact ar
         exact ar
        ·rintro a_119 W54 ⟨G2,rfl,V17,J17,Z23,P25,L5,D16,f,N71⟩
         refine gh (aS (aN ?_))
         obtain⟨O2,F34⟩:=nS F29
         refine Y f 1 λ_ f=>?_
         have f:=f.st 108 (iW O2)
         refine Y f 1 λ_ f=>am rfl ?_
         have N79:=N71.pl [5,5,5,5,4,5]
         refine aS ?_
         cases sI F34
         exact⟨⟨I2,(K1.1+1,G2),Z23,P25,L5⟩,Nat.lt_succ_self _,V17,(J12.trans J17),⟨T1,D16⟩,f.kp,(N79.dropN 1)⟩
       ·have U15:=aA dI B17
        refine wp_exit (gT (gT ?_))
        cases sI F35
        exact .inr ⟨rfl,K1.2,(sI T1).symm,V12,J12,Z12,P14,L2,D10,f.kp,N41⟩
      ·rintro _ _ W57 (⟨G3,rfl,rfl,V18,J18,f,N72⟩|⟨rfl,G4,rfl,V19,J19,Z24,P26,L6,D17,f,N73⟩)
       ·refine kU (bM (aP f ?_))
        cases sI F26
        exact⟨V18,((((J1.trans J2).trans J4).trans J9).trans J18),N72,rfl⟩
       ·refine lO (aS (RR (Z f (Y31 (cs:=[S [],iB ((cb (aE (aE (aE ([]:List (Bs×Int)) [65,110,100] (1:Int)) [79,114] (2:Int)) [78,111,116] (3:Int)) X4).getD (0:Int)),iB 0,S [],iL 0,S [],S [],Sn,iB 0,S [],iL 0,S [],S [],Sn,sL Z24 G4 P26]) rfl (ad:=⟨Q2,0,none⟩) (an (N73.ownCell 4 rfl) 0 rfl)) λ_ f=>?_)))
        obtain⟨Z25,P27,V20,H5,J20,N80,B26⟩:=N73.rowSli (f:=aF) (xs:=G4) dc D17
        have f:=Frm.set f 109 (v:=.agg #[S [],.int .i8 ((cb (aE (aE (aE ([]:List ((List UInt8)×Int)) [65,110,100] (1:Int)) [79,114] (2:Int)) [78,111,116] (3:Int)) X4).getD (0:Int)),.int .i8 0,S [],.int .i64 0,S [],S [],.slice none 0 0,.int .i8 0,S [],.int .i64 0,S [],S [],.slice none 0 0,.slice Z24 G4.length P26]) (v':=.agg #[S [],.int .i8 ((cb (aE (aE (aE ([]:List ((List UInt8)×Int)) [65,110,100] (1:Int)) [79,114] (2:Int)) [78,111,116] (3:Int)) X4).getD (0:Int)),.int .i8 0,S [],.int .i64 0,S [],S [],.slice none 0 0,.int .i8 0,S [],.int .i64 0,S [],S [],.slice none 0 0,.slice Z25 G4.length P27]) (by kernel_rfl) (by rw[H5])
        have N81:Hp w0 V20 ((Ent.obj o2 (eK S (Value.int .i8) (aE (aE (aE ([]:List (Bs×Int)) [65,110,100] (1:Int)) [79,114] (2:Int)) [78,111,116] (3:Int))))::(Ent.obj o1 (eK S (λx:Int×Int=>Value.agg #[iL x.1,iL x.2]) (aE (aE (aE (aE ([]:List (Bs× (Int×Int))) [69,113,117,97,108,115] ((2:Int),(2:Int))) [65,110,100] ((1:Int),(4:Int))) [79,114] ((1:Int),(4:Int))) [78,111,116] ((1:Int),(1:Int)))))::(Ent.obj Q4 (.cells (aTD0 X5 Z6 P6 Z7 P7) 26 (0,0)))::(oC Q2 #[S [],iB ((cb (aE (aE (aE ([]:List (Bs×Int)) [65,110,100] (1:Int)) [79,114] (2:Int)) [78,111,116] (3:Int)) X4).getD (0:Int)),iB 0,S [],iL 0,S [],S [],Sn,iB 0,S [],iL 0,S [],S [],Sn,sL Z25 G4 P27] 61)::H) W57:=by unfold sL at N80;rw[H5] at N80;exact N80
        have N82:=N81.pl [3]
        refine Ys [S [],iB ((cb (aE (aE (aE ([]:List (Bs×Int)) [65,110,100] (1:Int)) [79,114] (2:Int)) [78,111,116] (3:Int)) X4).getD (0:Int)),iB 0,S [],iL 0,S [],S [],Sn,iB 0,S [],iL 0,S [],S [],Sn,sL Z25 G4 P27] #[S [],iB ((cb (aE (aE (aE ([]:List (Bs×Int)) [65,110,100] (1:Int)) [79,114] (2:Int)) [78,111,116] (3:Int)) X4).getD (0:Int)),iB 0,S [],iL 0,S [],S [],Sn,iB 0,S [],iL 0,S [],S [],Sn,sL Z25 G4 P27] f N82 rfl rfl λW58 N83 _ f=>Er (ef f rfl (Y10 (cs:=[S [],iB ((cb (aE (aE (aE ([]:List (Bs×Int)) [65,110,100] (1:Int)) [79,114] (2:Int)) [78,111,116] (3:Int)) X4).getD (0:Int)),iB 0,S [],iL 0,S [],S [],Sn,iB 0,S [],iL 0,S [],S [],Sn,sL Z25 G4 P27]) (ad:=⟨Q2,0,none⟩) f (an (N83.ownCell 0 rfl) 0 rfl)) ?_)
        cases sI F26
        exact⟨_,rfl,V20,(((((J1.trans J2).trans J4).trans J9).trans J19).trans J20),(N83.dropN 4),⟨[S [],iB ((cb (aE (aE (aE ([]:List (Bs×Int)) [65,110,100] (1:Int)) [79,114] (2:Int)) [78,111,116] (3:Int)) X4).getD (0:Int)),iB 0,S [],iL 0,S [],S [],Sn,iB 0,S [],iL 0,S [],S [],Sn,sL Z25 G4 P27],rfl,(TH0.shut Sli.nil Sli.nil B26)⟩⟩
  ·have U16:=aA dI B6
   have f:=f.st 18 (cB B6)
   refine aH f N7 (bc _ (120:Int) d1) kr (λ_=>by kernel_rfl) λV21 W59 J21 N84=>bM (aP f ?_)
   cases sI F36
   exact⟨V21,(((J1.trans J2).trans J4).trans J21),(N84.dropN 1),rfl⟩
def dM (n:Nat):Nat→TD0→Bs→Option (Sum (Int×Bs) TH0)
 |0=>λ_ _=>none
 |k+1=>gn n (dM n k)
def mD (n:Nat) (d0:TD0) (d1:Bs):Option (Sum (Int×Bs) TH0):=dM n n d0 d1
theorem kx (n:Nat) (M:Mem) (hG:GL M) (c0:Lv) (d0:TD0) (h0:Rep M (ap d0) c0) (d1:Bs) (r:Sum (Int×Bs) TH0) (hF:mD n d0 d1=some r):OkX Tryz.prog M 98 [.agg c0.toArray,S d1] 78 r (λr=>λM' v=>∃ (c0:Lv),v=.agg c0.toArray∧Rep M' (aF r) c0):=by
 have key: ∀ (k:Nat) (M:Mem) (hG:GL M) (c0:Lv) (d0:TD0) (h0:Rep M (ap d0) c0) (d1:Bs) (r:Sum (Int×Bs) TH0) (hF:dM n k d0 d1=some r),OkX Tryz.prog M 98 [.agg c0.toArray,S d1] 78 r (λr=>λM' v=>∃ (c0:Lv),v=.agg c0.toArray∧Rep M' (aF r) c0):=by
  intro k
  induction k with
  |zero=>intro M hG c0 d0 h0 d1 r hF;simp[dM] at hF
  |succ k ih=>intro M hG c0 d0 h0 d1 r hF;exact ml n (dM n k) ih M hG c0 d0 h0 d1 r hF
 exact key n M hG c0 d0 h0 d1 r hF
def ga (n:Nat) (d0:Bs) (d1:TD0) (d2:Bs):Option (Sum (Int×Bs) TH0):=
 (mD n d1 d2).bind λX1=>
 (match X1 with
 |.inl X2=>some (.inl X2)
 |.inr X3=>(aM n d2 [67,111,110,100,105,116,105,111,110]).bind λX4=>
  bif(!(decide (X3.ab=4))) then
   (some (.inr (⟨d0,X3.ab,(⟨X3.fA.ab,X3.fA.aa,X3.fA.ai,X3.fA.aj,X3.fA.ao,X3.fA.fL⟩:TF0),(⟨X3.fB.ab,X3.fB.aa,X3.fB.ai,X3.fB.aj,X3.fB.ao,X3.fB.fL⟩:TF0),X3.fL⟩:TH0)))
  else
   some (.inl ((120:Int),X4)))
theorem bN (n:Nat) (M:Mem) (hG:GL M) (d0:Bs) (c1:Lv) (d1:TD0) (h1:Rep M (ap d1) c1) (d2:Bs) (r:Sum (Int×Bs) TH0) (hF:ga n d0 d1 d2=some r):OkX Tryz.prog M 52 [S d0,.agg c1.toArray,S d2] 78 r (λr=>λM' v=>∃ (c0:Lv),v=.agg c0.toArray∧Rep M' (aF r) c0):=by
 unfold ga at hF
 intro M1 hM0 w0 H w p0
 replace hG:=GL.mono hM0 hG
 replace h1:=Rep.mono hM0 _ _ h1
 obtain⟨Z1,P1,Z2,P2,rfl,B1,B2⟩:=TD0.opn h1
 refine Re 20 Tryz.func52 rfl λa0 f0=>RR (Y13 (cs:=(aTD0 d1 Z1 P1 Z2 P2)) (T:=26) f0 p0 λQ1 V1 W1 J1 R1 N1 _ f=>?_)
 have R2:=bR R1
 refine Y12 f N1 (.cells #[S [],iB 0,iB 0,S [],iL 0,S [],S [],Sn,iB 0,S [],iL 0,S [],S [],Sn,Sn] 61 (0,0)) λQ2 W2 N2 _ f=>eT (RR (Z f (Y31 (cs:=(lTD0 d1 Z1 P1 Z2 P2)) rfl (ad:=⟨Q1,0,none⟩) (λj v h=>N2.cell (R2 j v h))) λ_ f=>Y f 1 λ_ f=>?_))
 obtain⟨X1,l1,F1⟩:=bS hF
 rcases X1 with X2|X3
 ·refine aH f N2 (kx n _ (GL.mono J1 hG) _ d1 (TD0.shutx (x:=d1) (B1.mono J1) (B2.mono J1)) d2 (.inl X2) l1) kr (λ_=>by kernel_rfl) λV2 W3 J2 N3=>bM (aP f ?_)
  cases sI F1
  exact⟨V2,(J1.trans J2),(N3.dropN 1),rfl⟩
 ·refine Y16 f N2 (OkX.ok (kx n _ (GL.mono J1 hG) _ d1 (TD0.shutx (x:=d1) (B1.mono J1) (B2.mono J1)) d2 (.inr X3) l1)) λ_ V3 W4 J3 N4 eM _ f=>?_
  obtain⟨eF,rfl,D1⟩:=eM
  obtain⟨Z3,P3,Z4,P4,Z5,P5,rfl,B3,B4,B5⟩:=TH0.opn D1
  refine Y12 f N4 (.cells #[S [],iB 0,iB 0,S [],iL 0,S [],S [],Sn,iB 0,S [],iL 0,S [],S [],Sn,Sn] 61 (0,0)) λQ3 W5 N5 _ f=>Ys (lTH0 X3 Z3 P3 Z4 P4 Z5 P5) (aTH0 X3 Z3 P3 Z4 P4 Z5 P5) f N5 rfl rfl λW6 N6 _ f=>eT (aq (ei (E:=[]) (Hr:=((Ent.obj Q3 (.cells (aTH0 X3 Z3 P3 Z4 P4 Z5 P5) 61 (0,0)))::(oC Q2 #[S [],iB 0,iB 0,S [],iL 0,S [],S [],Sn,iB 0,S [],iL 0,S [],S [],Sn,Sn] 61)::H)) [(0,true),(1,true),(2,true),(3,true),(4,true),(5,false)] N6 kr kr rfl kr (Y0 default f 1 λ_ f=>cg (v:=iB X3.ab) f kr kr rfl rfl (λ_ pq=>Y30 (v:=iB X3.ab) rfl (ad:=⟨Q3,1,none⟩) (pq.ownCell 0 rfl 1)) λ_ f=>Y0 default f 2 λ_ f=>?_)))
  obtain⟨X4,l2,F2⟩:=bS F1
  refine eE (v:=S X4) f kr kr rfl rfl (λ_=>by kernel_rfl) (aK n _ (GL.mono (J1.trans J3) hG) d2 [67,111,110,100,105,116,105,111,110] X4 l2) λ_ f=>cd (E:=[]) λW8 N8=>?_
  rcases cE F2 with⟨B6,F3⟩|⟨B6,F4⟩
  ·have U1: ¬ (X3.ab=4):=(cn dI).1 B6
   have f:=f.st 13 (cB B6)
   refine Y18 f N8 (be _ (120:Int) X4) λW9 N9 _ f=>am rfl (dC (M1:=V3) (E:=[]) (mR _) N9 (eh rfl λW10 N10=>aS (RR (Y f 2 λ_ f=>Y25 f N10 0 rfl rfl (b:=Q3) (j:=0) (v:=S d0) rfl (by exact rfl) (by simp) (by simp) _ rfl λW11 N11 _ f=>eT (RR (Z f (Y31 (cs:=[S d0,iB X3.ab,iB X3.fA.ab,S X3.fA.aa,iL X3.fA.ai,S X3.fA.aj,S X3.fA.ao,sL Z3 X3.fA.fL P3,iB X3.fB.ab,S X3.fB.aa,iL X3.fB.ai,S X3.fB.aj,S X3.fB.ao,sL Z4 X3.fB.fL P4,sL Z5 X3.fL P5]) rfl (ad:=⟨Q3,0,none⟩) (an (N11.ownCell 0 rfl) 0 rfl)) λ_ f=>?_))))))
   have N12:=N11.pl [1]
   refine Ys [S d0,iB X3.ab,iB X3.fA.ab,S X3.fA.aa,iL X3.fA.ai,S X3.fA.aj,S X3.fA.ao,sL Z3 X3.fA.fL P3,iB X3.fB.ab,S X3.fB.aa,iL X3.fB.ai,S X3.fB.aj,S X3.fB.ao,sL Z4 X3.fB.fL P4,sL Z5 X3.fL P5] #[S d0,iB X3.ab,iB X3.fA.ab,S X3.fA.aa,iL X3.fA.ai,S X3.fA.aj,S X3.fA.ao,sL Z3 X3.fA.fL P3,iB X3.fB.ab,S X3.fB.aa,iL X3.fB.ai,S X3.fB.aj,S X3.fB.ao,sL Z4 X3.fB.fL P4,sL Z5 X3.fL P5] f N12 rfl rfl λW12 N13 _ f=>Er (ef f rfl (Y10 (cs:=[S d0,iB X3.ab,iB X3.fA.ab,S X3.fA.aa,iL X3.fA.ai,S X3.fA.aj,S X3.fA.ao,sL Z3 X3.fA.fL P3,iB X3.fB.ab,S X3.fB.aa,iL X3.fB.ai,S X3.fB.aj,S X3.fB.ao,sL Z4 X3.fB.fL P4,sL Z5 X3.fL P5]) (ad:=⟨Q2,0,none⟩) f (an (N13.ownCell 0 rfl) 0 rfl)) ?_)
   cases sI F3
   exact⟨_,rfl,V3,(J1.trans J3),(N13.dropN 2),⟨[S d0,iB X3.ab,iB X3.fA.ab,S X3.fA.aa,iL X3.fA.ai,S X3.fA.aj,S X3.fA.ao,sL Z3 X3.fA.fL P3,iB X3.fB.ab,S X3.fB.aa,iL X3.fB.ai,S X3.fB.aj,S X3.fB.ao,sL Z4 X3.fB.fL P4,sL Z5 X3.fL P5],rfl,(TH0.shut B3 B4 B5)⟩⟩
  ·have U2: ¬ (¬ (X3.ab=4)):=aA (cn dI) B6
   have f:=f.st 13 (cB B6)
   refine aH f N8 (bc _ (120:Int) X4) kr (λ_=>by kernel_rfl) λV4 W13 J4 N14=>lj f λ_ f=>bM (aP f ?_)
   cases sI F4
   exact⟨V4,((J1.trans J3).trans J4),(N14.dropN 2),rfl⟩
def da (n:Nat) (d0:Bs) (d1:TD0) (d2:Bs) (aB:List TE0) (ak:List TH0) (aC:List TB0) (aD:List TC0):Option (Sum (Int×Bs) (List TE0×List TH0×List TB0×List TC0)):=
 (((ga n d0 d1 d2).bind λX1=>
   bb ((ak.length+1)*224≤140737488355328)<|
   (aU (ak++[(⟨([]:Bs),(0:Int),ae,ae,([]:List TH0)⟩:TH0)]) ((ak.length:Nat):Int)).bind λX4=>
   (match X1 with
   |.inl X6=>((some (.inl X6):Option (Sum (Int×Bs) (List TE0×List TH0×List TB0×List TC0)))).map Lp.br
   |.inr X7=>some (.nx ((ak++[(⟨([]:Bs),(0:Int),ae,ae,([]:List TH0)⟩:TH0)]).set ((ak.length:Nat):Int).toNat X7))):Option (Lp (List TH0) (Sum (Int×Bs) (List TE0×List TH0×List TB0×List TC0))))).bind λj=>joinF j λG1=>
 some (.inr (aB,G1,aC,aD))
end Go.Proofs.YtkopljikappieaaGreatDoor
