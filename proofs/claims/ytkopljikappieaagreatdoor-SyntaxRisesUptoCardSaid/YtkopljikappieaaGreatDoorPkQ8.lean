/-
  Texts of this claim, packed (what nothing names is left out): ZW, LR, SynL2, Vo2, Op. Own work, partly printed by own programs. No condition.
-/
import Derived.Test.YtkopljikappieaaGreatDoorPkQ7
import Derived.Test.YtkopljikappieaaGreatDoorPkQ2
import Derived.Test.YtkopljikappieaaGreatDoorPkQ1
import Derived.Test.YtkopljikappieaaGreatDoorRows
set_option linter.unusedVariables false
set_option linter.unusedSimpArgs false
set_option maxHeartbeats 2000000
section
namespace Go.Proofs.YtkopljikappieaaGreatDoor
open Go Go.Vc Go.RowKit
def eO (n:Nat):Option Bool:=
 (iU n (⟨(5:Int),(false),(0:Int),([]:Bs),[(⟨(3:Int),(false),(0:Int),[65],([]:List TD0),([]:List Bs)⟩:TD0)],([[82,101,102]]:List Bs)⟩:TD0)).bind λX1=>
 (aU [(⟨(3:Int),(false),(0:Int),[65],([]:List TD0),([]:List Bs)⟩:TD0)] (0:Int)).bind λX2=>
 (aU [(⟨(3:Int),(false),(0:Int),[65],([]:List TD0),([]:List Bs)⟩:TD0)] (0:Int)).bind λX3=>
 (iU n (⟨(5:Int),(false),(0:Int),([]:Bs),[(⟨X2.ab,(X2.ah),X2.ai,X2.aa,X2.ac,X2.af⟩:TD0),(⟨X3.ab,(X3.ah),X3.ai,X3.aa,X3.ac,X3.af⟩:TD0)],([[82,101,102],[83,117,98]]:List Bs)⟩:TD0)).bind λX4=>
 (ia n (⟨(5:Int),(false),(0:Int),([]:Bs),[(⟨(5:Int),(false),(0:Int),([]:Bs),[(⟨(5:Int),(false),(0:Int),([]:Bs),([]:List TD0),([]:List Bs)⟩:TD0)],([[65]]:List Bs)⟩:TD0)],([[82,101,115,111,117,114,99,101,115]]:List Bs)⟩:TD0)).bind λX5=>
 bif(decide (X1.2.2=0)) then
  (bif(decide (X1.1.ab=3)) then
   (bif(decide (X1.1.aj=[65])) then
    (bif(decide (X4.2.2=121)) then
     (bif(decide (X4.2.1=[])) then
      (bif(decide (X5.2.2=120)) then
       (some ((decide (X5.2.1=[82,101,115,111,117,114,99,101,115,47,65]))))
      else
       some ((false)))
     else
      some ((false)))
    else
     some ((false)))
   else
    some ((false)))
  else
   some ((false)))
 else
  some ((false))
set_option maxRecDepth 20000 in
theorem iD (n:Nat) (M:Mem) (hG:GL M) (r:Bool) (hF:eO n=some r):Ok Tryz.prog M 7 [] (λ_ v=>v=bO r):=by
 unfold eO at hF
 intro M1 hM0 w0 H w p0
 replace hG:=GL.mono hM0 hG
 refine Re 83 Tryz.func7 rfl λa0 f0=>RR (Ye f0 1 λ_ f=>RR (aQ (k:=1) (c:=1) f p0 (.cells #[S [82,101,102]] 9 (0,0)) kr (λ_=>by kernel_rfl) λQ1 W1 N1 _ f=>Y f 1 λ_ f=>aQ (k:=1) (c:=1) f N1 (.cells #[iB 3,bO false,iL 0,S [65],Sn,Sn] 26 (0,0)) kr (λ_=>by kernel_rfl) λQ2 W2 N2 _ f=>Y f 1 λ_ f=>Y12 f N2 (.cells #[iB 0,bO false,iL 0,S [],Sn,Sn] 26 (0,0)) λQ3 W3 N3 _ f=>?_))
 have N4:=N3.pl [1]
 have D1:ag M1 ([(⟨(3:Int),(false),(0:Int),[65],([]:List TD0),([]:List Bs)⟩:TD0)].map ap) [iB 3,bO false,iL 0,S [65],Sn,Sn]:=⟨_,_,rfl,TD0.shut Sli.nil Sli.nil,rfl⟩
 have N5:Hp w0 M1 ((Ent.row 26 6 (.slice (some ⟨Q2,0,none⟩) 1 1) [(⟨(3:Int),(false),(0:Int),[65],([]:List TD0),([]:List Bs)⟩:TD0)].length [iB 3,bO false,iL 0,S [65],Sn,Sn])::(oC Q3 #[iB 0,bO false,iL 0,S [],Sn,Sn] 26)::(oC Q1 #[S [82,101,102]] 9)::H) W3:=N4.objRow (n:=1) (cap:=1) (size:=6) (by decide) (by decide) (dS (by decide) rfl) rfl rfl
 obtain⟨Z1,P1,V1,H1,J1,N6,B1⟩:=N5.rowSli (f:=ap) (xs:=[(⟨(3:Int),(false),(0:Int),[65],([]:List TD0),([]:List Bs)⟩:TD0)]) jG D1
 have f:=Frm.set f 16 (v:=.agg #[.int .i8 5,.bool false,.int .i64 0,S [],.slice (some ⟨Q2,0,none⟩) 1 1,.slice (some ⟨Q1,0,none⟩) 1 1]) (v':=.agg #[.int .i8 5,.bool false,.int .i64 0,S [],.slice Z1 [(⟨(3:Int),(false),(0:Int),[65],([]:List TD0),([]:List (List UInt8))⟩:TD0)].length P1,.slice (some ⟨Q1,0,none⟩) 1 1]) (by kernel_rfl) (by rw[H1])
 have N7:=N6.pl [1]
 have D2:ag V1 (([[82,101,102]]:List Bs).map Dat.str) [S [82,101,102]]:=⟨_,_,rfl,rfl,rfl⟩
 have N8:Hp w0 V1 ((Ent.row 9 1 (.slice (some ⟨Q1,0,none⟩) 1 1) ([[82,101,102]]:List Bs).length [S [82,101,102]])::(oC Q3 #[iB 0,bO false,iL 0,S [],Sn,Sn] 26)::H) W3:=N7.objRow (n:=1) (cap:=1) (size:=1) (by decide) (by decide) (dS (by decide) rfl) rfl rfl
 obtain⟨Z2,P2,V2,H2,J2,N9,B2⟩:=N8.rowSli (f:=Dat.str) (xs:=([[82,101,102]]:List Bs)) bZ D2
 have f:=Frm.set f 16 (v:=.agg #[.int .i8 5,.bool false,.int .i64 0,S [],.slice Z1 [(⟨(3:Int),(false),(0:Int),[65],([]:List TD0),([]:List (List UInt8))⟩:TD0)].length P1,.slice (some ⟨Q1,0,none⟩) 1 1]) (v':=.agg #[.int .i8 5,.bool false,.int .i64 0,S [],.slice Z1 [(⟨(3:Int),(false),(0:Int),[65],([]:List TD0),([]:List (List UInt8))⟩:TD0)].length P1,.slice Z2 ([[82,101,102]]:List (List UInt8)).length P2]) (by kernel_rfl) (by rw[H2])
 refine Ys [iB 5,bO false,iL 0,S [],sL Z1 [(⟨(3:Int),(false),(0:Int),[65],([]:List TD0),([]:List Bs)⟩:TD0)] P1,sL Z2 ([[82,101,102]]:List Bs) P2] #[iB 5,bO false,iL 0,S [],sL Z1 [(⟨(3:Int),(false),(0:Int),[65],([]:List TD0),([]:List Bs)⟩:TD0)] P1,sL Z2 ([[82,101,102]]:List Bs) P2] f N9 rfl rfl λW4 N10 _ f=>eT (RR (Z f (Y31 (cs:=[iB 5,bO false,iL 0,S [],sL Z1 [(⟨(3:Int),(false),(0:Int),[65],([]:List TD0),([]:List Bs)⟩:TD0)] P1,sL Z2 ([[82,101,102]]:List Bs) P2]) rfl (ad:=⟨Q3,0,none⟩) (an (N10.ownCell 0 rfl) 0 rfl)) λ_ f=>?_))
 obtain⟨X1,l1,F1⟩:=bS hF
 refine Y16 f N10 (kv n _ (GL.mono (J1.trans J2) hG) _ (⟨(5:Int),(false),(0:Int),([]:Bs),[(⟨(3:Int),(false),(0:Int),[65],([]:List TD0),([]:List Bs)⟩:TD0)],([[82,101,102]]:List Bs)⟩:TD0) (TD0.shut (B1.mono J2) B2) X1 l1) λ_ V3 W5 J3 N11 eM _ f=>?_
 obtain⟨eF,rfl,D3⟩:=eM
 obtain⟨Z3,P3,rfl,B3⟩:=TF0.opn D3
 refine Y f 4 λ_ f=>Y12 f N11 (.cells #[iB 0,S [],iL 0,S [],S [],Sn] 31 (0,0)) λQ4 W6 N12 _ f=>Ys (lTF0 X1.1 Z3 P3) (aTF0 X1.1 Z3 P3) f N12 rfl rfl λW7 N13 _ f=>Ye f 2 λ_ f=>RR (Z f (Y31 (cs:=[iB 5,bO false,iL 0,S [],sL Z1 [(⟨(3:Int),(false),(0:Int),[65],([]:List TD0),([]:List Bs)⟩:TD0)] P1,sL Z2 ([[82,101,102]]:List Bs) P2]) rfl (ad:=⟨Q3,0,none⟩) (an (N13.ownCell 1 rfl) 0 rfl)) λ_ f=>Y12 f N13 (.cells #[iB 0,bO false,iL 0,S [],Sn,Sn] 26 (0,0)) λQ5 W8 N14 _ f=>Ys [iB 5,bO false,iL 0,S [],sL Z1 [(⟨(3:Int),(false),(0:Int),[65],([]:List TD0),([]:List Bs)⟩:TD0)] P1,sL Z2 ([[82,101,102]]:List Bs) P2] #[iB 5,bO false,iL 0,S [],sL Z1 [(⟨(3:Int),(false),(0:Int),[65],([]:List TD0),([]:List Bs)⟩:TD0)] P1,sL Z2 ([[82,101,102]]:List Bs) P2] f N14 rfl rfl λW9 N15 _ f=>eT (RR (aQ (k:=2) (c:=2) f N15 (.cells #[S [82,101,102],S [83,117,98]] 9 (0,0)) kr (λ_=>by kernel_rfl) λQ6 W10 N16 _ f=>Y f 1 λ_ f=>Y25 f N16 1 rfl rfl (b:=Q5) (j:=5) (v:=.slice (some ⟨Q6,0,none⟩) 2 2) rfl (by exact rfl) (by simp) (by simp) _ rfl λW11 N17 _ f=>eT (aq (mO 8 N17 kr kr λW12 N18=>cN (v:=Pa (⟨Q3,4,none⟩)) f kr kr rfl rfl kr λ_ f=>cN (v:=sL Z1 [(⟨(3:Int),(false),(0:Int),[65],([]:List TD0),([]:List Bs)⟩:TD0)] P1) f kr kr rfl rfl (Y30 (v:=sL Z1 [(⟨(3:Int),(false),(0:Int),[65],([]:List TD0),([]:List Bs)⟩:TD0)] P1) rfl (ad:=⟨Q3,4,none⟩) (N18.ownCell 3 rfl 4)) λ_ f=>?_)))))
 obtain⟨X2,l2,F2⟩:=bS F1
 obtain⟨C1,iA,jV,-,D4,R1⟩:=Sli.at_ (B1.mono (J2.trans J3)) l2
 obtain⟨Z4,P4,Z5,P5,rfl,B4,B5⟩:=TD0.opn D4
 refine cN (v:=Pa (C1.add ((0:Int).toNat*6))) f kr kr rfl rfl (Y29 jV rfl (len:=[(⟨(3:Int),(false),(0:Int),[65],([]:List TD0),([]:List Bs)⟩:TD0)].length) (cap:=P1) (k:=.i64) (i:=(0:Int)) (e:=26) (sz:=6) (az l2) (ay l2)) λ_ f=>cN (v:=.agg (aTD0 X2 Z4 P4 Z5 P5)) f kr kr rfl rfl (Y31 (cs:=(lTD0 X2 Z4 P4 Z5 P5)) rfl (ad:=C1.add ((0:Int).toNat*6)) (λj v h=>N18.cell (R1 j v h))) λ_ f=>cN (v:=Pa (⟨Q3,4,none⟩)) f kr kr rfl rfl kr λ_ f=>cN (v:=sL Z1 [(⟨(3:Int),(false),(0:Int),[65],([]:List TD0),([]:List Bs)⟩:TD0)] P1) f kr kr rfl rfl (Y30 (v:=sL Z1 [(⟨(3:Int),(false),(0:Int),[65],([]:List TD0),([]:List Bs)⟩:TD0)] P1) rfl (ad:=⟨Q3,4,none⟩) (N18.ownCell 3 rfl 4)) λ_ f=>?_
 obtain⟨X3,l3,F3⟩:=bS F2
 obtain⟨C2,c_3,e_2,-,D5,R2⟩:=Sli.at_ (B1.mono (J2.trans J3)) l3
 obtain⟨Z6,P6,Z7,P7,rfl,B6,B7⟩:=TD0.opn D5
 refine cN (v:=Pa (C2.add ((0:Int).toNat*6))) f kr kr rfl rfl (Y29 e_2 rfl (len:=[(⟨(3:Int),(false),(0:Int),[65],([]:List TD0),([]:List Bs)⟩:TD0)].length) (cap:=P1) (k:=.i64) (i:=(0:Int)) (e:=26) (sz:=6) (az l3) (ay l3)) λ_ f=>cN (v:=.agg (aTD0 X3 Z6 P6 Z7 P7)) f kr kr rfl rfl (Y31 (cs:=(lTD0 X3 Z6 P6 Z7 P7)) rfl (ad:=C2.add ((0:Int).toNat*6)) (λj v h=>N18.cell (R2 j v h))) λ_ f=>mX rfl (aQ (k:=2) (c:=2) f N18 (.cells #[iB X2.ab,bO X2.ah,iL X2.ai,S X2.aa,sL Z4 X2.ac P4,sL Z5 X2.af P5,iB X3.ab,bO X3.ah,iL X3.ai,S X3.aa,sL Z6 X3.ac P6,sL Z7 X3.af P7] 26 (0,0)) kr (λ_=>by kernel_rfl) λQ7 W13 N19 _ f=>Y f 1 λ_ f=>Y25 f N19 2 rfl rfl (b:=Q5) (j:=4) (v:=.slice (some ⟨Q7,0,none⟩) 2 2) rfl (by exact rfl) (by simp) (by simp) _ rfl λW14 N20 _ f=>eT (RR (Z f (Y31 (cs:=[iB 5,bO false,iL 0,S [],.slice (some ⟨Q7,0,none⟩) 2 2,.slice (some ⟨Q6,0,none⟩) 2 2]) rfl (ad:=⟨Q5,0,none⟩) (an (N20.ownCell 2 rfl) 0 rfl)) λ_ f=>?_)))
 have D6:ag V3 ([(⟨X2.ab,(X2.ah),X2.ai,X2.aa,X2.ac,X2.af⟩:TD0),(⟨X3.ab,(X3.ah),X3.ai,X3.aa,X3.ac,X3.af⟩:TD0)].map ap) [iB X2.ab,bO X2.ah,iL X2.ai,S X2.aa,sL Z4 X2.ac P4,sL Z5 X2.af P5,iB X3.ab,bO X3.ah,iL X3.ai,S X3.aa,sL Z6 X3.ac P6,sL Z7 X3.af P7]:=⟨_,_,rfl,TD0.shut B4 B5,⟨_,_,rfl,TD0.shut B6 B7,rfl⟩⟩
 have N21:Hp w0 V3 ((Ent.row 26 6 (.slice (some ⟨Q7,0,none⟩) 2 2) [(⟨X2.ab,(X2.ah),X2.ai,X2.aa,X2.ac,X2.af⟩:TD0),(⟨X3.ab,(X3.ah),X3.ai,X3.aa,X3.ac,X3.af⟩:TD0)].length [iB X2.ab,bO X2.ah,iL X2.ai,S X2.aa,sL Z4 X2.ac P4,sL Z5 X2.af P5,iB X3.ab,bO X3.ah,iL X3.ai,S X3.aa,sL Z6 X3.ac P6,sL Z7 X3.af P7])::(oC Q6 #[S [82,101,102],S [83,117,98]] 9)::(oC Q5 #[iB 5,bO false,iL 0,S [],.slice (some ⟨Q7,0,none⟩) 2 2,.slice (some ⟨Q6,0,none⟩) 2 2] 26)::(Ent.obj Q4 (.cells (aTF0 X1.1 Z3 P3) 31 (0,0)))::(oC Q3 #[iB 5,bO false,iL 0,S [],sL Z1 [(⟨(3:Int),(false),(0:Int),[65],([]:List TD0),([]:List Bs)⟩:TD0)] P1,sL Z2 ([[82,101,102]]:List Bs) P2] 26)::H) W14:=N20.objRow (n:=2) (cap:=2) (size:=6) (by decide) (by decide) (dS (by decide) rfl) rfl rfl
 obtain⟨Z8,P8,V4,H3,J4,N22,B8⟩:=N21.rowSli (f:=ap) (xs:=[(⟨X2.ab,(X2.ah),X2.ai,X2.aa,X2.ac,X2.af⟩:TD0),(⟨X3.ab,(X3.ah),X3.ai,X3.aa,X3.ac,X3.af⟩:TD0)]) jG D6
 have f:=Frm.set f 37 (v:=.agg #[.int .i8 5,.bool false,.int .i64 0,S [],.slice (some ⟨Q7,0,none⟩) 2 2,.slice (some ⟨Q6,0,none⟩) 2 2]) (v':=.agg #[.int .i8 5,.bool false,.int .i64 0,S [],.slice Z8 [(⟨X2.ab,(X2.ah),X2.ai,X2.aa,X2.ac,X2.af⟩:TD0),(⟨X3.ab,(X3.ah),X3.ai,X3.aa,X3.ac,X3.af⟩:TD0)].length P8,.slice (some ⟨Q6,0,none⟩) 2 2]) (by kernel_rfl) (by rw[H3])
 have f:=f.st 34 (H3)
 have N23:Hp w0 V4 ((oC Q6 #[S [82,101,102],S [83,117,98]] 9)::(oC Q5 #[iB 5,bO false,iL 0,S [],sL Z8 [(⟨X2.ab,(X2.ah),X2.ai,X2.aa,X2.ac,X2.af⟩:TD0),(⟨X3.ab,(X3.ah),X3.ai,X3.aa,X3.ac,X3.af⟩:TD0)] P8,.slice (some ⟨Q6,0,none⟩) 2 2] 26)::(Ent.obj Q4 (.cells (aTF0 X1.1 Z3 P3) 31 (0,0)))::(oC Q3 #[iB 5,bO false,iL 0,S [],sL Z1 [(⟨(3:Int),(false),(0:Int),[65],([]:List TD0),([]:List Bs)⟩:TD0)] P1,sL Z2 ([[82,101,102]]:List Bs) P2] 26)::H) W14:=by unfold sL at N22;rw[H3] at N22;exact N22
 have D7:ag V4 (([[82,101,102],[83,117,98]]:List Bs).map Dat.str) [S [82,101,102],S [83,117,98]]:=⟨_,_,rfl,rfl,⟨_,_,rfl,rfl,rfl⟩⟩
 have N24:Hp w0 V4 ((Ent.row 9 1 (.slice (some ⟨Q6,0,none⟩) 2 2) ([[82,101,102],[83,117,98]]:List Bs).length [S [82,101,102],S [83,117,98]])::(oC Q5 #[iB 5,bO false,iL 0,S [],sL Z8 [(⟨X2.ab,(X2.ah),X2.ai,X2.aa,X2.ac,X2.af⟩:TD0),(⟨X3.ab,(X3.ah),X3.ai,X3.aa,X3.ac,X3.af⟩:TD0)] P8,.slice (some ⟨Q6,0,none⟩) 2 2] 26)::(Ent.obj Q4 (.cells (aTF0 X1.1 Z3 P3) 31 (0,0)))::(oC Q3 #[iB 5,bO false,iL 0,S [],sL Z1 [(⟨(3:Int),(false),(0:Int),[65],([]:List TD0),([]:List Bs)⟩:TD0)] P1,sL Z2 ([[82,101,102]]:List Bs) P2] 26)::H) W14:=N23.objRow (n:=2) (cap:=2) (size:=1) (by decide) (by decide) (dS (by decide) rfl) rfl rfl
 obtain⟨Z9,P9,V5,H4,J5,N25,B9⟩:=N24.rowSli (f:=Dat.str) (xs:=([[82,101,102],[83,117,98]]:List Bs)) bZ D7
 have f:=Frm.set f 37 (v:=.agg #[.int .i8 5,.bool false,.int .i64 0,S [],.slice Z8 [(⟨X2.ab,(X2.ah),X2.ai,X2.aa,X2.ac,X2.af⟩:TD0),(⟨X3.ab,(X3.ah),X3.ai,X3.aa,X3.ac,X3.af⟩:TD0)].length P8,.slice (some ⟨Q6,0,none⟩) 2 2]) (v':=.agg #[.int .i8 5,.bool false,.int .i64 0,S [],.slice Z8 [(⟨X2.ab,(X2.ah),X2.ai,X2.aa,X2.ac,X2.af⟩:TD0),(⟨X3.ab,(X3.ah),X3.ai,X3.aa,X3.ac,X3.af⟩:TD0)].length P8,.slice Z9 ([[82,101,102],[83,117,98]]:List (List UInt8)).length P9]) (by kernel_rfl) (by rw[H4])
 have N26:Hp w0 V5 ((oC Q5 #[iB 5,bO false,iL 0,S [],sL Z8 [(⟨X2.ab,(X2.ah),X2.ai,X2.aa,X2.ac,X2.af⟩:TD0),(⟨X3.ab,(X3.ah),X3.ai,X3.aa,X3.ac,X3.af⟩:TD0)] P8,sL Z9 ([[82,101,102],[83,117,98]]:List Bs) P9] 26)::(Ent.obj Q4 (.cells (aTF0 X1.1 Z3 P3) 31 (0,0)))::(oC Q3 #[iB 5,bO false,iL 0,S [],sL Z1 [(⟨(3:Int),(false),(0:Int),[65],([]:List TD0),([]:List Bs)⟩:TD0)] P1,sL Z2 ([[82,101,102]]:List Bs) P2] 26)::H) W14:=by unfold sL at N25;rw[H4] at N25;exact N25
 obtain⟨X4,l4,F4⟩:=bS F3
 refine Y16 f N26 (kv n _ (GL.mono ((((J1.trans J2).trans J3).trans J4).trans J5) hG) _ (⟨(5:Int),(false),(0:Int),([]:Bs),[(⟨X2.ab,(X2.ah),X2.ai,X2.aa,X2.ac,X2.af⟩:TD0),(⟨X3.ab,(X3.ah),X3.ai,X3.aa,X3.ac,X3.af⟩:TD0)],([[82,101,102],[83,117,98]]:List Bs)⟩:TD0) (TD0.shut (B8.mono J5) B9) X4 l4) λ_ V6 W15 J6 N27 iQ _ f=>?_
 obtain⟨c_4,rfl,D8⟩:=iQ
 obtain⟨Z10,P10,rfl,B10⟩:=TF0.opn D8
 refine Y f 4 λ_ f=>Y12 f N27 (.cells #[iB 0,S [],iL 0,S [],S [],Sn] 31 (0,0)) λQ8 W16 N28 _ f=>Ys (lTF0 X4.1 Z10 P10) (aTF0 X4.1 Z10 P10) f N28 rfl rfl λW17 N29 _ f=>Ye f 2 λ_ f=>RR (aQ (k:=1) (c:=1) f N29 (.cells #[S [65]] 9 (0,0)) kr (λ_=>by kernel_rfl) λQ9 W18 N30 _ f=>Y f 1 λ_ f=>aQ (k:=1) (c:=1) f N30 (.cells #[iB 5,bO false,iL 0,S [],Sn,Sn] 26 (0,0)) kr (λ_=>by kernel_rfl) λQ10 W19 N31 _ f=>Y f 1 λ_ f=>Y12 f N31 (.cells #[iB 0,bO false,iL 0,S [],Sn,Sn] 26 (0,0)) λQ11 W20 N32 _ f=>?_)
 have N33:=N32.pl [1]
 have D9:ag V6 ([(⟨(5:Int),(false),(0:Int),([]:Bs),([]:List TD0),([]:List Bs)⟩:TD0)].map ap) [iB 5,bO false,iL 0,S [],Sn,Sn]:=⟨_,_,rfl,TD0.shut Sli.nil Sli.nil,rfl⟩
 have N34:Hp w0 V6 ((Ent.row 26 6 (.slice (some ⟨Q10,0,none⟩) 1 1) [(⟨(5:Int),(false),(0:Int),([]:Bs),([]:List TD0),([]:List Bs)⟩:TD0)].length [iB 5,bO false,iL 0,S [],Sn,Sn])::(oC Q11 #[iB 0,bO false,iL 0,S [],Sn,Sn] 26)::(oC Q9 #[S [65]] 9)::(Ent.obj Q8 (.cells (aTF0 X4.1 Z10 P10) 31 (0,0)))::(oC Q5 #[iB 5,bO false,iL 0,S [],sL Z8 [(⟨X2.ab,(X2.ah),X2.ai,X2.aa,X2.ac,X2.af⟩:TD0),(⟨X3.ab,(X3.ah),X3.ai,X3.aa,X3.ac,X3.af⟩:TD0)] P8,sL Z9 ([[82,101,102],[83,117,98]]:List Bs) P9] 26)::(Ent.obj Q4 (.cells (aTF0 X1.1 Z3 P3) 31 (0,0)))::(oC Q3 #[iB 5,bO false,iL 0,S [],sL Z1 [(⟨(3:Int),(false),(0:Int),[65],([]:List TD0),([]:List Bs)⟩:TD0)] P1,sL Z2 ([[82,101,102]]:List Bs) P2] 26)::H) W20:=N33.objRow (n:=1) (cap:=1) (size:=6) (by decide) (by decide) (dS (by decide) rfl) rfl rfl
 obtain⟨Z11,P11,V7,H5,J7,N35,B11⟩:=N34.rowSli (f:=ap) (xs:=[(⟨(5:Int),(false),(0:Int),([]:Bs),([]:List TD0),([]:List Bs)⟩:TD0)]) jG D9
 have f:=Frm.set f 45 (v:=.agg #[.int .i8 5,.bool false,.int .i64 0,S [],.slice (some ⟨Q10,0,none⟩) 1 1,.slice (some ⟨Q9,0,none⟩) 1 1]) (v':=.agg #[.int .i8 5,.bool false,.int .i64 0,S [],.slice Z11 [(⟨(5:Int),(false),(0:Int),([]:List UInt8),([]:List TD0),([]:List (List UInt8))⟩:TD0)].length P11,.slice (some ⟨Q9,0,none⟩) 1 1]) (by kernel_rfl) (by rw[H5])
 have N36:=N35.pl [1]
 have D10:ag V7 (([[65]]:List Bs).map Dat.str) [S [65]]:=⟨_,_,rfl,rfl,rfl⟩
 have N37:Hp w0 V7 ((Ent.row 9 1 (.slice (some ⟨Q9,0,none⟩) 1 1) ([[65]]:List Bs).length [S [65]])::(oC Q11 #[iB 0,bO false,iL 0,S [],Sn,Sn] 26)::(Ent.obj Q8 (.cells (aTF0 X4.1 Z10 P10) 31 (0,0)))::(oC Q5 #[iB 5,bO false,iL 0,S [],sL Z8 [(⟨X2.ab,(X2.ah),X2.ai,X2.aa,X2.ac,X2.af⟩:TD0),(⟨X3.ab,(X3.ah),X3.ai,X3.aa,X3.ac,X3.af⟩:TD0)] P8,sL Z9 ([[82,101,102],[83,117,98]]:List Bs) P9] 26)::(Ent.obj Q4 (.cells (aTF0 X1.1 Z3 P3) 31 (0,0)))::(oC Q3 #[iB 5,bO false,iL 0,S [],sL Z1 [(⟨(3:Int),(false),(0:Int),[65],([]:List TD0),([]:List Bs)⟩:TD0)] P1,sL Z2 ([[82,101,102]]:List Bs) P2] 26)::H) W20:=N36.objRow (n:=1) (cap:=1) (size:=1) (by decide) (by decide) (dS (by decide) rfl) rfl rfl
 obtain⟨Z12,P12,V8,H6,J8,N38,B12⟩:=N37.rowSli (f:=Dat.str) (xs:=([[65]]:List Bs)) bZ D10
 have f:=Frm.set f 45 (v:=.agg #[.int .i8 5,.bool false,.int .i64 0,S [],.slice Z11 [(⟨(5:Int),(false),(0:Int),([]:List UInt8),([]:List TD0),([]:List (List UInt8))⟩:TD0)].length P11,.slice (some ⟨Q9,0,none⟩) 1 1]) (v':=.agg #[.int .i8 5,.bool false,.int .i64 0,S [],.slice Z11 [(⟨(5:Int),(false),(0:Int),([]:List UInt8),([]:List TD0),([]:List (List UInt8))⟩:TD0)].length P11,.slice Z12 ([[65]]:List (List UInt8)).length P12]) (by kernel_rfl) (by rw[H6])
 refine Ys [iB 5,bO false,iL 0,S [],sL Z11 [(⟨(5:Int),(false),(0:Int),([]:Bs),([]:List TD0),([]:List Bs)⟩:TD0)] P11,sL Z12 ([[65]]:List Bs) P12] #[iB 5,bO false,iL 0,S [],sL Z11 [(⟨(5:Int),(false),(0:Int),([]:Bs),([]:List TD0),([]:List Bs)⟩:TD0)] P11,sL Z12 ([[65]]:List Bs) P12] f N38 rfl rfl λW21 N39 _ f=>eT (RR (aQ (k:=1) (c:=1) f N39 (.cells #[S [82,101,115,111,117,114,99,101,115]] 9 (0,0)) kr (λ_=>by kernel_rfl) λQ12 W22 N40 _ f=>Z f (Y31 (cs:=[iB 5,bO false,iL 0,S [],sL Z11 [(⟨(5:Int),(false),(0:Int),([]:Bs),([]:List TD0),([]:List Bs)⟩:TD0)] P11,sL Z12 ([[65]]:List Bs) P12]) rfl (ad:=⟨Q11,0,none⟩) (an (N40.ownCell 1 rfl) 0 rfl)) λ_ f=>aQ (k:=1) (c:=1) f N40 (.cells #[iB 5,bO false,iL 0,S [],sL Z11 [(⟨(5:Int),(false),(0:Int),([]:Bs),([]:List TD0),([]:List Bs)⟩:TD0)] P11,sL Z12 ([[65]]:List Bs) P12] 26 (0,0)) kr (λ_=>by kernel_rfl) λQ13 W23 N41 _ f=>Y f 1 λ_ f=>?_))
 have D11:ag V8 ([(⟨(5:Int),(false),(0:Int),([]:Bs),[(⟨(5:Int),(false),(0:Int),([]:Bs),([]:List TD0),([]:List Bs)⟩:TD0)],([[65]]:List Bs)⟩:TD0)].map ap) [iB 5,bO false,iL 0,S [],sL Z11 [(⟨(5:Int),(false),(0:Int),([]:Bs),([]:List TD0),([]:List Bs)⟩:TD0)] P11,sL Z12 ([[65]]:List Bs) P12]:=⟨_,_,rfl,TD0.shut (B11.mono J8) B12,rfl⟩
 have N42:Hp w0 V8 ((Ent.row 26 6 (.slice (some ⟨Q13,0,none⟩) 1 1) [(⟨(5:Int),(false),(0:Int),([]:Bs),[(⟨(5:Int),(false),(0:Int),([]:Bs),([]:List TD0),([]:List Bs)⟩:TD0)],([[65]]:List Bs)⟩:TD0)].length [iB 5,bO false,iL 0,S [],sL Z11 [(⟨(5:Int),(false),(0:Int),([]:Bs),([]:List TD0),([]:List Bs)⟩:TD0)] P11,sL Z12 ([[65]]:List Bs) P12])::(oC Q12 #[S [82,101,115,111,117,114,99,101,115]] 9)::(oC Q11 #[iB 5,bO false,iL 0,S [],sL Z11 [(⟨(5:Int),(false),(0:Int),([]:Bs),([]:List TD0),([]:List Bs)⟩:TD0)] P11,sL Z12 ([[65]]:List Bs) P12] 26)::(Ent.obj Q8 (.cells (aTF0 X4.1 Z10 P10) 31 (0,0)))::(oC Q5 #[iB 5,bO false,iL 0,S [],sL Z8 [(⟨X2.ab,(X2.ah),X2.ai,X2.aa,X2.ac,X2.af⟩:TD0),(⟨X3.ab,(X3.ah),X3.ai,X3.aa,X3.ac,X3.af⟩:TD0)] P8,sL Z9 ([[82,101,102],[83,117,98]]:List Bs) P9] 26)::(Ent.obj Q4 (.cells (aTF0 X1.1 Z3 P3) 31 (0,0)))::(oC Q3 #[iB 5,bO false,iL 0,S [],sL Z1 [(⟨(3:Int),(false),(0:Int),[65],([]:List TD0),([]:List Bs)⟩:TD0)] P1,sL Z2 ([[82,101,102]]:List Bs) P2] 26)::H) W23:=N41.objRow (n:=1) (cap:=1) (size:=6) (by decide) (by decide) (dS (by decide) rfl) rfl rfl
 obtain⟨Z13,P13,V9,H7,J9,N43,B13⟩:=N42.rowSli (f:=ap) (xs:=[(⟨(5:Int),(false),(0:Int),([]:Bs),[(⟨(5:Int),(false),(0:Int),([]:Bs),([]:List TD0),([]:List Bs)⟩:TD0)],([[65]]:List Bs)⟩:TD0)]) jG D11
 have f:=Frm.set f 50 (v:=.agg #[.int .i8 5,.bool false,.int .i64 0,S [],.slice (some ⟨Q13,0,none⟩) 1 1,.slice (some ⟨Q12,0,none⟩) 1 1]) (v':=.agg #[.int .i8 5,.bool false,.int .i64 0,S [],.slice Z13 [(⟨(5:Int),(false),(0:Int),([]:List UInt8),[(⟨(5:Int),(false),(0:Int),([]:List UInt8),([]:List TD0),([]:List (List UInt8))⟩:TD0)],([[65]]:List (List UInt8))⟩:TD0)].length P13,.slice (some ⟨Q12,0,none⟩) 1 1]) (by kernel_rfl) (by rw[H7])
 have D12:ag V9 (([[82,101,115,111,117,114,99,101,115]]:List Bs).map Dat.str) [S [82,101,115,111,117,114,99,101,115]]:=⟨_,_,rfl,rfl,rfl⟩
 have N44:Hp w0 V9 ((Ent.row 9 1 (.slice (some ⟨Q12,0,none⟩) 1 1) ([[82,101,115,111,117,114,99,101,115]]:List Bs).length [S [82,101,115,111,117,114,99,101,115]])::(oC Q11 #[iB 5,bO false,iL 0,S [],sL Z11 [(⟨(5:Int),(false),(0:Int),([]:Bs),([]:List TD0),([]:List Bs)⟩:TD0)] P11,sL Z12 ([[65]]:List Bs) P12] 26)::(Ent.obj Q8 (.cells (aTF0 X4.1 Z10 P10) 31 (0,0)))::(oC Q5 #[iB 5,bO false,iL 0,S [],sL Z8 [(⟨X2.ab,(X2.ah),X2.ai,X2.aa,X2.ac,X2.af⟩:TD0),(⟨X3.ab,(X3.ah),X3.ai,X3.aa,X3.ac,X3.af⟩:TD0)] P8,sL Z9 ([[82,101,102],[83,117,98]]:List Bs) P9] 26)::(Ent.obj Q4 (.cells (aTF0 X1.1 Z3 P3) 31 (0,0)))::(oC Q3 #[iB 5,bO false,iL 0,S [],sL Z1 [(⟨(3:Int),(false),(0:Int),[65],([]:List TD0),([]:List Bs)⟩:TD0)] P1,sL Z2 ([[82,101,102]]:List Bs) P2] 26)::H) W23:=N43.objRow (n:=1) (cap:=1) (size:=1) (by decide) (by decide) (dS (by decide) rfl) rfl rfl
 obtain⟨Z14,P14,V10,H8,J10,N45,B14⟩:=N44.rowSli (f:=Dat.str) (xs:=([[82,101,115,111,117,114,99,101,115]]:List Bs)) bZ D12
 have f:=Frm.set f 50 (v:=.agg #[.int .i8 5,.bool false,.int .i64 0,S [],.slice Z13 [(⟨(5:Int),(false),(0:Int),([]:List UInt8),[(⟨(5:Int),(false),(0:Int),([]:List UInt8),([]:List TD0),([]:List (List UInt8))⟩:TD0)],([[65]]:List (List UInt8))⟩:TD0)].length P13,.slice (some ⟨Q12,0,none⟩) 1 1]) (v':=.agg #[.int .i8 5,.bool false,.int .i64 0,S [],.slice Z13 [(⟨(5:Int),(false),(0:Int),([]:List UInt8),[(⟨(5:Int),(false),(0:Int),([]:List UInt8),([]:List TD0),([]:List (List UInt8))⟩:TD0)],([[65]]:List (List UInt8))⟩:TD0)].length P13,.slice Z14 ([[82,101,115,111,117,114,99,101,115]]:List (List UInt8)).length P14]) (by kernel_rfl) (by rw[H8])
 obtain⟨X5,l5,F5⟩:=bS F4
 refine Y16 f N45 (kw n _ (GL.mono (((((((((J1.trans J2).trans J3).trans J4).trans J5).trans J6).trans J7).trans J8).trans J9).trans J10) hG) _ (⟨(5:Int),(false),(0:Int),([]:Bs),[(⟨(5:Int),(false),(0:Int),([]:Bs),[(⟨(5:Int),(false),(0:Int),([]:Bs),([]:List TD0),([]:List Bs)⟩:TD0)],([[65]]:List Bs)⟩:TD0)],([[82,101,115,111,117,114,99,101,115]]:List Bs)⟩:TD0) (TD0.shut (B13.mono J10) B14) X5 l5) λ_ V11 W24 J11 N46 mg _ f=>?_
 obtain⟨c_5,rfl,D13⟩:=mg
 obtain⟨Z15,P15,Z16,P16,Z17,P17,Z18,P18,rfl,B15,B16,B17,B18⟩:=TA0.opn D13
 refine Y f 4 λ_ f=>Y12 f N46 (.cells #[Sn,Sn,Sn,Sn] 41 (0,0)) λQ14 W25 N47 _ f=>Ys (lTA0 X5.1 Z15 P15 Z16 P16 Z17 P17 Z18 P18) (aTA0 X5.1 Z15 P15 Z16 P16 Z17 P17 Z18 P18) f N47 rfl rfl λW26 N48 _ f=>Ye f 2 λ_ f=>RR (Y f 3 λ_ f=>?_)
 rcases cE F5 with⟨B19,F6⟩|⟨B19,F17⟩
 ·have U1:=dI.1 B19
  have f:=f.st 57 (cB B19)
  refine Y f 1 λ_ f=>Z f (Y30 (v:=iB X1.1.ab) rfl (ad:=⟨Q4,0,none⟩) (N48.ownCell 4 rfl 0)) λ_ f=>Y f 3 λ_ f=>?_
  rcases cE F6 with⟨B20,F7⟩|⟨B20,F16⟩
  ·have U2:=dI.1 B20
   have f:=f.st 62 (cB B20)
   refine Y f 1 λ_ f=>Z f (Y30 (v:=S X1.1.aj) rfl (ad:=⟨Q4,3,none⟩) (N48.ownCell 4 rfl 3)) λ_ f=>Z f (Y35 rfl (l:=X1.1.aj) (m:=[65])) λ_ f=>Y f 2 λ_ f=>?_
   rcases cE F7 with⟨B21,F8⟩|⟨B21,F15⟩
   ·have U3:=dI.1 B21
    have f:=f.st 67 (cB B21)
    refine Y f 4 λ_ f=>?_
    rcases cE F8 with⟨B22,F9⟩|⟨B22,F14⟩
    ·have U4:=dI.1 B22
     have f:=f.st 71 (cB B22)
     refine Y f 1 λ_ f=>Z f (Y35 rfl (l:=X4.2.1) (m:=[])) λ_ f=>Y f 2 λ_ f=>?_
     rcases cE F9 with⟨B23,F10⟩|⟨B23,F13⟩
     ·have U5:=dI.1 B23
      have f:=f.st 75 (cB B23)
      refine Y f 4 λ_ f=>?_
      rcases cE F10 with⟨B24,F11⟩|⟨B24,F12⟩
      ·have U6:=dI.1 B24
       have f:=f.st 79 (cB B24)
       refine Y f 1 λ_ f=>Z f (Y35 rfl (l:=X5.2.1) (m:=[82,101,115,111,117,114,99,101,115,47,65])) λ_ f=>Ye f 2 λ_ f=>wp_ret (aJ f rfl (Lk 0 (bO (decide (X5.2.1=[82,101,115,111,117,114,99,101,115,47,65])))) ?_)
       cases sI F11
       exact⟨_,rfl,V11,((((((((((J1.trans J2).trans J3).trans J4).trans J5).trans J6).trans J7).trans J8).trans J9).trans J10).trans J11),(N48.dropN 6),rfl⟩
      ·have U7:=aA dI B24
       have f:=f.st 79 (cB B24)
       refine Ye f 4 λ_ f=>wp_ret (aJ f rfl (Lk 0 (bO false)) ?_)
       cases sI F12
       exact⟨_,rfl,V11,((((((((((J1.trans J2).trans J3).trans J4).trans J5).trans J6).trans J7).trans J8).trans J9).trans J10).trans J11),(N48.dropN 6),rfl⟩
     ·have U8:=aA dI B23
      have f:=f.st 75 (cB B23)
      refine Ye f 8 λ_ f=>wp_ret (aJ f rfl (Lk 0 (bO false)) ?_)
      cases sI F13
      exact⟨_,rfl,V11,((((((((((J1.trans J2).trans J3).trans J4).trans J5).trans J6).trans J7).trans J8).trans J9).trans J10).trans J11),(N48.dropN 6),rfl⟩
    ·have U9:=aA dI B22
     have f:=f.st 71 (cB B22)
     refine Ye f 12 λ_ f=>wp_ret (aJ f rfl (Lk 0 (bO false)) ?_)
     cases sI F14
     exact⟨_,rfl,V11,((((((((((J1.trans J2).trans J3).trans J4).trans J5).trans J6).trans J7).trans J8).trans J9).trans J10).trans J11),(N48.dropN 6),rfl⟩
   ·have U10:=aA dI B21
    have f:=f.st 67 (cB B21)
    refine Ye f 16 λ_ f=>wp_ret (aJ f rfl (Lk 0 (bO false)) ?_)
    cases sI F15
    exact⟨_,rfl,V11,((((((((((J1.trans J2).trans J3).trans J4).trans J5).trans J6).trans J7).trans J8).trans J9).trans J10).trans J11),(N48.dropN 6),rfl⟩
  ·have U11:=aA dI B20
   have f:=f.st 62 (cB B20)
   refine Ye f 21 λ_ f=>wp_ret (aJ f rfl (Lk 0 (bO false)) ?_)
   cases sI F16
   exact⟨_,rfl,V11,((((((((((J1.trans J2).trans J3).trans J4).trans J5).trans J6).trans J7).trans J8).trans J9).trans J10).trans J11),(N48.dropN 6),rfl⟩
 ·have U12:=aA dI B19
  have f:=f.st 57 (cB B19)
  refine Ye f 26 λ_ f=>wp_ret (aJ f rfl (Lk 0 (bO false)) ?_)
  cases sI F17
  exact⟨_,rfl,V11,((((((((((J1.trans J2).trans J3).trans J4).trans J5).trans J6).trans J7).trans J8).trans J9).trans J10).trans J11),(N48.dropN 6),rfl⟩
def dU (n:Nat) (d0:TA0) (K1:Int):Option (Lp Int (Sum Unit Unit)):=
    bif(decide (K1<((d0.aO.length:Nat):Int))) then
     (bb (inR .i64 (K1-1))<|
     (aU d0.aO (K1-1)).bind λX1=>
     (aU d0.aO K1).bind λX2=>
     bif(!(Op.bytesLess X1.aj X2.aj)) then
      (some (.br (.inl ())))
     else
      bb (inR .i64 (K1+1))<|
      some (.nx (K1+1)))
    else
     some (.br (.inr ()))
def dV (n:Nat) (d0:TA0) (K2:Int):Option (Lp Int (Sum Unit Unit)):=
    bif(decide (K2<((d0.aW.length:Nat):Int))) then
     (bb (inR .i64 (K2-1))<|
     (aU d0.aW (K2-1)).bind λX3=>
     (aU d0.aW K2).bind λX4=>
     bif(!(Op.bytesLess X3.aj X4.aj)) then
      (some (.br (.inl ())))
     else
      bb (inR .i64 (K2+1))<|
      some (.nx (K2+1)))
    else
     some (.br (.inr ()))
def dW (n:Nat) (d0:TA0) (K3:Int):Option (Lp Int (Sum Unit Unit)):=
    bif(decide (K3<((d0.bC.length:Nat):Int))) then
     (bb (inR .i64 (K3-1))<|
     (aU d0.bC (K3-1)).bind λX5=>
     (aU d0.bC K3).bind λX6=>
     bif(!(Op.bytesLess X5.aj X6.aj)) then
      (some (.br (.inl ())))
     else
      bb (inR .i64 (K3+1))<|
      some (.nx (K3+1)))
    else
     some (.br (.inr ()))
def dY (n:Nat) (X7:TB0) (K5:Int):Option (Lp Int (Sum Unit Unit)):=
    bif(decide (K5<((X7.bT.length:Nat):Int))) then
     (bb (inR .i64 (K5-1))<|
     (aU X7.bT (K5-1)).bind λX9=>
     (aU X7.bT K5).bind λX10=>
     bif(!(Op.bytesLess X9.aj X10.aj)) then
      (some (.br (.inl ())))
     else
      bb (inR .i64 (K5+1))<|
      some (.nx (K5+1)))
    else
     some (.br (.inr ()))
def dX (n:Nat) (rec_law13_rises:TA0→Int→Option Bool) (d0:TA0) (d1:Int) (K4:Int):Option (Lp Int (Sum Unit Unit)):=
    bif(decide (K4<((d0.bU.length:Nat):Int))) then
     ((aU d0.bU K4).bind λX7=>
     ((bif(decide ((0:Int)<K4)) then
      (bb (inR .i64 (K4-1))<|
      (aU d0.bU (K4-1)).bind λX8=>
      bif(!(Op.bytesLess X8.jn X7.jn)) then
       (some ((true)))
      else
       bif(!((decide (X7.cA=[83,116,97,99,107]))== (decide (((X7.bg.length:Nat):Int)=1)))) then
        (some ((true)))
       else
        bif(decide ((1:Int)<((X7.bg.length:Nat):Int))) then
         (some ((true)))
        else
         some ((decide ((8:Int)<((X7.bA.length:Nat):Int)))))
       else
        bif(!((decide (X7.cA=[83,116,97,99,107]))== (decide (((X7.bg.length:Nat):Int)=1)))) then
         (some ((true)))
        else
         bif(decide ((1:Int)<((X7.bg.length:Nat):Int))) then
          (some ((true)))
         else
          some ((decide ((8:Int)<((X7.bA.length:Nat):Int)))):Option Bool)).bind λG8=>
     bif G8 then
      (some (.br (.inl ())))
     else
      (aL (dY n X7) n (1:Int)).bind λQ7=>
      (match Q7 with
      |.inl G9=>some (.br (.inl ()))
      |.inr G10=>bif(decide (((X7.bg.length:Nat):Int)=1)) then
       ((aU X7.bg (0:Int)).bind λX11=>
       bb (inR .i64 (d1+1))<|
       (rec_law13_rises X11 (d1+1)).bind λX12=>
       bif !X12 then
        (some (.br (.inl ())))
       else
        bb (inR .i64 (K4+1))<|
        some (.nx (K4+1)))
       else
        bb (inR .i64 (K4+1))<|
        some (.nx (K4+1))))
    else
     some (.br (.inr ()))
def gj (n:Nat) (rec_law13_rises:TA0→Int→Option Bool) (d0:TA0) (d1:Int):Option Bool:=
 ((bif(decide ((2:Int)<d1)) then
  (some ((true)))
   else
    bif(decide ((6:Int)<((d0.aO.length:Nat):Int))) then
     (some ((true)))
    else
     bif(decide ((6:Int)<((d0.aW.length:Nat):Int))) then
      (some ((true)))
     else
      bif(decide ((8:Int)<((d0.bU.length:Nat):Int))) then
       (some ((true)))
      else
       some ((decide ((6:Int)<((d0.bC.length:Nat):Int)))):Option Bool)).bind λG1=>
 bif G1 then
  (some ((false)))
 else
  (aL (dU n d0) n (1:Int)).bind λQ2=>
  (match Q2 with
  |.inl G2=>some ((false))
  |.inr G3=>(aL (dV n d0) n (1:Int)).bind λQ3=>
   (match Q3 with
   |.inl G4=>some ((false))
   |.inr G5=>(aL (dW n d0) n (1:Int)).bind λQ4=>
    (match Q4 with
    |.inl G6=>some ((false))
    |.inr G7=>(aL (dX n rec_law13_rises d0 d1) n (0:Int)).bind λQ5=>
     (match Q5 with
     |.inl G11=>some ((false))
     |.inr G12=>some ((true))))))
set_option maxRecDepth 20000 in
theorem ma (n:Nat) (rec_law13_rises:TA0→Int→Option Bool) (hrec_law13_rises: ∀ (M:Mem) (hG:GL M) (c0:Lv) (d0:TA0) (h0:Rep M (bY d0) c0) (d1:Int) (r:Bool) (hF:rec_law13_rises d0 d1=some r),Ok Tryz.prog M 14 [.agg c0.toArray,iL d1] (λ_ v=>v=bO r)) (M:Mem) (hG:GL M) (c0:Lv) (d0:TA0) (h0:Rep M (bY d0) c0) (d1:Int) (r:Bool) (hF:gj n rec_law13_rises d0 d1=some r):Ok Tryz.prog M 14 [.agg c0.toArray,iL d1] (λ_ v=>v=bO r):=by
 unfold gj at hF
 intro M1 hM0 w0 H w p0
 replace hG:=GL.mono hM0 hG
 replace h0:=Rep.mono hM0 _ _ h0
 obtain⟨Z1,P1,Z2,P2,Z3,P3,Z4,P4,rfl,B1,B2,B3,B4⟩:=TA0.opn h0
 refine Re 183 Tryz.func14 rfl λa0 f0=>RR (Y13 (cs:=(aTA0 d0 Z1 P1 Z2 P2 Z3 P3 Z4 P4)) (T:=41) f0 p0 λQ1 V1 W1 J1 R1 N1 _ f=>?_)
 have R2:=bR R1
 refine Ye f 1 λ_ f=>aq (aq ?_)
 obtain⟨ip,eD,F1⟩:=bS hF
 refine ct (λa_20 W2=>∃G1:Bool,ip=G1∧∃V2:Mem,V1.le V2∧Frm 183 [(1,iL d1),(2,pP Q1),(36,bO G1)] a_20∧Hp w0 V2 (H) W2) ?_ ?_
 ·refine aN (Y f 3 λ_ f=>?_)
  rcases cE eD with⟨B5,F2⟩|⟨B5,F3⟩
  ·have U1:=dI.1 B5
   have f:=f.st 13 (cB B5)
   refine Ye f 23 λ_ f=>?_
   exact⟨(true),(sI F2).symm,V1,(mR _),f.kp,N1⟩
  ·have U2:=aA dI B5
   have f:=f.st 13 (cB B5)
   refine Y f 1 λ_ f=>Y15 f N1 R2 0 rfl λ_ f=>Y f 4 λ_ f=>?_
   rcases cE F3 with⟨B6,F4⟩|⟨B6,F5⟩
   ·have U3:=dI.1 B6
    have f:=f.st 19 (cB B6)
    refine Ye f 17 λ_ f=>?_
    exact⟨(true),(sI F4).symm,V1,(mR _),f.kp,N1⟩
   ·have U4:=aA dI B6
    have f:=f.st 19 (cB B6)
    refine Y f 1 λ_ f=>Y15 f N1 R2 1 rfl λ_ f=>Y f 4 λ_ f=>?_
    rcases cE F5 with⟨B7,F6⟩|⟨B7,F7⟩
    ·have U5:=dI.1 B7
     have f:=f.st 25 (cB B7)
     refine Ye f 11 λ_ f=>?_
     exact⟨(true),(sI F6).symm,V1,(mR _),f.kp,N1⟩
    ·have U6:=aA dI B7
     have f:=f.st 25 (cB B7)
     refine Y f 1 λ_ f=>Y15 f N1 R2 2 rfl λ_ f=>Y f 4 λ_ f=>?_
     rcases cE F7 with⟨B8,F8⟩|⟨B8,F9⟩
     ·have U7:=dI.1 B8
      have f:=f.st 31 (cB B8)
      refine Ye f 5 λ_ f=>?_
      exact⟨(true),(sI F8).symm,V1,(mR _),f.kp,N1⟩
     ·have U8:=aA dI B8
      have f:=f.st 31 (cB B8)
      refine Y f 1 λ_ f=>Y15 f N1 R2 3 rfl λ_ f=>Ye f 3 λ_ f=>?_
      exact⟨(decide ((6:Int)<((d0.bC.length:Nat):Int))),(sI F9).symm,V1,(mR _),f.kp,N1⟩
 ·rintro a_20 W2 ⟨G1,dg,V2,J2,f,N2⟩
  subst ip
  refine aS (RcF f F1 (λB9 F10=>?_) λB9 F11=>?_)
  ·refine RR (Ye f 1 λ_ f=>wp_ret (dj (aJ f rfl (Lk 4 (bO false)) ?_)))
   cases sI F10
   exact⟨_,rfl,V2,(J1.trans J2),N2,rfl⟩
  ·refine St (aq (RR (Ye f 1 λ_ f=>wp_block ?_)))
   obtain⟨Q2,dy,F12⟩:=bS F11
   refine wp_mono (Q:=λe a w=>(e=.ret∧(∃G2:Unit,Q2=.inl G2∧∃V4:Mem,V2.le V4∧Frm 183 [(4,bO false)] a∧Hp w0 V4 (H) w))∨(e=.exit 0∧(∃G3:Unit,Q2=.inr G3∧∃V5:Mem,V2.le V5∧Frm 183 [(1,iL d1),(2,pP Q1)] a∧Hp w0 V5 (H) w))) (cD (n:=183) (w0:=w0) (M:=V2) (λ (I1,K1)=>[(1,iL d1),(2,pP Q1),(5,iL K1)]) (λ (I1,K1)=>(H)) (λ (I1,K1) MM=>aL (dU n d0) I1 K1=some Q2) (λ (I1,K1)=>I1) (n,(1:Int)) (f.kp) N2 dy ?_) ?_
   ·rintro⟨I1,K1⟩ V3 _ W3 J3 je f N3
    have dL:=je
    obtain⟨I2,nL,rfl,ca,T1⟩:=bB dL
    unfold dU at ca
    refine aq (RR (Y f 2 λ_ f=>Y15 f N3 (fzu (J2.trans J3) R2) 0 rfl λ_ f=>Ye f 2 λ_ f=>RcF f ca (λB10 F13=>?_) λB10 F20=>?_))
    ·have U11:=dI.1 B10
     refine St (aq (wp_block (aq (lP N3 kr kr (Y5 default f 1 λ_ f=>Y4 f (fzu (J2.trans J3) R2) 0 rfl λ_ f=>Y5 default f 1 λ_ f=>?_)))))
     obtain⟨O1,F14⟩:=nS F13
     refine Y3 (v:=iL (IntKind.wrap .i64 (K1-1))) f (λ_ pq=>by kernel_rfl) λ_ f=>?_
     have f:=f.st 47 (iW O1)
     obtain⟨X1,l1,F15⟩:=bS F14
     obtain⟨C1,eF,jV,-,D1,R3⟩:=Sli.at_ (B1.mono ((J1.trans J2).trans J3)) l1
     obtain⟨Z5,P5,Z6,P6,Z7,P7,rfl,B11,B12,B13⟩:=TE0.opn D1
     refine Y3 (v:=Pa (C1.add ((K1-1).toNat*10))) f (λ_ pq=>Y29 jV rfl (len:=d0.aO.length) (cap:=P1) (k:=.i64) (i:=K1-1) (e:=58) (sz:=10) (az l1) (ay l1)) λ_ f=>Y5 default f 1 λ_ f=>Y4 f R3 0 rfl λ_ f=>Y5 default f 1 λ_ f=>Y4 f (fzu (J2.trans J3) R2) 0 rfl λ_ f=>Y5 default f 1 λ_ f=>?_
     obtain⟨X2,l2,F16⟩:=bS F15
     obtain⟨C2,iA,e_2,-,D2,R4⟩:=Sli.at_ (B1.mono ((J1.trans J2).trans J3)) l2
     obtain⟨Z8,P8,Z9,P9,Z10,P10,rfl,B14,B15,B16⟩:=TE0.opn D2
     refine Y3 (v:=Pa (C2.add (K1.toNat*10))) f (λ_ pq=>Y29 e_2 rfl (len:=d0.aO.length) (cap:=P1) (k:=.i64) (i:=K1) (e:=58) (sz:=10) (az l2) (ay l2)) λ_ f=>Y5 default f 1 λ_ f=>Y4 f R4 0 rfl λ_ f=>Y3 (v:=bO (!(Op.bytesLess X1.aj X2.aj))) f (λ_ pq=>lm rfl (l:=X1.aj) (m:=X2.aj) kr kr) λ_ f=>jK rfl ?_
     intro W4 N4
     refine aS (RcF f F16 (λB17 F17=>?_) λB17 F18=>?_)
     ·have U12: (Op.bytesLess X1.aj X2.aj)=false:=by simpa using B17
      refine RR (Ye f 1 λ_ f=>wp_ret (hU (dj (dj ?_))))
      cases sI F17
      exact .inl ⟨rfl,(),(sI T1).symm,V3,J3,f.kp,N4⟩
     ·have U13: (Op.bytesLess X1.aj X2.aj)=true:=by simpa using B17
      refine wp_skip (gh (aS (aN (Y f 1 λ_ f=>?_))))
      obtain⟨O2,F19⟩:=nS F18
      refine Y f 1 λ_ f=>?_
      have f:=f.st 43 (iW O2)
      refine Ye f 1 λ_ f=>?_
      cases sI F19
      exact⟨⟨I2,K1+1⟩,Nat.lt_succ_self _,V3,J3,T1,f.kp,N4⟩
    ·have U14:=aA dI B10
     refine wp_exit (gT (gT ?_))
     cases sI F20
     exact .inr ⟨rfl,(),(sI T1).symm,V3,J3,f.kp,N3⟩
   ·rintro _ _ W7 (⟨rfl,G2,rfl,V4,J4,f,N5⟩|⟨rfl,G3,rfl,V5,J5,f,N6⟩)
    ·refine hU (dj (aJ f rfl (Lk 4 (bO false)) ?_))
     cases sI F12
     exact⟨_,rfl,V4,((J1.trans J2).trans J4),N5,rfl⟩
    ·refine lO (aS (aq (RR (Ye f 1 λ_ f=>wp_block ?_))))
     obtain⟨Q3,hL_2,F21⟩:=bS F12
     refine wp_mono (Q:=λe a w=>(e=.ret∧(∃G4:Unit,Q3=.inl G4∧∃V7:Mem,V5.le V7∧Frm 183 [(4,bO false)] a∧Hp w0 V7 (H) w))∨(e=.exit 2∧(∃G5:Unit,Q3=.inr G5∧∃V8:Mem,V5.le V8∧Frm 183 [(1,iL d1),(2,pP Q1)] a∧Hp w0 V8 (H) w))) (cD (n:=183) (w0:=w0) (M:=V5) (λ (I3,K2)=>[(1,iL d1),(2,pP Q1),(6,iL K2)]) (λ (I3,K2)=>(H)) (λ (I3,K2) MM=>aL (dV n d0) I3 K2=some Q3) (λ (I3,K2)=>I3) (n,(1:Int)) (f.kp) N6 hL_2 ?_) ?_
     ·rintro⟨I3,K2⟩ V6 _ W8 J6 I_2 f N7
      have I_2L:=I_2
      obtain⟨I4,r_2,rfl,hs_2,T2⟩:=bB I_2L
      unfold dV at hs_2
      refine aq (RR (Y f 2 λ_ f=>Y15 f N7 (fzu ((J2.trans J5).trans J6) R2) 1 rfl λ_ f=>Ye f 2 λ_ f=>RcF f hs_2 (λB18 F22=>?_) λB18 F29=>?_))
      ·have U15:=dI.1 B18
       refine St (aq (wp_block (aq (lP N7 kr kr (Y5 default f 1 λ_ f=>Y4 f (fzu ((J2.trans J5).trans J6) R2) 1 rfl λ_ f=>Y5 default f 1 λ_ f=>?_)))))
       obtain⟨O3,F23⟩:=nS F22
       refine Y3 (v:=iL (IntKind.wrap .i64 (K2-1))) f (λ_ pq=>by kernel_rfl) λ_ f=>?_
       have f:=f.st 68 (iW O3)
       obtain⟨X3,l3,F24⟩:=bS F23
       obtain⟨C3,c_3,e_3,-,D3,R5⟩:=Sli.at_ (B2.mono (((J1.trans J2).trans J5).trans J6)) l3
       obtain⟨Z11,P11,Z12,P12,Z13,P13,rfl,B19,B20,B21⟩:=TH0.opn D3
       refine Y3 (v:=Pa (C3.add ((K2-1).toNat*15))) f (λ_ pq=>Y29 e_3 rfl (len:=d0.aW.length) (cap:=P2) (k:=.i64) (i:=K2-1) (e:=61) (sz:=15) (az l3) (ay l3)) λ_ f=>Y5 default f 1 λ_ f=>Y4 f R5 0 rfl λ_ f=>Y5 default f 1 λ_ f=>Y4 f (fzu ((J2.trans J5).trans J6) R2) 1 rfl λ_ f=>Y5 default f 1 λ_ f=>?_
       obtain⟨X4,l4,F25⟩:=bS F24
       obtain⟨C4,c_4,e_4,-,D4,R6⟩:=Sli.at_ (B2.mono (((J1.trans J2).trans J5).trans J6)) l4
       obtain⟨Z14,P14,Z15,P15,Z16,P16,rfl,B22,B23,B24⟩:=TH0.opn D4
       refine Y3 (v:=Pa (C4.add (K2.toNat*15))) f (λ_ pq=>Y29 e_4 rfl (len:=d0.aW.length) (cap:=P2) (k:=.i64) (i:=K2) (e:=61) (sz:=15) (az l4) (ay l4)) λ_ f=>Y5 default f 1 λ_ f=>Y4 f R6 0 rfl λ_ f=>Y3 (v:=bO (!(Op.bytesLess X3.aj X4.aj))) f (λ_ pq=>lm rfl (l:=X3.aj) (m:=X4.aj) kr kr) λ_ f=>jK rfl ?_
       intro W9 N8
       refine aS (RcF f F25 (λB25 F26=>?_) λB25 F27=>?_)
       ·have U16: (Op.bytesLess X3.aj X4.aj)=false:=by simpa using B25
        refine RR (Ye f 1 λ_ f=>wp_ret (hU (dj (dj ?_))))
        cases sI F26
        exact .inl ⟨rfl,(),(sI T2).symm,V6,J6,f.kp,N8⟩
       ·have U17: (Op.bytesLess X3.aj X4.aj)=true:=by simpa using B25
        refine wp_skip (gh (aS (aN (Y f 1 λ_ f=>?_))))
        obtain⟨O4,F28⟩:=nS F27
        refine Y f 1 λ_ f=>?_
        have f:=f.st 64 (iW O4)
        refine Ye f 1 λ_ f=>?_
        cases sI F28
        exact⟨⟨I4,K2+1⟩,Nat.lt_succ_self _,V6,J6,T2,f.kp,N8⟩
      ·have U18:=aA dI B18
       refine wp_exit (gT (gT ?_))
       cases sI F29
       exact .inr ⟨rfl,(),(sI T2).symm,V6,J6,f.kp,N7⟩
     ·rintro _ _ W12 (⟨rfl,G4,rfl,V7,J7,f,N9⟩|⟨rfl,G5,rfl,V8,J8,f,N10⟩)
      ·refine hU (dj (aJ f rfl (Lk 4 (bO false)) ?_))
       cases sI F21
       exact⟨_,rfl,V7,(((J1.trans J2).trans J5).trans J7),N9,rfl⟩
      ·refine lO (aS (aq (RR (Ye f 1 λ_ f=>wp_block ?_))))
       obtain⟨Q4,hL_3,F30⟩:=bS F21
       refine wp_mono (Q:=λe a w=>(e=.ret∧(∃G6:Unit,Q4=.inl G6∧∃V10:Mem,V8.le V10∧Frm 183 [(4,bO false)] a∧Hp w0 V10 (H) w))∨(e=.exit 4∧(∃G7:Unit,Q4=.inr G7∧∃V11:Mem,V8.le V11∧Frm 183 [(1,iL d1),(2,pP Q1)] a∧Hp w0 V11 (H) w))) (cD (n:=183) (w0:=w0) (M:=V8) (λ (I5,K3)=>[(1,iL d1),(2,pP Q1),(7,iL K3)]) (λ (I5,K3)=>(H)) (λ (I5,K3) MM=>aL (dW n d0) I5 K3=some Q4) (λ (I5,K3)=>I5) (n,(1:Int)) (f.kp) N10 hL_3 ?_) ?_
       ·rintro⟨I5,K3⟩ V9 _ W13 J9 I_3 f N11
        have I_3L:=I_3
        obtain⟨I6,r_3,rfl,hs_3,T3⟩:=bB I_3L
        unfold dW at hs_3
        refine aq (RR (Y f 2 λ_ f=>Y15 f N11 (fzu (((J2.trans J5).trans J8).trans J9) R2) 3 rfl λ_ f=>Ye f 2 λ_ f=>RcF f hs_3 (λB26 F31=>?_) λB26 F38=>?_))
        ·have U19:=dI.1 B26
         refine St (aq (wp_block (aq (lP N11 kr kr (Y5 default f 1 λ_ f=>Y4 f (fzu (((J2.trans J5).trans J8).trans J9) R2) 3 rfl λ_ f=>Y5 default f 1 λ_ f=>?_)))))
         obtain⟨O5,F32⟩:=nS F31
         refine Y3 (v:=iL (IntKind.wrap .i64 (K3-1))) f (λ_ pq=>by kernel_rfl) λ_ f=>?_
         have f:=f.st 89 (iW O5)
         obtain⟨X5,l5,F33⟩:=bS F32
         obtain⟨C5,c_5,e_5,-,D5,R7⟩:=Sli.at_ (B4.mono ((((J1.trans J2).trans J5).trans J8).trans J9)) l5
         obtain⟨Z17,P17,rfl,B27⟩:=TC0.opn D5
         refine Y3 (v:=Pa (C5.add ((K3-1).toNat*8))) f (λ_ pq=>Y29 e_5 rfl (len:=d0.bC.length) (cap:=P4) (k:=.i64) (i:=K3-1) (e:=68) (sz:=8) (az l5) (ay l5)) λ_ f=>Y5 default f 1 λ_ f=>Y4 f R7 0 rfl λ_ f=>Y5 default f 1 λ_ f=>Y4 f (fzu (((J2.trans J5).trans J8).trans J9) R2) 3 rfl λ_ f=>Y5 default f 1 λ_ f=>?_
         obtain⟨X6,l6,F34⟩:=bS F33
         obtain⟨C6,c_6,e_6,-,D6,R8⟩:=Sli.at_ (B4.mono ((((J1.trans J2).trans J5).trans J8).trans J9)) l6
         obtain⟨Z18,P18,rfl,B28⟩:=TC0.opn D6
         refine Y3 (v:=Pa (C6.add (K3.toNat*8))) f (λ_ pq=>Y29 e_6 rfl (len:=d0.bC.length) (cap:=P4) (k:=.i64) (i:=K3) (e:=68) (sz:=8) (az l6) (ay l6)) λ_ f=>Y5 default f 1 λ_ f=>Y4 f R8 0 rfl λ_ f=>Y3 (v:=bO (!(Op.bytesLess X5.aj X6.aj))) f (λ_ pq=>lm rfl (l:=X5.aj) (m:=X6.aj) kr kr) λ_ f=>jK rfl ?_
         intro W14 N12
         refine aS (RcF f F34 (λB29 F35=>?_) λB29 F36=>?_)
         ·have U20: (Op.bytesLess X5.aj X6.aj)=false:=by simpa using B29
          refine RR (Ye f 1 λ_ f=>wp_ret (hU (dj (dj ?_))))
          cases sI F35
          exact .inl ⟨rfl,(),(sI T3).symm,V9,J9,f.kp,N12⟩
         ·have U21: (Op.bytesLess X5.aj X6.aj)=true:=by simpa using B29
          refine wp_skip (gh (aS (aN (Y f 1 λ_ f=>?_))))
          obtain⟨O6,F37⟩:=nS F36
          refine Y f 1 λ_ f=>?_
          have f:=f.st 85 (iW O6)
          refine Ye f 1 λ_ f=>?_
          cases sI F37
          exact⟨⟨I6,K3+1⟩,Nat.lt_succ_self _,V9,J9,T3,f.kp,N12⟩
        ·have U22:=aA dI B26
         refine wp_exit (gT (gT ?_))
         cases sI F38
         exact .inr ⟨rfl,(),(sI T3).symm,V9,J9,f.kp,N11⟩
       ·rintro _ _ W17 (⟨rfl,G6,rfl,V10,J10,f,N13⟩|⟨rfl,G7,rfl,V11,J11,f,N14⟩)
        ·refine hU (dj (aJ f rfl (Lk 4 (bO false)) ?_))
         cases sI F30
         exact⟨_,rfl,V10,((((J1.trans J2).trans J5).trans J8).trans J10),N13,rfl⟩
        ·refine lO (aS (aq (RR (Ye f 1 λ_ f=>wp_block ?_))))
         obtain⟨Q5,hL_4,F39⟩:=bS F30
         refine wp_mono (Q:=λe a w=>(e=.ret∧(∃G11:Unit,Q5=.inl G11∧∃V17:Mem,V11.le V17∧Frm 183 [(4,bO false)] a∧Hp w0 V17 (H) w))∨(e=.exit 6∧(∃G12:Unit,Q5=.inr G12∧∃V18:Mem,V11.le V18∧Frm 183 [] a∧Hp w0 V18 (H) w))) (cD (n:=183) (w0:=w0) (M:=V11) (λ (I7,K4)=>[(1,iL d1),(2,pP Q1),(8,iL K4)]) (λ (I7,K4)=>(H)) (λ (I7,K4) MM=>aL (dX n rec_law13_rises d0 d1) I7 K4=some Q5) (λ (I7,K4)=>I7) (n,(0:Int)) (f.kp) N14 hL_4 ?_) ?_
         ·rintro⟨I7,K4⟩ V12 _ W18 J12 I_4 f N15
          have I_4L:=I_4
          obtain⟨I8,r_4,rfl,hs_4,T4⟩:=bB I_4L
          unfold dX at hs_4
          refine aq (RR (Y f 2 λ_ f=>Y15 f N15 (fzu ((((J2.trans J5).trans J8).trans J11).trans J12) R2) 2 rfl λ_ f=>Ye f 2 λ_ f=>RcF f hs_4 (λB30 F40=>?_) λB30 F77=>?_))
          ·have U23:=dI.1 B30
           refine St (aq (wp_block (RR (Y f 1 λ_ f=>Y15 f N15 (fzu ((((J2.trans J5).trans J8).trans J11).trans J12) R2) 2 rfl λ_ f=>Y f 1 λ_ f=>?_))))
           obtain⟨X7,l7,F41⟩:=bS F40
           obtain⟨C7,c_7,e_7,-,D7,R9⟩:=Sli.at_ (B3.mono (((((J1.trans J2).trans J5).trans J8).trans J11).trans J12)) l7
           obtain⟨Z19,P19,Z20,P20,Z21,P21,rfl,B31,B32,B33⟩:=TB0.opn D7
           refine Z f (Y29 e_7 rfl (len:=d0.bU.length) (cap:=P3) (k:=.i64) (i:=K4) (e:=66) (sz:=7) (az l7) (ay l7)) λ_ f=>Z f (Y31 (cs:=(lTB0 X7 Z19 P19 Z20 P20 Z21 P21)) rfl (ad:=C7.add (K4.toNat*7)) (λj v h=>N15.cell (R9 j v h))) λ_ f=>Y12 f N15 (.cells #[S [],S [],S [],Sn,Sn,bO false,Sn] 66 (0,0)) λQ6 W19 N16 _ f=>Ys (lTB0 X7 Z19 P19 Z20 P20 Z21 P21) (aTB0 X7 Z19 P19 Z20 P20 Z21 P21) f N16 rfl rfl λW20 N17 _ f=>eT (aq (aq ?_))
           obtain⟨nR,kl,F42⟩:=bS F41
           refine ct (λa_153 W28=>∃G8:Bool,nR=G8∧∃V13:Mem,V12.le V13∧Frm 183 [(1,iL d1),(2,pP Q1),(8,iL K4),(9,pP Q6),(147,bO G8)] a_153∧Hp w0 V13 ((Ent.obj Q6 (.cells (aTB0 X7 Z19 P19 Z20 P20 Z21 P21) 66 (0,0)))::H) W28) ?_ ?_
           ·refine lP N17 kr kr (Y5 default f 3 λ_ f=>?_)
            rcases cE kl with⟨B34,F43⟩|⟨B34,F52⟩
            ·have U24:=dI.1 B34
             have f:=f.st 114 (cB B34)
             refine Y5 default f 1 λ_ f=>Y4 f (fzu ((((J2.trans J5).trans J8).trans J11).trans J12) R2) 2 rfl λ_ f=>Y5 default f 1 λ_ f=>?_
             obtain⟨O7,F44⟩:=nS F43
             refine Y3 (v:=iL (IntKind.wrap .i64 (K4-1))) f (λ_ pq=>by kernel_rfl) λ_ f=>?_
             have f:=f.st 118 (iW O7)
             obtain⟨X8,l8,F45⟩:=bS F44
             obtain⟨C8,c_8,e_8,-,D8,R10⟩:=Sli.at_ (B3.mono (((((J1.trans J2).trans J5).trans J8).trans J11).trans J12)) l8
             obtain⟨Z22,P22,Z23,P23,Z24,P24,rfl,B35,B36,B37⟩:=TB0.opn D8
             refine Y3 (v:=Pa (C8.add ((K4-1).toNat*7))) f (λ_ pq=>Y29 e_8 rfl (len:=d0.bU.length) (cap:=P3) (k:=.i64) (i:=K4-1) (e:=66) (sz:=7) (az l8) (ay l8)) λ_ f=>Y5 default f 1 λ_ f=>Y4 f R10 0 rfl λ_ f=>Y5 default f 1 λ_ f=>Y3 (v:=S X7.jn) f (λ_ pq=>Y30 (v:=S X7.jn) rfl (ad:=⟨Q6,0,none⟩) (pq.ownCell 0 rfl 0)) λ_ f=>Y3 (v:=bO (!(Op.bytesLess X8.jn X7.jn))) f (λ_ pq=>lm rfl (l:=X8.jn) (m:=X7.jn) kr kr) λ_ f=>Y5 default f 2 λ_ f=>?_
             rcases cE F45 with⟨B38,F46⟩|⟨B38,F47⟩
             ·have U25: (Op.bytesLess X8.jn X7.jn)=false:=by simpa using B38
              have f:=f.st 126 (cB B38)
              refine Y5 default f 21 λ_ f=>jK rfl ?_
              intro W21 N18
              refine aS ?_
              exact⟨(true),(sI F46).symm,V12,(mR _),f.kp,N18⟩
             ·have U26: (Op.bytesLess X8.jn X7.jn)=true:=by simpa using B38
              have f:=f.st 126 (cB B38)
              refine Y5 default f 1 λ_ f=>Y3 (v:=S X7.cA) f (λ_ pq=>Y30 (v:=S X7.cA) rfl (ad:=⟨Q6,1,none⟩) (pq.ownCell 0 rfl 1)) λ_ f=>Y3 (v:=bO (decide (X7.cA=[83,116,97,99,107]))) f (λ_ pq=>Y35 rfl (l:=X7.cA) (m:=[83,116,97,99,107])) λ_ f=>Y5 default f 1 λ_ f=>Y3 (v:=sL Z21 X7.bg P21) f (λ_ pq=>Y30 (v:=sL Z21 X7.bg P21) rfl (ad:=⟨Q6,6,none⟩) (pq.ownCell 0 rfl 6)) λ_ f=>Y5 default f 5 λ_ f=>?_
              rcases cE F47 with⟨B39,F48⟩|⟨B39,F49⟩
              ·have U27: ((decide (X7.cA=[83,116,97,99,107]))== (decide (((X7.bg.length:Nat):Int)=1)))=false:=by simpa using B39
               have f:=f.st 136 (cB B39)
               refine Y5 default f 11 λ_ f=>jK rfl ?_
               intro W22 N19
               refine aS ?_
               exact⟨(true),(sI F48).symm,V12,(mR _),f.kp,N19⟩
              ·have U28: ((decide (X7.cA=[83,116,97,99,107]))== (decide (((X7.bg.length:Nat):Int)=1)))=true:=by simpa using B39
               have f:=f.st 136 (cB B39)
               refine Y5 default f 1 λ_ f=>Y3 (v:=sL Z21 X7.bg P21) f (λ_ pq=>Y30 (v:=sL Z21 X7.bg P21) rfl (ad:=⟨Q6,6,none⟩) (pq.ownCell 0 rfl 6)) λ_ f=>Y5 default f 4 λ_ f=>?_
               rcases cE F49 with⟨B40,F50⟩|⟨B40,F51⟩
               ·have U29:=dI.1 B40
                have f:=f.st 142 (cB B40)
                refine Y5 default f 5 λ_ f=>jK rfl ?_
                intro W23 N20
                refine aS ?_
                exact⟨(true),(sI F50).symm,V12,(mR _),f.kp,N20⟩
               ·have U30:=aA dI B40
                have f:=f.st 142 (cB B40)
                refine Y5 default f 1 λ_ f=>Y3 (v:=sL Z20 X7.bA P20) f (λ_ pq=>Y30 (v:=sL Z20 X7.bA P20) rfl (ad:=⟨Q6,4,none⟩) (pq.ownCell 0 rfl 4)) λ_ f=>Y5 default f 3 λ_ f=>jK rfl ?_
                intro W24 N21
                refine aS ?_
                exact⟨(decide ((8:Int)<((X7.bA.length:Nat):Int))),(sI F51).symm,V12,(mR _),f.kp,N21⟩
            ·have U31:=aA dI B34
             have f:=f.st 114 (cB B34)
             refine Y5 default f 13 λ_ f=>Y3 (v:=S X7.cA) f (λ_ pq=>Y30 (v:=S X7.cA) rfl (ad:=⟨Q6,1,none⟩) (pq.ownCell 0 rfl 1)) λ_ f=>Y3 (v:=bO (decide (X7.cA=[83,116,97,99,107]))) f (λ_ pq=>Y35 rfl (l:=X7.cA) (m:=[83,116,97,99,107])) λ_ f=>Y5 default f 1 λ_ f=>Y3 (v:=sL Z21 X7.bg P21) f (λ_ pq=>Y30 (v:=sL Z21 X7.bg P21) rfl (ad:=⟨Q6,6,none⟩) (pq.ownCell 0 rfl 6)) λ_ f=>Y5 default f 5 λ_ f=>?_
             rcases cE F52 with⟨B41,F53⟩|⟨B41,F54⟩
             ·have U32: ((decide (X7.cA=[83,116,97,99,107]))== (decide (((X7.bg.length:Nat):Int)=1)))=false:=by simpa using B41
              have f:=f.st 136 (cB B41)
              refine Y5 default f 11 λ_ f=>jK rfl ?_
              intro W25 N22
              refine aS ?_
              exact⟨(true),(sI F53).symm,V12,(mR _),f.kp,N22⟩
             ·have U33: ((decide (X7.cA=[83,116,97,99,107]))== (decide (((X7.bg.length:Nat):Int)=1)))=true:=by simpa using B41
              have f:=f.st 136 (cB B41)
              refine Y5 default f 1 λ_ f=>Y3 (v:=sL Z21 X7.bg P21) f (λ_ pq=>Y30 (v:=sL Z21 X7.bg P21) rfl (ad:=⟨Q6,6,none⟩) (pq.ownCell 0 rfl 6)) λ_ f=>Y5 default f 4 λ_ f=>?_
              rcases cE F54 with⟨B42,F55⟩|⟨B42,F56⟩
              ·have U34:=dI.1 B42
               have f:=f.st 142 (cB B42)
               refine Y5 default f 5 λ_ f=>jK rfl ?_
               intro W26 N23
               refine aS ?_
               exact⟨(true),(sI F55).symm,V12,(mR _),f.kp,N23⟩
              ·have U35:=aA dI B42
               have f:=f.st 142 (cB B42)
               refine Y5 default f 1 λ_ f=>Y3 (v:=sL Z20 X7.bA P20) f (λ_ pq=>Y30 (v:=sL Z20 X7.bA P20) rfl (ad:=⟨Q6,4,none⟩) (pq.ownCell 0 rfl 4)) λ_ f=>Y5 default f 3 λ_ f=>jK rfl ?_
               intro W27 N24
               refine aS ?_
               exact⟨(decide ((8:Int)<((X7.bA.length:Nat):Int))),(sI F56).symm,V12,(mR _),f.kp,N24⟩
           ·rintro a_153 W28 ⟨G8,dD,V13,J13,f,N25⟩
            subst nR
            refine aS (RcF f F42 (λB43 F57=>?_) λB43 F58=>?_)
            ·refine RR (Ye f 1 λ_ f=>wp_ret (dj (hU (dj (dj ?_)))))
             cases sI F57
             exact .inl ⟨rfl,(),(sI T4).symm,V13,(J12.trans J13),f.kp,(N25.dropN 1)⟩
            ·refine St (aq (RR (Ye f 1 λ_ f=>wp_block ?_)))
             obtain⟨Q7,hL_5,F59⟩:=bS F58
             refine wp_mono (Q:=λe a w=>(e=.ret∧(∃G9:Unit,Q7=.inl G9∧∃V15:Mem,V13.le V15∧Frm 183 [(4,bO false)] a∧Hp w0 V15 ((Ent.obj Q6 (.cells (aTB0 X7 Z19 P19 Z20 P20 Z21 P21) 66 (0,0)))::H) w))∨(e=.exit 8∧(∃G10:Unit,Q7=.inr G10∧∃V16:Mem,V13.le V16∧Frm 183 [(1,iL d1),(2,pP Q1),(8,iL K4),(9,pP Q6)] a∧Hp w0 V16 ((Ent.obj Q6 (.cells (aTB0 X7 Z19 P19 Z20 P20 Z21 P21) 66 (0,0)))::H) w))) (cD (n:=183) (w0:=w0) (M:=V13) (λ (I9,K5)=>[(1,iL d1),(2,pP Q1),(8,iL K4),(9,pP Q6),(10,iL K5)]) (λ (I9,K5)=>((Ent.obj Q6 (.cells (aTB0 X7 Z19 P19 Z20 P20 Z21 P21) 66 (0,0)))::H)) (λ (I9,K5) MM=>aL (dY n X7) I9 K5=some Q7) (λ (I9,K5)=>I9) (n,(1:Int)) (f.kp) N25 hL_5 ?_) ?_
             ·rintro⟨I9,K5⟩ V14 _ W29 J14 I_5 f N26
              have I_5L:=I_5
              obtain⟨I10,r_5,rfl,hs_5,T5⟩:=bB I_5L
              unfold dY at hs_5
              refine aq (RR (Y f 2 λ_ f=>Z f (Y30 (v:=sL Z19 X7.bT P19) rfl (ad:=⟨Q6,3,none⟩) (N26.ownCell 0 rfl 3)) λ_ f=>Ye f 2 λ_ f=>RcF f hs_5 (λB44 F60=>?_) λB44 F67=>?_))
              ·have U38:=dI.1 B44
               refine St (aq (wp_block (aq (lP N26 kr kr (Y5 default f 1 λ_ f=>Y3 (v:=sL Z19 X7.bT P19) f (λ_ pq=>Y30 (v:=sL Z19 X7.bT P19) rfl (ad:=⟨Q6,3,none⟩) (pq.ownCell 0 rfl 3)) λ_ f=>Y5 default f 1 λ_ f=>?_)))))
               obtain⟨O8,F61⟩:=nS F60
               refine Y3 (v:=iL (IntKind.wrap .i64 (K5-1))) f (λ_ pq=>by kernel_rfl) λ_ f=>?_
               have f:=f.st 158 (iW O8)
               obtain⟨X9,l9,F62⟩:=bS F61
               obtain⟨C9,c_9,e_9,-,D9,R11⟩:=Sli.at_ (B31.mono (J13.trans J14)) l9
               obtain⟨Z25,P25,rfl,B45⟩:=TG0.opn D9
               refine Y3 (v:=Pa (C9.add ((K5-1).toNat*7))) f (λ_ pq=>Y29 e_9 rfl (len:=X7.bT.length) (cap:=P19) (k:=.i64) (i:=K5-1) (e:=70) (sz:=7) (az l9) (ay l9)) λ_ f=>Y5 default f 1 λ_ f=>Y4 f R11 0 rfl λ_ f=>Y5 default f 1 λ_ f=>Y3 (v:=sL Z19 X7.bT P19) f (λ_ pq=>Y30 (v:=sL Z19 X7.bT P19) rfl (ad:=⟨Q6,3,none⟩) (pq.ownCell 0 rfl 3)) λ_ f=>Y5 default f 1 λ_ f=>?_
               obtain⟨X10,l10,F63⟩:=bS F62
               obtain⟨C10,c_10,e_10,-,D10,R12⟩:=Sli.at_ (B31.mono (J13.trans J14)) l10
               obtain⟨Z26,P26,rfl,B46⟩:=TG0.opn D10
               refine Y3 (v:=Pa (C10.add (K5.toNat*7))) f (λ_ pq=>Y29 e_10 rfl (len:=X7.bT.length) (cap:=P19) (k:=.i64) (i:=K5) (e:=70) (sz:=7) (az l10) (ay l10)) λ_ f=>Y5 default f 1 λ_ f=>Y4 f R12 0 rfl λ_ f=>Y3 (v:=bO (!(Op.bytesLess X9.aj X10.aj))) f (λ_ pq=>lm rfl (l:=X9.aj) (m:=X10.aj) kr kr) λ_ f=>jK rfl ?_
               intro W30 N27
               refine aS (RcF f F63 (λB47 F64=>?_) λB47 F65=>?_)
               ·have U39: (Op.bytesLess X9.aj X10.aj)=false:=by simpa using B47
                refine RR (Ye f 1 λ_ f=>wp_ret (hU (dj (dj ?_))))
                cases sI F64
                exact .inl ⟨rfl,(),(sI T5).symm,V14,J14,f.kp,N27⟩
               ·have U40: (Op.bytesLess X9.aj X10.aj)=true:=by simpa using B47
                refine wp_skip (gh (aS (aN (Y f 1 λ_ f=>?_))))
                obtain⟨O9,F66⟩:=nS F65
                refine Y f 1 λ_ f=>?_
                have f:=f.st 154 (iW O9)
                refine Ye f 1 λ_ f=>?_
                cases sI F66
                exact⟨⟨I10,K5+1⟩,Nat.lt_succ_self _,V14,J14,T5,f.kp,N27⟩
              ·have U41:=aA dI B44
               refine wp_exit (gT (gT ?_))
               cases sI F67
               exact .inr ⟨rfl,(),(sI T5).symm,V14,J14,f.kp,N26⟩
             ·rintro _ _ W33 (⟨rfl,G9,rfl,V15,J15,f,N28⟩|⟨rfl,G10,rfl,V16,J16,f,N29⟩)
              ·refine hU (dj (hU (dj (dj ?_))))
               cases sI F59
               exact .inl ⟨rfl,(),(sI T4).symm,V15,((J12.trans J13).trans J15),f.kp,(N28.dropN 1)⟩
              ·refine lO (aS (RR (Y f 1 λ_ f=>Z f (Y30 (v:=sL Z21 X7.bg P21) rfl (ad:=⟨Q6,6,none⟩) (N29.ownCell 0 rfl 6)) λ_ f=>Y f 3 λ_ f=>?_)))
               rcases cE F59 with⟨B48,F68⟩|⟨B48,F75⟩
               ·have U42:=dI.1 B48
                have f:=f.st 173 (cB B48)
                refine Y f 1 λ_ f=>Z f (Y30 (v:=sL Z21 X7.bg P21) rfl (ad:=⟨Q6,6,none⟩) (N29.ownCell 0 rfl 6)) λ_ f=>?_
                obtain⟨X11,l11,F69⟩:=bS F68
                obtain⟨C11,c_11,e_11,-,D11,R13⟩:=Sli.at_ (B33.mono (J13.trans J16)) l11
                obtain⟨Z27,P27,Z28,P28,Z29,P29,Z30,P30,rfl,B49,B50,B51,B52⟩:=TA0.opn D11
                refine Z f (Y29 e_11 rfl (len:=X7.bg.length) (cap:=P21) (k:=.i64) (i:=(0:Int)) (e:=41) (sz:=4) (az l11) (ay l11)) λ_ f=>Z f (Y31 (cs:=(lTA0 X11 Z27 P27 Z28 P28 Z29 P29 Z30 P30)) rfl (ad:=C11.add ((0:Int).toNat*4)) (λj v h=>N29.cell (R13 j v h))) λ_ f=>Y f 1 λ_ f=>?_
                obtain⟨O10,F70⟩:=nS F69
                refine Y f 1 λ_ f=>?_
                have f:=f.st 179 (iW O10)
                obtain⟨X12,l12,F71⟩:=bS F70
                refine Y18 f N29 (hrec_law13_rises _ (GL.mono (((((((J1.trans J2).trans J5).trans J8).trans J11).trans J12).trans J13).trans J16) hG) _ X11 (TA0.shutx (x:=X11) B49 B50 B51 B52) (d1+1) X12 l12) λW34 N30 _ f=>Ye f 2 λ_ f=>RcF f F71 (λB53 F72=>?_) λB53 F73=>?_
                ·have U43: (X12)=false:=by simpa using B53
                 refine RR (Ye f 1 λ_ f=>wp_ret (hU (dj (dj ?_))))
                 cases sI F72
                 exact .inl ⟨rfl,(),(sI T4).symm,V16,((J12.trans J13).trans J16),f.kp,(N30.dropN 1)⟩
                ·have U44: (X12)=true:=by simpa using B53
                 refine wp_skip (gh (aS (aN (Y f 1 λ_ f=>?_))))
                 obtain⟨O11,F74⟩:=nS F73
                 refine Y f 1 λ_ f=>?_
                 have f:=f.st 106 (iW O11)
                 refine Ye f 1 λ_ f=>?_
                 cases sI F74
                 exact⟨⟨I8,K4+1⟩,Nat.lt_succ_self _,V16,((J12.trans J13).trans J16),T4,f.kp,(N30.dropN 1)⟩
               ·have U45:=aA dI B48
                have f:=f.st 173 (cB B48)
                refine Ye f 9 λ_ f=>Y7 f (wp_skip (gh (aS (aN (Y f 1 λ_ f=>?_)))))
                obtain⟨O12,F76⟩:=nS F75
                refine Y f 1 λ_ f=>?_
                have f:=f.st 106 (iW O12)
                refine Ye f 1 λ_ f=>?_
                cases sI F76
                exact⟨⟨I8,K4+1⟩,Nat.lt_succ_self _,V16,((J12.trans J13).trans J16),T4,f.kp,(N29.dropN 1)⟩
          ·have U46:=aA dI B30
           refine wp_exit (gT (gT ?_))
           cases sI F77
           exact .inr ⟨rfl,(),(sI T4).symm,V12,J12,f.kp,N15⟩
         ·rintro _ _ W37 (⟨rfl,G11,rfl,V17,J17,f,N31⟩|⟨rfl,G12,rfl,V18,J18,f,N32⟩)
          ·refine hU (dj (aJ f rfl (Lk 4 (bO false)) ?_))
           cases sI F39
           exact⟨_,rfl,V17,(((((J1.trans J2).trans J5).trans J8).trans J11).trans J17),N31,rfl⟩
          ·refine lO (aS (RR (Ye f 1 λ_ f=>wp_ret (aJ f rfl (Lk 4 (bO true)) ?_))))
           cases sI F39
           exact⟨_,rfl,V18,(((((J1.trans J2).trans J5).trans J8).trans J11).trans J18),N32,rfl⟩
def dn (n:Nat):Nat→TA0→Int→Option Bool
 |0=>λ_ _=>none
 |k+1=>gj n (dn n k)
def iT (n:Nat) (d0:TA0) (d1:Int):Option Bool:=dn n n d0 d1
theorem nq (n:Nat) (M:Mem) (hG:GL M) (c0:Lv) (d0:TA0) (h0:Rep M (bY d0) c0) (d1:Int) (r:Bool) (hF:iT n d0 d1=some r):Ok Tryz.prog M 14 [.agg c0.toArray,iL d1] (λ_ v=>v=bO r):=by
 have key: ∀ (k:Nat) (M:Mem) (hG:GL M) (c0:Lv) (d0:TA0) (h0:Rep M (bY d0) c0) (d1:Int) (r:Bool) (hF:dn n k d0 d1=some r),Ok Tryz.prog M 14 [.agg c0.toArray,iL d1] (λ_ v=>v=bO r):=by
  intro k
  induction k with
  |zero=>intro M hG c0 d0 h0 d1 r hF;simp[dn] at hF
  |succ k ih=>intro M hG c0 d0 h0 d1 r hF;exact ma n (dn n k) ih M hG c0 d0 h0 d1 r hF
 exact key n M hG c0 d0 h0 d1 r hF
def eG (n:Nat) (d0:TD0):Option Bool:=
 (gB n d0).bind λX1=>
 bif X1 then
  ((eO n).bind λX2=>
  some ((X2)))
 else
  (ia n d0).bind λX3=>
  bif(!(decide (X3.2.2=0))) then
   ((eO n).bind λX4=>
   some ((X4)))
  else
   (iT n X3.1 (0:Int)).bind λX5=>
   bif X5 then
    ((eO n).bind λX6=>
    some ((X6)))
   else
    some ((false))
theorem kn (n:Nat) (M:Mem) (hG:GL M) (c0:Lv) (d0:TD0) (h0:Rep M (ap d0) c0) (r:Bool) (hF:eG n d0=some r):Ok Tryz.prog M 5 [.agg c0.toArray] (λ_ v=>v=bO r):=by
 unfold eG at hF
 intro M1 hM0 w0 H w p0
 replace hG:=GL.mono hM0 hG
 replace h0:=Rep.mono hM0 _ _ h0
 obtain⟨Z1,P1,Z2,P2,rfl,B1,B2⟩:=TD0.opn h0
 refine Re 24 Tryz.func5 rfl λa0 f0=>RR (Y13 (cs:=(aTD0 d0 Z1 P1 Z2 P2)) (T:=26) f0 p0 λQ1 V1 W1 J1 R1 N1 _ f=>?_)
 have R2:=bR R1
 refine Ye f 1 λ_ f=>aq (RR (Z f (Y31 (cs:=(lTD0 d0 Z1 P1 Z2 P2)) rfl (ad:=⟨Q1,0,none⟩) (λj v h=>N1.cell (R2 j v h))) λ_ f=>?_))
 obtain⟨X1,l1,F1⟩:=bS hF
 refine Y18 f N1 (nz n _ _ d0 (TD0.shutx (x:=d0) (B1.mono J1) (B2.mono J1)) X1 l1) λW2 N2 _ f=>eT (RcF f F1 (λB3 F2=>?_) λB3 F4=>?_)
 ·refine RR ?_
  obtain⟨X2,l2,F3⟩:=bS F2
  refine Y18 f N2 (iD n _ (GL.mono J1 hG) X2 l2) λW3 N3 _ f=>Ye f 1 λ_ f=>wp_ret (dj (aJ f rfl (Lk 2 (bO X2)) ?_))
  cases sI F3
  exact⟨_,rfl,V1,J1,N3,rfl⟩
 ·refine St (RR (Z f (Y31 (cs:=(lTD0 d0 Z1 P1 Z2 P2)) rfl (ad:=⟨Q1,0,none⟩) (λj v h=>N2.cell (R2 j v h))) λ_ f=>?_))
  obtain⟨X3,l3,F5⟩:=bS F4
  refine Y16 f N2 (kw n _ (GL.mono J1 hG) _ d0 (TD0.shutx (x:=d0) (B1.mono J1) (B2.mono J1)) X3 l3) λ_ V2 W4 J2 N4 eM _ f=>?_
  obtain⟨eF,rfl,D1⟩:=eM
  obtain⟨Z3,P3,Z4,P4,Z5,P5,Z6,P6,rfl,B4,B5,B6,B7⟩:=TA0.opn D1
  refine Y f 4 λ_ f=>Y12 f N4 (.cells #[Sn,Sn,Sn,Sn] 41 (0,0)) λQ2 W5 N5 _ f=>Ys (lTA0 X3.1 Z3 P3 Z4 P4 Z5 P5 Z6 P6) (aTA0 X3.1 Z3 P3 Z4 P4 Z5 P5 Z6 P6) f N5 rfl rfl λW6 N6 _ f=>Ye f 2 λ_ f=>RR (Y f 3 λ_ f=>?_)
  rcases cE F5 with⟨B8,F6⟩|⟨B8,F8⟩
  ·have U3: ¬ (X3.2.2=0):=(cn dI).1 B8
   have f:=f.st 17 (cB B8)
   refine Y f 4 λ_ f=>?_
   obtain⟨X4,l4,F7⟩:=bS F6
   refine Y18 f N6 (iD n _ (GL.mono (J1.trans J2) hG) X4 l4) λW7 N7 _ f=>Ye f 2 λ_ f=>wp_ret (aJ f rfl (Lk 2 (bO X4)) ?_)
   cases sI F7
   exact⟨_,rfl,V2,(J1.trans J2),(N7.dropN 1),rfl⟩
  ·have U4: ¬ (¬ (X3.2.2=0)):=aA (cn dI) B8
   have f:=f.st 17 (cB B8)
   refine Z f (Y31 (cs:=(lTA0 X3.1 Z3 P3 Z4 P4 Z5 P5 Z6 P6)) rfl (ad:=⟨Q2,0,none⟩) (an (N6.ownCell 0 rfl) 0 rfl)) λ_ f=>?_
   obtain⟨X5,l5,F9⟩:=bS F8
   refine Y18 f N6 (nq n _ (GL.mono (J1.trans J2) hG) _ X3.1 (TA0.shutx (x:=X3.1) B4 B5 B6 B7) (0:Int) X5 l5) λW8 N8 _ f=>Y f 2 λ_ f=>?_
   rcases cE F9 with⟨B9,F10⟩|⟨B9,F12⟩
   ·have f:=f.st 21 (cB B9)
    obtain⟨X6,l6,F11⟩:=bS F10
    refine Y18 f N8 (iD n _ (GL.mono (J1.trans J2) hG) X6 l6) λW9 N9 _ f=>Ye f 2 λ_ f=>wp_ret (aJ f rfl (Lk 2 (bO X6)) ?_)
    cases sI F11
    exact⟨_,rfl,V2,(J1.trans J2),(N9.dropN 1),rfl⟩
   ·have f:=f.st 21 (cB B9)
    refine Ye f 3 λ_ f=>wp_ret (aJ f rfl (Lk 2 (bO false)) ?_)
    cases sI F12
    exact⟨_,rfl,V2,(J1.trans J2),(N8.dropN 1),rfl⟩
theorem kH {step:Int→Option (Lp Int (Sum Unit Unit))} {n:Nat} {α:Type} {l:List α} {f:α→Bs} (hr:Rise (l.map f)) (hs: ∀ (q:Nat) (h1:1≤q) (h2:q<l.length),Op.bytesLess (f (l[q-1]'(by omega))) (f l[q])=true→step (q:Int)=some (.nx ((q:Int)+1)))
 (he: ∀q:Nat,l.length≤q→step (q:Int)=some (.br (.inr ()))) (hn:l.length+1<n):aL step n 1=some (.inr ()):=by
 have:=lC (step:=step) (n:=n) (λq=>((q+1:Nat):Int)) (l.length-1) (.inr ()) (λq hq=>by
  have hp:=List.pairwise_iff_getElem.1 hr q (q+1) (by rw[List.length_map];omega) (by rw[List.length_map];omega) (by omega)
  rw[List.getElem_map,List.getElem_map] at hp
  have:=hs (q+1) (by omega) (by omega) (by simpa using hp)
  rw[this]
  rfl) (he _ (by omega)) (by omega)
 have e0: ((0+1:Nat):Int)=1:=rfl
 rwa [e0] at this
theorem lu {α:Type} {l:List α} {q:Nat} (h1:1≤q) (h2:q<l.length):aU l ((q:Int)-1)=some (l[q-1]'(by omega)):=by
 have e: (q:Int)-1=((q-1:Nat):Int):=by omega
 have h:q-1<l.length:=by omega
 rw[e]
 simp[aU,h]
theorem kC {α:Type} {l:List α} {q:Nat} (h2:q<l.length):aU l (q:Int)=some l[q]:=by simp[aU,h2]
theorem rises1 {n:Nat} (hn:100000≤n) {t:TA0} (hl:t.aO.length≤1000) (h:Rise (t.aO.map (·.aj))):aL (dU n t) n 1=some (.inr ()):=
 kH (f:=TE0.aj) h (λq h1 h2 hlt=>by
  unfold dU
  rw[dT (by omega),cT,aZ (by omega) (by omega),lu h1 h2,bnd,kC h2,bnd,hlt,nT,cF,aZ (by omega) (by omega)]) (λq hq=>by
  unfold dU
  rw[dF (by omega),cF]) (by omega)
theorem rises2 {n:Nat} (hn:100000≤n) {t:TA0} (hl:t.aW.length≤1000) (h:Rise (t.aW.map (·.aj))):aL (dV n t) n 1=some (.inr ()):=
 kH (f:=TH0.aj) h (λq h1 h2 hlt=>by
  unfold dV
  rw[dT (by omega),cT,aZ (by omega) (by omega),lu h1 h2,bnd,kC h2,bnd,hlt,nT,cF,aZ (by omega) (by omega)]) (λq hq=>by
  unfold dV
  rw[dF (by omega),cF]) (by omega)
theorem rises3 {n:Nat} (hn:100000≤n) {t:TA0} (hl:t.bC.length≤1000) (h:Rise (t.bC.map (·.aj))):aL (dW n t) n 1=some (.inr ()):=
 kH (f:=TC0.aj) h (λq h1 h2 hlt=>by
  unfold dW
  rw[dT (by omega),cT,aZ (by omega) (by omega),lu h1 h2,bnd,kC h2,bnd,hlt,nT,cF,aZ (by omega) (by omega)]) (λq hq=>by
  unfold dW
  rw[dF (by omega),cF]) (by omega)
theorem rises5 {n:Nat} (hn:100000≤n) {x:TB0} (hl:x.bT.length+1<n∧x.bT.length≤1000000) (h:Rise (x.bT.map (·.aj))):aL (dY n x) n 1=some (.inr ()):=
 kH (f:=TG0.aj) h (λq h1 h2 hlt=>by
  unfold dY
  rw[dT (by omega),cT,aZ (by omega) (by omega),lu h1 h2,bnd,kC h2,bnd,hlt,nT,cF,aZ (by omega) (by omega)]) (λq hq=>by
  unfold dY
  rw[dF (by omega),cF]) hl.1
theorem oA {n:Nat} (hn:100000≤n): ∀ (j k:Nat) (t:TA0) (deep:Int),k≤j→0≤deep→GT k t deep→dn n j t deep=some true
 |_,0,t,deep,_,_,h=>h.elim
 |0,k+1,t,deep,hj,_,_=>absurd hj (by omega)
 |j+1,k+1,t,deep,hj,h0,h=>by
  obtain⟨g1,g2,g3,g4,g5,r1,r2,r3,r4,hx⟩:=h
  show gj n (dn n j) t deep=some true
  unfold gj
  rw[dF (by omega),cF,dF (by omega),cF,dF (by omega),cF,dF (by omega),cF,dF (by omega),bnd,cF,rises1 hn (by omega) r1,bnd]
  dsimp only
  rw[rises2 hn (by omega) r2,bnd]
  dsimp only
  rw[rises3 hn (by omega) r4,bnd]
  dsimp only
  have:=lC (step:=dX n (dn n j) t deep) (n:=n) (λq=>((q:Nat):Int)) t.bU.length (.inr ()) (λq hq=>by
   obtain⟨x1,x2,x3,x4,x5⟩:=hx t.bU[q] (List.getElem_mem hq)
   have hty:decide (t.bU[q].cA=[83,116,97,99,107])=decide (((t.bU[q].bg.length:Nat):Int)=1):=decide_eq_decide.2 ⟨λh=>by have:=x1.1 h;omega,λh=>x1.2 (by omega)⟩
   have hall: ((bif(!((decide (t.bU[q].cA=[83,116,97,99,107]))== (decide (((t.bU[q].bg.length:Nat):Int)=1)))) then some true else bif(decide ((1:Int)<((t.bU[q].bg.length:Nat):Int))) then some true else some (decide ((8:Int)<((t.bU[q].bA.length:Nat):Int)))):Option Bool)=some false:=by
    rw[hty,beq_self_eq_true,nT,cF,dF (by omega),cF,dF (by omega)]
   unfold dX
   rw[dT (by omega),cT,kC hq,bnd,hall]
   have hcond: ((bif(decide ((0:Int)<(q:Int))) then(bb (inR .i64 ((q:Int)-1))<|(aU t.bU ((q:Int)-1)).bind λx_8=>bif(!(Op.bytesLess x_8.jn t.bU[q].jn)) then some true else some false) else some false):Option Bool)=some false:=by
    cases hq0:decide ((0:Int)<(q:Int)) with
    |false=>rfl
    |true=>
     have hq1:=of_decide_eq_true hq0
     have hp:=List.pairwise_iff_getElem.1 r3 (q-1) q (by rw[List.length_map];omega) (by rw[List.length_map];omega) (by omega)
     rw[List.getElem_map,List.getElem_map] at hp
     rw[cT,aZ (by omega) (by omega),lu (by omega) hq,bnd,hp,nT,cF]
   rw[hcond,bnd,cF]
   rw[rises5 hn ⟨by have:=x4.2;omega,by have:=x4.2;omega⟩ x4.1,bnd]
   dsimp only
   cases hi:decide (((t.bU[q].bg.length:Nat):Int)=1) with
   |false=>rw[cF,aZ (by omega) (by omega)];rfl
   |true=>
    have hi1:=of_decide_eq_true hi
    have hlt:0<t.bU[q].bg.length:=by omega
    have hg:aU t.bU[q].bg (0:Int)=some t.bU[q].bg[0]:=by
     have:=kC hlt
     exact this
    rw[cT,hg,bnd,aZ (by omega) (by omega),oA hn j k t.bU[q].bg[0] (deep+1) (by omega) (by omega) (x5 _ (List.getElem_mem hlt)),bnd,nT,cF,aZ (by omega) (by omega)]
    rfl) (by
   unfold dX
   rw[dF (by omega),cF]) (by omega)
  have e0: ((0:Nat):Int)=0:=rfl
  rw[e0] at this
  rw[this,bnd]
theorem wakes13z:eO 100000=some true:=by kernel_rfl
theorem rises_law (v:TD0):eG 100000 v=some true:=by
 unfold eG
 obtain⟨g,hg,hf⟩:=great_fine (n:=100000) (by omega) v
 rw[hg,bnd]
 cases g with
 |true=>rw[cT,wakes13z,bnd]
 |false=>
  obtain⟨hfine,hs,_⟩:=hf rfl
  rw[cF]
  unfold ia
  rw[check_run (by omega) hfine,bnd]
  cases hc:decide (checkV v=0) with
  |false=>
   rw[nF,cT,bnd]
   dsimp only
   rw[hc,nF,cT,wakes13z,bnd]
  |true=>
   have hok:=(checkV_ok (of_decide_eq_true hc)).1
   rw[nT,cF]
   unfold io
   obtain⟨r,hr,hp⟩:=lM (n:=100000) (by omega) 100000 0 v [] (by omega) (by omega) (by omega) ⟨30,hs,hok,by omega,by simp⟩
   rw[hr,bnd]
   have hend: ∀t:TA0,(∃k,k≤100000∧GT k t 0)→((iT 100000 t 0).bind λx_5=>bif x_5 then((eO 100000).bind λx_6=>some x_6) else some false)=some true:=λt ⟨k,hk,ht⟩=>by
    unfold iT
    rw[oA (by omega) 100000 k t 0 hk (by omega) ht,bnd,cT,wakes13z,bnd]
   cases r with
   |inl p=>
    dsimp only
    rw[bnd]
    dsimp only
    cases hz:decide (p.1=0) with
    |false=>rw[nF,cT,wakes13z,bnd]
    |true=>
     rw[nT,cF]
     exact hend _ ⟨1,by omega,by omega,Nat.zero_le _,Nat.zero_le _,Nat.zero_le _,Nat.zero_le _,List.Pairwise.nil,List.Pairwise.nil,List.Pairwise.nil,List.Pairwise.nil,λx hx=>by cases hx⟩
   |inr t=>
    dsimp only
    rw[bnd]
    dsimp only
    rw[dT rfl,nT,cF]
    exact hend t ⟨100000,by omega,hp t rfl⟩
end Go.Proofs.YtkopljikappieaaGreatDoor
end
section
namespace Go.Vc
open Go
mutual
def dsz:Dat→Nat
 |.int _ _=>1
 |.bool _=>1
 |.str l=>l.length+1
 |.list _ ds=>dszs ds+1
 |.struct ds=>dszs ds+1
def dszs:List Dat→Nat
 |[]=>0
 |d::ds=>dsz d+dszs ds
end
theorem dszs_app: ∀ (a b:List Dat),dszs (a++b)=dszs a+dszs b
 |[],b=>by simp[dszs]
 |d::a,b=>by simp only[List.cons_append,dszs,dszs_app a b];omega
theorem le_sum: ∀ {l:List Nat} {x:Nat},x∈l→x≤l.sum
 |y::l,x,h=>by
  rcases List.mem_cons.1 h with rfl|h
  ·simp
  ·have:=le_sum h;simp only[List.sum_cons];omega
section
variable {H:Type}
structure BulkOk (B:DataW H→Nat):Prop where
 one: ∀d,1≤B d
 str: ∀l,B (.lit (.string l))=l.length+1
 slice: ∀e s,(e.map B).sum+1≤B (.slice e s)
 agg: ∀e,(e.map B).sum+1≤B (.agg e)
variable {enc:TypeId×Value→H} {P:Program} {w:World} {t:TypeId} {α:Type} {f:α→Dat} {m:Nat} {B:DataW H→Nat}
def OpnAt (enc:TypeId×Value→H) (P:Program) (w:World) (t:TypeId) {α:Type} (f:α→Dat) (B:DataW H→Nat) (m:Nat):Prop:=
 ∀cs x,DataW.trod enc P w 0 (λ_=>true) true m t cs=some x→∃a,Rep (Mem.of w) (f a) cs∧Vld (f a)∧dsz (f a)≤B x.1
theorem OpnAt.zero:OpnAt enc P w t f B 0:=λcs x h=>by simp[DataW.trod] at h
theorem opa_int {k:IntKind} (hB:BulkOk B) (ht:P.underlying t=some (.int k)):OpnAt enc P w t (Dat.int k) B m:=λcs x h=>by
 obtain⟨a,rfl,_,hw⟩:=DataW.trod_int ht h
 exact⟨a,rfl,hw,hB.one _⟩
theorem opa_bool (hB:BulkOk B) (ht:P.underlying t=some .bool):OpnAt enc P w t Dat.bool B m:=λcs x h=>by
 obtain⟨a,rfl,_⟩:=DataW.trod_bool ht h
 exact⟨a,rfl,trivial,hB.one _⟩
theorem opa_str (hB:BulkOk B) (ht:P.underlying t=some .string):OpnAt enc P w t Dat.str B m:=λcs x h=>by
 obtain⟨s,rfl,hx,hw⟩:=DataW.trod_string ht h
 refine⟨s.data.toList,(by show [Value.string s]=_;rw[S_eta]),by show s.data.toList.length≤maxLen;simpa using hw,?_⟩
 rw[hx]
 show s.data.toList.length+1≤B (.lit (.string s.data.toList))
 rw[hB.str]
 exact Nat.le_refl _
theorem opa_slice {e:TypeId} {sz:Nat} (hB:BulkOk B) (ht:P.underlying t=some (.slice e)) (hsz:P.cellsOf e=sz) (h:OpnAt enc P w e f B m):OpnAt enc P w t (eL sz f) B (m+1):=λcs x hx=>by
 rcases DataW.trod_slice ht hx with⟨rfl,hx⟩|⟨ad,len,cap,elems,rest,n',hn',rfl,hxe,_,hlc,hcm,hel,hat,_⟩
 ·refine⟨[],Sli.rep (Sli.nil (sz:=sz) (f:=f)),by simp[Vld,eL,VldAll],?_⟩
  have:=hB.one x.1
  simpa [eL,dsz,dszs] using this
 ·obtain rfl:n'=m:=by omega
  have key: ∀k,k≤len→∃xs:List α,xs.length=k∧RepArr (Mem.of w) sz (xs.map f) ad∧(∀x∈xs,Vld (f x))∧dszs (xs.map f)≤((elems.take k).map λx=>B x.1).sum:=by
   intro k
   induction k with
   |zero=>intro _;exact⟨[],rfl,trivial,λx hx=>(by cases hx),by simp[dszs]⟩
   |succ k ih=>
    intro hk
    obtain⟨xs,h1,h2,h3,h3b⟩:=ih (by omega)
    have hk':k<elems.length:=by omega
    have:=hat k (by omega)
    rw[List.getElem?_eq_getElem hk'] at this
    obtain⟨cs',g1,g2⟩:=Option.bind_eq_some_iff.1 this
    obtain⟨a,g3,g4,g4b⟩:=h cs' _ g2
    obtain⟨g5,g6⟩:=cells_of g1
    rw[hsz] at g5 g6
    refine⟨xs++[a],by simp[h1],?_,λx hx=>?_,?_⟩
    ·rw[List.map_append]
     have app: ∀ (ds:List Dat) (ad:Addr),RepArr (Mem.of w) sz ds ad→RepArr (Mem.of w) sz [f a] (ad.add (ds.length*sz))→RepArr (Mem.of w) sz (ds++[f a]) ad:=by
      intro ds
      induction ds with
      |nil=>intro ad _ hh;simpa [Addr.add] using hh
      |cons d ds ih=>
       intro ad h1 h2
       refine⟨h1.1,ih _ h1.2 ?_⟩
       rw[gy]
       rw[List.length_cons,show(ds.length+1)*sz=sz+ds.length*sz by rw[Nat.add_mul];omega] at h2
       exact h2
     refine app _ _ h2 ⟨⟨cs',g5,g3,?_⟩,trivial⟩
     rw[List.length_map,h1]
     exact g6
    ·rcases List.mem_append.1 hx with hx|hx
     ·exact h3 x hx
     ·simp at hx;subst hx;exact g4
    ·rw[List.map_append,dszs_app,List.take_add_one,List.getElem?_eq_getElem hk',List.map_append,List.sum_append]
     simp only[List.map_cons,List.map_nil,dszs,Option.toList_some,List.sum_cons,List.sum_nil]
     omega
  obtain⟨xs,h1,h2,h3,h3b⟩:=key len (Nat.le_refl _)
  subst h1
  refine⟨xs,Sli.rep ⟨hlc,λe=>(by cases e),.inr ⟨ad,rfl,h2⟩⟩,?_,?_⟩
  ·refine⟨by rw[List.length_map];omega,VldAll.mk λd hd=>?_⟩
   obtain⟨x,hx,rfl⟩:=List.mem_map.1 hd
   exact h3 x hx
  ·rw[hxe]
   show dszs (xs.map f)+1≤_
   have:=hB.slice (elems.map (·.1)) (rest.map (·.1))
   rw[←hel,List.take_length] at h3b
   rw[List.map_map] at this
   have e: (elems.map (B ∘ λx=>x.1))=elems.map λx=>B x.1:=rfl
   rw[e] at this
   show _≤B (.slice (elems.map (·.1)) (rest.map (·.1)))
   omega
theorem nv {e:TypeId} {sz:Nat} (hB:BulkOk B) (ht:P.underlying t=some (.slice e)) (hsz:P.cellsOf e=sz) (h: ∀k,k<m→OpnAt enc P w e f B k):OpnAt enc P w t (eL sz f) B m:=by
 cases m with
 |zero=>exact OpnAt.zero
 |succ m=>exact opa_slice hB ht hsz (h m (Nat.lt_succ_self m))
theorem OpnAt.arg (h: ∀n,OpnAt enc P w t f B n) {v:Value} {d:DataW H} {ps:List MemPlace} (ht:DataW.Trod enc P w 0 (λ_=>true) true t v d ps): ∃a,Rep (Mem.of w) (f a) v.cells.toList∧Vld (f a)∧dsz (f a)≤B d:=by
 obtain⟨fuel,hf⟩:=ht
 exact h fuel _ _ hf
theorem OpnAt.struct_arg (h: ∀n,OpnAt enc P w t f B n) {v:Value} {d:DataW H} {ps:List MemPlace} (hv: ∃cs:Array Value,v=.agg cs) (ht:DataW.Trod enc P w 0 (λ_=>true) true t v d ps):
 ∃ (c:Lv) (a:α),v=.agg c.toArray∧Rep (Mem.of w) (f a) c∧Vld (f a)∧dsz (f a)≤B d:=by
 obtain⟨cs,rfl⟩:=hv
 obtain⟨a,h1,h2⟩:=OpnAt.arg h ht
 exact⟨cs.toList,a,by simp,h1,h2⟩
end
end Go.Vc
end
section
namespace Go.Proofs.YtkopljikappieaaGreatDoor
open Go Go.Vc Go.RowKit
theorem opa_TD0 {H:Type} {enc:TypeId×Value→H} {w:World} {B:DataW H→Nat} (hB:BulkOk B): ∀m,OpnAt enc Tryz.prog w 26 ap B m:=by
 intro m
 induction m using Nat.strongRecOn with
 |ind m ih=>
 intro cs x h
 obtain⟨xs,n,rfl,rfl,hlen,hxl,hf⟩:=DataW.trod_struct Tryz.underlying26 h
 have hct:Tryz.prog.cellsOf 26=6:=by kernel_rfl
 rw[hct] at hlen
 obtain⟨x0,x1,x2,x3,x4,x5,rfl⟩: ∃x0 x1 x2 x3 x4 x5,xs=[x0,x1,x2,x3,x4,x5]:=by
  match xs,hxl with
  |[x0,x1,x2,x3,x4,x5],_=>exact⟨x0,x1,x2,x3,x4,x5,rfl⟩
 have f0:DataW.trod enc Tryz.prog w 0 (λ_=>true) true n 22 ((cs.drop 0).take (Tryz.prog.cellsOf 22))=some x0:=hf 0 _ rfl
 rw[show Tryz.prog.cellsOf 22=1 by kernel_rfl] at f0
 obtain⟨a0,r0,v0,b0⟩:=(λ_=>opa_int hB Tryz.underlying22) n _ _ f0
 have f1:DataW.trod enc Tryz.prog w 0 (λ_=>true) true n 4 ((cs.drop 1).take (Tryz.prog.cellsOf 4))=some x1:=hf 1 _ rfl
 rw[show Tryz.prog.cellsOf 4=1 by kernel_rfl] at f1
 obtain⟨a1,r1,v1,b1⟩:=(λ_=>opa_bool hB Tryz.underlying4) n _ _ f1
 have f2:DataW.trod enc Tryz.prog w 0 (λ_=>true) true n 3 ((cs.drop 2).take (Tryz.prog.cellsOf 3))=some x2:=hf 2 _ rfl
 rw[show Tryz.prog.cellsOf 3=1 by kernel_rfl] at f2
 obtain⟨a2,r2,v2,b2⟩:=(λ_=>opa_int hB Tryz.underlying3) n _ _ f2
 have f3:DataW.trod enc Tryz.prog w 0 (λ_=>true) true n 9 ((cs.drop 3).take (Tryz.prog.cellsOf 9))=some x3:=hf 3 _ rfl
 rw[show Tryz.prog.cellsOf 9=1 by kernel_rfl] at f3
 obtain⟨a3,r3,v3,b3⟩:=(λ_=>opa_str hB Tryz.underlying9) n _ _ f3
 have f4:DataW.trod enc Tryz.prog w 0 (λ_=>true) true n 23 ((cs.drop 4).take (Tryz.prog.cellsOf 23))=some x4:=hf 4 _ rfl
 rw[show Tryz.prog.cellsOf 23=1 by kernel_rfl] at f4
 obtain⟨a4,r4,v4,b4⟩:=(nv (m:=n) (e:=26) (sz:=6) hB Tryz.underlying23 kr (λk hk=>ih k (by omega))) _ _ f4
 have f5:DataW.trod enc Tryz.prog w 0 (λ_=>true) true n 24 ((cs.drop 5).take (Tryz.prog.cellsOf 24))=some x5:=hf 5 _ rfl
 rw[show Tryz.prog.cellsOf 24=1 by kernel_rfl] at f5
 obtain⟨a5,r5,v5,b5⟩:=(nv (m:=n) (e:=9) (sz:=1) hB Tryz.underlying24 kr (λk _=>(λ_=>opa_str hB Tryz.underlying9) k)) _ _ f5
 refine⟨⟨a0,a1,a2,a3,a4,a5⟩,?_,?_,?_⟩
 ·rw[dv]
  have hcs:ag (Mem.of w) _ (cs.drop 0):=(ag.cut (k:=1) r0 (by rw[List.drop_drop];exact(ag.cut (k:=1) r1 (by rw[List.drop_drop];exact(ag.cut (k:=1) r2 (by rw[List.drop_drop];exact(ag.cut (k:=1) r3 (by rw[List.drop_drop];exact(ag.cut (k:=1) r4 (by rw[List.drop_drop];exact(ag.cut (k:=1) r5 (by rw[List.drop_drop];exact(show ag (Mem.of w) [] (cs.drop 6) from List.drop_eq_nil_of_le (by omega))))))))))))))
  exact hcs
 ·rw[dv];exact⟨v0,⟨v1,⟨v2,⟨v3,⟨v4,⟨v5,trivial⟩⟩⟩⟩⟩⟩
 ·rw[dv]
  have:=hB.agg ([x0,x1,x2,x3,x4,x5].map (·.1))
  simp only[List.map_cons,List.map_nil,List.sum_cons,List.sum_nil] at this ⊢
  simp only[dsz,dszs] at*
  omega
theorem nc {H:Type} (l:List (DataW H)):Rows.uptoBulkAll l=(l.map Rows.uptoBulk).sum:=by
 induction l with
 |nil=>simp[Rows.uptoBulkAll]
 |cons x l ih=>simp only[Rows.uptoBulkAll,List.map_cons,List.sum_cons,ih]
theorem bulk_ok {H:Type}:BulkOk (H:=H) Rows.uptoBulk where
 one d:=by
  cases d with
  |lit l=>cases l<;>simp[Rows.uptoBulk]
  |nil=>simp[Rows.uptoBulk]
  |ptr d=>simp[Rows.uptoBulk]
  |slice elems spare=>simp[Rows.uptoBulk]
  |agg parts=>simp[Rows.uptoBulk]
  |iface t d=>simp[Rows.uptoBulk]
  |map entries=>simp[Rows.uptoBulk]
  |held h=>simp[Rows.uptoBulk]
 str l:=by simp[Rows.uptoBulk]
 slice e s:=by
  simp only[Rows.uptoBulk]
  rw[nc e]
  omega
 agg e:=by
  simp only[Rows.uptoBulk]
  rw[nc e]
  exact Nat.le_refl _
theorem bulk_one {H:Type} {d:DataW H} {l:List (DataW H)} (h:Rows.uptoSmall H l=true) (hd:d∈l):Rows.uptoBulk d≤1048576:=by
 unfold Rows.uptoSmall at h
 have h:=of_decide_eq_true h
 rw[nc] at h
 have:=le_sum (List.mem_map_of_mem (f:=Rows.uptoBulk) hd)
 omega
end Go.Proofs.YtkopljikappieaaGreatDoor
end
