/-
  Texts of this claim, packed (what nothing names is left out): LW, LE, SynL1, Vo2, Op. Own work, partly printed by own programs. No condition.
-/
import Derived.Test.YtkopljikappieaaGreatDoorPkF6
import Derived.Test.YtkopljikappieaaGreatDoorPkF5
import Derived.Test.YtkopljikappieaaGreatDoorPkF2
import Derived.Test.YtkopljikappieaaGreatDoorPkF1
import Derived.Test.YtkopljikappieaaGreatDoorRows
set_option linter.unusedVariables false
set_option linter.unusedSimpArgs false
set_option maxHeartbeats 2000000
section
namespace Go.Proofs.YtkopljikappieaaGreatDoor
open Go Go.Vc Go.RowKit
def gO (n:Nat):Option Bool:=
 (gg n (⟨(5:Int),(false),(0:Int),([]:Bs),[(⟨(3:Int),(false),(0:Int),[65],([]:List TD0),([]:List Bs)⟩:TD0)],([[82,101,102]]:List Bs)⟩:TD0)).bind λX1=>
 (aQ [(⟨(3:Int),(false),(0:Int),[65],([]:List TD0),([]:List Bs)⟩:TD0)] (0:Int)).bind λX2=>
 (aQ [(⟨(3:Int),(false),(0:Int),[65],([]:List TD0),([]:List Bs)⟩:TD0)] (0:Int)).bind λX3=>
 (gg n (⟨(5:Int),(false),(0:Int),([]:Bs),[(⟨X2.ab,(X2.ah),X2.af,X2.aa,X2.ac,X2.ae⟩:TD0),(⟨X3.ab,(X3.ah),X3.af,X3.aa,X3.ac,X3.ae⟩:TD0)],([[82,101,102],[83,117,98]]:List Bs)⟩:TD0)).bind λX4=>
 (kc n (⟨(5:Int),(false),(0:Int),([]:Bs),[(⟨(5:Int),(false),(0:Int),([]:Bs),[(⟨(5:Int),(false),(0:Int),([]:Bs),([]:List TD0),([]:List Bs)⟩:TD0)],([[65]]:List Bs)⟩:TD0)],([[82,101,115,111,117,114,99,101,115]]:List Bs)⟩:TD0)).bind λX5=>
 bif(decide (X1.2.2=0)) then
  (bif(decide (X1.1.ab=3)) then
   (bif(decide (X1.1.ak=[65])) then
    (bif(decide (X4.2.2=121)) then
     (bif(decide (X4.2.1=[])) then
      (bif(decide (X5.2.2=120)) then
       (some ((decide (X5.2.1=[82,101,115,111,117,114,99,101,115,47,65]))))
      else
       some ((false)))
     else
      some ((false)))
    else
     some ((false)))
   else
    some ((false)))
  else
   some ((false)))
 else
  some ((false))
set_option maxRecDepth 20000 in
theorem jS (n:Nat) (M:Mem) (hG:GL M) (r:Bool) (hF:gO n=some r):Ok Tryz.prog M 7 [] (λ_ v=>v=bO r):=by
 unfold gO at hF
 intro M1 hM0 w0 H w p0
 replace hG:=GL.mono hM0 hG
 refine Re 83 Tryz.func7 rfl λa0 f0=>RR (Ye f0 1 λ_ f=>RR (aP (k:=1) (c:=1) f p0 (.cells #[S [82,101,102]] 9 (0,0)) kr (λ_=>by kernel_rfl) λQ1 W1 N1 _ f=>Y f 1 λ_ f=>aP (k:=1) (c:=1) f N1 (.cells #[iB 3,bO false,iL 0,S [65],Sn,Sn] 26 (0,0)) kr (λ_=>by kernel_rfl) λQ2 W2 N2 _ f=>Y f 1 λ_ f=>Y13 f N2 (.cells #[iB 0,bO false,iL 0,S [],Sn,Sn] 26 (0,0)) λQ3 W3 N3 _ f=>?_))
 have N4:=N3.pl [1]
 have D1:ag M1 ([(⟨(3:Int),(false),(0:Int),[65],([]:List TD0),([]:List Bs)⟩:TD0)].map ar) [iB 3,bO false,iL 0,S [65],Sn,Sn]:=⟨_,_,rfl,TD0.shut Sli.nil Sli.nil,rfl⟩
 have N5:Hp w0 M1 ((Ent.row 26 6 (.slice (some ⟨Q2,0,none⟩) 1 1) [(⟨(3:Int),(false),(0:Int),[65],([]:List TD0),([]:List Bs)⟩:TD0)].length [iB 3,bO false,iL 0,S [65],Sn,Sn])::(oC Q3 #[iB 0,bO false,iL 0,S [],Sn,Sn] 26)::(oC Q1 #[S [82,101,102]] 9)::H) W3:=N4.objRow (n:=1) (cap:=1) (size:=6) (by decide) (by decide) (dq (by decide) rfl) rfl rfl
 obtain⟨Z1,P1,V1,H1,J1,N6,B1⟩:=N5.rowSli (f:=ar) (xs:=[(⟨(3:Int),(false),(0:Int),[65],([]:List TD0),([]:List Bs)⟩:TD0)]) kq D1
 have f:=Frm.set f 16 (v:=.agg #[.int .i8 5,.bool false,.int .i64 0,S [],.slice (some ⟨Q2,0,none⟩) 1 1,.slice (some ⟨Q1,0,none⟩) 1 1]) (v':=.agg #[.int .i8 5,.bool false,.int .i64 0,S [],.slice Z1 [(⟨(3:Int),(false),(0:Int),[65],([]:List TD0),([]:List (List UInt8))⟩:TD0)].length P1,.slice (some ⟨Q1,0,none⟩) 1 1]) (by kernel_rfl) (by rw[H1])
 have N7:=N6.pl [1]
 have D2:ag V1 (([[82,101,102]]:List Bs).map Dat.str) [S [82,101,102]]:=⟨_,_,rfl,rfl,rfl⟩
 have N8:Hp w0 V1 ((Ent.row 9 1 (.slice (some ⟨Q1,0,none⟩) 1 1) ([[82,101,102]]:List Bs).length [S [82,101,102]])::(oC Q3 #[iB 0,bO false,iL 0,S [],Sn,Sn] 26)::H) W3:=N7.objRow (n:=1) (cap:=1) (size:=1) (by decide) (by decide) (dq (by decide) rfl) rfl rfl
 obtain⟨Z2,P2,V2,H2,J2,N9,B2⟩:=N8.rowSli (f:=Dat.str) (xs:=([[82,101,102]]:List Bs)) bX D2
 have f:=Frm.set f 16 (v:=.agg #[.int .i8 5,.bool false,.int .i64 0,S [],.slice Z1 [(⟨(3:Int),(false),(0:Int),[65],([]:List TD0),([]:List (List UInt8))⟩:TD0)].length P1,.slice (some ⟨Q1,0,none⟩) 1 1]) (v':=.agg #[.int .i8 5,.bool false,.int .i64 0,S [],.slice Z1 [(⟨(3:Int),(false),(0:Int),[65],([]:List TD0),([]:List (List UInt8))⟩:TD0)].length P1,.slice Z2 ([[82,101,102]]:List (List UInt8)).length P2]) (by kernel_rfl) (by rw[H2])
 refine Ys [iB 5,bO false,iL 0,S [],sL Z1 [(⟨(3:Int),(false),(0:Int),[65],([]:List TD0),([]:List Bs)⟩:TD0)] P1,sL Z2 ([[82,101,102]]:List Bs) P2] #[iB 5,bO false,iL 0,S [],sL Z1 [(⟨(3:Int),(false),(0:Int),[65],([]:List TD0),([]:List Bs)⟩:TD0)] P1,sL Z2 ([[82,101,102]]:List Bs) P2] f N9 rfl rfl λW4 N10 _ f=>eT (RR (Z f (Y32 (cs:=[iB 5,bO false,iL 0,S [],sL Z1 [(⟨(3:Int),(false),(0:Int),[65],([]:List TD0),([]:List Bs)⟩:TD0)] P1,sL Z2 ([[82,101,102]]:List Bs) P2]) rfl (ad:=⟨Q3,0,none⟩) (am (N10.ownCell 0 rfl) 0 rfl)) λ_ f=>?_))
 obtain⟨X1,l1,F1⟩:=bS hF
 refine Y17 f N10 (iz n _ (GL.mono (J1.trans J2) hG) _ (⟨(5:Int),(false),(0:Int),([]:Bs),[(⟨(3:Int),(false),(0:Int),[65],([]:List TD0),([]:List Bs)⟩:TD0)],([[82,101,102]]:List Bs)⟩:TD0) (TD0.shut (B1.mono J2) B2) X1 l1) λ_ V3 W5 J3 N11 ej _ f=>?_
 obtain⟨cZ,rfl,D3⟩:=ej
 obtain⟨Z3,P3,rfl,B3⟩:=TH0.opn D3
 refine Y f 4 λ_ f=>Y13 f N11 (.cells #[iB 0,S [],iL 0,S [],S [],Sn] 31 (0,0)) λQ4 W6 N12 _ f=>Ys (lTH0 X1.1 Z3 P3) (aTH0 X1.1 Z3 P3) f N12 rfl rfl λW7 N13 _ f=>Ye f 2 λ_ f=>RR (Z f (Y32 (cs:=[iB 5,bO false,iL 0,S [],sL Z1 [(⟨(3:Int),(false),(0:Int),[65],([]:List TD0),([]:List Bs)⟩:TD0)] P1,sL Z2 ([[82,101,102]]:List Bs) P2]) rfl (ad:=⟨Q3,0,none⟩) (am (N13.ownCell 1 rfl) 0 rfl)) λ_ f=>Y13 f N13 (.cells #[iB 0,bO false,iL 0,S [],Sn,Sn] 26 (0,0)) λQ5 W8 N14 _ f=>Ys [iB 5,bO false,iL 0,S [],sL Z1 [(⟨(3:Int),(false),(0:Int),[65],([]:List TD0),([]:List Bs)⟩:TD0)] P1,sL Z2 ([[82,101,102]]:List Bs) P2] #[iB 5,bO false,iL 0,S [],sL Z1 [(⟨(3:Int),(false),(0:Int),[65],([]:List TD0),([]:List Bs)⟩:TD0)] P1,sL Z2 ([[82,101,102]]:List Bs) P2] f N14 rfl rfl λW9 N15 _ f=>eT (RR (aP (k:=2) (c:=2) f N15 (.cells #[S [82,101,102],S [83,117,98]] 9 (0,0)) kr (λ_=>by kernel_rfl) λQ6 W10 N16 _ f=>Y f 1 λ_ f=>Y26 f N16 1 rfl rfl (b:=Q5) (j:=5) (v:=.slice (some ⟨Q6,0,none⟩) 2 2) rfl (by exact rfl) (by simp) (by simp) _ rfl λW11 N17 _ f=>eT (an (mx 8 N17 kr kr λW12 N18=>cb (v:=Pa (⟨Q3,4,none⟩)) f kr kr rfl rfl kr λ_ f=>cb (v:=sL Z1 [(⟨(3:Int),(false),(0:Int),[65],([]:List TD0),([]:List Bs)⟩:TD0)] P1) f kr kr rfl rfl (Y31 (v:=sL Z1 [(⟨(3:Int),(false),(0:Int),[65],([]:List TD0),([]:List Bs)⟩:TD0)] P1) rfl (ad:=⟨Q3,4,none⟩) (N18.ownCell 3 rfl 4)) λ_ f=>?_)))))
 obtain⟨X2,l2,F2⟩:=bS F1
 obtain⟨C1,gW,jC,-,D4,R1⟩:=Sli.at_ (B1.mono (J2.trans J3)) l2
 obtain⟨Z4,P4,Z5,P5,rfl,B4,B5⟩:=TD0.opn D4
 refine cb (v:=Pa (C1.add ((0:Int).toNat*6))) f kr kr rfl rfl (Y30 jC rfl (len:=[(⟨(3:Int),(false),(0:Int),[65],([]:List TD0),([]:List Bs)⟩:TD0)].length) (cap:=P1) (k:=.i64) (i:=(0:Int)) (e:=26) (sz:=6) (ax l2) (aw l2)) λ_ f=>cb (v:=.agg (aTD0 X2 Z4 P4 Z5 P5)) f kr kr rfl rfl (Y32 (cs:=(lTD0 X2 Z4 P4 Z5 P5)) rfl (ad:=C1.add ((0:Int).toNat*6)) (λj v h=>N18.cell (R1 j v h))) λ_ f=>cb (v:=Pa (⟨Q3,4,none⟩)) f kr kr rfl rfl kr λ_ f=>cb (v:=sL Z1 [(⟨(3:Int),(false),(0:Int),[65],([]:List TD0),([]:List Bs)⟩:TD0)] P1) f kr kr rfl rfl (Y31 (v:=sL Z1 [(⟨(3:Int),(false),(0:Int),[65],([]:List TD0),([]:List Bs)⟩:TD0)] P1) rfl (ad:=⟨Q3,4,none⟩) (N18.ownCell 3 rfl 4)) λ_ f=>?_
 obtain⟨X3,l3,F3⟩:=bS F2
 obtain⟨C2,my,e_2,-,D5,R2⟩:=Sli.at_ (B1.mono (J2.trans J3)) l3
 obtain⟨Z6,P6,Z7,P7,rfl,B6,B7⟩:=TD0.opn D5
 refine cb (v:=Pa (C2.add ((0:Int).toNat*6))) f kr kr rfl rfl (Y30 e_2 rfl (len:=[(⟨(3:Int),(false),(0:Int),[65],([]:List TD0),([]:List Bs)⟩:TD0)].length) (cap:=P1) (k:=.i64) (i:=(0:Int)) (e:=26) (sz:=6) (ax l3) (aw l3)) λ_ f=>cb (v:=.agg (aTD0 X3 Z6 P6 Z7 P7)) f kr kr rfl rfl (Y32 (cs:=(lTD0 X3 Z6 P6 Z7 P7)) rfl (ad:=C2.add ((0:Int).toNat*6)) (λj v h=>N18.cell (R2 j v h))) λ_ f=>mG rfl (aP (k:=2) (c:=2) f N18 (.cells #[iB X2.ab,bO X2.ah,iL X2.af,S X2.aa,sL Z4 X2.ac P4,sL Z5 X2.ae P5,iB X3.ab,bO X3.ah,iL X3.af,S X3.aa,sL Z6 X3.ac P6,sL Z7 X3.ae P7] 26 (0,0)) kr (λ_=>by kernel_rfl) λQ7 W13 N19 _ f=>Y f 1 λ_ f=>Y26 f N19 2 rfl rfl (b:=Q5) (j:=4) (v:=.slice (some ⟨Q7,0,none⟩) 2 2) rfl (by exact rfl) (by simp) (by simp) _ rfl λW14 N20 _ f=>eT (RR (Z f (Y32 (cs:=[iB 5,bO false,iL 0,S [],.slice (some ⟨Q7,0,none⟩) 2 2,.slice (some ⟨Q6,0,none⟩) 2 2]) rfl (ad:=⟨Q5,0,none⟩) (am (N20.ownCell 2 rfl) 0 rfl)) λ_ f=>?_)))
 have D6:ag V3 ([(⟨X2.ab,(X2.ah),X2.af,X2.aa,X2.ac,X2.ae⟩:TD0),(⟨X3.ab,(X3.ah),X3.af,X3.aa,X3.ac,X3.ae⟩:TD0)].map ar) [iB X2.ab,bO X2.ah,iL X2.af,S X2.aa,sL Z4 X2.ac P4,sL Z5 X2.ae P5,iB X3.ab,bO X3.ah,iL X3.af,S X3.aa,sL Z6 X3.ac P6,sL Z7 X3.ae P7]:=⟨_,_,rfl,TD0.shut B4 B5,⟨_,_,rfl,TD0.shut B6 B7,rfl⟩⟩
 have N21:Hp w0 V3 ((Ent.row 26 6 (.slice (some ⟨Q7,0,none⟩) 2 2) [(⟨X2.ab,(X2.ah),X2.af,X2.aa,X2.ac,X2.ae⟩:TD0),(⟨X3.ab,(X3.ah),X3.af,X3.aa,X3.ac,X3.ae⟩:TD0)].length [iB X2.ab,bO X2.ah,iL X2.af,S X2.aa,sL Z4 X2.ac P4,sL Z5 X2.ae P5,iB X3.ab,bO X3.ah,iL X3.af,S X3.aa,sL Z6 X3.ac P6,sL Z7 X3.ae P7])::(oC Q6 #[S [82,101,102],S [83,117,98]] 9)::(oC Q5 #[iB 5,bO false,iL 0,S [],.slice (some ⟨Q7,0,none⟩) 2 2,.slice (some ⟨Q6,0,none⟩) 2 2] 26)::(Ent.obj Q4 (.cells (aTH0 X1.1 Z3 P3) 31 (0,0)))::(oC Q3 #[iB 5,bO false,iL 0,S [],sL Z1 [(⟨(3:Int),(false),(0:Int),[65],([]:List TD0),([]:List Bs)⟩:TD0)] P1,sL Z2 ([[82,101,102]]:List Bs) P2] 26)::H) W14:=N20.objRow (n:=2) (cap:=2) (size:=6) (by decide) (by decide) (dq (by decide) rfl) rfl rfl
 obtain⟨Z8,P8,V4,H3,J4,N22,B8⟩:=N21.rowSli (f:=ar) (xs:=[(⟨X2.ab,(X2.ah),X2.af,X2.aa,X2.ac,X2.ae⟩:TD0),(⟨X3.ab,(X3.ah),X3.af,X3.aa,X3.ac,X3.ae⟩:TD0)]) kq D6
 have f:=Frm.set f 37 (v:=.agg #[.int .i8 5,.bool false,.int .i64 0,S [],.slice (some ⟨Q7,0,none⟩) 2 2,.slice (some ⟨Q6,0,none⟩) 2 2]) (v':=.agg #[.int .i8 5,.bool false,.int .i64 0,S [],.slice Z8 [(⟨X2.ab,(X2.ah),X2.af,X2.aa,X2.ac,X2.ae⟩:TD0),(⟨X3.ab,(X3.ah),X3.af,X3.aa,X3.ac,X3.ae⟩:TD0)].length P8,.slice (some ⟨Q6,0,none⟩) 2 2]) (by kernel_rfl) (by rw[H3])
 have f:=f.st 34 (H3)
 have N23:Hp w0 V4 ((oC Q6 #[S [82,101,102],S [83,117,98]] 9)::(oC Q5 #[iB 5,bO false,iL 0,S [],sL Z8 [(⟨X2.ab,(X2.ah),X2.af,X2.aa,X2.ac,X2.ae⟩:TD0),(⟨X3.ab,(X3.ah),X3.af,X3.aa,X3.ac,X3.ae⟩:TD0)] P8,.slice (some ⟨Q6,0,none⟩) 2 2] 26)::(Ent.obj Q4 (.cells (aTH0 X1.1 Z3 P3) 31 (0,0)))::(oC Q3 #[iB 5,bO false,iL 0,S [],sL Z1 [(⟨(3:Int),(false),(0:Int),[65],([]:List TD0),([]:List Bs)⟩:TD0)] P1,sL Z2 ([[82,101,102]]:List Bs) P2] 26)::H) W14:=by unfold sL at N22;rw[H3] at N22;exact N22
 have D7:ag V4 (([[82,101,102],[83,117,98]]:List Bs).map Dat.str) [S [82,101,102],S [83,117,98]]:=⟨_,_,rfl,rfl,⟨_,_,rfl,rfl,rfl⟩⟩
 have N24:Hp w0 V4 ((Ent.row 9 1 (.slice (some ⟨Q6,0,none⟩) 2 2) ([[82,101,102],[83,117,98]]:List Bs).length [S [82,101,102],S [83,117,98]])::(oC Q5 #[iB 5,bO false,iL 0,S [],sL Z8 [(⟨X2.ab,(X2.ah),X2.af,X2.aa,X2.ac,X2.ae⟩:TD0),(⟨X3.ab,(X3.ah),X3.af,X3.aa,X3.ac,X3.ae⟩:TD0)] P8,.slice (some ⟨Q6,0,none⟩) 2 2] 26)::(Ent.obj Q4 (.cells (aTH0 X1.1 Z3 P3) 31 (0,0)))::(oC Q3 #[iB 5,bO false,iL 0,S [],sL Z1 [(⟨(3:Int),(false),(0:Int),[65],([]:List TD0),([]:List Bs)⟩:TD0)] P1,sL Z2 ([[82,101,102]]:List Bs) P2] 26)::H) W14:=N23.objRow (n:=2) (cap:=2) (size:=1) (by decide) (by decide) (dq (by decide) rfl) rfl rfl
 obtain⟨Z9,P9,V5,H4,J5,N25,B9⟩:=N24.rowSli (f:=Dat.str) (xs:=([[82,101,102],[83,117,98]]:List Bs)) bX D7
 have f:=Frm.set f 37 (v:=.agg #[.int .i8 5,.bool false,.int .i64 0,S [],.slice Z8 [(⟨X2.ab,(X2.ah),X2.af,X2.aa,X2.ac,X2.ae⟩:TD0),(⟨X3.ab,(X3.ah),X3.af,X3.aa,X3.ac,X3.ae⟩:TD0)].length P8,.slice (some ⟨Q6,0,none⟩) 2 2]) (v':=.agg #[.int .i8 5,.bool false,.int .i64 0,S [],.slice Z8 [(⟨X2.ab,(X2.ah),X2.af,X2.aa,X2.ac,X2.ae⟩:TD0),(⟨X3.ab,(X3.ah),X3.af,X3.aa,X3.ac,X3.ae⟩:TD0)].length P8,.slice Z9 ([[82,101,102],[83,117,98]]:List (List UInt8)).length P9]) (by kernel_rfl) (by rw[H4])
 have N26:Hp w0 V5 ((oC Q5 #[iB 5,bO false,iL 0,S [],sL Z8 [(⟨X2.ab,(X2.ah),X2.af,X2.aa,X2.ac,X2.ae⟩:TD0),(⟨X3.ab,(X3.ah),X3.af,X3.aa,X3.ac,X3.ae⟩:TD0)] P8,sL Z9 ([[82,101,102],[83,117,98]]:List Bs) P9] 26)::(Ent.obj Q4 (.cells (aTH0 X1.1 Z3 P3) 31 (0,0)))::(oC Q3 #[iB 5,bO false,iL 0,S [],sL Z1 [(⟨(3:Int),(false),(0:Int),[65],([]:List TD0),([]:List Bs)⟩:TD0)] P1,sL Z2 ([[82,101,102]]:List Bs) P2] 26)::H) W14:=by unfold sL at N25;rw[H4] at N25;exact N25
 obtain⟨X4,l4,F4⟩:=bS F3
 refine Y17 f N26 (iz n _ (GL.mono ((((J1.trans J2).trans J3).trans J4).trans J5) hG) _ (⟨(5:Int),(false),(0:Int),([]:Bs),[(⟨X2.ab,(X2.ah),X2.af,X2.aa,X2.ac,X2.ae⟩:TD0),(⟨X3.ab,(X3.ah),X3.af,X3.aa,X3.ac,X3.ae⟩:TD0)],([[82,101,102],[83,117,98]]:List Bs)⟩:TD0) (TD0.shut (B8.mono J5) B9) X4 l4) λ_ V6 W15 J6 N27 jk _ f=>?_
 obtain⟨c_4,rfl,D8⟩:=jk
 obtain⟨Z10,P10,rfl,B10⟩:=TH0.opn D8
 refine Y f 4 λ_ f=>Y13 f N27 (.cells #[iB 0,S [],iL 0,S [],S [],Sn] 31 (0,0)) λQ8 W16 N28 _ f=>Ys (lTH0 X4.1 Z10 P10) (aTH0 X4.1 Z10 P10) f N28 rfl rfl λW17 N29 _ f=>Ye f 2 λ_ f=>RR (aP (k:=1) (c:=1) f N29 (.cells #[S [65]] 9 (0,0)) kr (λ_=>by kernel_rfl) λQ9 W18 N30 _ f=>Y f 1 λ_ f=>aP (k:=1) (c:=1) f N30 (.cells #[iB 5,bO false,iL 0,S [],Sn,Sn] 26 (0,0)) kr (λ_=>by kernel_rfl) λQ10 W19 N31 _ f=>Y f 1 λ_ f=>Y13 f N31 (.cells #[iB 0,bO false,iL 0,S [],Sn,Sn] 26 (0,0)) λQ11 W20 N32 _ f=>?_)
 have N33:=N32.pl [1]
 have D9:ag V6 ([(⟨(5:Int),(false),(0:Int),([]:Bs),([]:List TD0),([]:List Bs)⟩:TD0)].map ar) [iB 5,bO false,iL 0,S [],Sn,Sn]:=⟨_,_,rfl,TD0.shut Sli.nil Sli.nil,rfl⟩
 have N34:Hp w0 V6 ((Ent.row 26 6 (.slice (some ⟨Q10,0,none⟩) 1 1) [(⟨(5:Int),(false),(0:Int),([]:Bs),([]:List TD0),([]:List Bs)⟩:TD0)].length [iB 5,bO false,iL 0,S [],Sn,Sn])::(oC Q11 #[iB 0,bO false,iL 0,S [],Sn,Sn] 26)::(oC Q9 #[S [65]] 9)::(Ent.obj Q8 (.cells (aTH0 X4.1 Z10 P10) 31 (0,0)))::(oC Q5 #[iB 5,bO false,iL 0,S [],sL Z8 [(⟨X2.ab,(X2.ah),X2.af,X2.aa,X2.ac,X2.ae⟩:TD0),(⟨X3.ab,(X3.ah),X3.af,X3.aa,X3.ac,X3.ae⟩:TD0)] P8,sL Z9 ([[82,101,102],[83,117,98]]:List Bs) P9] 26)::(Ent.obj Q4 (.cells (aTH0 X1.1 Z3 P3) 31 (0,0)))::(oC Q3 #[iB 5,bO false,iL 0,S [],sL Z1 [(⟨(3:Int),(false),(0:Int),[65],([]:List TD0),([]:List Bs)⟩:TD0)] P1,sL Z2 ([[82,101,102]]:List Bs) P2] 26)::H) W20:=N33.objRow (n:=1) (cap:=1) (size:=6) (by decide) (by decide) (dq (by decide) rfl) rfl rfl
 obtain⟨Z11,P11,V7,H5,J7,N35,B11⟩:=N34.rowSli (f:=ar) (xs:=[(⟨(5:Int),(false),(0:Int),([]:Bs),([]:List TD0),([]:List Bs)⟩:TD0)]) kq D9
 have f:=Frm.set f 45 (v:=.agg #[.int .i8 5,.bool false,.int .i64 0,S [],.slice (some ⟨Q10,0,none⟩) 1 1,.slice (some ⟨Q9,0,none⟩) 1 1]) (v':=.agg #[.int .i8 5,.bool false,.int .i64 0,S [],.slice Z11 [(⟨(5:Int),(false),(0:Int),([]:List UInt8),([]:List TD0),([]:List (List UInt8))⟩:TD0)].length P11,.slice (some ⟨Q9,0,none⟩) 1 1]) (by kernel_rfl) (by rw[H5])
 have N36:=N35.pl [1]
 have D10:ag V7 (([[65]]:List Bs).map Dat.str) [S [65]]:=⟨_,_,rfl,rfl,rfl⟩
 have N37:Hp w0 V7 ((Ent.row 9 1 (.slice (some ⟨Q9,0,none⟩) 1 1) ([[65]]:List Bs).length [S [65]])::(oC Q11 #[iB 0,bO false,iL 0,S [],Sn,Sn] 26)::(Ent.obj Q8 (.cells (aTH0 X4.1 Z10 P10) 31 (0,0)))::(oC Q5 #[iB 5,bO false,iL 0,S [],sL Z8 [(⟨X2.ab,(X2.ah),X2.af,X2.aa,X2.ac,X2.ae⟩:TD0),(⟨X3.ab,(X3.ah),X3.af,X3.aa,X3.ac,X3.ae⟩:TD0)] P8,sL Z9 ([[82,101,102],[83,117,98]]:List Bs) P9] 26)::(Ent.obj Q4 (.cells (aTH0 X1.1 Z3 P3) 31 (0,0)))::(oC Q3 #[iB 5,bO false,iL 0,S [],sL Z1 [(⟨(3:Int),(false),(0:Int),[65],([]:List TD0),([]:List Bs)⟩:TD0)] P1,sL Z2 ([[82,101,102]]:List Bs) P2] 26)::H) W20:=N36.objRow (n:=1) (cap:=1) (size:=1) (by decide) (by decide) (dq (by decide) rfl) rfl rfl
 obtain⟨Z12,P12,V8,H6,J8,N38,B12⟩:=N37.rowSli (f:=Dat.str) (xs:=([[65]]:List Bs)) bX D10
 have f:=Frm.set f 45 (v:=.agg #[.int .i8 5,.bool false,.int .i64 0,S [],.slice Z11 [(⟨(5:Int),(false),(0:Int),([]:List UInt8),([]:List TD0),([]:List (List UInt8))⟩:TD0)].length P11,.slice (some ⟨Q9,0,none⟩) 1 1]) (v':=.agg #[.int .i8 5,.bool false,.int .i64 0,S [],.slice Z11 [(⟨(5:Int),(false),(0:Int),([]:List UInt8),([]:List TD0),([]:List (List UInt8))⟩:TD0)].length P11,.slice Z12 ([[65]]:List (List UInt8)).length P12]) (by kernel_rfl) (by rw[H6])
 refine Ys [iB 5,bO false,iL 0,S [],sL Z11 [(⟨(5:Int),(false),(0:Int),([]:Bs),([]:List TD0),([]:List Bs)⟩:TD0)] P11,sL Z12 ([[65]]:List Bs) P12] #[iB 5,bO false,iL 0,S [],sL Z11 [(⟨(5:Int),(false),(0:Int),([]:Bs),([]:List TD0),([]:List Bs)⟩:TD0)] P11,sL Z12 ([[65]]:List Bs) P12] f N38 rfl rfl λW21 N39 _ f=>eT (RR (aP (k:=1) (c:=1) f N39 (.cells #[S [82,101,115,111,117,114,99,101,115]] 9 (0,0)) kr (λ_=>by kernel_rfl) λQ12 W22 N40 _ f=>Z f (Y32 (cs:=[iB 5,bO false,iL 0,S [],sL Z11 [(⟨(5:Int),(false),(0:Int),([]:Bs),([]:List TD0),([]:List Bs)⟩:TD0)] P11,sL Z12 ([[65]]:List Bs) P12]) rfl (ad:=⟨Q11,0,none⟩) (am (N40.ownCell 1 rfl) 0 rfl)) λ_ f=>aP (k:=1) (c:=1) f N40 (.cells #[iB 5,bO false,iL 0,S [],sL Z11 [(⟨(5:Int),(false),(0:Int),([]:Bs),([]:List TD0),([]:List Bs)⟩:TD0)] P11,sL Z12 ([[65]]:List Bs) P12] 26 (0,0)) kr (λ_=>by kernel_rfl) λQ13 W23 N41 _ f=>Y f 1 λ_ f=>?_))
 have D11:ag V8 ([(⟨(5:Int),(false),(0:Int),([]:Bs),[(⟨(5:Int),(false),(0:Int),([]:Bs),([]:List TD0),([]:List Bs)⟩:TD0)],([[65]]:List Bs)⟩:TD0)].map ar) [iB 5,bO false,iL 0,S [],sL Z11 [(⟨(5:Int),(false),(0:Int),([]:Bs),([]:List TD0),([]:List Bs)⟩:TD0)] P11,sL Z12 ([[65]]:List Bs) P12]:=⟨_,_,rfl,TD0.shut (B11.mono J8) B12,rfl⟩
 have N42:Hp w0 V8 ((Ent.row 26 6 (.slice (some ⟨Q13,0,none⟩) 1 1) [(⟨(5:Int),(false),(0:Int),([]:Bs),[(⟨(5:Int),(false),(0:Int),([]:Bs),([]:List TD0),([]:List Bs)⟩:TD0)],([[65]]:List Bs)⟩:TD0)].length [iB 5,bO false,iL 0,S [],sL Z11 [(⟨(5:Int),(false),(0:Int),([]:Bs),([]:List TD0),([]:List Bs)⟩:TD0)] P11,sL Z12 ([[65]]:List Bs) P12])::(oC Q12 #[S [82,101,115,111,117,114,99,101,115]] 9)::(oC Q11 #[iB 5,bO false,iL 0,S [],sL Z11 [(⟨(5:Int),(false),(0:Int),([]:Bs),([]:List TD0),([]:List Bs)⟩:TD0)] P11,sL Z12 ([[65]]:List Bs) P12] 26)::(Ent.obj Q8 (.cells (aTH0 X4.1 Z10 P10) 31 (0,0)))::(oC Q5 #[iB 5,bO false,iL 0,S [],sL Z8 [(⟨X2.ab,(X2.ah),X2.af,X2.aa,X2.ac,X2.ae⟩:TD0),(⟨X3.ab,(X3.ah),X3.af,X3.aa,X3.ac,X3.ae⟩:TD0)] P8,sL Z9 ([[82,101,102],[83,117,98]]:List Bs) P9] 26)::(Ent.obj Q4 (.cells (aTH0 X1.1 Z3 P3) 31 (0,0)))::(oC Q3 #[iB 5,bO false,iL 0,S [],sL Z1 [(⟨(3:Int),(false),(0:Int),[65],([]:List TD0),([]:List Bs)⟩:TD0)] P1,sL Z2 ([[82,101,102]]:List Bs) P2] 26)::H) W23:=N41.objRow (n:=1) (cap:=1) (size:=6) (by decide) (by decide) (dq (by decide) rfl) rfl rfl
 obtain⟨Z13,P13,V9,H7,J9,N43,B13⟩:=N42.rowSli (f:=ar) (xs:=[(⟨(5:Int),(false),(0:Int),([]:Bs),[(⟨(5:Int),(false),(0:Int),([]:Bs),([]:List TD0),([]:List Bs)⟩:TD0)],([[65]]:List Bs)⟩:TD0)]) kq D11
 have f:=Frm.set f 50 (v:=.agg #[.int .i8 5,.bool false,.int .i64 0,S [],.slice (some ⟨Q13,0,none⟩) 1 1,.slice (some ⟨Q12,0,none⟩) 1 1]) (v':=.agg #[.int .i8 5,.bool false,.int .i64 0,S [],.slice Z13 [(⟨(5:Int),(false),(0:Int),([]:List UInt8),[(⟨(5:Int),(false),(0:Int),([]:List UInt8),([]:List TD0),([]:List (List UInt8))⟩:TD0)],([[65]]:List (List UInt8))⟩:TD0)].length P13,.slice (some ⟨Q12,0,none⟩) 1 1]) (by kernel_rfl) (by rw[H7])
 have D12:ag V9 (([[82,101,115,111,117,114,99,101,115]]:List Bs).map Dat.str) [S [82,101,115,111,117,114,99,101,115]]:=⟨_,_,rfl,rfl,rfl⟩
 have N44:Hp w0 V9 ((Ent.row 9 1 (.slice (some ⟨Q12,0,none⟩) 1 1) ([[82,101,115,111,117,114,99,101,115]]:List Bs).length [S [82,101,115,111,117,114,99,101,115]])::(oC Q11 #[iB 5,bO false,iL 0,S [],sL Z11 [(⟨(5:Int),(false),(0:Int),([]:Bs),([]:List TD0),([]:List Bs)⟩:TD0)] P11,sL Z12 ([[65]]:List Bs) P12] 26)::(Ent.obj Q8 (.cells (aTH0 X4.1 Z10 P10) 31 (0,0)))::(oC Q5 #[iB 5,bO false,iL 0,S [],sL Z8 [(⟨X2.ab,(X2.ah),X2.af,X2.aa,X2.ac,X2.ae⟩:TD0),(⟨X3.ab,(X3.ah),X3.af,X3.aa,X3.ac,X3.ae⟩:TD0)] P8,sL Z9 ([[82,101,102],[83,117,98]]:List Bs) P9] 26)::(Ent.obj Q4 (.cells (aTH0 X1.1 Z3 P3) 31 (0,0)))::(oC Q3 #[iB 5,bO false,iL 0,S [],sL Z1 [(⟨(3:Int),(false),(0:Int),[65],([]:List TD0),([]:List Bs)⟩:TD0)] P1,sL Z2 ([[82,101,102]]:List Bs) P2] 26)::H) W23:=N43.objRow (n:=1) (cap:=1) (size:=1) (by decide) (by decide) (dq (by decide) rfl) rfl rfl
 obtain⟨Z14,P14,V10,H8,J10,N45,B14⟩:=N44.rowSli (f:=Dat.str) (xs:=([[82,101,115,111,117,114,99,101,115]]:List Bs)) bX D12
 have f:=Frm.set f 50 (v:=.agg #[.int .i8 5,.bool false,.int .i64 0,S [],.slice Z13 [(⟨(5:Int),(false),(0:Int),([]:List UInt8),[(⟨(5:Int),(false),(0:Int),([]:List UInt8),([]:List TD0),([]:List (List UInt8))⟩:TD0)],([[65]]:List (List UInt8))⟩:TD0)].length P13,.slice (some ⟨Q12,0,none⟩) 1 1]) (v':=.agg #[.int .i8 5,.bool false,.int .i64 0,S [],.slice Z13 [(⟨(5:Int),(false),(0:Int),([]:List UInt8),[(⟨(5:Int),(false),(0:Int),([]:List UInt8),([]:List TD0),([]:List (List UInt8))⟩:TD0)],([[65]]:List (List UInt8))⟩:TD0)].length P13,.slice Z14 ([[82,101,115,111,117,114,99,101,115]]:List (List UInt8)).length P14]) (by kernel_rfl) (by rw[H8])
 obtain⟨X5,l5,F5⟩:=bS F4
 refine Y17 f N45 (nw n _ (GL.mono (((((((((J1.trans J2).trans J3).trans J4).trans J5).trans J6).trans J7).trans J8).trans J9).trans J10) hG) _ (⟨(5:Int),(false),(0:Int),([]:Bs),[(⟨(5:Int),(false),(0:Int),([]:Bs),[(⟨(5:Int),(false),(0:Int),([]:Bs),([]:List TD0),([]:List Bs)⟩:TD0)],([[65]]:List Bs)⟩:TD0)],([[82,101,115,111,117,114,99,101,115]]:List Bs)⟩:TD0) (TD0.shut (B13.mono J10) B14) X5 l5) λ_ V11 W24 J11 N46 q_3 _ f=>?_
 obtain⟨c_5,rfl,D13⟩:=q_3
 obtain⟨Z15,P15,Z16,P16,Z17,P17,Z18,P18,rfl,B15,B16,B17,B18⟩:=TA0.opn D13
 refine Y f 4 λ_ f=>Y13 f N46 (.cells #[Sn,Sn,Sn,Sn] 41 (0,0)) λQ14 W25 N47 _ f=>Ys (lTA0 X5.1 Z15 P15 Z16 P16 Z17 P17 Z18 P18) (aTA0 X5.1 Z15 P15 Z16 P16 Z17 P17 Z18 P18) f N47 rfl rfl λW26 N48 _ f=>Ye f 2 λ_ f=>RR (Y f 3 λ_ f=>?_)
 rcases cE F5 with⟨B19,F6⟩|⟨B19,F17⟩
 ·have U1:=dI.1 B19
  have f:=f.st 57 (cB B19)
  refine Y f 1 λ_ f=>Z f (Y31 (v:=iB X1.1.ab) rfl (ad:=⟨Q4,0,none⟩) (N48.ownCell 4 rfl 0)) λ_ f=>Y f 3 λ_ f=>?_
  rcases cE F6 with⟨B20,F7⟩|⟨B20,F16⟩
  ·have U2:=dI.1 B20
   have f:=f.st 62 (cB B20)
   refine Y f 1 λ_ f=>Z f (Y31 (v:=S X1.1.ak) rfl (ad:=⟨Q4,3,none⟩) (N48.ownCell 4 rfl 3)) λ_ f=>Z f (Y36 rfl (l:=X1.1.ak) (m:=[65])) λ_ f=>Y f 2 λ_ f=>?_
   rcases cE F7 with⟨B21,F8⟩|⟨B21,F15⟩
   ·have U3:=dI.1 B21
    have f:=f.st 67 (cB B21)
    refine Y f 4 λ_ f=>?_
    rcases cE F8 with⟨B22,F9⟩|⟨B22,F14⟩
    ·have U4:=dI.1 B22
     have f:=f.st 71 (cB B22)
     refine Y f 1 λ_ f=>Z f (Y36 rfl (l:=X4.2.1) (m:=[])) λ_ f=>Y f 2 λ_ f=>?_
     rcases cE F9 with⟨B23,F10⟩|⟨B23,F13⟩
     ·have U5:=dI.1 B23
      have f:=f.st 75 (cB B23)
      refine Y f 4 λ_ f=>?_
      rcases cE F10 with⟨B24,F11⟩|⟨B24,F12⟩
      ·have U6:=dI.1 B24
       have f:=f.st 79 (cB B24)
       refine Y f 1 λ_ f=>Z f (Y36 rfl (l:=X5.2.1) (m:=[82,101,115,111,117,114,99,101,115,47,65])) λ_ f=>Ye f 2 λ_ f=>wp_ret (au f rfl (Lk 0 (bO (decide (X5.2.1=[82,101,115,111,117,114,99,101,115,47,65])))) ?_)
       cases sI F11
       exact⟨_,rfl,V11,((((((((((J1.trans J2).trans J3).trans J4).trans J5).trans J6).trans J7).trans J8).trans J9).trans J10).trans J11),(N48.dropN 6),rfl⟩
      ·have U7:=aq dI B24
       have f:=f.st 79 (cB B24)
       refine Ye f 4 λ_ f=>wp_ret (au f rfl (Lk 0 (bO false)) ?_)
       cases sI F12
       exact⟨_,rfl,V11,((((((((((J1.trans J2).trans J3).trans J4).trans J5).trans J6).trans J7).trans J8).trans J9).trans J10).trans J11),(N48.dropN 6),rfl⟩
     ·have U8:=aq dI B23
      have f:=f.st 75 (cB B23)
      refine Ye f 8 λ_ f=>wp_ret (au f rfl (Lk 0 (bO false)) ?_)
      cases sI F13
      exact⟨_,rfl,V11,((((((((((J1.trans J2).trans J3).trans J4).trans J5).trans J6).trans J7).trans J8).trans J9).trans J10).trans J11),(N48.dropN 6),rfl⟩
    ·have U9:=aq dI B22
     have f:=f.st 71 (cB B22)
     refine Ye f 12 λ_ f=>wp_ret (au f rfl (Lk 0 (bO false)) ?_)
     cases sI F14
     exact⟨_,rfl,V11,((((((((((J1.trans J2).trans J3).trans J4).trans J5).trans J6).trans J7).trans J8).trans J9).trans J10).trans J11),(N48.dropN 6),rfl⟩
   ·have U10:=aq dI B21
    have f:=f.st 67 (cB B21)
    refine Ye f 16 λ_ f=>wp_ret (au f rfl (Lk 0 (bO false)) ?_)
    cases sI F15
    exact⟨_,rfl,V11,((((((((((J1.trans J2).trans J3).trans J4).trans J5).trans J6).trans J7).trans J8).trans J9).trans J10).trans J11),(N48.dropN 6),rfl⟩
  ·have U11:=aq dI B20
   have f:=f.st 62 (cB B20)
   refine Ye f 21 λ_ f=>wp_ret (au f rfl (Lk 0 (bO false)) ?_)
   cases sI F16
   exact⟨_,rfl,V11,((((((((((J1.trans J2).trans J3).trans J4).trans J5).trans J6).trans J7).trans J8).trans J9).trans J10).trans J11),(N48.dropN 6),rfl⟩
 ·have U12:=aq dI B19
  have f:=f.st 57 (cB B19)
  refine Ye f 26 λ_ f=>wp_ret (au f rfl (Lk 0 (bO false)) ?_)
  cases sI F17
  exact⟨_,rfl,V11,((((((((((J1.trans J2).trans J3).trans J4).trans J5).trans J6).trans J7).trans J8).trans J9).trans J10).trans J11),(N48.dropN 6),rfl⟩
def ef (n:Nat) (d0:TD0):Option Bool:=
 (gd n d0).bind λX1=>
 bif X1 then
  ((gO n).bind λX2=>
  some ((X2)))
 else
  (gg n d0).bind λX3=>
  (jq n d0).bind λX4=>
  (en n X3.1 X4.1).bind λX5=>
  bif X5 then
   (bif(decide (X3.2.1=X4.2.1)) then
    (bif(decide (X3.2.2=X4.2.2)) then
     ((gO n).bind λX6=>
     some ((X6)))
    else
     some ((false)))
   else
    some ((false)))
  else
   some ((false))
set_option maxRecDepth 20000 in
theorem jR (n:Nat) (M:Mem) (hG:GL M) (c0:Lv) (d0:TD0) (h0:Rep M (ar d0) c0) (r:Bool) (hF:ef n d0=some r):Ok Tryz.prog M 3 [.agg c0.toArray] (λ_ v=>v=bO r):=by
 unfold ef at hF
 intro M1 hM0 w0 H w p0
 replace hG:=GL.mono hM0 hG
 replace h0:=Rep.mono hM0 _ _ h0
 obtain⟨Z1,P1,Z2,P2,rfl,B1,B2⟩:=TD0.opn h0
 refine Re 40 Tryz.func3 rfl λa0 f0=>RR (Y14 (cs:=(aTD0 d0 Z1 P1 Z2 P2)) (T:=26) f0 p0 λQ1 V1 W1 J1 R1 N1 _ f=>?_)
 have R2:=bj R1
 refine Ye f 1 λ_ f=>an (RR (Z f (Y32 (cs:=(lTD0 d0 Z1 P1 Z2 P2)) rfl (ad:=⟨Q1,0,none⟩) (λj v h=>N1.cell (R2 j v h))) λ_ f=>?_))
 obtain⟨X1,l1,F1⟩:=bS hF
 refine Y19 f N1 (nn n _ _ d0 (TD0.shutx (x:=d0) (B1.mono J1) (B2.mono J1)) X1 l1) λW2 N2 _ f=>eT (RcF f F1 (λB3 F2=>?_) λB3 F4=>?_)
 ·refine RR ?_
  obtain⟨X2,l2,F3⟩:=bS F2
  refine Y19 f N2 (jS n _ (GL.mono J1 hG) X2 l2) λW3 N3 _ f=>Ye f 1 λ_ f=>wp_ret (bC (au f rfl (Lk 2 (bO X2)) ?_))
  cases sI F3
  exact⟨_,rfl,V1,J1,N3,rfl⟩
 ·refine St (RR (Z f (Y32 (cs:=(lTD0 d0 Z1 P1 Z2 P2)) rfl (ad:=⟨Q1,0,none⟩) (λj v h=>N2.cell (R2 j v h))) λ_ f=>?_))
  obtain⟨X3,l3,F5⟩:=bS F4
  refine Y17 f N2 (iz n _ (GL.mono J1 hG) _ d0 (TD0.shutx (x:=d0) (B1.mono J1) (B2.mono J1)) X3 l3) λ_ V2 W4 J2 N4 ej _ f=>?_
  obtain⟨cZ,rfl,D1⟩:=ej
  obtain⟨Z3,P3,rfl,B4⟩:=TH0.opn D1
  refine Y f 4 λ_ f=>Y13 f N4 (.cells #[iB 0,S [],iL 0,S [],S [],Sn] 31 (0,0)) λQ2 W5 N5 _ f=>Ys (lTH0 X3.1 Z3 P3) (aTH0 X3.1 Z3 P3) f N5 rfl rfl λW6 N6 _ f=>Ye f 2 λ_ f=>RR (Z f (Y32 (cs:=(lTD0 d0 Z1 P1 Z2 P2)) rfl (ad:=⟨Q1,0,none⟩) (λj v h=>N6.cell ((fzu J2 R2) j v h))) λ_ f=>?_)
  obtain⟨X4,l4,F6⟩:=bS F5
  refine Y17 f N6 (nP n _ _ d0 (TD0.shutx (x:=d0) (B1.mono (J1.trans J2)) (B2.mono (J1.trans J2))) X4 l4) λ_ V3 W7 J3 N7 jk _ f=>?_
  obtain⟨gW,rfl,D2⟩:=jk
  obtain⟨Z4,P4,rfl,B5⟩:=TH0.opn D2
  refine Y f 4 λ_ f=>Y13 f N7 (.cells #[iB 0,S [],iL 0,S [],S [],Sn] 31 (0,0)) λQ3 W8 N8 _ f=>Ys (lTH0 X4.1 Z4 P4) (aTH0 X4.1 Z4 P4) f N8 rfl rfl λW9 N9 _ f=>Ye f 2 λ_ f=>RR (Z f (Y32 (cs:=(lTH0 X3.1 Z3 P3)) rfl (ad:=⟨Q2,0,none⟩) (am (N9.ownCell 1 rfl) 0 rfl)) λ_ f=>Z f (Y32 (cs:=(lTH0 X4.1 Z4 P4)) rfl (ad:=⟨Q3,0,none⟩) (am (N9.ownCell 0 rfl) 0 rfl)) λ_ f=>?_)
  obtain⟨X5,l5,F7⟩:=bS F6
  refine Y19 f N9 (ls n _ _ X3.1 (TH0.shutx (x:=X3.1) (B4.mono J3)) _ X4.1 (TH0.shutx (x:=X4.1) B5) X5 l5) λW10 N10 _ f=>Y f 1 λ_ f=>?_
  rcases cE F7 with⟨B6,F8⟩|⟨B6,F14⟩
  ·have f:=f.st 27 (cB B6)
   refine Y f 2 λ_ f=>Z f (Y36 rfl (l:=X3.2.1) (m:=X4.2.1)) λ_ f=>Y f 2 λ_ f=>?_
   rcases cE F8 with⟨B7,F9⟩|⟨B7,F13⟩
   ·have U4:=dI.1 B7
    have f:=f.st 32 (cB B7)
    refine Y f 5 λ_ f=>?_
    rcases cE F9 with⟨B8,F10⟩|⟨B8,F12⟩
    ·have U5:=dI.1 B8
     have f:=f.st 37 (cB B8)
     obtain⟨X6,l6,F11⟩:=bS F10
     refine Y19 f N10 (jS n _ (GL.mono ((J1.trans J2).trans J3) hG) X6 l6) λW11 N11 _ f=>Ye f 2 λ_ f=>wp_ret (au f rfl (Lk 2 (bO X6)) ?_)
     cases sI F11
     exact⟨_,rfl,V3,((J1.trans J2).trans J3),(N11.dropN 2),rfl⟩
    ·have U6:=aq dI B8
     have f:=f.st 37 (cB B8)
     refine Ye f 3 λ_ f=>wp_ret (au f rfl (Lk 2 (bO false)) ?_)
     cases sI F12
     exact⟨_,rfl,V3,((J1.trans J2).trans J3),(N10.dropN 2),rfl⟩
   ·have U7:=aq dI B7
    have f:=f.st 32 (cB B7)
    refine Ye f 8 λ_ f=>wp_ret (au f rfl (Lk 2 (bO false)) ?_)
    cases sI F13
    exact⟨_,rfl,V3,((J1.trans J2).trans J3),(N10.dropN 2),rfl⟩
  ·have f:=f.st 27 (cB B6)
   refine Ye f 13 λ_ f=>wp_ret (au f rfl (Lk 2 (bO false)) ?_)
   cases sI F14
   exact⟨_,rfl,V3,((J1.trans J2).trans J3),(N10.dropN 2),rfl⟩
def GX:Nat→TH0→Prop
 |0,_=>False
 |d+1,x=>x.fL.length≤20000∧∀y∈x.fL,GX d y
theorem GX.nil {d:Nat} {x:TH0} (h:x.fL=[]):GX (d+1) x:=by
 refine⟨by rw[h];simp,?_⟩
 rw[h]
 intro y hy
 simp at hy
theorem exL_in {E : TD0 → List UInt8 → FX TH0} {at_ : List UInt8} : ∀ {i : Nat} {l : List TD0} {xs : List TH0}, exL E at_ i l = .inr xs → xs.length = l.length ∧ ∀ y ∈ xs, ∃ x ∈ l, ∃ p, E x p = .inr y
 | i, [], xs, h => by
  rw [exL] at h
  obtain rfl := Sum.inr.inj h
  exact ⟨rfl, fun y hy => by simp at hy⟩
 | i, v :: r, xs, h => by
  rw [exL] at h
  cases hE : E v (plcS at_ i) with
  | inl p => rw [hE] at h; exact absurd h (by simp)
  | inr x =>
   rw [hE] at h
   dsimp only at h
   cases hr : exL E at_ (i + 1) r with
   | inl p => rw [hr] at h; exact absurd h (by simp)
   | inr ys =>
    rw [hr] at h
    obtain rfl := Sum.inr.inj h
    obtain ⟨h1, h2⟩ := exL_in hr
    refine ⟨by simp [h1], fun y hy => ?_⟩
    rcases List.mem_cons.1 hy with rfl | hy
    ·exact ⟨v, by simp, _, hE⟩
    ·obtain ⟨x, hx, p, hp⟩ := h2 y hy
     exact ⟨x, List.mem_cons_of_mem _ hx, p, hp⟩
theorem lg {α β:Type} {f:α→β} {x:FX α} {y:β} (h:mapX f x=.inr y): ∃z,x=.inr z∧y=f z:=by
 cases x with
 |inl p=>exact absurd h (by simp[mapX])
 |inr z=>exact⟨z,rfl,(Sum.inr.inj h).symm⟩
theorem eC {at_:Bs} {y:TH0} (h:shp at_=.inr y):False:=by simp[shp] at h
theorem kZ {E:TD0→Bs→FX TH0} {d:Nat} (hE: ∀v p x,E v p=.inr x→GX (d+1) x) {at_:Bs} {i:Nat} {l:List TD0} {xs:List TH0} (h:exL E at_ i l=.inr xs) (hl:l.length≤8):xs.length≤20000∧∀y∈xs,GX (d+1) y:=by
 obtain⟨h1,h2⟩:=exL_in h
 refine⟨by omega,λy hy=>?_⟩
 obtain⟨x,_,p,hp⟩:=h2 y hy
 exact hE x p y hp
theorem callV_good {E:TD0→Bs→FX TH0} {d:Nat} (hE: ∀v p x,E v p=.inr x→GX (d+1) x) {key:Bs} {v:TD0} {at_:Bs} {x:TH0} (h:callV E key v at_=.inr x):GX (d+2) x:=by
 unfold callV at h
 cases hk1:decide (key=[82,101,102]) with
 |true=>
  rw[hk1,cT] at h
  unfold c1V at h
  cases hb:nameV v with
  |true=>rw[hb,cT] at h;obtain rfl:=Sum.inr.inj h;exact GX.nil rfl
  |false=>rw[hb,cF] at h;exact(eC h).elim
 |false=>
  rw[hk1,cF] at h
  cases hk2:decide (key=[71,101,116,65,116,116]) with
  |true=>
   rw[hk2,cT] at h
   unfold c2V at h
   rcases dY v with⟨a,b,h2,hk,hl⟩|⟨h2,hk⟩
   ·rw[h2] at h
    dsimp only at h
    cases hb: (nameV a&& (decide (b.ab=3)&&attrS b.aa)) with
    |true=>rw[hb,cT] at h;obtain rfl:=Sum.inr.inj h;exact GX.nil rfl
    |false=>rw[hb,cF] at h;exact(eC h).elim
   ·rw[h2] at h;exact(eC h).elim
  |false=>
   rw[hk2,cF] at h
   cases hk3:decide (key=[83,117,98]) with
   |true=>
    rw[hk3,cT] at h
    unfold c3V at h
    cases hb:decide (v.ab=3) with
    |false=>rw[hb,cF] at h;exact(eC h).elim
    |true=>
     rw[hb,cT] at h
     cases hz:decide ((lexS v.aa).2.2=0) with
     |false=>rw[hz,cF] at h;exact absurd h (by simp)
     |true=>
      rw[hz,cT] at h
      obtain rfl:=Sum.inr.inj h
      refine⟨by have:=lexS_len v.aa;dsimp only;omega,λy hy=>GX.nil (lexS_flat v.aa y hy)⟩
   |false=>
    rw[hk3,cF] at h
    cases hk4:decide (key=[73,102]) with
    |true=>
     rw[hk4,cT] at h
     unfold c4V at h
     rcases iR v with⟨a,b,c,h2,hk,hl⟩|⟨h2,hk⟩
     ·rw[h2] at h
      dsimp only at h
      cases hb:nameV a with
      |true=>rw[hb,cT] at h;obtain⟨z,hz,rfl⟩:=lg h;exact kZ hE hz (by simp)
      |false=>rw[hb,cF] at h;exact(eC h).elim
     ·rw[h2] at h;exact(eC h).elim
    |false=>
     rw[hk4,cF] at h
     cases hk5:decide (key=[74,111,105,110]) with
     |true=>
      rw[hk5,cT] at h
      unfold c5V at h
      rcases dY v with⟨a,b,h2,hk,hl⟩|⟨h2,hk⟩
      ·rw[h2] at h
       dsimp only at h
       cases hb:wordV a with
       |true=>rw[hb,cT] at h;obtain⟨z,hz,rfl⟩:=lg h;exact kZ hE hz (by simp)
       |false=>rw[hb,cF] at h;exact(eC h).elim
      ·rw[h2] at h;exact(eC h).elim
     |false=>
      rw[hk5,cF] at h
      cases hk6:decide (key=[83,101,108,101,99,116]) with
      |true=>
       rw[hk6,cT] at h
       unfold c6V at h
       rcases dY v with⟨a,b,h2,hk,hl⟩|⟨h2,hk⟩
       ·rw[h2] at h
        dsimp only at h
        obtain⟨z,hz,rfl⟩:=lg h
        exact kZ hE hz (by simp)
       ·rw[h2] at h;exact(eC h).elim
      |false=>rw[hk6,cF] at h;exact(eC h).elim
theorem mT: ∀ (d:Nat) (v:TD0) (at_:Bs) (x:TH0),exprV d v at_=.inr x→GX (d+1) x
 |0,v,at_,x,h=>(eC h).elim
 |d+1,v,at_,x,h=>by
  have ih:=mT d
  rw[exprV,exprB] at h
  cases h3:decide (v.ab=3) with
  |true=>
   rw[h3,cT] at h
   cases hb:wordV v with
   |true=>rw[hb,cT] at h;obtain rfl:=Sum.inr.inj h;exact GX.nil rfl
   |false=>rw[hb,cF] at h;exact(eC h).elim
  |false=>
   rw[h3,cF] at h
   cases h2:decide (v.ab=2) with
   |true=>rw[h2,cT] at h;obtain rfl:=Sum.inr.inj h;exact GX.nil rfl
   |false=>
    rw[h2,cF] at h
    cases h4:decide (v.ab=4) with
    |true=>
     rw[h4,cT] at h
     cases h8:decide (((v.ac.length:Nat):Int)≤8) with
     |true=>rw[h8,cT] at h;obtain⟨z,hz,rfl⟩:=lg h;exact kZ ih hz (by have:=of_decide_eq_true h8;omega)
     |false=>rw[h8,cF] at h;exact absurd h (by simp)
    |false=>
     rw[h4,cF] at h
     split at h
     ·exact callV_good ih h
     ·exact(eC h).elim
theorem same_all {n:Nat} (hn:100000≤n): ∀ (k d:Nat) (l:List TH0),d<k→l.length≤20000→(∀y∈l,GX d y)→cg n k l l=some true
 |0,d,l,h,_,_=>absurd h (by omega)
 |k+1,d,l,hk,hl,hg=>by
  show dO n (cg n k) l l=some true
  unfold dO
  rw[dT rfl,nT,cF]
  have:=nb (step:=cW n (cg n k) l l) (n:=n) (λq=>((q:Nat):Int)) l.length (.inr ()) (λq hq=>by
   have hg1:aQ l (q:Int)=some l[q]:=by simp[aQ,hq]
   have hgx:=hg l[q] (List.getElem_mem hq)
   unfold cW
   rw[dT (by omega),cT,hg1,bnd,bnd]
   unfold hZ
   rw[dT rfl,cT,dT rfl,cT,dT rfl,cT,dT rfl,cT,dT rfl,cT]
   match d,hk,hgx with
   |d+1,hk,hgx=>
    rw[same_all hn k d l[q].fL (by omega) hgx.1 hgx.2,bnd,bnd,nT,cF,aW (by omega) (by omega)]
    rfl) (by
   unfold cW
   rw[dF (by omega),cF]) (by omega)
  have e0: ((0:Nat):Int)=0:=rfl
  rw[e0] at this
  rw[this,bnd]
theorem lS {n d:Nat} (hn:100000≤n) {x:TH0} (hd:d≤1000) (h:GX (d+1) x):en n x x=some true:=by
 unfold en jp
 rw[dT rfl,cT,dT rfl,cT,dT rfl,cT,dT rfl,cT,dT rfl,cT]
 unfold iT
 rw[same_all hn n d x.fL (by omega) h.1 h.2,bnd,bnd]
theorem wakes13:gO 100000=some true:=by kernel_rfl
theorem exprs_law (v:TD0):ef 100000 v=some true:=by
 unfold ef
 obtain⟨g,hg,hf⟩:=great_fine (n:=100000) (by omega) v
 rw[hg,bnd]
 cases g with
 |true=>rw[cT,wakes13,bnd]
 |false=>
  obtain⟨hfine,hs,_⟩:=hf rfl
  have hz:GX 1 ai:=GX.nil rfl
  rw[cF]
  unfold gg jq
  rw[check_run (by omega) hfine,check_ref (by omega) hfine,bnd,bnd]
  cases hc:decide (checkV v=0) with
  |false=>
   rw[nF,cT,cT,bnd,bnd]
   dsimp only
   rw[lS (d:=0) (by omega) (by omega) hz,bnd,cT,dT rfl,cT,dT rfl,cT,wakes13,bnd]
  |true=>
   have hok:=(checkV_ok (of_decide_eq_true hc)).1
   rw[nT,cF,cF]
   unfold iQ gp
   have hdoc:=expr_doc (n:=100000) (by omega) 100000 30 v [] [] (by omega) hs hok (by simp)
   have hgood:=mT 30 v []
   rw[mU (by omega) 100000 30 v [] (by omega) hs hok (by simp),bnd]
   cases hE:exprV 30 v [] with
   |inl p=>
    rw[hE] at hdoc
    obtain⟨hp,j,hj⟩:=hdoc
    rw[hj,bnd,bnd]
    dsimp only
    rw[dF hp,nF,cT,bnd]
    dsimp only
    rw[lS (d:=0) (by omega) (by omega) hz,bnd,cT,dT rfl,cT,dT rfl,cT,wakes13,bnd]
   |inr x=>
    rw[hE] at hdoc
    have hdoc':aO 100000 100000 0 [] v []=some (x,0,[]):=hdoc
    rw[hdoc',bnd,bnd]
    dsimp only
    rw[dT rfl,nT,cF,bnd]
    dsimp only
    rw[lS (d:=30) (by omega) (by omega) (hgood x hE),bnd,cT,dT rfl,cT,dT rfl,cT,wakes13,bnd]
end Go.Proofs.YtkopljikappieaaGreatDoor
end
section
namespace Go.Vc
open Go
mutual
def dsz:Dat→Nat
 |.int _ _=>1
 |.bool _=>1
 |.str l=>l.length+1
 |.list _ ds=>dszs ds+1
 |.struct ds=>dszs ds+1
def dszs:List Dat→Nat
 |[]=>0
 |d::ds=>dsz d+dszs ds
end
theorem dszs_app: ∀ (a b:List Dat),dszs (a++b)=dszs a+dszs b
 |[],b=>by simp[dszs]
 |d::a,b=>by simp only[List.cons_append,dszs,dszs_app a b];omega
theorem le_sum: ∀ {l:List Nat} {x:Nat},x∈l→x≤l.sum
 |y::l,x,h=>by
  rcases List.mem_cons.1 h with rfl|h
  ·simp
  ·have:=le_sum h;simp only[List.sum_cons];omega
section
variable {H:Type}
structure BulkOk (B:DataW H→Nat):Prop where
 one: ∀d,1≤B d
 str: ∀l,B (.lit (.string l))=l.length+1
 slice: ∀e s,(e.map B).sum+1≤B (.slice e s)
 agg: ∀e,(e.map B).sum+1≤B (.agg e)
variable {enc:TypeId×Value→H} {P:Program} {w:World} {t:TypeId} {α:Type} {f:α→Dat} {m:Nat} {B:DataW H→Nat}
def OpnAt (enc:TypeId×Value→H) (P:Program) (w:World) (t:TypeId) {α:Type} (f:α→Dat) (B:DataW H→Nat) (m:Nat):Prop:=
 ∀cs x,DataW.trod enc P w 0 (λ_=>true) true m t cs=some x→∃a,Rep (Mem.of w) (f a) cs∧Vld (f a)∧dsz (f a)≤B x.1
theorem OpnAt.zero:OpnAt enc P w t f B 0:=λcs x h=>by simp[DataW.trod] at h
theorem opa_int {k:IntKind} (hB:BulkOk B) (ht:P.underlying t=some (.int k)):OpnAt enc P w t (Dat.int k) B m:=λcs x h=>by
 obtain⟨a,rfl,_,hw⟩:=DataW.trod_int ht h
 exact⟨a,rfl,hw,hB.one _⟩
theorem opa_bool (hB:BulkOk B) (ht:P.underlying t=some .bool):OpnAt enc P w t Dat.bool B m:=λcs x h=>by
 obtain⟨a,rfl,_⟩:=DataW.trod_bool ht h
 exact⟨a,rfl,trivial,hB.one _⟩
theorem opa_str (hB:BulkOk B) (ht:P.underlying t=some .string):OpnAt enc P w t Dat.str B m:=λcs x h=>by
 obtain⟨s,rfl,hx,hw⟩:=DataW.trod_string ht h
 refine⟨s.data.toList,(by show [Value.string s]=_;rw[S_eta]),by show s.data.toList.length≤maxLen;simpa using hw,?_⟩
 rw[hx]
 show s.data.toList.length+1≤B (.lit (.string s.data.toList))
 rw[hB.str]
 exact Nat.le_refl _
theorem opa_slice {e:TypeId} {sz:Nat} (hB:BulkOk B) (ht:P.underlying t=some (.slice e)) (hsz:P.cellsOf e=sz) (h:OpnAt enc P w e f B m):OpnAt enc P w t (eL sz f) B (m+1):=λcs x hx=>by
 rcases DataW.trod_slice ht hx with⟨rfl,hx⟩|⟨ad,len,cap,elems,rest,n',hn',rfl,hxe,_,hlc,hcm,hel,hat,_⟩
 ·refine⟨[],Sli.rep (Sli.nil (sz:=sz) (f:=f)),by simp[Vld,eL,VldAll],?_⟩
  have:=hB.one x.1
  simpa [eL,dsz,dszs] using this
 ·obtain rfl:n'=m:=by omega
  have key: ∀k,k≤len→∃xs:List α,xs.length=k∧RepArr (Mem.of w) sz (xs.map f) ad∧(∀x∈xs,Vld (f x))∧dszs (xs.map f)≤((elems.take k).map λx=>B x.1).sum:=by
   intro k
   induction k with
   |zero=>intro _;exact⟨[],rfl,trivial,λx hx=>(by cases hx),by simp[dszs]⟩
   |succ k ih=>
    intro hk
    obtain⟨xs,h1,h2,h3,h3b⟩:=ih (by omega)
    have hk':k<elems.length:=by omega
    have:=hat k (by omega)
    rw[List.getElem?_eq_getElem hk'] at this
    obtain⟨cs',g1,g2⟩:=Option.bind_eq_some_iff.1 this
    obtain⟨a,g3,g4,g4b⟩:=h cs' _ g2
    obtain⟨g5,g6⟩:=cells_of g1
    rw[hsz] at g5 g6
    refine⟨xs++[a],by simp[h1],?_,λx hx=>?_,?_⟩
    ·rw[List.map_append]
     have app: ∀ (ds:List Dat) (ad:Addr),RepArr (Mem.of w) sz ds ad→RepArr (Mem.of w) sz [f a] (ad.add (ds.length*sz))→RepArr (Mem.of w) sz (ds++[f a]) ad:=by
      intro ds
      induction ds with
      |nil=>intro ad _ hh;simpa [Addr.add] using hh
      |cons d ds ih=>
       intro ad h1 h2
       refine⟨h1.1,ih _ h1.2 ?_⟩
       rw[eY]
       rw[List.length_cons,show(ds.length+1)*sz=sz+ds.length*sz by rw[Nat.add_mul];omega] at h2
       exact h2
     refine app _ _ h2 ⟨⟨cs',g5,g3,?_⟩,trivial⟩
     rw[List.length_map,h1]
     exact g6
    ·rcases List.mem_append.1 hx with hx|hx
     ·exact h3 x hx
     ·simp at hx;subst hx;exact g4
    ·rw[List.map_append,dszs_app,List.take_add_one,List.getElem?_eq_getElem hk',List.map_append,List.sum_append]
     simp only[List.map_cons,List.map_nil,dszs,Option.toList_some,List.sum_cons,List.sum_nil]
     omega
  obtain⟨xs,h1,h2,h3,h3b⟩:=key len (Nat.le_refl _)
  subst h1
  refine⟨xs,Sli.rep ⟨hlc,λe=>(by cases e),.inr ⟨ad,rfl,h2⟩⟩,?_,?_⟩
  ·refine⟨by rw[List.length_map];omega,VldAll.mk λd hd=>?_⟩
   obtain⟨x,hx,rfl⟩:=List.mem_map.1 hd
   exact h3 x hx
  ·rw[hxe]
   show dszs (xs.map f)+1≤_
   have:=hB.slice (elems.map (·.1)) (rest.map (·.1))
   rw[←hel,List.take_length] at h3b
   rw[List.map_map] at this
   have e: (elems.map (B ∘ λx=>x.1))=elems.map λx=>B x.1:=rfl
   rw[e] at this
   show _≤B (.slice (elems.map (·.1)) (rest.map (·.1)))
   omega
theorem ni {e:TypeId} {sz:Nat} (hB:BulkOk B) (ht:P.underlying t=some (.slice e)) (hsz:P.cellsOf e=sz) (h: ∀k,k<m→OpnAt enc P w e f B k):OpnAt enc P w t (eL sz f) B m:=by
 cases m with
 |zero=>exact OpnAt.zero
 |succ m=>exact opa_slice hB ht hsz (h m (Nat.lt_succ_self m))
theorem OpnAt.arg (h: ∀n,OpnAt enc P w t f B n) {v:Value} {d:DataW H} {ps:List MemPlace} (ht:DataW.Trod enc P w 0 (λ_=>true) true t v d ps): ∃a,Rep (Mem.of w) (f a) v.cells.toList∧Vld (f a)∧dsz (f a)≤B d:=by
 obtain⟨fuel,hf⟩:=ht
 exact h fuel _ _ hf
theorem OpnAt.struct_arg (h: ∀n,OpnAt enc P w t f B n) {v:Value} {d:DataW H} {ps:List MemPlace} (hv: ∃cs:Array Value,v=.agg cs) (ht:DataW.Trod enc P w 0 (λ_=>true) true t v d ps):
 ∃ (c:Lv) (a:α),v=.agg c.toArray∧Rep (Mem.of w) (f a) c∧Vld (f a)∧dsz (f a)≤B d:=by
 obtain⟨cs,rfl⟩:=hv
 obtain⟨a,h1,h2⟩:=OpnAt.arg h ht
 exact⟨cs.toList,a,by simp,h1,h2⟩
end
end Go.Vc
end
section
namespace Go.Proofs.YtkopljikappieaaGreatDoor
open Go Go.Vc Go.RowKit
theorem opa_TD0 {H:Type} {enc:TypeId×Value→H} {w:World} {B:DataW H→Nat} (hB:BulkOk B): ∀m,OpnAt enc Tryz.prog w 26 ar B m:=by
 intro m
 induction m using Nat.strongRecOn with
 |ind m ih=>
 intro cs x h
 obtain⟨xs,n,rfl,rfl,hlen,hxl,hf⟩:=DataW.trod_struct Tryz.underlying26 h
 have hct:Tryz.prog.cellsOf 26=6:=by kernel_rfl
 rw[hct] at hlen
 obtain⟨x0,x1,x2,x3,x4,x5,rfl⟩: ∃x0 x1 x2 x3 x4 x5,xs=[x0,x1,x2,x3,x4,x5]:=by
  match xs,hxl with
  |[x0,x1,x2,x3,x4,x5],_=>exact⟨x0,x1,x2,x3,x4,x5,rfl⟩
 have f0:DataW.trod enc Tryz.prog w 0 (λ_=>true) true n 22 ((cs.drop 0).take (Tryz.prog.cellsOf 22))=some x0:=hf 0 _ rfl
 rw[show Tryz.prog.cellsOf 22=1 by kernel_rfl] at f0
 obtain⟨a0,r0,v0,b0⟩:=(λ_=>opa_int hB Tryz.underlying22) n _ _ f0
 have f1:DataW.trod enc Tryz.prog w 0 (λ_=>true) true n 4 ((cs.drop 1).take (Tryz.prog.cellsOf 4))=some x1:=hf 1 _ rfl
 rw[show Tryz.prog.cellsOf 4=1 by kernel_rfl] at f1
 obtain⟨a1,r1,v1,b1⟩:=(λ_=>opa_bool hB Tryz.underlying4) n _ _ f1
 have f2:DataW.trod enc Tryz.prog w 0 (λ_=>true) true n 3 ((cs.drop 2).take (Tryz.prog.cellsOf 3))=some x2:=hf 2 _ rfl
 rw[show Tryz.prog.cellsOf 3=1 by kernel_rfl] at f2
 obtain⟨a2,r2,v2,b2⟩:=(λ_=>opa_int hB Tryz.underlying3) n _ _ f2
 have f3:DataW.trod enc Tryz.prog w 0 (λ_=>true) true n 9 ((cs.drop 3).take (Tryz.prog.cellsOf 9))=some x3:=hf 3 _ rfl
 rw[show Tryz.prog.cellsOf 9=1 by kernel_rfl] at f3
 obtain⟨a3,r3,v3,b3⟩:=(λ_=>opa_str hB Tryz.underlying9) n _ _ f3
 have f4:DataW.trod enc Tryz.prog w 0 (λ_=>true) true n 23 ((cs.drop 4).take (Tryz.prog.cellsOf 23))=some x4:=hf 4 _ rfl
 rw[show Tryz.prog.cellsOf 23=1 by kernel_rfl] at f4
 obtain⟨a4,r4,v4,b4⟩:=(ni (m:=n) (e:=26) (sz:=6) hB Tryz.underlying23 kr (λk hk=>ih k (by omega))) _ _ f4
 have f5:DataW.trod enc Tryz.prog w 0 (λ_=>true) true n 24 ((cs.drop 5).take (Tryz.prog.cellsOf 24))=some x5:=hf 5 _ rfl
 rw[show Tryz.prog.cellsOf 24=1 by kernel_rfl] at f5
 obtain⟨a5,r5,v5,b5⟩:=(ni (m:=n) (e:=9) (sz:=1) hB Tryz.underlying24 kr (λk _=>(λ_=>opa_str hB Tryz.underlying9) k)) _ _ f5
 refine⟨⟨a0,a1,a2,a3,a4,a5⟩,?_,?_,?_⟩
 ·rw[dB]
  have hcs:ag (Mem.of w) _ (cs.drop 0):=(ag.cut (k:=1) r0 (by rw[List.drop_drop];exact(ag.cut (k:=1) r1 (by rw[List.drop_drop];exact(ag.cut (k:=1) r2 (by rw[List.drop_drop];exact(ag.cut (k:=1) r3 (by rw[List.drop_drop];exact(ag.cut (k:=1) r4 (by rw[List.drop_drop];exact(ag.cut (k:=1) r5 (by rw[List.drop_drop];exact(show ag (Mem.of w) [] (cs.drop 6) from List.drop_eq_nil_of_le (by omega))))))))))))))
  exact hcs
 ·rw[dB];exact⟨v0,⟨v1,⟨v2,⟨v3,⟨v4,⟨v5,trivial⟩⟩⟩⟩⟩⟩
 ·rw[dB]
  have:=hB.agg ([x0,x1,x2,x3,x4,x5].map (·.1))
  simp only[List.map_cons,List.map_nil,List.sum_cons,List.sum_nil] at this ⊢
  simp only[dsz,dszs] at*
  omega
theorem mL {H:Type} (l:List (DataW H)):Rows.uptoBulkAll l=(l.map Rows.uptoBulk).sum:=by
 induction l with
 |nil=>simp[Rows.uptoBulkAll]
 |cons x l ih=>simp only[Rows.uptoBulkAll,List.map_cons,List.sum_cons,ih]
theorem bulk_ok {H:Type}:BulkOk (H:=H) Rows.uptoBulk where
 one d:=by
  cases d with
  |lit l=>cases l<;>simp[Rows.uptoBulk]
  |nil=>simp[Rows.uptoBulk]
  |ptr d=>simp[Rows.uptoBulk]
  |slice elems spare=>simp[Rows.uptoBulk]
  |agg parts=>simp[Rows.uptoBulk]
  |iface t d=>simp[Rows.uptoBulk]
  |map entries=>simp[Rows.uptoBulk]
  |held h=>simp[Rows.uptoBulk]
 str l:=by simp[Rows.uptoBulk]
 slice e s:=by
  simp only[Rows.uptoBulk]
  rw[mL e]
  omega
 agg e:=by
  simp only[Rows.uptoBulk]
  rw[mL e]
  exact Nat.le_refl _
theorem bulk_one {H:Type} {d:DataW H} {l:List (DataW H)} (h:Rows.uptoSmall H l=true) (hd:d∈l):Rows.uptoBulk d≤1048576:=by
 unfold Rows.uptoSmall at h
 have h:=of_decide_eq_true h
 rw[mL] at h
 have:=le_sum (List.mem_map_of_mem (f:=Rows.uptoBulk) hd)
 omega
end Go.Proofs.YtkopljikappieaaGreatDoor
end
