/-
  Texts of this claim, packed (what nothing names is left out): R1, Q2s, SynP2, VkJ, VkK, HdS, Y0, VkN, Y1, Y2. Own work, partly printed by own programs. No condition.
-/
import Derived.Test.YtkopljikappieaaGreatDoorPkF3
import Derived.Test.YtkopljikappieaaGreatDoorPkF2
import Derived.Test.YtkopljikappieaaGreatDoorPkF4
import Derived.Test.YtkopljikappieaaGreatDoorPkF1
import Derived.Lib.SlicesCompact
set_option linter.unusedVariables false
set_option linter.unusedSimpArgs false
set_option maxHeartbeats 2000000
section
namespace Go.Proofs.YtkopljikappieaaGreatDoor
open Go Go.Vc Go.RowKit
def jo (n:Nat) (d0:Bs):Option Bool:=
 bif(decide ((d0.length:Int)≤64)) then
  ((dA n d0).bind λX1=>
  some ((X1)))
 else
  some ((false))
theorem nL (n:Nat) (M:Mem) (d0:Bs) (r:Bool) (hF:jo n d0=some r):Ok Tryz.prog M 87 [S d0] (λ_ v=>v=bO r):=by
 unfold jo at hF
 intro M1 hM0 w0 H w p0
 refine Re 10 Tryz.func87 rfl λa0 f0=>RR (Ye f0 1 λ_ f=>RR (Y f 4 λ_ f=>?_))
 rcases cE hF with⟨B1,F1⟩|⟨B1,F3⟩
 ·have U1:=dI.1 B1
  have f:=f.st 6 (cB B1)
  refine Y f 1 λ_ f=>?_
  obtain⟨X1,l1,F2⟩:=bS F1
  refine Y19 f p0 (gm n _ d0 X1 l1) λW1 N1 _ f=>Ye f 2 λ_ f=>wp_ret (au f rfl (Lk 2 (bO X1)) ?_)
  cases sI F2
  exact⟨_,rfl,M1,(mR _),N1,rfl⟩
 ·have U2:=aq dI B1
  have f:=f.st 6 (cB B1)
  refine Ye f 4 λ_ f=>wp_ret (au f rfl (Lk 2 (bO false)) ?_)
  cases sI F3
  exact⟨_,rfl,M1,(mR _),p0,rfl⟩
def gb (n:Nat) (d0:TD0):Option Bool:=
 bif(decide (d0.ab=3)) then
  ((jo n d0.aa).bind λX1=>
  some ((X1)))
 else
  some ((false))
theorem kE (n:Nat) (M:Mem) (c0:Lv) (d0:TD0) (h0:Rep M (ar d0) c0) (r:Bool) (hF:gb n d0=some r):Ok Tryz.prog M 39 [.agg c0.toArray] (λ_ v=>v=bO r):=by
 unfold gb at hF
 intro M1 hM0 w0 H w p0
 replace h0:=Rep.mono hM0 _ _ h0
 obtain⟨Z1,P1,Z2,P2,rfl,B1,B2⟩:=TD0.opn h0
 refine Re 11 Tryz.func39 rfl λa0 f0=>RR (Y14 (cs:=(aTD0 d0 Z1 P1 Z2 P2)) (T:=26) f0 p0 λQ1 V1 W1 J1 R1 N1 _ f=>?_)
 have R2:=bj R1
 refine Ye f 1 λ_ f=>RR (Y f 1 λ_ f=>Y16 f N1 R2 0 rfl λ_ f=>Y f 2 λ_ f=>?_)
 rcases cE hF with⟨B3,F1⟩|⟨B3,F3⟩
 ·have U1:=dI.1 B3
  have f:=f.st 6 (cB B3)
  refine Y f 1 λ_ f=>Y16 f N1 R2 3 rfl λ_ f=>?_
  obtain⟨X1,l1,F2⟩:=bS F1
  refine Y19 f N1 (nL n _ d0.aa X1 l1) λW2 N2 _ f=>Ye f 2 λ_ f=>wp_ret (au f rfl (Lk 2 (bO X1)) ?_)
  cases sI F2
  exact⟨_,rfl,V1,J1,N2,rfl⟩
 ·have U2:=aq dI B3
  have f:=f.st 6 (cB B3)
  refine Ye f 5 λ_ f=>wp_ret (au f rfl (Lk 2 (bO false)) ?_)
  cases sI F3
  exact⟨_,rfl,V1,J1,N1,rfl⟩
def bt (n:Nat) (bm:Int) (az:Bs) (d1:Int) (d2:Bs):Option (Int×Bs):=
 bif(decide (bm=0)) then
  (some ((d1,d2)))
 else
  some ((bm,az))
theorem cn (n:Nat) (M:Mem) (b0:Nat) (bm:Int) (az:Bs) (d1:Int) (d2:Bs) (r:Int×Bs) (hF:bt n bm az d1 d2=some r):OkH Tryz.prog M [oC b0 #[iL bm,S az] 54] 40 [pP b0,iL d1,S d2] (λM' E' v=>v=.tuple #[]∧E'=[oC b0 #[iL r.1,S r.2] 54]):=by
 unfold bt at hF
 intro M1 hM0 w0 H w p0
 refine Re 19 Tryz.func40 rfl λa0 f0=>RR (Y f0 3 λ_ f=>Z f (Y31 (v:=iL bm) rfl (ad:=⟨b0,0,none⟩) (p0.ownCell 0 rfl 0)) λ_ f=>Ye f 1 λ_ f=>RcF f hF (λB1 F1=>?_) λB1 F2=>?_)
 ·have U1:=dI.1 B1
  refine RR (Y f 4 λ_ f=>Y26 f p0 0 rfl rfl (b:=b0) (j:=0) (v:=iL d1) rfl (by exact rfl) (by simp) (by simp) _ rfl λW1 N1 _ f=>eT (aA (Y f 4 λ_ f=>Y26 f N1 0 rfl rfl (b:=b0) (j:=1) (v:=S d2) rfl (by exact rfl) (by simp) (by simp) _ rfl λW2 N2 _ f=>ap rfl (dn f rfl ?_))))
  cases sI F1
  exact⟨_,rfl,M1,_,(mR _),N2,⟨rfl,rfl⟩⟩
 ·have U2:=aq dI B1
  refine wp_skip (dn f rfl ?_)
  cases sI F2
  exact⟨_,rfl,M1,_,(mR _),p0,⟨rfl,rfl⟩⟩
def gf (n:Nat) (d0:Bs) (d1:Bs):Option Bs:=
 bif(decide (d0=[])) then
  (some (d1))
 else
  aS (d0.length+ [47].length≤9223372036854775807)<|
  aS ((d0++[47]).length+d1.length≤9223372036854775807)<|
  some ((d0++[47])++d1)
theorem ka (n:Nat) (M:Mem) (d0:Bs) (d1:Bs) (r:Bs) (hF:gf n d0 d1=some r):Ok Tryz.prog M 43 [S d0,S d1] (λ_ v=>v=S r):=by
 unfold gf at hF
 intro M1 hM0 w0 H w p0
 refine Re 12 Tryz.func43 rfl λa0 f0=>RR (Ye f0 1 λ_ f=>an (RR (Y f 1 λ_ f=>Z f (Y36 rfl (l:=d0) (m:=[])) λ_ f=>eT (RcF f hF (λB1 F1=>?_) λB1 F2=>?_))))
 ·have U1:=dI.1 B1
  refine RR (Ye f 2 λ_ f=>wp_ret (bC (au f rfl (Lk 4 (S d1)) ?_)))
  cases sI F1
  exact⟨_,rfl,M1,(mR _),p0,rfl⟩
 ·have U2:=aq dI B1
  refine St (RR (Y f 1 λ_ f=>?_))
  obtain⟨O1,F3⟩:=nS F2
  refine Z f (Y28 rfl (l:=d0) (m:=[47]) O1) λ_ f=>Y f 1 λ_ f=>?_
  obtain⟨O2,F4⟩:=nS F3
  refine Z f (Y28 rfl (l:=d0++[47]) (m:=d1) O2) λ_ f=>Ye f 1 λ_ f=>wp_ret (au f rfl (Lk 4 (S ((d0++[47])++d1))) ?_)
  cases sI F4
  exact⟨_,rfl,M1,(mR _),p0,rfl⟩
def bK (n:Nat) (d0:Bs) (d1:Int):Option Bs:=
 (kL n d1).bind λX1=>
 (gf n d0 X1.1).bind λX2=>
 some (X2)
theorem dw (n:Nat) (M:Mem) (d0:Bs) (d1:Int) (r:Bs) (hF:bK n d0 d1=some r):Ok Tryz.prog M 41 [S d0,iL d1] (λ_ v=>v=S r):=by
 unfold bK at hF
 intro M1 hM0 w0 H w p0
 refine Re 15 Tryz.func41 rfl λa0 f0=>RR (Ye f0 1 λ_ f=>RR (Y f 1 λ_ f=>?_))
 obtain⟨X1,l1,F1⟩:=bS hF
 refine Y19 f p0 (nI n _ d1 X1 l1) λW1 N1 _ f=>Ye f 5 λ_ f=>RR (Y f 2 λ_ f=>?_)
 obtain⟨X2,l2,F2⟩:=bS F1
 refine Y19 f N1 (ka n _ d0 X1.1 X2 l2) λW2 N2 _ f=>Ye f 1 λ_ f=>wp_ret (au f rfl (Lk 4 (S X2)) ?_)
 cases sI F2
 exact⟨_,rfl,M1,(mR _),N2,rfl⟩
def dE (n:Nat) (d0:TD0):Option Bool:=
 bif(decide (d0.ab=3)) then
  ((dD n d0.aa).bind λX1=>
  some ((X1)))
 else
  some ((false))
theorem iU (n:Nat) (M:Mem) (c0:Lv) (d0:TD0) (h0:Rep M (ar d0) c0) (r:Bool) (hF:dE n d0=some r):Ok Tryz.prog M 89 [.agg c0.toArray] (λ_ v=>v=bO r):=by
 unfold dE at hF
 intro M1 hM0 w0 H w p0
 replace h0:=Rep.mono hM0 _ _ h0
 obtain⟨Z1,P1,Z2,P2,rfl,B1,B2⟩:=TD0.opn h0
 refine Re 11 Tryz.func89 rfl λa0 f0=>RR (Y14 (cs:=(aTD0 d0 Z1 P1 Z2 P2)) (T:=26) f0 p0 λQ1 V1 W1 J1 R1 N1 _ f=>?_)
 have R2:=bj R1
 refine Ye f 1 λ_ f=>RR (Y f 1 λ_ f=>Y16 f N1 R2 0 rfl λ_ f=>Y f 2 λ_ f=>?_)
 rcases cE hF with⟨B3,F1⟩|⟨B3,F3⟩
 ·have U1:=dI.1 B3
  have f:=f.st 6 (cB B3)
  refine Y f 1 λ_ f=>Y16 f N1 R2 3 rfl λ_ f=>?_
  obtain⟨X1,l1,F2⟩:=bS F1
  refine Y19 f N1 (eK n _ d0.aa X1 l1) λW2 N2 _ f=>Ye f 2 λ_ f=>wp_ret (au f rfl (Lk 2 (bO X1)) ?_)
  cases sI F2
  exact⟨_,rfl,V1,J1,N2,rfl⟩
 ·have U2:=aq dI B3
  have f:=f.st 6 (cB B3)
  refine Ye f 5 λ_ f=>wp_ret (au f rfl (Lk 2 (bO false)) ?_)
  cases sI F3
  exact⟨_,rfl,V1,J1,N1,rfl⟩
def cH (n:Nat) (rec_ref13_reader_expr:Int→Bs→TD0→Bs→Option (TH0×Int×Bs)) (bm:Int) (az:Bs) (d1:Bs) (d2:TD0) (d3:Bs):Option (TH0×Int×Bs):=
 ((bif(decide (d1=[82,101,102])) then
  ((dE n d2).bind λX1=>
  bif X1 then
   (((some (((⟨(3:Int),([]:Bs),(0:Int),d2.aa,([]:Bs),([]:List TH0)⟩:TH0),bm,az)):Option (TH0×Int×Bs))).map Lp.br)
  else
   some (.nx ()))
   else
    bif(decide (d1=[71,101,116,65,116,116])) then
     (((bif(decide (d2.ab=4)) then
      (bif(decide (((d2.ac.length:Nat):Int)=2)) then
       ((aQ d2.ac (0:Int)).bind λX2=>
       (dE n X2).bind λX3=>
       bif X3 then
        ((aQ d2.ac (1:Int)).bind λX4=>
        bif(decide (X4.ab=3)) then
         ((aQ d2.ac (1:Int)).bind λX5=>
         (ga n X5.aa).bind λX6=>
         some ((X6)))
        else
         some ((false)))
       else
        some ((false)))
      else
       some ((false)))
       else
        some ((false)):Option Bool)).bind λG1=>
     bif G1 then
      ((aQ d2.ac (0:Int)).bind λX7=>
      (aQ d2.ac (1:Int)).bind λX8=>
      ((some (((⟨(4:Int),([]:Bs),(0:Int),X7.aa,X8.aa,([]:List TH0)⟩:TH0),bm,az)):Option (TH0×Int×Bs))).map Lp.br)
     else
      some (.nx ()))
    else
     bif(decide (d1=[83,117,98])) then
      (bif(decide (d2.ab=3)) then
       ((jb n d2.aa).bind λX9=>
       bif(!(decide (X9.2.2=0))) then
        ((bt n bm az X9.2.2 d3).bind λX10=>
        ((some (((⟨(5:Int),([]:Bs),(0:Int),([]:Bs),([]:Bs),X9.1⟩:TH0),X10.1,X10.2)):Option (TH0×Int×Bs))).map Lp.br)
       else
        ((some (((⟨(5:Int),([]:Bs),(0:Int),([]:Bs),([]:Bs),X9.1⟩:TH0),bm,az)):Option (TH0×Int×Bs))).map Lp.br)
      else
       some (.nx ()))
     else
      bif(decide (d1=[73,102])) then
       (((bif(decide (d2.ab=4)) then
        (bif(decide (((d2.ac.length:Nat):Int)=3)) then
         ((aQ d2.ac (0:Int)).bind λX11=>
         (dE n X11).bind λX12=>
         some ((X12)))
        else
         some ((false)))
         else
          some ((false)):Option Bool)).bind λG2=>
       bif G2 then
        ((((aQ d2.ac (1:Int)).bind λX13=>
          (bK n d3 (1:Int)).bind λX14=>
          (rec_ref13_reader_expr bm az X13 X14).bind λX15=>
          some ((X15.1,X15.2.1,X15.2.2)):Option (TH0×Int×Bs))).bind λG3=>
        (((aQ d2.ac (2:Int)).bind λX20=>
          (bK n d3 (2:Int)).bind λX21=>
          (rec_ref13_reader_expr G3.2.1 G3.2.2 X20 X21).bind λX22=>
          some ((X22.1,X22.2.1,X22.2.2)):Option (TH0×Int×Bs))).bind λG4=>
        (aQ d2.ac (0:Int)).bind λX27=>
        ((some (((⟨(6:Int),([]:Bs),(0:Int),X27.aa,([]:Bs),[(⟨G3.1.ab,G3.1.aa,G3.1.af,G3.1.ak,G3.1.al,G3.1.fL⟩:TH0),(⟨G4.1.ab,G4.1.aa,G4.1.af,G4.1.ak,G4.1.al,G4.1.fL⟩:TH0)]⟩:TH0),G4.2.1,G4.2.2)):Option (TH0×Int×Bs))).map Lp.br)
       else
        some (.nx ()))
      else
       bif(decide (d1=[74,111,105,110])) then
        (((bif(decide (d2.ab=4)) then
         (bif(decide (((d2.ac.length:Nat):Int)=2)) then
          ((aQ d2.ac (0:Int)).bind λX28=>
          (gb n X28).bind λX29=>
          some ((X29)))
         else
          some ((false)))
          else
           some ((false)):Option Bool)).bind λG5=>
        bif G5 then
         ((((aQ d2.ac (1:Int)).bind λX30=>
           (bK n d3 (1:Int)).bind λX31=>
           (rec_ref13_reader_expr bm az X30 X31).bind λX32=>
           some ((X32.1,X32.2.1,X32.2.2)):Option (TH0×Int×Bs))).bind λG6=>
         (aQ d2.ac (0:Int)).bind λX37=>
         ((some (((⟨(7:Int),X37.aa,(0:Int),([]:Bs),([]:Bs),[(⟨G6.1.ab,G6.1.aa,G6.1.af,G6.1.ak,G6.1.al,G6.1.fL⟩:TH0)]⟩:TH0),G6.2.1,G6.2.2)):Option (TH0×Int×Bs))).map Lp.br)
        else
         some (.nx ()))
       else
        bif(decide (d1=[83,101,108,101,99,116])) then
         (((bif(decide (d2.ab=4)) then
          (some ((decide (((d2.ac.length:Nat):Int)=2))))
           else
            some ((false)):Option Bool)).bind λG7=>
         bif G7 then
          ((((aQ d2.ac (0:Int)).bind λX38=>
            (bK n d3 (0:Int)).bind λX39=>
            (rec_ref13_reader_expr bm az X38 X39).bind λX40=>
            some ((X40.1,X40.2.1,X40.2.2)):Option (TH0×Int×Bs))).bind λG8=>
          (((aQ d2.ac (1:Int)).bind λX45=>
            (bK n d3 (1:Int)).bind λX46=>
            (rec_ref13_reader_expr G8.2.1 G8.2.2 X45 X46).bind λX47=>
            some ((X47.1,X47.2.1,X47.2.2)):Option (TH0×Int×Bs))).bind λG9=>
          ((some (((⟨(8:Int),([]:Bs),(0:Int),([]:Bs),([]:Bs),[(⟨G8.1.ab,G8.1.aa,G8.1.af,G8.1.ak,G8.1.al,G8.1.fL⟩:TH0),(⟨G9.1.ab,G9.1.aa,G9.1.af,G9.1.ak,G9.1.al,G9.1.fL⟩:TH0)]⟩:TH0),G9.2.1,G9.2.2)):Option (TH0×Int×Bs))).map Lp.br)
         else
          some (.nx ()))
        else
         some (.nx ()):Option (Lp Unit (TH0×Int×Bs)))).bind λj=>joinF j λG10=>
 (bt n bm az (121:Int) d3).bind λX52=>
 some ((ai,X52.1,X52.2))
set_option maxRecDepth 20000 in
theorem jY (n:Nat) (rec_ref13_reader_expr:Int→(List UInt8)→TD0→(List UInt8)→Option (TH0×Int×List UInt8)) (hrec_ref13_reader_expr: ∀ (M:Mem) (b0:Nat) (bm:Int) (az:List UInt8) (c1:List Value) (d1:TD0) (h1:Rep M (ar d1) c1) (d2:List UInt8) (r:TH0×Int×List UInt8) (hF:rec_ref13_reader_expr bm az d1 d2=some r),OkH Tryz.prog M [oC b0 #[iL bm,S az] 54] 20 [pP b0,.agg c1.toArray,S d2] (λM' E' v=>∃ (c0:List Value),v=.agg c0.toArray∧E'=[oC b0 #[iL r.2.1,S r.2.2] 54]∧Rep M' (ao r.1) c0)) (M:Mem) (b0:Nat) (bm:Int) (az:List UInt8) (d1:List UInt8) (c2:List Value) (d2:TD0) (h2:Rep M (ar d2) c2) (d3:List UInt8) (r:TH0×Int×List UInt8) (hF:cH n rec_ref13_reader_expr bm az d1 d2 d3=some r):OkH Tryz.prog M [oC b0 #[iL bm,S az] 54] 42 [pP b0,S d1,.agg c2.toArray,S d3] (λM' E' v=>∃ (c0:List Value),v=.agg c0.toArray∧E'=[oC b0 #[iL r.2.1,S r.2.2] 54]∧Rep M' (ao r.1) c0):=by
 unfold cH at hF
 intro M1 hM0 w0 H w p0
 replace h2:=Rep.mono hM0 _ _ h2
 obtain⟨Z1,P1,Z2,P2,rfl,B1,B2⟩:=TD0.opn h2
 refine av 202 Tryz.func42 rfl rfl (by simp) λa0 f0=>RR (Y14 (cs:=#[iB d2.ab,bO d2.ah,iL d2.af,S d2.aa,sL Z1 d2.ac P1,sL Z2 d2.ae P2]) (T:=26) f0 p0 λQ1 V1 W1 J1 R1 N1 _ f=>?_)
 have R2:=bj R1
 refine Y13 f N1 (.cells #[iB 0,S [],iL 0,S [],S [],.slice none 0 0] 31 (0,0)) λQ2 W2 N2 _ f=>eT (an (RR (Y f 1 λ_ f=>eT ?_)))
 obtain⟨gN,ec,F1⟩:=bS hF
 refine bD (λa_250 W116=>∃G10:Unit,gN=.nx G10∧∃V43:Mem,V1.le V43∧Frm 202 [(0,pP b0),(3,S d3),(8,pP Q2)] a_250∧Hp w0 V43 ((oC Q2 #[iB 0,S [],iL 0,S [],S [],.slice none 0 0] 31)::(oC b0 #[iL bm,S az] 54)::H) W116) ?_ ?_
 ·refine wp_block (RR (Z f (Y36 rfl (l:=d1) (m:=[82,101,102])) λ_ f=>Y f 1 λ_ f=>eT (RcF f ec (λB3 F2=>?_) λB3 F7=>?_)))
  ·have U1:=dI.1 B3
   refine RR (Z (v:=.agg #[iB d2.ab,bO d2.ah,iL d2.af,S d2.aa,sL Z1 d2.ac P1,sL Z2 d2.ae P2]) f (Y32 (cs:=[iB d2.ab,bO d2.ah,iL d2.af,S d2.aa,sL Z1 d2.ac P1,sL Z2 d2.ae P2]) rfl (ad:=⟨Q1,0,none⟩) (λj v h=>N2.cell (R2 j v h))) λ_ f=>?_)
   obtain⟨X1,l1,F3⟩:=bS F2
   refine Y19 f N2 (iU n _ _ d2 (TD0.shutx (x:=d2) (B1.mono J1) (B2.mono J1)) X1 l1) λW3 N3 _ f=>eT (RcF f F3 (λB4 F4=>?_) λB4 F6=>?_)
   ·refine RR (Y f 1 λ_ f=>Y16 f N3 R2 3 rfl λ_ f=>Y f 1 λ_ f=>Y27 (vs:=[iB 3,S [],iL 0,S d2.aa,S [],.slice none 0 0]) (j:=0) f N3 rfl rfl (by simp[Value.oneCell',S]) (by simp) (by decide) (cs':=#[iB 3,S [],iL 0,S d2.aa,S [],.slice none 0 0]) λW4 N4 _ f=>eT (wp_ret (ed ?_)))
    have F5:=bF F4 F1
    refine bC (bC (cD f rfl (Y11 (cs:=[iB 3,S [],iL 0,S d2.aa,S [],.slice none 0 0]) (ad:=⟨Q2,0,none⟩) f (am (N4.ownCell 0 rfl) 0 rfl)) ?_))
    obtain rfl:=sI F5
    exact⟨_,rfl,V1,_,J1,(N4.dropN 1),⟨[iB 3,S [],iL 0,S d2.aa,S [],.slice none 0 0],rfl,rfl,(TH0.shut Sli.nil)⟩⟩
   ·refine wp_skip (dZ (aK ?_))
    exact⟨(),(sI F6).symm,V1,(mR _),f.kp,N3⟩
  ·have U4:=aq dI B3
   refine RR (Z f (Y36 rfl (l:=d1) (m:=[71,101,116,65,116,116])) λ_ f=>Y f 1 λ_ f=>eT (RcF f F7 (λB5 F8=>?_) λB5 F28=>?_))
   ·have U5:=dI.1 B5
    refine an ?_
    obtain⟨mi,ji,F9⟩:=bS F8
    refine bD (λa_43 W7=>∃G1:Bool,mi=G1∧∃V2:Mem,V1.le V2∧Frm 202 [(0,pP b0),(3,S d3),(6,pP Q1),(8,pP Q2),(58,bO G1)] a_43∧Hp w0 V2 ((oC Q2 #[iB 0,S [],iL 0,S [],S [],.slice none 0 0] 31)::(oC b0 #[iL bm,S az] 54)::H) W7) ?_ ?_
    ·refine aA (Y f 1 λ_ f=>Y16 f N2 R2 0 rfl λ_ f=>Y f 2 λ_ f=>?_)
     rcases cE ji with⟨B6,F10⟩|⟨B6,F22⟩
     ·have U6:=dI.1 B6
      have f:=f.st 30 (cB B6)
      refine Y f 1 λ_ f=>Y16 f N2 R2 4 rfl λ_ f=>Y f 4 λ_ f=>?_
      rcases cE F10 with⟨B7,F11⟩|⟨B7,F21⟩
      ·have U7:=dI.1 B7
       have f:=f.st 36 (cB B7)
       refine Y f 1 λ_ f=>Y16 f N2 R2 4 rfl λ_ f=>?_
       obtain⟨X2,l2,F12⟩:=bS F11
       obtain⟨C1,cZ,jC,-,D1,R3⟩:=Sli.at_ (B1.mono J1) l2
       obtain⟨Z3,P3,Z4,P4,rfl,B8,B9⟩:=TD0.opn D1
       refine Z f (Y30 jC rfl (len:=d2.ac.length) (cap:=P1) (k:=.i64) (i:=(0:Int)) (e:=26) (sz:=6) (ax l2) (aw l2)) λ_ f=>Z (v:=.agg #[iB X2.ab,bO X2.ah,iL X2.af,S X2.aa,sL Z3 X2.ac P3,sL Z4 X2.ae P4]) f (Y32 (cs:=[iB X2.ab,bO X2.ah,iL X2.af,S X2.aa,sL Z3 X2.ac P3,sL Z4 X2.ae P4]) rfl (ad:=C1.add ((0:Int).toNat*6)) (λj v h=>N2.cell (R3 j v h))) λ_ f=>?_
       obtain⟨X3,l3,F13⟩:=bS F12
       refine Y19 f N2 (iU n _ _ X2 (TD0.shutx (x:=X2) B8 B9) X3 l3) λW5 N5 _ f=>Y f 2 λ_ f=>?_
       rcases cE F13 with⟨B10,F14⟩|⟨B10,F20⟩
       ·have f:=f.st 43 (cB B10)
        refine Y f 1 λ_ f=>Y16 f N5 R2 4 rfl λ_ f=>?_
        obtain⟨X4,l4,F15⟩:=bS F14
        obtain⟨C2,gW,e_2,-,D2,R4⟩:=Sli.at_ (B1.mono J1) l4
        obtain⟨Z5,P5,Z6,P6,rfl,B11,B12⟩:=TD0.opn D2
        refine Z f (Y30 e_2 rfl (len:=d2.ac.length) (cap:=P1) (k:=.i64) (i:=(1:Int)) (e:=26) (sz:=6) (ax l4) (aw l4)) λ_ f=>Y f 1 λ_ f=>Y16 f N5 R4 0 rfl λ_ f=>Y f 3 λ_ f=>?_
        rcases cE F15 with⟨B13,F16⟩|⟨B13,F19⟩
        ·have U9:=dI.1 B13
         have f:=f.st 51 (cB B13)
         refine Y f 1 λ_ f=>Y16 f N5 R2 4 rfl λ_ f=>?_
         obtain⟨X5,l5,F17⟩:=bS F16
         obtain⟨C3,my,e_3,-,D3,R5⟩:=Sli.at_ (B1.mono J1) l5
         obtain⟨Z7,P7,Z8,P8,rfl,B14,B15⟩:=TD0.opn D3
         refine Z f (Y30 e_3 rfl (len:=d2.ac.length) (cap:=P1) (k:=.i64) (i:=(1:Int)) (e:=26) (sz:=6) (ax l5) (aw l5)) λ_ f=>Y f 1 λ_ f=>Y16 f N5 R5 3 rfl λ_ f=>?_
         obtain⟨X6,l6,F18⟩:=bS F17
         refine Y19 f N5 (kD n _ X5.aa X6 l6) λW6 N6 _ f=>Y f 1 λ_ f=>eT ?_
         exact⟨(X6),(sI F18).symm,V1,(mR _),f.kp,N6⟩
        ·have U10:=aq dI B13
         have f:=f.st 51 (cB B13)
         refine Y f 7 λ_ f=>eT ?_
         exact⟨(false),(sI F19).symm,V1,(mR _),f.kp,N5⟩
       ·have f:=f.st 43 (cB B10)
        refine Y f 15 λ_ f=>eT ?_
        exact⟨(false),(sI F20).symm,V1,(mR _),f.kp,N5⟩
      ·have U12:=aq dI B7
       have f:=f.st 36 (cB B7)
       refine Y f 22 λ_ f=>eT ?_
       exact⟨(false),(sI F21).symm,V1,(mR _),f.kp,N2⟩
     ·have U13:=aq dI B6
      have f:=f.st 30 (cB B6)
      refine Y f 28 λ_ f=>eT ?_
      exact⟨(false),(sI F22).symm,V1,(mR _),f.kp,N2⟩
    ·rintro a_43 W7 ⟨G1,dC,V2,J2,f,N7⟩
     subst mi
     refine aK (RcF f F9 (λB16 F23=>?_) λB16 F27=>?_)
     ·refine an (mx 11 N7 kr kr λW8 N8=>cb (v:=.pointer (some ((⟨Q1,0,none⟩:Addr).add 4))) f kr kr rfl rfl kr λ_ f=>cb (v:=sL Z1 d2.ac P1) f kr kr rfl rfl (Y31 (v:=sL Z1 d2.ac P1) rfl (ad:=(⟨Q1,0,none⟩:Addr).add 4) (N8.cell ((fzu J2 R2) 4 _ rfl))) λ_ f=>?_)
      obtain⟨X7,l7,F24⟩:=bS F23
      obtain⟨C4,c_4,e_4,-,D4,R6⟩:=Sli.at_ (B1.mono (J1.trans J2)) l7
      obtain⟨Z9,P9,Z10,P10,rfl,B17,B18⟩:=TD0.opn D4
      refine cb (v:=.pointer (some (C4.add ((0:Int).toNat*6)))) f kr kr rfl rfl (Y30 e_4 rfl (len:=d2.ac.length) (cap:=P1) (k:=.i64) (i:=(0:Int)) (e:=26) (sz:=6) (ax l7) (aw l7)) λ_ f=>cb (v:=.pointer (some ((C4.add ((0:Int).toNat*6)).add 3))) f kr kr rfl rfl kr λ_ f=>cb (v:=S X7.aa) f kr kr rfl rfl (Y31 (v:=S X7.aa) rfl (ad:=(C4.add ((0:Int).toNat*6)).add 3) (N8.cell (R6 3 _ rfl))) λ_ f=>cb (v:=.pointer (some ((⟨Q1,0,none⟩:Addr).add 4))) f kr kr rfl rfl kr λ_ f=>cb (v:=sL Z1 d2.ac P1) f kr kr rfl rfl (Y31 (v:=sL Z1 d2.ac P1) rfl (ad:=(⟨Q1,0,none⟩:Addr).add 4) (N8.cell ((fzu J2 R2) 4 _ rfl))) λ_ f=>?_
      obtain⟨X8,l8,F25⟩:=bS F24
      obtain⟨C5,c_5,e_5,-,D5,R7⟩:=Sli.at_ (B1.mono (J1.trans J2)) l8
      obtain⟨Z11,P11,Z12,P12,rfl,B19,B20⟩:=TD0.opn D5
      refine cb (v:=.pointer (some (C5.add ((1:Int).toNat*6)))) f kr kr rfl rfl (Y30 e_5 rfl (len:=d2.ac.length) (cap:=P1) (k:=.i64) (i:=(1:Int)) (e:=26) (sz:=6) (ax l8) (aw l8)) λ_ f=>cb (v:=.pointer (some ((C5.add ((1:Int).toNat*6)).add 3))) f kr kr rfl rfl kr λ_ f=>cb (v:=S X8.aa) f kr kr rfl rfl (Y31 (v:=S X8.aa) rfl (ad:=(C5.add ((1:Int).toNat*6)).add 3) (N8.cell (R7 3 _ rfl))) λ_ f=>cb (v:=.agg #[iB 4,S [],iL 0,S X7.aa,S X8.aa,.slice none 0 0]) f kr kr rfl rfl kr λ_ f=>mG rfl (Y27 (vs:=[iB 4,S [],iL 0,S X7.aa,S X8.aa,.slice none 0 0]) (j:=0) f N8 rfl rfl (by simp[Value.oneCell',S]) (by simp) (by decide) (cs':=#[iB 4,S [],iL 0,S X7.aa,S X8.aa,.slice none 0 0]) λW9 N9 _ f=>eT (wp_ret (ed ?_)))
      have F26:=bF F25 F1
      refine bC (bC (cD f rfl (Y11 (cs:=[iB 4,S [],iL 0,S X7.aa,S X8.aa,.slice none 0 0]) (ad:=⟨Q2,0,none⟩) f (am (N9.ownCell 0 rfl) 0 rfl)) ?_))
      obtain rfl:=sI F26
      exact⟨_,rfl,V2,_,(J1.trans J2),(N9.dropN 1),⟨[iB 4,S [],iL 0,S X7.aa,S X8.aa,.slice none 0 0],rfl,rfl,(TH0.shut Sli.nil)⟩⟩
     ·refine wp_skip (dZ (aK ?_))
      exact⟨(),(sI F27).symm,V2,J2,f.kp,N7⟩
   ·have U16:=aq dI B5
    refine RR (Z f (Y36 rfl (l:=d1) (m:=[83,117,98])) λ_ f=>Y f 1 λ_ f=>eT (RcF f F28 (λB21 F29=>?_) λB21 F38=>?_))
    ·have U17:=dI.1 B21
     refine RR (Y f 1 λ_ f=>Y16 f N2 R2 0 rfl λ_ f=>Y f 1 λ_ f=>eT (RcF f F29 (λB22 F30=>?_) λB22 F37=>?_))
     ·have U18:=dI.1 B22
      refine RR (Y f 1 λ_ f=>Y16 f N2 R2 3 rfl λ_ f=>?_)
      obtain⟨X9,l9,F31⟩:=bS F30
      refine Y18 (E:=[]) (H:=((oC Q2 #[iB 0,S [],iL 0,S [],S [],.slice none 0 0] 31)::(oC b0 #[iL bm,S az] 54)::H)) f N2 (ref12_Lex_ok n _ d2.aa X9 l9) λ_ V3 mo W10 J3 N10 ej _ f=>?_
      obtain⟨Z13,P13,L1,rfl,rfl,D6⟩:=ej
      refine Y f 7 λ_ f=>eT (an (RR (Y f 2 λ_ f=>eT (RcF f F31 (λB23 F32=>?_) λB23 F35=>?_))))
      ·have U19: ¬ (X9.2.2=0):=(aM dI).1 B23
       refine aA (Y f 3 λ_ f=>?_)
       obtain⟨X10,l10,F33⟩:=bS F32
       have N12:=N10.pl [2]
       refine Y18 (E:=[oC b0 #[iL bm,S az] 54]) (H:=((rO 31 6 Z13 X9.1 P13 L1)::(oC Q2 #[iB 0,S [],iL 0,S [],S [],.slice none 0 0] 31)::H)) f N12 (cn n _ b0 bm az X9.2.2 d3 X10 l10) λ_ V4 E_2 W11 J4 N11 jk _ f=>?_
       obtain⟨rfl,rfl⟩:=jk
       refine eT (RR (Y f 2 λ_ f=>?_))
       have N13:=N11.pl [1]
       obtain⟨Z14,P14,V5,H1,J5,N14,B24⟩:=N13.rowSli (f:=ao) (xs:=X9.1) bg (ag.mono J4 _ _ D6)
       have f:=Frm.set f 89 (v:=.agg #[iB 5,S [],iL 0,S [],S [],sL Z13 X9.1 P13]) (v':=.agg #[iB 5,S [],iL 0,S [],S [],sL Z14 X9.1 P14]) kr (by have h:=H1;simp only[sL] at h ⊢;rw[h])
       have N15:=N14.pl [1]
       refine Y27 (vs:=[iB 5,S [],iL 0,S [],S [],sL Z14 X9.1 P14]) (j:=0) f N15 rfl rfl (by simp[Value.oneCell',S]) (by simp) (by decide) (cs':=#[iB 5,S [],iL 0,S [],S [],sL Z14 X9.1 P14]) λW12 N16 _ f=>eT (wp_ret (ed ?_))
       have F34:=bF F33 F1
       refine bC (bC (cD f rfl (Y11 (cs:=[iB 5,S [],iL 0,S [],S [],sL Z14 X9.1 P14]) (ad:=⟨Q2,0,none⟩) f (am (N16.ownCell 0 rfl) 0 rfl)) ?_))
       obtain rfl:=sI F34
       exact⟨_,rfl,V5,_,(((J1.trans J3).trans J4).trans J5),(N16.dropN 1),⟨[iB 5,S [],iL 0,S [],S [],sL Z14 X9.1 P14],rfl,rfl,(TH0.shut B24)⟩⟩
      ·have U20: ¬ (¬ (X9.2.2=0)):=aq (aM dI) B23
       refine wp_skip (aK (RR (Y f 2 λ_ f=>?_)))
       obtain⟨Z15,P15,V6,H2,J6,N17,B25⟩:=N10.rowSli (f:=ao) (xs:=X9.1) bg D6
       have f:=Frm.set f 89 (v:=.agg #[iB 5,S [],iL 0,S [],S [],sL Z13 X9.1 P13]) (v':=.agg #[iB 5,S [],iL 0,S [],S [],sL Z15 X9.1 P15]) kr (by have h:=H2;simp only[sL] at h ⊢;rw[h])
       refine Y27 (vs:=[iB 5,S [],iL 0,S [],S [],sL Z15 X9.1 P15]) (j:=0) f N17 rfl rfl (by simp[Value.oneCell',S]) (by simp) (by decide) (cs':=#[iB 5,S [],iL 0,S [],S [],sL Z15 X9.1 P15]) λW13 N18 _ f=>eT (wp_ret (ed ?_))
       have F36:=bF F35 F1
       refine bC (bC (cD f rfl (Y11 (cs:=[iB 5,S [],iL 0,S [],S [],sL Z15 X9.1 P15]) (ad:=⟨Q2,0,none⟩) f (am (N18.ownCell 0 rfl) 0 rfl)) ?_))
       obtain rfl:=sI F36
       exact⟨_,rfl,V6,_,((J1.trans J3).trans J6),(N18.dropN 1),⟨[iB 5,S [],iL 0,S [],S [],sL Z15 X9.1 P15],rfl,rfl,(TH0.shut B25)⟩⟩
     ·have U21:=aq dI B22
      refine wp_skip (dZ (aK ?_))
      exact⟨(),(sI F37).symm,V1,(mR _),f.kp,N2⟩
    ·have U22:=aq dI B21
     refine RR (Z f (Y36 rfl (l:=d1) (m:=[73,102])) λ_ f=>Y f 1 λ_ f=>eT (RcF f F38 (λB26 F39=>?_) λB26 F59=>?_))
     ·have U23:=dI.1 B26
      refine an ?_
      obtain⟨j_3,mY,F40⟩:=bS F39
      refine bD (λa_88 W15=>∃G2:Bool,j_3=G2∧∃V7:Mem,V1.le V7∧Frm 202 [(0,pP b0),(3,S d3),(6,pP Q1),(8,pP Q2),(107,bO G2)] a_88∧Hp w0 V7 ((oC Q2 #[iB 0,S [],iL 0,S [],S [],.slice none 0 0] 31)::(oC b0 #[iL bm,S az] 54)::H) W15) ?_ ?_
      ·refine aA (Y f 1 λ_ f=>Y16 f N2 R2 0 rfl λ_ f=>Y f 2 λ_ f=>?_)
       rcases cE mY with⟨B27,F41⟩|⟨B27,F46⟩
       ·have U24:=dI.1 B27
        have f:=f.st 95 (cB B27)
        refine Y f 1 λ_ f=>Y16 f N2 R2 4 rfl λ_ f=>Y f 4 λ_ f=>?_
        rcases cE F41 with⟨B28,F42⟩|⟨B28,F45⟩
        ·have U25:=dI.1 B28
         have f:=f.st 101 (cB B28)
         refine Y f 1 λ_ f=>Y16 f N2 R2 4 rfl λ_ f=>?_
         obtain⟨X11,l11,F43⟩:=bS F42
         obtain⟨C6,c_6,e_6,-,D7,R8⟩:=Sli.at_ (B1.mono J1) l11
         obtain⟨Z16,P16,Z17,P17,rfl,B29,B30⟩:=TD0.opn D7
         refine Z f (Y30 e_6 rfl (len:=d2.ac.length) (cap:=P1) (k:=.i64) (i:=(0:Int)) (e:=26) (sz:=6) (ax l11) (aw l11)) λ_ f=>Z (v:=.agg #[iB X11.ab,bO X11.ah,iL X11.af,S X11.aa,sL Z16 X11.ac P16,sL Z17 X11.ae P17]) f (Y32 (cs:=[iB X11.ab,bO X11.ah,iL X11.af,S X11.aa,sL Z16 X11.ac P16,sL Z17 X11.ae P17]) rfl (ad:=C6.add ((0:Int).toNat*6)) (λj v h=>N2.cell (R8 j v h))) λ_ f=>?_
         obtain⟨X12,l12,F44⟩:=bS F43
         refine Y19 f N2 (iU n _ _ X11 (TD0.shutx (x:=X11) B29 B30) X12 l12) λW14 N19 _ f=>Y f 1 λ_ f=>eT ?_
         exact⟨(X12),(sI F44).symm,V1,(mR _),f.kp,N19⟩
        ·have U26:=aq dI B28
         have f:=f.st 101 (cB B28)
         refine Y f 6 λ_ f=>eT ?_
         exact⟨(false),(sI F45).symm,V1,(mR _),f.kp,N2⟩
       ·have U27:=aq dI B27
        have f:=f.st 95 (cB B27)
        refine Y f 12 λ_ f=>eT ?_
        exact⟨(false),(sI F46).symm,V1,(mR _),f.kp,N2⟩
      ·rintro a_88 W15 ⟨G2,eZ,V7,J7,f,N20⟩
       subst j_3
       refine aK (RcF f F40 (λB31 F47=>?_) λB31 F58=>?_)
       ·refine an ?_
        obtain⟨j_4,hj_4,F48⟩:=bS F47
        refine bD (λa_110 W32=>∃G3:TH0×Int×List UInt8,j_4=G3∧∃V11:Mem,V7.le V11∧∃ (C9:Addr),∃ (c_12:List Value),Rep V11 (ao G3.1) c_12∧(∀j u,c_12[j]? =some u→V11.cell? (C9.add j)=some u)∧Frm 202 [(0,pP b0),(3,S d3),(6,pP Q1),(8,pP Q2),(12,.pointer (some C9))] a_110∧Hp w0 V11 ((oC b0 #[iL G3.2.1,S G3.2.2] 54)::(oC Q2 #[iB 0,S [],iL 0,S [],S [],.slice none 0 0] 31)::H) W32) ?_ ?_
        ·have N25:=N20.pl [1]
         obtain⟨X13,l13,F49⟩:=bS hj_4
         obtain⟨X14,l14,F50⟩:=bS F49
         obtain⟨X15,l15,F51⟩:=bS F50
         refine je (ks:=[9]) (E:=[oC b0 #[iL bm,S az] 54]) (Hr:=((oC Q2 #[iB 0,S [],iL 0,S [],S [],.slice none 0 0] 31)::H)) (.quiet 0 (.quiet 1 (.quiet 2 (.quiet 3 (.quiet 4 (.quiet 5 (.quiet 6 (.alt 7 (.alt 8 .done .none) (.alt 8 (.alt 7 .done .none) .none))))))))) N25 kr kr kr (Y1 (v:=pP b0) rfl f rfl rfl (λ_ _=>by kernel_rfl) λ_ f=>Y1 (v:=.pointer (some ((⟨Q1,0,none⟩:Addr).add 4))) rfl f rfl rfl (λ_ _=>by kernel_rfl) λ_ f=>Y1 (v:=sL Z1 d2.ac P1) rfl f rfl rfl (λ_ pq=>Y31 (v:=sL Z1 d2.ac P1) rfl (ad:=(⟨Q1,0,none⟩:Addr).add 4) (pq.cell ((fzu J7 R2) 4 _ rfl))) λ_ f=>?_)
         obtain⟨C8,c_9,e_8,-,D10,R10⟩:=Sli.at_ (B1.mono (J1.trans J7)) l13
         obtain⟨Z21,P21,Z22,P22,rfl,B35,B36⟩:=TD0.opn D10
         refine Y1 (v:=.pointer (some (C8.add ((1:Int).toNat*6)))) rfl f rfl rfl (λ_ pq=>Y30 e_8 rfl (len:=d2.ac.length) (cap:=P1) (k:=.i64) (i:=(1:Int)) (e:=26) (sz:=6) (ax l13) (aw l13)) λ_ f=>Y1 (v:=.agg #[iB X13.ab,bO X13.ah,iL X13.af,S X13.aa,sL Z21 X13.ac P21,sL Z22 X13.ae P22]) rfl f rfl rfl (λ_ pq=>Y32 (cs:=[iB X13.ab,bO X13.ah,iL X13.af,S X13.aa,sL Z21 X13.ac P21,sL Z22 X13.ae P22]) rfl (ad:=C8.add ((1:Int).toNat*6)) (λj v h=>pq.cell (R10 j v h))) λ_ f=>Y1 (v:=S d3) rfl f rfl rfl (λ_ _=>by kernel_rfl) λ_ f=>Y2 (v:=S X14) rfl f rfl rfl (dw n _ d3 (1:Int) X14 l14) λ_ f=>aC rfl (λW20 N27=>?_) ?_
         ·refine Y18 (E:=[oC b0 #[iL bm,S az] 54]) (H:=((oC Q2 #[iB 0,S [],iL 0,S [],S [],.slice none 0 0] 31)::H)) f N27 (hrec_ref13_reader_expr _ b0 bm az _ X13 (TD0.shutx (x:=X13) B35 B36) X14 X15 l15) λ_ V9 E_4 W21 J9 N28 q_4 _ f=>?_
          obtain⟨c_10,rfl,rfl,D11⟩:=q_4
          obtain⟨Z23,P23,rfl,B37⟩:=TH0.opn D11
          refine ap rfl (aD 1 J9 N28 rfl (aC rfl (λW22 N29=>?_) ?_))
          ·refine Y13 f N29 (.cells #[iB 0,S [],iL 0,S [],S [],.slice none 0 0] 31 (0,0)) λQ4 W23 N30 _ f=>ap rfl (aD 2 J9 N30 rfl (gV λW24 N31=>Y27 (vs:=[iB X15.1.ab,S X15.1.aa,iL X15.1.af,S X15.1.ak,S X15.1.al,sL Z23 X15.1.fL P23]) (j:=0) f N31 rfl rfl (by simp[Value.oneCell',S]) (by simp) (by decide) (cs':=#[iB X15.1.ab,S X15.1.aa,iL X15.1.af,S X15.1.ak,S X15.1.al,sL Z23 X15.1.fL P23]) λW25 N32 _ f=>ap rfl (mp ?_)))
           obtain⟨V12,J12,N42,R11⟩:=N32.fzOwn
           refine aK ?_
           exact⟨(X15.1,X15.2.1,X15.2.2),(sI F51).symm,V12,(J9.trans J12),⟨Q4,0,none⟩,[iB X15.1.ab,S X15.1.aa,iL X15.1.af,S X15.1.ak,S X15.1.al,sL Z23 X15.1.fL P23],(TH0.shutx (x:=X15.1) (B37.mono J12)),(bu (R11) 0 rfl),f.kp,N42⟩
          exact aB
         refine aC rfl (λW26 N33=>?_) ?_
         ·refine Y13 f N33 (.cells #[iB 0,S [],iL 0,S [],S [],.slice none 0 0] 31 (0,0)) λQ5 W27 N34 _ f=>ap rfl (aD 2 (mR _) N34 rfl (aC rfl (λW28 N35=>?_) ?_))
          ·have N37:=N35.pl [1]
           refine Y18 (E:=[oC b0 #[iL bm,S az] 54]) (H:=((oC Q5 #[iB 0,S [],iL 0,S [],S [],.slice none 0 0] 31)::(oC Q2 #[iB 0,S [],iL 0,S [],S [],.slice none 0 0] 31)::H)) f N37 (hrec_ref13_reader_expr _ b0 bm az _ X13 (TD0.shutx (x:=X13) B35 B36) X14 X15 l15) λ_ V10 E_5 W29 J10 N36 q_5 _ f=>?_
           obtain⟨c_11,rfl,rfl,D12⟩:=q_5
           obtain⟨Z24,P24,rfl,B38⟩:=TH0.opn D12
           refine ap rfl (aD 2 J10 N36 rfl (gV λW30 N38=>?_))
           have N39:=N38.pl [1]
           refine Y27 (vs:=[iB X15.1.ab,S X15.1.aa,iL X15.1.af,S X15.1.ak,S X15.1.al,sL Z24 X15.1.fL P24]) (j:=0) f N39 rfl rfl (by simp[Value.oneCell',S]) (by simp) (by decide) (cs':=#[iB X15.1.ab,S X15.1.aa,iL X15.1.af,S X15.1.ak,S X15.1.al,sL Z24 X15.1.fL P24]) λW31 N40 _ f=>ap rfl (mp ?_)
           obtain⟨V13,J13,N43,R12⟩:=N40.fzOwn
           refine aK ?_
           exact⟨(X15.1,X15.2.1,X15.2.2),(sI F51).symm,V13,(J10.trans J13),⟨Q5,0,none⟩,[iB X15.1.ab,S X15.1.aa,iL X15.1.af,S X15.1.ak,S X15.1.al,sL Z24 X15.1.fL P24],(TH0.shutx (x:=X15.1) (B38.mono J13)),(bu (R12) 0 rfl),f.kp,N43⟩
          exact aB
         exact aB
        ·rintro a_110 W32 ⟨G3,hq_4,V11,J11,C9,c_12,D13,lb,f,N41⟩
         subst j_4
         obtain⟨Z25,P25,rfl,B39⟩:=TH0.opn D13
         refine aK (an ?_)
         obtain⟨j_5,hj_5,F52⟩:=bS F48
         refine bD (λa_132 W49=>∃G4:TH0×Int×List UInt8,j_5=G4∧∃V17:Mem,V11.le V17∧∃ (C12:Addr),∃ (c_18:List Value),Rep V17 (ao G4.1) c_18∧(∀j u,c_18[j]? =some u→V17.cell? (C12.add j)=some u)∧Frm 202 [(6,pP Q1),(8,pP Q2),(12,.pointer (some C9)),(13,.pointer (some C12))] a_132∧Hp w0 V17 ((oC b0 #[iL G4.2.1,S G4.2.2] 54)::(oC Q2 #[iB 0,S [],iL 0,S [],S [],.slice none 0 0] 31)::H) W49) ?_ ?_
         ·obtain⟨X20,l16,F53⟩:=bS hj_5
          obtain⟨X21,l17,F54⟩:=bS F53
          obtain⟨X22,l18,F55⟩:=bS F54
          refine je (ks:=[9]) (E:=[oC b0 #[iL G3.2.1,S G3.2.2] 54]) (Hr:=((oC Q2 #[iB 0,S [],iL 0,S [],S [],.slice none 0 0] 31)::H)) (.quiet 0 (.quiet 1 (.quiet 2 (.quiet 3 (.quiet 4 (.quiet 5 (.quiet 6 (.alt 7 (.alt 8 .done .none) (.alt 8 (.alt 7 .done .none) .none))))))))) N41 kr kr kr (Y1 (v:=pP b0) rfl f rfl rfl (λ_ _=>by kernel_rfl) λ_ f=>Y1 (v:=.pointer (some ((⟨Q1,0,none⟩:Addr).add 4))) rfl f rfl rfl (λ_ _=>by kernel_rfl) λ_ f=>Y1 (v:=sL Z1 d2.ac P1) rfl f rfl rfl (λ_ pq=>Y31 (v:=sL Z1 d2.ac P1) rfl (ad:=(⟨Q1,0,none⟩:Addr).add 4) (pq.cell ((fzu (J7.trans J11) R2) 4 _ rfl))) λ_ f=>?_)
          obtain⟨C11,c_15,e_10,-,D16,R14⟩:=Sli.at_ (B1.mono ((J1.trans J7).trans J11)) l16
          obtain⟨Z29,P29,Z30,P30,rfl,B43,B44⟩:=TD0.opn D16
          refine Y1 (v:=.pointer (some (C11.add ((2:Int).toNat*6)))) rfl f rfl rfl (λ_ pq=>Y30 e_10 rfl (len:=d2.ac.length) (cap:=P1) (k:=.i64) (i:=(2:Int)) (e:=26) (sz:=6) (ax l16) (aw l16)) λ_ f=>Y1 (v:=.agg #[iB X20.ab,bO X20.ah,iL X20.af,S X20.aa,sL Z29 X20.ac P29,sL Z30 X20.ae P30]) rfl f rfl rfl (λ_ pq=>Y32 (cs:=[iB X20.ab,bO X20.ah,iL X20.af,S X20.aa,sL Z29 X20.ac P29,sL Z30 X20.ae P30]) rfl (ad:=C11.add ((2:Int).toNat*6)) (λj v h=>pq.cell (R14 j v h))) λ_ f=>Y1 (v:=S d3) rfl f rfl rfl (λ_ _=>by kernel_rfl) λ_ f=>Y2 (v:=S X21) rfl f rfl rfl (dw n _ d3 (2:Int) X21 l17) λ_ f=>aC rfl (λW37 N48=>?_) ?_
          ·refine Y18 (E:=[oC b0 #[iL G3.2.1,S G3.2.2] 54]) (H:=((oC Q2 #[iB 0,S [],iL 0,S [],S [],.slice none 0 0] 31)::H)) f N48 (hrec_ref13_reader_expr _ b0 G3.2.1 G3.2.2 _ X20 (TD0.shutx (x:=X20) B43 B44) X21 X22 l18) λ_ V15 E_7 W38 J15 N49 q_7 _ f=>?_
           obtain⟨c_16,rfl,rfl,D17⟩:=q_7
           obtain⟨Z31,P31,rfl,B45⟩:=TH0.opn D17
           refine ap rfl (aD 1 J15 N49 rfl (aC rfl (λW39 N50=>?_) ?_))
           ·refine Y13 f N50 (.cells #[iB 0,S [],iL 0,S [],S [],.slice none 0 0] 31 (0,0)) λQ7 W40 N51 _ f=>ap rfl (aD 2 J15 N51 rfl (gV λW41 N52=>Y27 (vs:=[iB X22.1.ab,S X22.1.aa,iL X22.1.af,S X22.1.ak,S X22.1.al,sL Z31 X22.1.fL P31]) (j:=0) f N52 rfl rfl (by simp[Value.oneCell',S]) (by simp) (by decide) (cs':=#[iB X22.1.ab,S X22.1.aa,iL X22.1.af,S X22.1.ak,S X22.1.al,sL Z31 X22.1.fL P31]) λW42 N53 _ f=>ap rfl (mp ?_)))
            obtain⟨V18,J18,N63,R15⟩:=N53.fzOwn
            refine aK ?_
            exact⟨(X22.1,X22.2.1,X22.2.2),(sI F55).symm,V18,(J15.trans J18),⟨Q7,0,none⟩,[iB X22.1.ab,S X22.1.aa,iL X22.1.af,S X22.1.ak,S X22.1.al,sL Z31 X22.1.fL P31],(TH0.shutx (x:=X22.1) (B45.mono J18)),(bu (R15) 0 rfl),f.kp,N63⟩
           exact aB
          refine aC rfl (λW43 N54=>?_) ?_
          ·refine Y13 f N54 (.cells #[iB 0,S [],iL 0,S [],S [],.slice none 0 0] 31 (0,0)) λQ8 W44 N55 _ f=>ap rfl (aD 2 (mR _) N55 rfl (aC rfl (λW45 N56=>?_) ?_))
           ·have N58:=N56.pl [1]
            refine Y18 (E:=[oC b0 #[iL G3.2.1,S G3.2.2] 54]) (H:=((oC Q8 #[iB 0,S [],iL 0,S [],S [],.slice none 0 0] 31)::(oC Q2 #[iB 0,S [],iL 0,S [],S [],.slice none 0 0] 31)::H)) f N58 (hrec_ref13_reader_expr _ b0 G3.2.1 G3.2.2 _ X20 (TD0.shutx (x:=X20) B43 B44) X21 X22 l18) λ_ V16 E_8 W46 J16 N57 q_8 _ f=>?_
            obtain⟨c_17,rfl,rfl,D18⟩:=q_8
            obtain⟨Z32,P32,rfl,B46⟩:=TH0.opn D18
            refine ap rfl (aD 2 J16 N57 rfl (gV λW47 N59=>?_))
            have N60:=N59.pl [1]
            refine Y27 (vs:=[iB X22.1.ab,S X22.1.aa,iL X22.1.af,S X22.1.ak,S X22.1.al,sL Z32 X22.1.fL P32]) (j:=0) f N60 rfl rfl (by simp[Value.oneCell',S]) (by simp) (by decide) (cs':=#[iB X22.1.ab,S X22.1.aa,iL X22.1.af,S X22.1.ak,S X22.1.al,sL Z32 X22.1.fL P32]) λW48 N61 _ f=>ap rfl (mp ?_)
            obtain⟨V19,J19,N64,R16⟩:=N61.fzOwn
            refine aK ?_
            exact⟨(X22.1,X22.2.1,X22.2.2),(sI F55).symm,V19,(J16.trans J19),⟨Q8,0,none⟩,[iB X22.1.ab,S X22.1.aa,iL X22.1.af,S X22.1.ak,S X22.1.al,sL Z32 X22.1.fL P32],(TH0.shutx (x:=X22.1) (B46.mono J19)),(bu (R16) 0 rfl),f.kp,N64⟩
           exact aB
          exact aB
         ·rintro a_132 W49 ⟨G4,hq_6,V17,J17,C12,c_18,D19,nJ,f,N62⟩
          subst j_5
          obtain⟨Z33,P33,rfl,B47⟩:=TH0.opn D19
          refine aK (an ?_)
          have N65:=N62.pl [1]
          refine dp (E:=[oC Q2 #[iB 0,S [],iL 0,S [],S [],.slice none 0 0] 31]) (Hr:=((oC b0 #[iL G4.2.1,S G4.2.2] 54)::H)) [(0,true),(1,true),(2,true),(3,true),(4,true),(5,true),(6,true),(7,false),(8,true),(9,false)] N65 kr kr rfl kr (Y0 default f 1 λ_ f=>bz (v:=sL Z1 d2.ac P1) f kr kr rfl rfl (λ_ pq=>Y31 (v:=sL Z1 d2.ac P1) rfl (ad:=(⟨Q1,0,none⟩:Addr).add 4) (pq.cell ((fzu ((J7.trans J11).trans J17) R2) 4 _ rfl))) λ_ f=>?_)
          obtain⟨X27,l19,F56⟩:=bS F52
          obtain⟨C13,c_19,e_11,-,D20,R17⟩:=Sli.at_ (B1.mono (((J1.trans J7).trans J11).trans J17)) l19
          obtain⟨Z34,P34,Z35,P35,rfl,B48,B49⟩:=TD0.opn D20
          refine bz (v:=.pointer (some (C13.add ((0:Int).toNat*6)))) f kr kr rfl rfl (λ_ pq=>Y30 e_11 rfl (len:=d2.ac.length) (cap:=P1) (k:=.i64) (i:=(0:Int)) (e:=26) (sz:=6) (ax l19) (aw l19)) λ_ f=>Y0 default f 1 λ_ f=>bz (v:=S X27.aa) f kr kr rfl rfl (λ_ pq=>Y31 (v:=S X27.aa) rfl (ad:=(C13.add ((0:Int).toNat*6)).add 3) (pq.cell (R17 3 _ rfl))) λ_ f=>bz (v:=.agg #[iB G3.1.ab,S G3.1.aa,iL G3.1.af,S G3.1.ak,S G3.1.al,sL Z25 G3.1.fL P25]) f kr kr rfl rfl (λ_ pq=>Y32 (cs:=[iB G3.1.ab,S G3.1.aa,iL G3.1.af,S G3.1.ak,S G3.1.al,sL Z25 G3.1.fL P25]) rfl (ad:=C9) (λj v h=>pq.cell ((fzu J17 lb) j v h))) λ_ f=>bz (v:=.agg #[iB G4.1.ab,S G4.1.aa,iL G4.1.af,S G4.1.ak,S G4.1.al,sL Z33 G4.1.fL P33]) f kr kr rfl rfl (λ_ pq=>Y32 (cs:=[iB G4.1.ab,S G4.1.aa,iL G4.1.af,S G4.1.ak,S G4.1.al,sL Z33 G4.1.fL P33]) rfl (ad:=C12) (λj v h=>pq.cell (nJ j v h))) λ_ f=>bL (E:=[oC Q2 #[iB 0,S [],iL 0,S [],S [],.slice none 0 0] 31]) λW50 N66=>aP (k:=2) (c:=2) f N66 (.cells #[iB G3.1.ab,S G3.1.aa,iL G3.1.af,S G3.1.ak,S G3.1.al,sL Z25 G3.1.fL P25,iB G4.1.ab,S G4.1.aa,iL G4.1.af,S G4.1.ak,S G4.1.al,sL Z33 G4.1.fL P33] 31 (0,0)) kr (λ_=>by kernel_rfl) λQ9 W51 N67 _ f=>ap rfl (dl (M1:=V17) (E:=[oC Q9 #[iB G3.1.ab,S G3.1.aa,iL G3.1.af,S G3.1.ak,S G3.1.al,sL Z25 G3.1.fL P25,iB G4.1.ab,S G4.1.aa,iL G4.1.af,S G4.1.ak,S G4.1.al,sL Z33 G4.1.fL P33] 31,oC Q2 #[iB 0,S [],iL 0,S [],S [],.slice none 0 0] 31]) (mR _) N67 (Y0 default f 1 λ_ f=>bL (E:=[oC Q9 #[iB G3.1.ab,S G3.1.aa,iL G3.1.af,S G3.1.ak,S G3.1.al,sL Z25 G3.1.fL P25,iB G4.1.ab,S G4.1.aa,iL G4.1.af,S G4.1.ak,S G4.1.al,sL Z33 G4.1.fL P33] 31,oC Q2 #[iB 0,S [],iL 0,S [],S [],.slice none 0 0] 31]) λW52 N68=>?_))
          have D21:ag V17 ([(⟨G3.1.ab,G3.1.aa,G3.1.af,G3.1.ak,G3.1.al,G3.1.fL⟩:TH0),(⟨G4.1.ab,G4.1.aa,G4.1.af,G4.1.ak,G4.1.al,G4.1.fL⟩:TH0)].map ao) [iB G3.1.ab,S G3.1.aa,iL G3.1.af,S G3.1.ak,S G3.1.al,sL Z25 G3.1.fL P25,iB G4.1.ab,S G4.1.aa,iL G4.1.af,S G4.1.ak,S G4.1.al,sL Z33 G4.1.fL P33]:=⟨_,_,rfl,TH0.shut (B39.mono J17),⟨_,_,rfl,TH0.shut B47,rfl⟩⟩
          have N69:Hp w0 V17 ((Ent.row 31 6 (.slice (some ⟨Q9,0,none⟩) 2 2) [(⟨G3.1.ab,G3.1.aa,G3.1.af,G3.1.ak,G3.1.al,G3.1.fL⟩:TH0),(⟨G4.1.ab,G4.1.aa,G4.1.af,G4.1.ak,G4.1.al,G4.1.fL⟩:TH0)].length [iB G3.1.ab,S G3.1.aa,iL G3.1.af,S G3.1.ak,S G3.1.al,sL Z25 G3.1.fL P25,iB G4.1.ab,S G4.1.aa,iL G4.1.af,S G4.1.ak,S G4.1.al,sL Z33 G4.1.fL P33])::(oC Q2 #[iB 0,S [],iL 0,S [],S [],.slice none 0 0] 31)::(oC b0 #[iL G4.2.1,S G4.2.2] 54)::H) W52:=N68.objRow (n:=2) (cap:=2) (size:=6) (by decide) (by decide) (dq (by decide) rfl) rfl rfl
          obtain⟨Z36,P36,V20,H3,J20,N70,B50⟩:=N69.rowSli (f:=ao) (xs:=[(⟨G3.1.ab,G3.1.aa,G3.1.af,G3.1.ak,G3.1.al,G3.1.fL⟩:TH0),(⟨G4.1.ab,G4.1.aa,G4.1.af,G4.1.ak,G4.1.al,G4.1.fL⟩:TH0)]) bg D21
          have f:=Frm.set f 132 (v:=.agg #[iB 6,S [],iL 0,S X27.aa,S [],.slice (some ⟨Q9,0,none⟩) 2 2]) (v':=.agg #[iB 6,S [],iL 0,S X27.aa,S [],sL Z36 [(⟨G3.1.ab,G3.1.aa,G3.1.af,G3.1.ak,G3.1.al,G3.1.fL⟩:TH0),(⟨G4.1.ab,G4.1.aa,G4.1.af,G4.1.ak,G4.1.al,G4.1.fL⟩:TH0)] P36]) kr (by have h:=H3;simp only[sL] at h ⊢;rw[h])
          refine Y27 (vs:=[iB 6,S [],iL 0,S X27.aa,S [],sL Z36 [(⟨G3.1.ab,G3.1.aa,G3.1.af,G3.1.ak,G3.1.al,G3.1.fL⟩:TH0),(⟨G4.1.ab,G4.1.aa,G4.1.af,G4.1.ak,G4.1.al,G4.1.fL⟩:TH0)] P36]) (j:=0) f N70 rfl rfl (by simp[Value.oneCell',S]) (by simp) (by decide) (cs':=#[iB 6,S [],iL 0,S X27.aa,S [],sL Z36 [(⟨G3.1.ab,G3.1.aa,G3.1.af,G3.1.ak,G3.1.al,G3.1.fL⟩:TH0),(⟨G4.1.ab,G4.1.aa,G4.1.af,G4.1.ak,G4.1.al,G4.1.fL⟩:TH0)] P36]) λW53 N71 _ f=>ap rfl (dl (M1:=V20) (E:=[oC Q2 #[iB 6,S [],iL 0,S X27.aa,S [],sL Z36 [(⟨G3.1.ab,G3.1.aa,G3.1.af,G3.1.ak,G3.1.al,G3.1.fL⟩:TH0),(⟨G4.1.ab,G4.1.aa,G4.1.af,G4.1.ak,G4.1.al,G4.1.fL⟩:TH0)] P36] 31]) J20 N71 (dL rfl λW54 N72=>aK (wp_ret (ed ?_))))
          have F57:=bF F56 F1
          refine bC (bC (cD f rfl (Y11 (cs:=[iB 6,S [],iL 0,S X27.aa,S [],sL Z36 [(⟨G3.1.ab,G3.1.aa,G3.1.af,G3.1.ak,G3.1.al,G3.1.fL⟩:TH0),(⟨G4.1.ab,G4.1.aa,G4.1.af,G4.1.ak,G4.1.al,G4.1.fL⟩:TH0)] P36]) (ad:=⟨Q2,0,none⟩) f (am (N72.ownCell 0 rfl) 0 rfl)) ?_))
          obtain rfl:=sI F57
          exact⟨_,rfl,V20,_,((((J1.trans J7).trans J11).trans J17).trans J20),(N72.dropN 1),⟨[iB 6,S [],iL 0,S X27.aa,S [],sL Z36 [(⟨G3.1.ab,G3.1.aa,G3.1.af,G3.1.ak,G3.1.al,G3.1.fL⟩:TH0),(⟨G4.1.ab,G4.1.aa,G4.1.af,G4.1.ak,G4.1.al,G4.1.fL⟩:TH0)] P36],rfl,rfl,(TH0.shut B50)⟩⟩
       ·refine wp_skip (dZ (aK ?_))
        exact⟨(),(sI F58).symm,V7,J7,f.kp,N20⟩
     ·have U30:=aq dI B26
      refine RR (Z f (Y36 rfl (l:=d1) (m:=[74,111,105,110])) λ_ f=>Y f 1 λ_ f=>eT (RcF f F59 (λB51 F60=>?_) λB51 F76=>?_))
      ·have U31:=dI.1 B51
       refine an ?_
       obtain⟨j_6,hj_6,F61⟩:=bS F60
       refine bD (λa_159 W56=>∃G5:Bool,j_6=G5∧∃V21:Mem,V1.le V21∧Frm 202 [(0,pP b0),(3,S d3),(6,pP Q1),(8,pP Q2),(150,bO G5)] a_159∧Hp w0 V21 ((oC Q2 #[iB 0,S [],iL 0,S [],S [],.slice none 0 0] 31)::(oC b0 #[iL bm,S az] 54)::H) W56) ?_ ?_
       ·refine aA (Y f 1 λ_ f=>Y16 f N2 R2 0 rfl λ_ f=>Y f 2 λ_ f=>?_)
        rcases cE hj_6 with⟨B52,F62⟩|⟨B52,F67⟩
        ·have U32:=dI.1 B52
         have f:=f.st 138 (cB B52)
         refine Y f 1 λ_ f=>Y16 f N2 R2 4 rfl λ_ f=>Y f 4 λ_ f=>?_
         rcases cE F62 with⟨B53,F63⟩|⟨B53,F66⟩
         ·have U33:=dI.1 B53
          have f:=f.st 144 (cB B53)
          refine Y f 1 λ_ f=>Y16 f N2 R2 4 rfl λ_ f=>?_
          obtain⟨X28,l20,F64⟩:=bS F63
          obtain⟨C14,c_20,e_12,-,D22,R18⟩:=Sli.at_ (B1.mono J1) l20
          obtain⟨Z37,P37,Z38,P38,rfl,B54,B55⟩:=TD0.opn D22
          refine Z f (Y30 e_12 rfl (len:=d2.ac.length) (cap:=P1) (k:=.i64) (i:=(0:Int)) (e:=26) (sz:=6) (ax l20) (aw l20)) λ_ f=>Z (v:=.agg #[iB X28.ab,bO X28.ah,iL X28.af,S X28.aa,sL Z37 X28.ac P37,sL Z38 X28.ae P38]) f (Y32 (cs:=[iB X28.ab,bO X28.ah,iL X28.af,S X28.aa,sL Z37 X28.ac P37,sL Z38 X28.ae P38]) rfl (ad:=C14.add ((0:Int).toNat*6)) (λj v h=>N2.cell (R18 j v h))) λ_ f=>?_
          obtain⟨X29,l21,F65⟩:=bS F64
          refine Y19 f N2 (kE n _ _ X28 (TD0.shutx (x:=X28) B54 B55) X29 l21) λW55 N73 _ f=>Y f 1 λ_ f=>eT ?_
          exact⟨(X29),(sI F65).symm,V1,(mR _),f.kp,N73⟩
         ·have U34:=aq dI B53
          have f:=f.st 144 (cB B53)
          refine Y f 6 λ_ f=>eT ?_
          exact⟨(false),(sI F66).symm,V1,(mR _),f.kp,N2⟩
        ·have U35:=aq dI B52
         have f:=f.st 138 (cB B52)
         refine Y f 12 λ_ f=>eT ?_
         exact⟨(false),(sI F67).symm,V1,(mR _),f.kp,N2⟩
       ·rintro a_159 W56 ⟨G5,hq_7,V21,J21,f,N74⟩
        subst j_6
        refine aK (RcF f F61 (λB56 F68=>?_) λB56 F75=>?_)
        ·refine an ?_
         obtain⟨j_7,hj_7,F69⟩:=bS F68
         refine bD (λa_181 W73=>∃G6:TH0×Int×List UInt8,j_7=G6∧∃V25:Mem,V21.le V25∧∃ (C17:Addr),∃ (c_26:List Value),Rep V25 (ao G6.1) c_26∧(∀j u,c_26[j]? =some u→V25.cell? (C17.add j)=some u)∧Frm 202 [(6,pP Q1),(8,pP Q2),(14,.pointer (some C17))] a_181∧Hp w0 V25 ((oC b0 #[iL G6.2.1,S G6.2.2] 54)::(oC Q2 #[iB 0,S [],iL 0,S [],S [],.slice none 0 0] 31)::H) W73) ?_ ?_
         ·have N79:=N74.pl [1]
          obtain⟨X30,l22,F70⟩:=bS hj_7
          obtain⟨X31,l23,F71⟩:=bS F70
          obtain⟨X32,l24,F72⟩:=bS F71
          refine je (ks:=[9]) (E:=[oC b0 #[iL bm,S az] 54]) (Hr:=((oC Q2 #[iB 0,S [],iL 0,S [],S [],.slice none 0 0] 31)::H)) (.quiet 0 (.quiet 1 (.quiet 2 (.quiet 3 (.quiet 4 (.quiet 5 (.quiet 6 (.alt 7 (.alt 8 .done .none) (.alt 8 (.alt 7 .done .none) .none))))))))) N79 kr kr kr (Y1 (v:=pP b0) rfl f rfl rfl (λ_ _=>by kernel_rfl) λ_ f=>Y1 (v:=.pointer (some ((⟨Q1,0,none⟩:Addr).add 4))) rfl f rfl rfl (λ_ _=>by kernel_rfl) λ_ f=>Y1 (v:=sL Z1 d2.ac P1) rfl f rfl rfl (λ_ pq=>Y31 (v:=sL Z1 d2.ac P1) rfl (ad:=(⟨Q1,0,none⟩:Addr).add 4) (pq.cell ((fzu J21 R2) 4 _ rfl))) λ_ f=>?_)
          obtain⟨C16,c_23,e_14,-,D25,R20⟩:=Sli.at_ (B1.mono (J1.trans J21)) l22
          obtain⟨Z42,P42,Z43,P43,rfl,B60,B61⟩:=TD0.opn D25
          refine Y1 (v:=.pointer (some (C16.add ((1:Int).toNat*6)))) rfl f rfl rfl (λ_ pq=>Y30 e_14 rfl (len:=d2.ac.length) (cap:=P1) (k:=.i64) (i:=(1:Int)) (e:=26) (sz:=6) (ax l22) (aw l22)) λ_ f=>Y1 (v:=.agg #[iB X30.ab,bO X30.ah,iL X30.af,S X30.aa,sL Z42 X30.ac P42,sL Z43 X30.ae P43]) rfl f rfl rfl (λ_ pq=>Y32 (cs:=[iB X30.ab,bO X30.ah,iL X30.af,S X30.aa,sL Z42 X30.ac P42,sL Z43 X30.ae P43]) rfl (ad:=C16.add ((1:Int).toNat*6)) (λj v h=>pq.cell (R20 j v h))) λ_ f=>Y1 (v:=S d3) rfl f rfl rfl (λ_ _=>by kernel_rfl) λ_ f=>Y2 (v:=S X31) rfl f rfl rfl (dw n _ d3 (1:Int) X31 l23) λ_ f=>aC rfl (λW61 N81=>?_) ?_
          ·refine Y18 (E:=[oC b0 #[iL bm,S az] 54]) (H:=((oC Q2 #[iB 0,S [],iL 0,S [],S [],.slice none 0 0] 31)::H)) f N81 (hrec_ref13_reader_expr _ b0 bm az _ X30 (TD0.shutx (x:=X30) B60 B61) X31 X32 l24) λ_ V23 E_10 W62 J23 N82 q_10 _ f=>?_
           obtain⟨c_24,rfl,rfl,D26⟩:=q_10
           obtain⟨Z44,P44,rfl,B62⟩:=TH0.opn D26
           refine ap rfl (aD 1 J23 N82 rfl (aC rfl (λW63 N83=>?_) ?_))
           ·refine Y13 f N83 (.cells #[iB 0,S [],iL 0,S [],S [],.slice none 0 0] 31 (0,0)) λQ11 W64 N84 _ f=>ap rfl (aD 2 J23 N84 rfl (gV λW65 N85=>Y27 (vs:=[iB X32.1.ab,S X32.1.aa,iL X32.1.af,S X32.1.ak,S X32.1.al,sL Z44 X32.1.fL P44]) (j:=0) f N85 rfl rfl (by simp[Value.oneCell',S]) (by simp) (by decide) (cs':=#[iB X32.1.ab,S X32.1.aa,iL X32.1.af,S X32.1.ak,S X32.1.al,sL Z44 X32.1.fL P44]) λW66 N86 _ f=>ap rfl (mp ?_)))
            obtain⟨V26,J26,N96,R21⟩:=N86.fzOwn
            refine aK ?_
            exact⟨(X32.1,X32.2.1,X32.2.2),(sI F72).symm,V26,(J23.trans J26),⟨Q11,0,none⟩,[iB X32.1.ab,S X32.1.aa,iL X32.1.af,S X32.1.ak,S X32.1.al,sL Z44 X32.1.fL P44],(TH0.shutx (x:=X32.1) (B62.mono J26)),(bu (R21) 0 rfl),f.kp,N96⟩
           exact aB
          refine aC rfl (λW67 N87=>?_) ?_
          ·refine Y13 f N87 (.cells #[iB 0,S [],iL 0,S [],S [],.slice none 0 0] 31 (0,0)) λQ12 W68 N88 _ f=>ap rfl (aD 2 (mR _) N88 rfl (aC rfl (λW69 N89=>?_) ?_))
           ·have N91:=N89.pl [1]
            refine Y18 (E:=[oC b0 #[iL bm,S az] 54]) (H:=((oC Q12 #[iB 0,S [],iL 0,S [],S [],.slice none 0 0] 31)::(oC Q2 #[iB 0,S [],iL 0,S [],S [],.slice none 0 0] 31)::H)) f N91 (hrec_ref13_reader_expr _ b0 bm az _ X30 (TD0.shutx (x:=X30) B60 B61) X31 X32 l24) λ_ V24 E_11 W70 J24 N90 q_11 _ f=>?_
            obtain⟨c_25,rfl,rfl,D27⟩:=q_11
            obtain⟨Z45,P45,rfl,B63⟩:=TH0.opn D27
            refine ap rfl (aD 2 J24 N90 rfl (gV λW71 N92=>?_))
            have N93:=N92.pl [1]
            refine Y27 (vs:=[iB X32.1.ab,S X32.1.aa,iL X32.1.af,S X32.1.ak,S X32.1.al,sL Z45 X32.1.fL P45]) (j:=0) f N93 rfl rfl (by simp[Value.oneCell',S]) (by simp) (by decide) (cs':=#[iB X32.1.ab,S X32.1.aa,iL X32.1.af,S X32.1.ak,S X32.1.al,sL Z45 X32.1.fL P45]) λW72 N94 _ f=>ap rfl (mp ?_)
            obtain⟨V27,J27,N97,R22⟩:=N94.fzOwn
            refine aK ?_
            exact⟨(X32.1,X32.2.1,X32.2.2),(sI F72).symm,V27,(J24.trans J27),⟨Q12,0,none⟩,[iB X32.1.ab,S X32.1.aa,iL X32.1.af,S X32.1.ak,S X32.1.al,sL Z45 X32.1.fL P45],(TH0.shutx (x:=X32.1) (B63.mono J27)),(bu (R22) 0 rfl),f.kp,N97⟩
           exact aB
          exact aB
         ·rintro a_181 W73 ⟨G6,hq_9,V25,J25,C17,c_26,D28,hq_8,f,N95⟩
          subst j_7
          obtain⟨Z46,P46,rfl,B64⟩:=TH0.opn D28
          refine aK (an ?_)
          have N98:=N95.pl [1]
          refine dp (E:=[oC Q2 #[iB 0,S [],iL 0,S [],S [],.slice none 0 0] 31]) (Hr:=((oC b0 #[iL G6.2.1,S G6.2.2] 54)::H)) [(0,true),(1,true),(2,true),(3,true),(4,true),(5,true),(6,false),(7,true),(8,false)] N98 kr kr rfl kr (Y0 default f 1 λ_ f=>bz (v:=sL Z1 d2.ac P1) f kr kr rfl rfl (λ_ pq=>Y31 (v:=sL Z1 d2.ac P1) rfl (ad:=(⟨Q1,0,none⟩:Addr).add 4) (pq.cell ((fzu (J21.trans J25) R2) 4 _ rfl))) λ_ f=>?_)
          obtain⟨X37,l25,F73⟩:=bS F69
          obtain⟨C18,c_27,e_15,-,D29,R23⟩:=Sli.at_ (B1.mono ((J1.trans J21).trans J25)) l25
          obtain⟨Z47,P47,Z48,P48,rfl,B65,B66⟩:=TD0.opn D29
          refine bz (v:=.pointer (some (C18.add ((0:Int).toNat*6)))) f kr kr rfl rfl (λ_ pq=>Y30 e_15 rfl (len:=d2.ac.length) (cap:=P1) (k:=.i64) (i:=(0:Int)) (e:=26) (sz:=6) (ax l25) (aw l25)) λ_ f=>Y0 default f 1 λ_ f=>bz (v:=S X37.aa) f kr kr rfl rfl (λ_ pq=>Y31 (v:=S X37.aa) rfl (ad:=(C18.add ((0:Int).toNat*6)).add 3) (pq.cell (R23 3 _ rfl))) λ_ f=>bz (v:=.agg #[iB G6.1.ab,S G6.1.aa,iL G6.1.af,S G6.1.ak,S G6.1.al,sL Z46 G6.1.fL P46]) f kr kr rfl rfl (λ_ pq=>Y32 (cs:=[iB G6.1.ab,S G6.1.aa,iL G6.1.af,S G6.1.ak,S G6.1.al,sL Z46 G6.1.fL P46]) rfl (ad:=C17) (λj v h=>pq.cell (hq_8 j v h))) λ_ f=>bL (E:=[oC Q2 #[iB 0,S [],iL 0,S [],S [],.slice none 0 0] 31]) λW74 N99=>aP (k:=1) (c:=1) f N99 (.cells #[iB G6.1.ab,S G6.1.aa,iL G6.1.af,S G6.1.ak,S G6.1.al,sL Z46 G6.1.fL P46] 31 (0,0)) kr (λ_=>by kernel_rfl) λQ13 W75 N100 _ f=>ap rfl (dl (M1:=V25) (E:=[oC Q13 #[iB G6.1.ab,S G6.1.aa,iL G6.1.af,S G6.1.ak,S G6.1.al,sL Z46 G6.1.fL P46] 31,oC Q2 #[iB 0,S [],iL 0,S [],S [],.slice none 0 0] 31]) (mR _) N100 (Y0 default f 1 λ_ f=>bL (E:=[oC Q13 #[iB G6.1.ab,S G6.1.aa,iL G6.1.af,S G6.1.ak,S G6.1.al,sL Z46 G6.1.fL P46] 31,oC Q2 #[iB 0,S [],iL 0,S [],S [],.slice none 0 0] 31]) λW76 N101=>?_))
          have D30:ag V25 ([(⟨G6.1.ab,G6.1.aa,G6.1.af,G6.1.ak,G6.1.al,G6.1.fL⟩:TH0)].map ao) [iB G6.1.ab,S G6.1.aa,iL G6.1.af,S G6.1.ak,S G6.1.al,sL Z46 G6.1.fL P46]:=⟨_,_,rfl,TH0.shut B64,rfl⟩
          have N102:Hp w0 V25 ((Ent.row 31 6 (.slice (some ⟨Q13,0,none⟩) 1 1) [(⟨G6.1.ab,G6.1.aa,G6.1.af,G6.1.ak,G6.1.al,G6.1.fL⟩:TH0)].length [iB G6.1.ab,S G6.1.aa,iL G6.1.af,S G6.1.ak,S G6.1.al,sL Z46 G6.1.fL P46])::(oC Q2 #[iB 0,S [],iL 0,S [],S [],.slice none 0 0] 31)::(oC b0 #[iL G6.2.1,S G6.2.2] 54)::H) W76:=N101.objRow (n:=1) (cap:=1) (size:=6) (by decide) (by decide) (dq (by decide) rfl) rfl rfl
          obtain⟨Z49,P49,V28,H4,J28,N103,B67⟩:=N102.rowSli (f:=ao) (xs:=[(⟨G6.1.ab,G6.1.aa,G6.1.af,G6.1.ak,G6.1.al,G6.1.fL⟩:TH0)]) bg D30
          have f:=Frm.set f 166 (v:=.agg #[iB 7,S X37.aa,iL 0,S [],S [],.slice (some ⟨Q13,0,none⟩) 1 1]) (v':=.agg #[iB 7,S X37.aa,iL 0,S [],S [],sL Z49 [(⟨G6.1.ab,G6.1.aa,G6.1.af,G6.1.ak,G6.1.al,G6.1.fL⟩:TH0)] P49]) kr (by have h:=H4;simp only[sL] at h ⊢;rw[h])
          refine Y27 (vs:=[iB 7,S X37.aa,iL 0,S [],S [],sL Z49 [(⟨G6.1.ab,G6.1.aa,G6.1.af,G6.1.ak,G6.1.al,G6.1.fL⟩:TH0)] P49]) (j:=0) f N103 rfl rfl (by simp[Value.oneCell',S]) (by simp) (by decide) (cs':=#[iB 7,S X37.aa,iL 0,S [],S [],sL Z49 [(⟨G6.1.ab,G6.1.aa,G6.1.af,G6.1.ak,G6.1.al,G6.1.fL⟩:TH0)] P49]) λW77 N104 _ f=>ap rfl (dl (M1:=V28) (E:=[oC Q2 #[iB 7,S X37.aa,iL 0,S [],S [],sL Z49 [(⟨G6.1.ab,G6.1.aa,G6.1.af,G6.1.ak,G6.1.al,G6.1.fL⟩:TH0)] P49] 31]) J28 N104 (dL rfl λW78 N105=>aK (wp_ret (ed ?_))))
          have F74:=bF F73 F1
          refine bC (bC (cD f rfl (Y11 (cs:=[iB 7,S X37.aa,iL 0,S [],S [],sL Z49 [(⟨G6.1.ab,G6.1.aa,G6.1.af,G6.1.ak,G6.1.al,G6.1.fL⟩:TH0)] P49]) (ad:=⟨Q2,0,none⟩) f (am (N105.ownCell 0 rfl) 0 rfl)) ?_))
          obtain rfl:=sI F74
          exact⟨_,rfl,V28,_,(((J1.trans J21).trans J25).trans J28),(N105.dropN 1),⟨[iB 7,S X37.aa,iL 0,S [],S [],sL Z49 [(⟨G6.1.ab,G6.1.aa,G6.1.af,G6.1.ak,G6.1.al,G6.1.fL⟩:TH0)] P49],rfl,rfl,(TH0.shut B67)⟩⟩
        ·refine wp_skip (dZ (aK ?_))
         exact⟨(),(sI F75).symm,V21,J21,f.kp,N74⟩
      ·have U38:=aq dI B51
       refine RR (Z f (Y36 rfl (l:=d1) (m:=[83,101,108,101,99,116])) λ_ f=>Y f 1 λ_ f=>eT (RcF f F76 (λB68 F77=>?_) λB68 F92=>?_))
       ·have U39:=dI.1 B68
        refine an ?_
        obtain⟨j_8,hj_8,F78⟩:=bS F77
        refine bD (λa_200 W79=>∃G7:Bool,j_8=G7∧∃V29:Mem,V1.le V29∧Frm 202 [(0,pP b0),(3,S d3),(6,pP Q1),(8,pP Q2),(177,bO G7)] a_200∧Hp w0 V29 ((oC Q2 #[iB 0,S [],iL 0,S [],S [],.slice none 0 0] 31)::(oC b0 #[iL bm,S az] 54)::H) W79) ?_ ?_
        ·refine aA (Y f 1 λ_ f=>Y16 f N2 R2 0 rfl λ_ f=>Y f 2 λ_ f=>?_)
         rcases cE hj_8 with⟨B69,F79⟩|⟨B69,F80⟩
         ·have U40:=dI.1 B69
          have f:=f.st 172 (cB B69)
          refine Y f 1 λ_ f=>Y16 f N2 R2 4 rfl λ_ f=>Y f 3 λ_ f=>eT ?_
          exact⟨(decide (((d2.ac.length:Nat):Int)=2)),(sI F79).symm,V1,(mR _),f.kp,N2⟩
         ·have U41:=aq dI B69
          have f:=f.st 172 (cB B69)
          refine Y f 5 λ_ f=>eT ?_
          exact⟨(false),(sI F80).symm,V1,(mR _),f.kp,N2⟩
        ·rintro a_200 W79 ⟨G7,hq_10,V29,J29,f,N106⟩
         subst j_8
         refine aK (RcF f F78 (λB70 F81=>?_) λB70 F91=>?_)
         ·refine an ?_
          obtain⟨j_9,hj_9,F82⟩:=bS F81
          refine bD (λa_222 W96=>∃G8:TH0×Int×List UInt8,j_9=G8∧∃V33:Mem,V29.le V33∧∃ (C21:Addr),∃ (c_33:List Value),Rep V33 (ao G8.1) c_33∧(∀j u,c_33[j]? =some u→V33.cell? (C21.add j)=some u)∧Frm 202 [(0,pP b0),(3,S d3),(6,pP Q1),(8,pP Q2),(15,.pointer (some C21))] a_222∧Hp w0 V33 ((oC b0 #[iL G8.2.1,S G8.2.2] 54)::(oC Q2 #[iB 0,S [],iL 0,S [],S [],.slice none 0 0] 31)::H) W96) ?_ ?_
          ·have N111:=N106.pl [1]
           obtain⟨X38,l26,F83⟩:=bS hj_9
           obtain⟨X39,l27,F84⟩:=bS F83
           obtain⟨X40,l28,F85⟩:=bS F84
           refine je (ks:=[9]) (E:=[oC b0 #[iL bm,S az] 54]) (Hr:=((oC Q2 #[iB 0,S [],iL 0,S [],S [],.slice none 0 0] 31)::H)) (.quiet 0 (.quiet 1 (.quiet 2 (.quiet 3 (.quiet 4 (.quiet 5 (.quiet 6 (.alt 7 (.alt 8 .done .none) (.alt 8 (.alt 7 .done .none) .none))))))))) N111 kr kr kr (Y1 (v:=pP b0) rfl f rfl rfl (λ_ _=>by kernel_rfl) λ_ f=>Y1 (v:=.pointer (some ((⟨Q1,0,none⟩:Addr).add 4))) rfl f rfl rfl (λ_ _=>by kernel_rfl) λ_ f=>Y1 (v:=sL Z1 d2.ac P1) rfl f rfl rfl (λ_ pq=>Y31 (v:=sL Z1 d2.ac P1) rfl (ad:=(⟨Q1,0,none⟩:Addr).add 4) (pq.cell ((fzu J29 R2) 4 _ rfl))) λ_ f=>?_)
           obtain⟨C20,c_30,e_17,-,D33,R25⟩:=Sli.at_ (B1.mono (J1.trans J29)) l26
           obtain⟨Z53,P53,Z54,P54,rfl,B74,B75⟩:=TD0.opn D33
           refine Y1 (v:=.pointer (some (C20.add ((0:Int).toNat*6)))) rfl f rfl rfl (λ_ pq=>Y30 e_17 rfl (len:=d2.ac.length) (cap:=P1) (k:=.i64) (i:=(0:Int)) (e:=26) (sz:=6) (ax l26) (aw l26)) λ_ f=>Y1 (v:=.agg #[iB X38.ab,bO X38.ah,iL X38.af,S X38.aa,sL Z53 X38.ac P53,sL Z54 X38.ae P54]) rfl f rfl rfl (λ_ pq=>Y32 (cs:=[iB X38.ab,bO X38.ah,iL X38.af,S X38.aa,sL Z53 X38.ac P53,sL Z54 X38.ae P54]) rfl (ad:=C20.add ((0:Int).toNat*6)) (λj v h=>pq.cell (R25 j v h))) λ_ f=>Y1 (v:=S d3) rfl f rfl rfl (λ_ _=>by kernel_rfl) λ_ f=>Y2 (v:=S X39) rfl f rfl rfl (dw n _ d3 (0:Int) X39 l27) λ_ f=>aC rfl (λW84 N113=>?_) ?_
           ·refine Y18 (E:=[oC b0 #[iL bm,S az] 54]) (H:=((oC Q2 #[iB 0,S [],iL 0,S [],S [],.slice none 0 0] 31)::H)) f N113 (hrec_ref13_reader_expr _ b0 bm az _ X38 (TD0.shutx (x:=X38) B74 B75) X39 X40 l28) λ_ V31 E_13 W85 J31 N114 q_13 _ f=>?_
            obtain⟨c_31,rfl,rfl,D34⟩:=q_13
            obtain⟨Z55,P55,rfl,B76⟩:=TH0.opn D34
            refine ap rfl (aD 1 J31 N114 rfl (aC rfl (λW86 N115=>?_) ?_))
            ·refine Y13 f N115 (.cells #[iB 0,S [],iL 0,S [],S [],.slice none 0 0] 31 (0,0)) λQ15 W87 N116 _ f=>ap rfl (aD 2 J31 N116 rfl (gV λW88 N117=>Y27 (vs:=[iB X40.1.ab,S X40.1.aa,iL X40.1.af,S X40.1.ak,S X40.1.al,sL Z55 X40.1.fL P55]) (j:=0) f N117 rfl rfl (by simp[Value.oneCell',S]) (by simp) (by decide) (cs':=#[iB X40.1.ab,S X40.1.aa,iL X40.1.af,S X40.1.ak,S X40.1.al,sL Z55 X40.1.fL P55]) λW89 N118 _ f=>ap rfl (mp ?_)))
             obtain⟨V34,J34,N128,R26⟩:=N118.fzOwn
             refine aK ?_
             exact⟨(X40.1,X40.2.1,X40.2.2),(sI F85).symm,V34,(J31.trans J34),⟨Q15,0,none⟩,[iB X40.1.ab,S X40.1.aa,iL X40.1.af,S X40.1.ak,S X40.1.al,sL Z55 X40.1.fL P55],(TH0.shutx (x:=X40.1) (B76.mono J34)),(bu (R26) 0 rfl),f.kp,N128⟩
            exact aB
           refine aC rfl (λW90 N119=>?_) ?_
           ·refine Y13 f N119 (.cells #[iB 0,S [],iL 0,S [],S [],.slice none 0 0] 31 (0,0)) λQ16 W91 N120 _ f=>ap rfl (aD 2 (mR _) N120 rfl (aC rfl (λW92 N121=>?_) ?_))
            ·have N123:=N121.pl [1]
             refine Y18 (E:=[oC b0 #[iL bm,S az] 54]) (H:=((oC Q16 #[iB 0,S [],iL 0,S [],S [],.slice none 0 0] 31)::(oC Q2 #[iB 0,S [],iL 0,S [],S [],.slice none 0 0] 31)::H)) f N123 (hrec_ref13_reader_expr _ b0 bm az _ X38 (TD0.shutx (x:=X38) B74 B75) X39 X40 l28) λ_ V32 E_14 W93 J32 N122 q_14 _ f=>?_
             obtain⟨c_32,rfl,rfl,D35⟩:=q_14
             obtain⟨Z56,P56,rfl,B77⟩:=TH0.opn D35
             refine ap rfl (aD 2 J32 N122 rfl (gV λW94 N124=>?_))
             have N125:=N124.pl [1]
             refine Y27 (vs:=[iB X40.1.ab,S X40.1.aa,iL X40.1.af,S X40.1.ak,S X40.1.al,sL Z56 X40.1.fL P56]) (j:=0) f N125 rfl rfl (by simp[Value.oneCell',S]) (by simp) (by decide) (cs':=#[iB X40.1.ab,S X40.1.aa,iL X40.1.af,S X40.1.ak,S X40.1.al,sL Z56 X40.1.fL P56]) λW95 N126 _ f=>ap rfl (mp ?_)
             obtain⟨V35,J35,N129,R27⟩:=N126.fzOwn
             refine aK ?_
             exact⟨(X40.1,X40.2.1,X40.2.2),(sI F85).symm,V35,(J32.trans J35),⟨Q16,0,none⟩,[iB X40.1.ab,S X40.1.aa,iL X40.1.af,S X40.1.ak,S X40.1.al,sL Z56 X40.1.fL P56],(TH0.shutx (x:=X40.1) (B77.mono J35)),(bu (R27) 0 rfl),f.kp,N129⟩
            exact aB
           exact aB
          ·rintro a_222 W96 ⟨G8,hq_12,V33,J33,C21,c_33,D36,hq_11,f,N127⟩
           subst j_9
           obtain⟨Z57,P57,rfl,B78⟩:=TH0.opn D36
           refine aK (an ?_)
           obtain⟨j_10,hj_10,F86⟩:=bS F82
           refine bD (λa_244 W113=>∃G9:TH0×Int×List UInt8,j_10=G9∧∃V39:Mem,V33.le V39∧∃ (C24:Addr),∃ (c_39:List Value),Rep V39 (ao G9.1) c_39∧(∀j u,c_39[j]? =some u→V39.cell? (C24.add j)=some u)∧Frm 202 [(8,pP Q2),(15,.pointer (some C21)),(16,.pointer (some C24))] a_244∧Hp w0 V39 ((oC b0 #[iL G9.2.1,S G9.2.2] 54)::(oC Q2 #[iB 0,S [],iL 0,S [],S [],.slice none 0 0] 31)::H) W113) ?_ ?_
           ·obtain⟨X45,l29,F87⟩:=bS hj_10
            obtain⟨X46,l30,F88⟩:=bS F87
            obtain⟨X47,l31,F89⟩:=bS F88
            refine je (ks:=[9]) (E:=[oC b0 #[iL G8.2.1,S G8.2.2] 54]) (Hr:=((oC Q2 #[iB 0,S [],iL 0,S [],S [],.slice none 0 0] 31)::H)) (.quiet 0 (.quiet 1 (.quiet 2 (.quiet 3 (.quiet 4 (.quiet 5 (.quiet 6 (.alt 7 (.alt 8 .done .none) (.alt 8 (.alt 7 .done .none) .none))))))))) N127 kr kr kr (Y1 (v:=pP b0) rfl f rfl rfl (λ_ _=>by kernel_rfl) λ_ f=>Y1 (v:=.pointer (some ((⟨Q1,0,none⟩:Addr).add 4))) rfl f rfl rfl (λ_ _=>by kernel_rfl) λ_ f=>Y1 (v:=sL Z1 d2.ac P1) rfl f rfl rfl (λ_ pq=>Y31 (v:=sL Z1 d2.ac P1) rfl (ad:=(⟨Q1,0,none⟩:Addr).add 4) (pq.cell ((fzu (J29.trans J33) R2) 4 _ rfl))) λ_ f=>?_)
            obtain⟨C23,c_36,e_19,-,D39,R29⟩:=Sli.at_ (B1.mono ((J1.trans J29).trans J33)) l29
            obtain⟨Z61,P61,Z62,P62,rfl,B82,B83⟩:=TD0.opn D39
            refine Y1 (v:=.pointer (some (C23.add ((1:Int).toNat*6)))) rfl f rfl rfl (λ_ pq=>Y30 e_19 rfl (len:=d2.ac.length) (cap:=P1) (k:=.i64) (i:=(1:Int)) (e:=26) (sz:=6) (ax l29) (aw l29)) λ_ f=>Y1 (v:=.agg #[iB X45.ab,bO X45.ah,iL X45.af,S X45.aa,sL Z61 X45.ac P61,sL Z62 X45.ae P62]) rfl f rfl rfl (λ_ pq=>Y32 (cs:=[iB X45.ab,bO X45.ah,iL X45.af,S X45.aa,sL Z61 X45.ac P61,sL Z62 X45.ae P62]) rfl (ad:=C23.add ((1:Int).toNat*6)) (λj v h=>pq.cell (R29 j v h))) λ_ f=>Y1 (v:=S d3) rfl f rfl rfl (λ_ _=>by kernel_rfl) λ_ f=>Y2 (v:=S X46) rfl f rfl rfl (dw n _ d3 (1:Int) X46 l30) λ_ f=>aC rfl (λW101 N134=>?_) ?_
            ·refine Y18 (E:=[oC b0 #[iL G8.2.1,S G8.2.2] 54]) (H:=((oC Q2 #[iB 0,S [],iL 0,S [],S [],.slice none 0 0] 31)::H)) f N134 (hrec_ref13_reader_expr _ b0 G8.2.1 G8.2.2 _ X45 (TD0.shutx (x:=X45) B82 B83) X46 X47 l31) λ_ V37 E_16 W102 J37 N135 q_16 _ f=>?_
             obtain⟨c_37,rfl,rfl,D40⟩:=q_16
             obtain⟨Z63,P63,rfl,B84⟩:=TH0.opn D40
             refine ap rfl (aD 1 J37 N135 rfl (aC rfl (λW103 N136=>?_) ?_))
             ·refine Y13 f N136 (.cells #[iB 0,S [],iL 0,S [],S [],.slice none 0 0] 31 (0,0)) λQ18 W104 N137 _ f=>ap rfl (aD 2 J37 N137 rfl (gV λW105 N138=>Y27 (vs:=[iB X47.1.ab,S X47.1.aa,iL X47.1.af,S X47.1.ak,S X47.1.al,sL Z63 X47.1.fL P63]) (j:=0) f N138 rfl rfl (by simp[Value.oneCell',S]) (by simp) (by decide) (cs':=#[iB X47.1.ab,S X47.1.aa,iL X47.1.af,S X47.1.ak,S X47.1.al,sL Z63 X47.1.fL P63]) λW106 N139 _ f=>ap rfl (mp ?_)))
              obtain⟨V40,J40,N149,R30⟩:=N139.fzOwn
              refine aK ?_
              exact⟨(X47.1,X47.2.1,X47.2.2),(sI F89).symm,V40,(J37.trans J40),⟨Q18,0,none⟩,[iB X47.1.ab,S X47.1.aa,iL X47.1.af,S X47.1.ak,S X47.1.al,sL Z63 X47.1.fL P63],(TH0.shutx (x:=X47.1) (B84.mono J40)),(bu (R30) 0 rfl),f.kp,N149⟩
             exact aB
            refine aC rfl (λW107 N140=>?_) ?_
            ·refine Y13 f N140 (.cells #[iB 0,S [],iL 0,S [],S [],.slice none 0 0] 31 (0,0)) λQ19 W108 N141 _ f=>ap rfl (aD 2 (mR _) N141 rfl (aC rfl (λW109 N142=>?_) ?_))
             ·have N144:=N142.pl [1]
              refine Y18 (E:=[oC b0 #[iL G8.2.1,S G8.2.2] 54]) (H:=((oC Q19 #[iB 0,S [],iL 0,S [],S [],.slice none 0 0] 31)::(oC Q2 #[iB 0,S [],iL 0,S [],S [],.slice none 0 0] 31)::H)) f N144 (hrec_ref13_reader_expr _ b0 G8.2.1 G8.2.2 _ X45 (TD0.shutx (x:=X45) B82 B83) X46 X47 l31) λ_ V38 E_17 W110 J38 N143 q_17 _ f=>?_
              obtain⟨c_38,rfl,rfl,D41⟩:=q_17
              obtain⟨Z64,P64,rfl,B85⟩:=TH0.opn D41
              refine ap rfl (aD 2 J38 N143 rfl (gV λW111 N145=>?_))
              have N146:=N145.pl [1]
              refine Y27 (vs:=[iB X47.1.ab,S X47.1.aa,iL X47.1.af,S X47.1.ak,S X47.1.al,sL Z64 X47.1.fL P64]) (j:=0) f N146 rfl rfl (by simp[Value.oneCell',S]) (by simp) (by decide) (cs':=#[iB X47.1.ab,S X47.1.aa,iL X47.1.af,S X47.1.ak,S X47.1.al,sL Z64 X47.1.fL P64]) λW112 N147 _ f=>ap rfl (mp ?_)
              obtain⟨V41,J41,N150,R31⟩:=N147.fzOwn
              refine aK ?_
              exact⟨(X47.1,X47.2.1,X47.2.2),(sI F89).symm,V41,(J38.trans J41),⟨Q19,0,none⟩,[iB X47.1.ab,S X47.1.aa,iL X47.1.af,S X47.1.ak,S X47.1.al,sL Z64 X47.1.fL P64],(TH0.shutx (x:=X47.1) (B85.mono J41)),(bu (R31) 0 rfl),f.kp,N150⟩
             exact aB
            exact aB
           ·rintro a_244 W113 ⟨G9,hq_14,V39,J39,C24,c_39,D42,hq_13,f,N148⟩
            subst j_10
            obtain⟨Z65,P65,rfl,B86⟩:=TH0.opn D42
            refine aK (RR (Z (v:=.agg #[iB G8.1.ab,S G8.1.aa,iL G8.1.af,S G8.1.ak,S G8.1.al,sL Z57 G8.1.fL P57]) f (Y32 (cs:=[iB G8.1.ab,S G8.1.aa,iL G8.1.af,S G8.1.ak,S G8.1.al,sL Z57 G8.1.fL P57]) rfl (ad:=C21) (λj v h=>N148.cell ((fzu J39 hq_11) j v h))) λ_ f=>Z (v:=.agg #[iB G9.1.ab,S G9.1.aa,iL G9.1.af,S G9.1.ak,S G9.1.al,sL Z65 G9.1.fL P65]) f (Y32 (cs:=[iB G9.1.ab,S G9.1.aa,iL G9.1.af,S G9.1.ak,S G9.1.al,sL Z65 G9.1.fL P65]) rfl (ad:=C24) (λj v h=>N148.cell (hq_13 j v h))) λ_ f=>aP (k:=2) (c:=2) f N148 (.cells #[iB G8.1.ab,S G8.1.aa,iL G8.1.af,S G8.1.ak,S G8.1.al,sL Z57 G8.1.fL P57,iB G9.1.ab,S G9.1.aa,iL G9.1.af,S G9.1.ak,S G9.1.al,sL Z65 G9.1.fL P65] 31 (0,0)) kr (λ_=>by kernel_rfl) λQ20 W114 N151 _ f=>Y f 1 λ_ f=>?_))
            have D43:ag V39 ([(⟨G8.1.ab,G8.1.aa,G8.1.af,G8.1.ak,G8.1.al,G8.1.fL⟩:TH0),(⟨G9.1.ab,G9.1.aa,G9.1.af,G9.1.ak,G9.1.al,G9.1.fL⟩:TH0)].map ao) [iB G8.1.ab,S G8.1.aa,iL G8.1.af,S G8.1.ak,S G8.1.al,sL Z57 G8.1.fL P57,iB G9.1.ab,S G9.1.aa,iL G9.1.af,S G9.1.ak,S G9.1.al,sL Z65 G9.1.fL P65]:=⟨_,_,rfl,TH0.shut (B78.mono J39),⟨_,_,rfl,TH0.shut B86,rfl⟩⟩
            have N152:Hp w0 V39 ((Ent.row 31 6 (.slice (some ⟨Q20,0,none⟩) 2 2) [(⟨G8.1.ab,G8.1.aa,G8.1.af,G8.1.ak,G8.1.al,G8.1.fL⟩:TH0),(⟨G9.1.ab,G9.1.aa,G9.1.af,G9.1.ak,G9.1.al,G9.1.fL⟩:TH0)].length [iB G8.1.ab,S G8.1.aa,iL G8.1.af,S G8.1.ak,S G8.1.al,sL Z57 G8.1.fL P57,iB G9.1.ab,S G9.1.aa,iL G9.1.af,S G9.1.ak,S G9.1.al,sL Z65 G9.1.fL P65])::(oC b0 #[iL G9.2.1,S G9.2.2] 54)::(oC Q2 #[iB 0,S [],iL 0,S [],S [],.slice none 0 0] 31)::H) W114:=N151.objRow (n:=2) (cap:=2) (size:=6) (by decide) (by decide) (dq (by decide) rfl) rfl rfl
            obtain⟨Z66,P66,V42,H5,J42,N153,B87⟩:=N152.rowSli (f:=ao) (xs:=[(⟨G8.1.ab,G8.1.aa,G8.1.af,G8.1.ak,G8.1.al,G8.1.fL⟩:TH0),(⟨G9.1.ab,G9.1.aa,G9.1.af,G9.1.ak,G9.1.al,G9.1.fL⟩:TH0)]) bg D43
            have f:=Frm.set f 197 (v:=.agg #[iB 8,S [],iL 0,S [],S [],.slice (some ⟨Q20,0,none⟩) 2 2]) (v':=.agg #[iB 8,S [],iL 0,S [],S [],sL Z66 [(⟨G8.1.ab,G8.1.aa,G8.1.af,G8.1.ak,G8.1.al,G8.1.fL⟩:TH0),(⟨G9.1.ab,G9.1.aa,G9.1.af,G9.1.ak,G9.1.al,G9.1.fL⟩:TH0)] P66]) kr (by have h:=H5;simp only[sL] at h ⊢;rw[h])
            have N154:=N153.pl [1]
            refine Y27 (vs:=[iB 8,S [],iL 0,S [],S [],sL Z66 [(⟨G8.1.ab,G8.1.aa,G8.1.af,G8.1.ak,G8.1.al,G8.1.fL⟩:TH0),(⟨G9.1.ab,G9.1.aa,G9.1.af,G9.1.ak,G9.1.al,G9.1.fL⟩:TH0)] P66]) (j:=0) f N154 rfl rfl (by simp[Value.oneCell',S]) (by simp) (by decide) (cs':=#[iB 8,S [],iL 0,S [],S [],sL Z66 [(⟨G8.1.ab,G8.1.aa,G8.1.af,G8.1.ak,G8.1.al,G8.1.fL⟩:TH0),(⟨G9.1.ab,G9.1.aa,G9.1.af,G9.1.ak,G9.1.al,G9.1.fL⟩:TH0)] P66]) λW115 N155 _ f=>eT (wp_ret (ed ?_))
            have F90:=bF F86 F1
            refine bC (bC (cD f rfl (Y11 (cs:=[iB 8,S [],iL 0,S [],S [],sL Z66 [(⟨G8.1.ab,G8.1.aa,G8.1.af,G8.1.ak,G8.1.al,G8.1.fL⟩:TH0),(⟨G9.1.ab,G9.1.aa,G9.1.af,G9.1.ak,G9.1.al,G9.1.fL⟩:TH0)] P66]) (ad:=⟨Q2,0,none⟩) f (am (N155.ownCell 0 rfl) 0 rfl)) ?_))
            obtain rfl:=sI F90
            exact⟨_,rfl,V42,_,((((J1.trans J29).trans J33).trans J39).trans J42),(N155.dropN 1),⟨[iB 8,S [],iL 0,S [],S [],sL Z66 [(⟨G8.1.ab,G8.1.aa,G8.1.af,G8.1.ak,G8.1.al,G8.1.fL⟩:TH0),(⟨G9.1.ab,G9.1.aa,G9.1.af,G9.1.ak,G9.1.al,G9.1.fL⟩:TH0)] P66],rfl,rfl,(TH0.shut B87)⟩⟩
         ·refine wp_skip (dZ (aK ?_))
          exact⟨(),(sI F91).symm,V29,J29,f.kp,N106⟩
       ·have U44:=aq dI B68
        refine wp_skip (dZ (aK ?_))
        exact⟨(),(sI F92).symm,V1,(mR _),f.kp,N2⟩
 ·rintro a_250 W116 ⟨G10,rfl,V43,J43,f,N156⟩
  refine aK (RR (Y f 2 λ_ f=>?_))
  obtain⟨X52,l32,F93⟩:=bS F1
  have N158:=N156.pl [1]
  refine Y18 (E:=[oC b0 #[iL bm,S az] 54]) (H:=((oC Q2 #[iB 0,S [],iL 0,S [],S [],.slice none 0 0] 31)::H)) f N158 (cn n _ b0 bm az (121:Int) d3 X52 l32) λ_ V44 E_18 W117 J44 N157 q_18 _ f=>?_
  obtain⟨rfl,rfl⟩:=q_18
  refine eT (RR (Y f 1 λ_ f=>?_))
  have N159:=N157.pl [1]
  refine Y27 (vs:=[iB 0,S [],iL 0,S [],S [],.slice none 0 0]) (j:=0) f N159 rfl rfl (by simp[Value.oneCell',S]) (by simp) (by decide) (cs':=#[iB 0,S [],iL 0,S [],S [],.slice none 0 0]) λW118 N160 _ f=>eT (wp_ret (cD f rfl (Y11 (cs:=[iB 0,S [],iL 0,S [],S [],.slice none 0 0]) (ad:=⟨Q2,0,none⟩) f (am (N160.ownCell 0 rfl) 0 rfl)) ?_))
  obtain rfl:=sI F93
  exact⟨_,rfl,V44,_,((J1.trans J43).trans J44),(N160.dropN 1),⟨[iB 0,S [],iL 0,S [],S [],.slice none 0 0],rfl,rfl,(TH0.shut Sli.nil)⟩⟩
def bA (n:Nat) (rec_ref13_reader_expr:Int→Bs→TD0→Bs→Option (TH0×Int×Bs)) (d1:TD0) (d2:Bs) (K1:Int×Int×Bs×List TH0):Option (Lp (Int×Int×Bs×List TH0) (Int×Bs×List TH0)):=
    ((bif(decide (K1.1<((d1.ac.length:Nat):Int))) then
     (some ((decide (K1.2.1=0))))
      else
       some ((false)):Option Bool)).bind λG2=>
    bif G2 then
     ((((aQ d1.ac K1.1).bind λX4=>
       (bK n d2 K1.1).bind λX5=>
       (rec_ref13_reader_expr K1.2.1 K1.2.2.1 X4 X5).bind λX6=>
       aS ((K1.2.2.2.length+1)*88≤140737488355328)<|
       some ((X6.2.1,X6.2.2,K1.2.2.2++[(⟨X6.1.ab,X6.1.aa,X6.1.af,X6.1.ak,X6.1.al,X6.1.fL⟩:TH0)])):Option (Int×Bs×List TH0))).bind λG3=>
     aS (inR .i64 (K1.1+1))<|
     some (.nx (K1.1+1,G3.1,G3.2.1,G3.2.2)))
    else
     some (.br (K1.2.1,K1.2.2.1,K1.2.2.2))
def bN (n:Nat) (rec_ref13_reader_expr:Int→Bs→TD0→Bs→Option (TH0×Int×Bs)) (bm:Int) (az:Bs) (d1:TD0) (d2:Bs):Option (TH0×Int×Bs):=
 bif(!(decide (bm=0))) then
  (some ((ai,bm,az)))
 else
  ((bif(decide (d1.ab=3)) then
   ((gb n d1).bind λX1=>
   bif !X1 then
    ((bt n bm az (121:Int) d2).bind λX2=>
    ((some (((⟨(0:Int),d1.aa,(0:Int),([]:Bs),([]:Bs),([]:List TH0)⟩:TH0),X2.1,X2.2)):Option (TH0×Int×Bs))).map Lp.br)
   else
    ((some (((⟨(0:Int),d1.aa,(0:Int),([]:Bs),([]:Bs),([]:List TH0)⟩:TH0),bm,az)):Option (TH0×Int×Bs))).map Lp.br)
    else
     bif(decide (d1.ab=2)) then
      (((some (((⟨(1:Int),([]:Bs),d1.af,([]:Bs),([]:Bs),([]:List TH0)⟩:TH0),bm,az)):Option (TH0×Int×Bs))).map Lp.br)
     else
      bif(decide (d1.ab=4)) then
       (((bif(decide ((8:Int)<((d1.ac.length:Nat):Int))) then
        ((bt n bm az (3:Int) d2).bind λX3=>
        some ((X3.1,X3.2)))
         else
          some ((bm,az)):Option (Int×Bs))).bind λG1=>
       (aE (bA n rec_ref13_reader_expr d1 d2) n ((0:Int),G1.1,G1.2,([]:List TH0))).bind λG4=>
       ((some (((⟨(2:Int),([]:Bs),(0:Int),([]:Bs),([]:Bs),G4.2.2⟩:TH0),G4.1,G4.2.1)):Option (TH0×Int×Bs))).map Lp.br)
      else
       bif(decide (d1.ab=5)) then
        (bif(decide (((d1.ae.length:Nat):Int)=1)) then
         ((aQ d1.ae (0:Int)).bind λX10=>
         (aQ d1.ac (0:Int)).bind λX11=>
         (aQ d1.ae (0:Int)).bind λX12=>
         (gf n d2 X12).bind λX13=>
         (cH n rec_ref13_reader_expr bm az X10 X11 X13).bind λX14=>
         ((some ((X14.1,X14.2.1,X14.2.2)):Option (TH0×Int×Bs))).map Lp.br)
        else
         some (.nx ()))
       else
        some (.nx ()):Option (Lp Unit (TH0×Int×Bs)))).bind λj=>joinF j λG5=>
  (bt n bm az (121:Int) d2).bind λX15=>
  some ((ai,X15.1,X15.2))
set_option maxRecDepth 20000 in
theorem jr (n:Nat) (rec_ref13_reader_expr:Int→(List UInt8)→TD0→(List UInt8)→Option (TH0×Int×List UInt8)) (hrec_ref13_reader_expr: ∀ (M:Mem) (b0:Nat) (bm:Int) (az:List UInt8) (c1:List Value) (d1:TD0) (h1:Rep M (ar d1) c1) (d2:List UInt8) (r:TH0×Int×List UInt8) (hF:rec_ref13_reader_expr bm az d1 d2=some r),OkH Tryz.prog M [Ent.obj b0 (.cells #[.int .i64 bm,S az] 54 (0,0))] 20 [.pointer (some (⟨b0,0,none⟩)),.agg c1.toArray,S d2] (λM' E' v=>∃ (c0:List Value),v=.agg c0.toArray∧E'=[Ent.obj b0 (.cells #[.int .i64 r.2.1,S r.2.2] 54 (0,0))]∧Rep M' (ao r.1) c0)) (M:Mem) (b0:Nat) (bm:Int) (az:List UInt8) (c1:List Value) (d1:TD0) (h1:Rep M (ar d1) c1) (d2:List UInt8) (r:TH0×Int×List UInt8) (hF:bN n rec_ref13_reader_expr bm az d1 d2=some r):OkH Tryz.prog M [Ent.obj b0 (.cells #[.int .i64 bm,S az] 54 (0,0))] 20 [.pointer (some (⟨b0,0,none⟩)),.agg c1.toArray,S d2] (λM' E' v=>∃ (c0:List Value),v=.agg c0.toArray∧E'=[Ent.obj b0 (.cells #[.int .i64 r.2.1,S r.2.2] 54 (0,0))]∧Rep M' (ao r.1) c0):=by
 unfold bN at hF
 intro M1 hM0 w0 H w p0
 replace h1:=Rep.mono hM0 _ _ h1
 obtain⟨Z1,P1,Z2,P2,rfl,B1,B2⟩:=TD0.opn h1
 refine av 99 Tryz.func20 rfl rfl (by simp) λa0 f0=>RR (Y14 (cs:=#[.int .i8 d1.ab,.bool d1.ah,.int .i64 d1.af,S d1.aa,.slice Z1 d1.ac.length P1,.slice Z2 d1.ae.length P2]) (T:=26) f0 p0 λQ1 V1 W1 J1 R1 N1 _ f=>?_)
 have R2:=bj R1
 refine Y13 f N1 (.cells #[.int .i8 0,S [],.int .i64 0,S [],S [],.slice none 0 0] 31 (0,0)) λQ2 W2 N2 _ f=>eT (an (RR (Y f 3 λ_ f=>Z f (Y31 (v:=.int .i64 bm) rfl (ad:=⟨b0,0,none⟩) (N2.ownCell 1 rfl 0)) λ_ f=>Y f 1 λ_ f=>eT (RcF f hF (λB3 F1=>?_) λB3 F2=>?_))))
 ·have U1: ¬ (bm=0):=(aM dI).1 B3
  refine RR (Y f 1 λ_ f=>Y27 (vs:=[.int .i8 0,S [],.int .i64 0,S [],S [],.slice none 0 0]) (j:=0) f N2 rfl rfl (by simp[Value.oneCell',S]) (by simp) (by decide) (cs':=#[.int .i8 0,S [],.int .i64 0,S [],S [],.slice none 0 0]) λW3 N3 _ f=>eT (wp_ret (bC (cD f rfl (Y11 (cs:=[.int .i8 0,S [],.int .i64 0,S [],S [],.slice none 0 0]) (ad:=⟨Q2,0,none⟩) f (am (N3.ownCell 0 rfl) 0 rfl)) ?_))))
  obtain rfl:=sI F1
  exact⟨_,rfl,V1,_,J1,(N3.dropN 1),⟨[.int .i8 0,S [],.int .i64 0,S [],S [],.slice none 0 0],rfl,rfl,(TH0.shut Sli.nil)⟩⟩
 ·have U2: ¬ (¬ (bm=0)):=aq (aM dI) B3
  refine wp_skip (aK (an (RR (Y f 1 λ_ f=>Y16 f N2 R2 0 rfl λ_ f=>eT ?_))))
  obtain⟨gN,ec,F3⟩:=bS F2
  refine bD (λa_104 W38=>∃G5:Unit,gN=.nx G5∧∃V13:Mem,V1.le V13∧Frm 99 [(0,.pointer (some (⟨b0,0,none⟩))),(2,S d2),(6,.pointer (some (⟨Q2,0,none⟩)))] a_104∧Hp w0 V13 ((Ent.obj Q2 (.cells #[.int .i8 0,S [],.int .i64 0,S [],S [],.slice none 0 0] 31 (0,0)))::(Ent.obj b0 (.cells #[.int .i64 bm,S az] 54 (0,0)))::H) W38) ?_ ?_
  ·refine wp_block (RR (Y f 2 λ_ f=>eT (RcF f ec (λB4 F4=>?_) λB4 F11=>?_)))
   ·have U3:=dI.1 B4
    refine an (RR (Z (v:=.agg #[.int .i8 d1.ab,.bool d1.ah,.int .i64 d1.af,S d1.aa,.slice Z1 d1.ac.length P1,.slice Z2 d1.ae.length P2]) f (Y32 (cs:=[.int .i8 d1.ab,.bool d1.ah,.int .i64 d1.af,S d1.aa,.slice Z1 d1.ac.length P1,.slice Z2 d1.ae.length P2]) rfl (ad:=⟨Q1,0,none⟩) (λj v h=>N2.cell (R2 j v h))) λ_ f=>?_))
    obtain⟨X1,l1,F5⟩:=bS F4
    refine Y19 f N2 (kE n _ _ d1 (TD0.shutx (x:=d1) (B1.mono J1) (B2.mono J1)) X1 l1) λW4 N4 _ f=>Y f 1 λ_ f=>eT (RcF f F5 (λB5 F6=>?_) λB5 F9=>?_)
    ·have U4: (X1)=false:=by simpa using B5
     refine aA (Y f 2 λ_ f=>?_)
     obtain⟨X2,l2,F7⟩:=bS F6
     have N6:=N4.pl [1]
     refine Y18 (E:=[Ent.obj b0 (.cells #[.int .i64 bm,S az] 54 (0,0))]) (H:=((Ent.obj Q2 (.cells #[.int .i8 0,S [],.int .i64 0,S [],S [],.slice none 0 0] 31 (0,0)))::H)) f N6 (cn n _ b0 bm az (121:Int) d2 X2 l2) λ_ V2 mo W5 J2 N5 ej _ f=>?_
     obtain⟨rfl,rfl⟩:=ej
     refine eT (RR (Y f 1 λ_ f=>Y16 f N5 (fzu J2 R2) 3 rfl λ_ f=>Y f 1 λ_ f=>?_))
     have N7:=N5.pl [1]
     refine Y27 (vs:=[.int .i8 0,S d1.aa,.int .i64 0,S [],S [],.slice none 0 0]) (j:=0) f N7 rfl rfl (by simp[Value.oneCell',S]) (by simp) (by decide) (cs':=#[.int .i8 0,S d1.aa,.int .i64 0,S [],S [],.slice none 0 0]) λW6 N8 _ f=>eT (wp_ret (ed ?_))
     have F8:=bF F7 F3
     refine bC (bC (cD f rfl (Y11 (cs:=[.int .i8 0,S d1.aa,.int .i64 0,S [],S [],.slice none 0 0]) (ad:=⟨Q2,0,none⟩) f (am (N8.ownCell 0 rfl) 0 rfl)) ?_))
     obtain rfl:=sI F8
     exact⟨_,rfl,V2,_,(J1.trans J2),(N8.dropN 1),⟨[.int .i8 0,S d1.aa,.int .i64 0,S [],S [],.slice none 0 0],rfl,rfl,(TH0.shut Sli.nil)⟩⟩
    ·have U5: (X1)=true:=by simpa using B5
     refine wp_skip (aK (RR (Y f 1 λ_ f=>Y16 f N4 R2 3 rfl λ_ f=>Y f 1 λ_ f=>Y27 (vs:=[.int .i8 0,S d1.aa,.int .i64 0,S [],S [],.slice none 0 0]) (j:=0) f N4 rfl rfl (by simp[Value.oneCell',S]) (by simp) (by decide) (cs':=#[.int .i8 0,S d1.aa,.int .i64 0,S [],S [],.slice none 0 0]) λW7 N9 _ f=>eT (wp_ret (ed ?_)))))
     have F10:=bF F9 F3
     refine bC (bC (cD f rfl (Y11 (cs:=[.int .i8 0,S d1.aa,.int .i64 0,S [],S [],.slice none 0 0]) (ad:=⟨Q2,0,none⟩) f (am (N9.ownCell 0 rfl) 0 rfl)) ?_))
     obtain rfl:=sI F10
     exact⟨_,rfl,V1,_,J1,(N9.dropN 1),⟨[.int .i8 0,S d1.aa,.int .i64 0,S [],S [],.slice none 0 0],rfl,rfl,(TH0.shut Sli.nil)⟩⟩
   ·have U6:=aq dI B4
    refine RR (Y f 2 λ_ f=>eT (RcF f F11 (λB6 F12=>?_) λB6 F14=>?_))
    ·have U7:=dI.1 B6
     refine RR (Y f 1 λ_ f=>Y16 f N2 R2 2 rfl λ_ f=>Y f 1 λ_ f=>Y27 (vs:=[.int .i8 1,S [],.int .i64 d1.af,S [],S [],.slice none 0 0]) (j:=0) f N2 rfl rfl (by simp[Value.oneCell',S]) (by simp) (by decide) (cs':=#[.int .i8 1,S [],.int .i64 d1.af,S [],S [],.slice none 0 0]) λW8 N10 _ f=>eT (wp_ret (ed ?_)))
     have F13:=bF F12 F3
     refine bC (bC (cD f rfl (Y11 (cs:=[.int .i8 1,S [],.int .i64 d1.af,S [],S [],.slice none 0 0]) (ad:=⟨Q2,0,none⟩) f (am (N10.ownCell 0 rfl) 0 rfl)) ?_))
     obtain rfl:=sI F13
     exact⟨_,rfl,V1,_,J1,(N10.dropN 1),⟨[.int .i8 1,S [],.int .i64 d1.af,S [],S [],.slice none 0 0],rfl,rfl,(TH0.shut Sli.nil)⟩⟩
    ·have U8:=aq dI B6
     refine RR (Y f 2 λ_ f=>eT (RcF f F14 (λB7 F15=>?_) λB7 F33=>?_))
     ·have U9:=dI.1 B7
      refine RR (Y f 1 λ_ f=>Y13 f N2 (.cells #[.int .i8 0,S [],.int .i64 0,S [],S [],.slice none 0 0] 31 (0,0)) λQ3 W9 N11 _ f=>Y27 (vs:=[.int .i8 2,S [],.int .i64 0,S [],S [],.slice none 0 0]) (j:=0) f N11 rfl rfl (by simp[Value.oneCell',S]) (by simp) (by decide) (cs':=#[.int .i8 2,S [],.int .i64 0,S [],S [],.slice none 0 0]) λW10 N12 _ f=>eT (an (RR (Y f 1 λ_ f=>Y16 f N12 R2 4 rfl λ_ f=>Y f 2 λ_ f=>eT ?_))))
      obtain⟨mi,ji,F16⟩:=bS F15
      refine bD (λa_38 W12=>∃G1:Int×List UInt8,mi=G1∧∃V4:Mem,V1.le V4∧Frm 99 [(0,.pointer (some (⟨b0,0,none⟩))),(2,S d2),(4,.pointer (some (⟨Q1,0,none⟩))),(6,.pointer (some (⟨Q2,0,none⟩))),(7,.pointer (some (⟨Q3,0,none⟩)))] a_38∧Hp w0 V4 ((Ent.obj b0 (.cells #[.int .i64 G1.1,S G1.2] 54 (0,0)))::(Ent.obj Q3 (.cells #[.int .i8 2,S [],.int .i64 0,S [],S [],.slice none 0 0] 31 (0,0)))::(Ent.obj Q2 (.cells #[.int .i8 0,S [],.int .i64 0,S [],S [],.slice none 0 0] 31 (0,0)))::H) W12) ?_ ?_
      ·refine RcF f ji (λB8 F17=>?_) λB8 F19=>?_
       ·have U10:=dI.1 B8
        refine aA (Y f 2 λ_ f=>?_)
        obtain⟨X3,l3,F18⟩:=bS F17
        have N14:=N12.pl [2]
        refine Y18 (E:=[Ent.obj b0 (.cells #[.int .i64 bm,S az] 54 (0,0))]) (H:=((Ent.obj Q3 (.cells #[.int .i8 2,S [],.int .i64 0,S [],S [],.slice none 0 0] 31 (0,0)))::(Ent.obj Q2 (.cells #[.int .i8 0,S [],.int .i64 0,S [],S [],.slice none 0 0] 31 (0,0)))::H)) f N14 (cn n _ b0 bm az (3:Int) d2 X3 l3) λ_ V3 E_2 W11 J3 N13 jk _ f=>?_
        obtain⟨rfl,rfl⟩:=jk
        refine eT ?_
        exact⟨(X3.1,X3.2),(sI F18).symm,V3,J3,f.kp,N13⟩
       ·have U11:=aq dI B8
        refine wp_skip ?_
        have N18:=N12.pl [1,1,2]
        refine aK ?_
        exact⟨(bm,az),(sI F19).symm,V1,(mR _),f.kp,N18⟩
      ·rintro a_38 W12 ⟨G1,dC,V4,J4,f,N15⟩
       subst mi
       refine aK (an (RR (Y f 1 λ_ f=>eT (wp_block ?_))))
       obtain⟨Z3,P3,H1⟩: ∃A cap,Value.slice none 0 0=.slice A ([]:List TH0).length cap:=⟨none,0,rfl⟩
       have N19:Hp w0 V4 ((Ent.row 31 6 (.slice Z3 ([]:List TH0).length P3) ([]:List TH0).length [])::(Ent.obj b0 (.cells #[.int .i64 G1.1,S G1.2] 54 (0,0)))::(Ent.obj Q3 (.cells #[.int .i8 2,S [],.int .i64 0,S [],S [],.slice Z3 ([]:List TH0).length P3] 31 (0,0)))::(Ent.obj Q2 (.cells #[.int .i8 0,S [],.int .i64 0,S [],S [],.slice none 0 0] 31 (0,0)))::H) W12:=by rw[←H1];exact N15.nilRow 31 6
       have D1:ag V4 (([]:List TH0).map ao) []:=rfl
       obtain⟨Q4,co,F20⟩:=bS F16
       refine wp_mono (Q:=λe a w=>(e=.exit 1∧(∃G4:Int×List UInt8×List TH0,Q4=G4∧∃V10:Mem,V4.le V10∧∃ (Z14:Option Addr),∃ (P14:Nat),∃ (L5:List Value),ag V10 (G4.2.2.map ao) L5∧Frm 99 [(6,.pointer (some (⟨Q2,0,none⟩))),(7,.pointer (some (⟨Q3,0,none⟩)))] a∧Hp w0 V10 ((Ent.row 31 6 (.slice Z14 G4.2.2.length P14) G4.2.2.length L5)::(Ent.obj b0 (.cells #[.int .i64 G4.1,S G4.2.1] 54 (0,0)))::(Ent.obj Q3 (.cells #[.int .i8 2,S [],.int .i64 0,S [],S [],.slice Z14 G4.2.2.length P14] 31 (0,0)))::(Ent.obj Q2 (.cells #[.int .i8 0,S [],.int .i64 0,S [],S [],.slice none 0 0] 31 (0,0)))::H) w))) (bT (n:=99) (w0:=w0) (M:=V4) (λ (x:Nat× (Int×Int×List UInt8×List TH0)× (Option Addr)×Nat× (List Value))=>match x with|(I1,K1,Z4,P4,L1)=>[(0,.pointer (some (⟨b0,0,none⟩))),(2,S d2),(4,.pointer (some (⟨Q1,0,none⟩))),(6,.pointer (some (⟨Q2,0,none⟩))),(7,.pointer (some (⟨Q3,0,none⟩))),(8,.int .i64 K1.1)]) (λ (x:Nat× (Int×Int×List UInt8×List TH0)× (Option Addr)×Nat× (List Value))=>match x with|(I1,K1,Z4,P4,L1)=>((Ent.row 31 6 (.slice Z4 K1.2.2.2.length P4) K1.2.2.2.length L1)::(Ent.obj b0 (.cells #[.int .i64 K1.2.1,S K1.2.2.1] 54 (0,0)))::(Ent.obj Q3 (.cells #[.int .i8 2,S [],.int .i64 0,S [],S [],.slice Z4 K1.2.2.2.length P4] 31 (0,0)))::(Ent.obj Q2 (.cells #[.int .i8 0,S [],.int .i64 0,S [],S [],.slice none 0 0] 31 (0,0)))::H)) (λ (x:Nat× (Int×Int×List UInt8×List TH0)× (Option Addr)×Nat× (List Value)) (MM:Mem)=>match x with|(I1,K1,Z4,P4,L1)=>aE (bA n rec_ref13_reader_expr d1 d2) I1 K1=some Q4∧ag MM (K1.2.2.2.map ao) L1) (λ (x:Nat× (Int×Int×List UInt8×List TH0)× (Option Addr)×Nat× (List Value))=>match x with|(I1,K1,Z4,P4,L1)=>I1) (n,((0:Int),G1.1,G1.2,([]:List TH0)),Z3,P3,[]) (f.kp) N19 ⟨co,D1⟩ ?_) ?_
       ·rintro⟨I1,K1,Z4,P4,L1⟩ V5 _ W13 J5 gM f N20
        obtain⟨cu,D2⟩:=gM
        obtain⟨I2,lO,rfl,bx,T1⟩:=aZ cu
        unfold bA at bx
        refine an (an ?_)
        obtain⟨j_3,mY,F21⟩:=bS bx
        refine bD (λa_48 W14=>∃G2:Bool,j_3=G2∧∃V6:Mem,V5.le V6∧Frm 99 [(0,.pointer (some (⟨b0,0,none⟩))),(2,S d2),(4,.pointer (some (⟨Q1,0,none⟩))),(6,.pointer (some (⟨Q2,0,none⟩))),(7,.pointer (some (⟨Q3,0,none⟩))),(8,.int .i64 K1.1),(54,.bool G2)] a_48∧Hp w0 V6 ((Ent.row 31 6 (.slice Z4 K1.2.2.2.length P4) K1.2.2.2.length L1)::(Ent.obj b0 (.cells #[.int .i64 K1.2.1,S K1.2.2.1] 54 (0,0)))::(Ent.obj Q3 (.cells #[.int .i8 2,S [],.int .i64 0,S [],S [],.slice Z4 K1.2.2.2.length P4] 31 (0,0)))::(Ent.obj Q2 (.cells #[.int .i8 0,S [],.int .i64 0,S [],S [],.slice none 0 0] 31 (0,0)))::H) W14) ?_ ?_
        ·refine aA (Y f 2 λ_ f=>Y16 f N20 (fzu (J4.trans J5) R2) 4 rfl λ_ f=>Y f 3 λ_ f=>?_)
         rcases cE mY with⟨B9,F22⟩|⟨B9,F23⟩
         ·have U12:=dI.1 B9
          have f:=f.st 48 (cB B9)
          refine Y f 3 λ_ f=>Z f (Y31 (v:=.int .i64 K1.2.1) rfl (ad:=⟨b0,0,none⟩) (N20.ownCell 1 rfl 0)) λ_ f=>Y f 2 λ_ f=>eT ?_
          exact⟨(decide (K1.2.1=0)),(sI F22).symm,V5,(mR _),f.kp,N20⟩
         ·have U13:=aq dI B9
          have f:=f.st 48 (cB B9)
          refine Y f 6 λ_ f=>eT ?_
          exact⟨(false),(sI F23).symm,V5,(mR _),f.kp,N20⟩
        ·rintro a_48 W14 ⟨G2,eZ,V6,J6,f,N21⟩
         subst j_3
         refine aK (RcF f F21 (λB10 F24=>?_) λB10 F31=>?_)
         ·refine wp_skip (aK (an (wp_block ?_)))
          obtain⟨j_4,hj_4,F25⟩:=bS F24
          refine bD (λa_77 W28=>∃G3:Int×List UInt8×List TH0,j_4=G3∧∃V9:Mem,V6.le V9∧∃ (Z13:Option Addr),∃ (P13:Nat),∃ (L4:List Value),ag V9 (G3.2.2.map ao) L4∧Frm 99 [(0,.pointer (some (⟨b0,0,none⟩))),(2,S d2),(4,.pointer (some (⟨Q1,0,none⟩))),(6,.pointer (some (⟨Q2,0,none⟩))),(7,.pointer (some (⟨Q3,0,none⟩))),(8,.int .i64 K1.1)] a_77∧Hp w0 V9 ((Ent.row 31 6 (.slice Z13 G3.2.2.length P13) G3.2.2.length L4)::(Ent.obj b0 (.cells #[.int .i64 G3.1,S G3.2.1] 54 (0,0)))::(Ent.obj Q3 (.cells #[.int .i8 2,S [],.int .i64 0,S [],S [],.slice Z13 G3.2.2.length P13] 31 (0,0)))::(Ent.obj Q2 (.cells #[.int .i8 0,S [],.int .i64 0,S [],S [],.slice none 0 0] 31 (0,0)))::H) W28) ?_ ?_
          ·obtain⟨X4,l4,F26⟩:=bS hj_4
           obtain⟨X5,l5,F27⟩:=bS F26
           obtain⟨X6,l6,F28⟩:=bS F27
           obtain⟨O1,F29⟩:=nS F28
           refine je (ks:=[14,15]) (E:=[Ent.row 31 6 (.slice Z4 K1.2.2.2.length P4) K1.2.2.2.length L1,Ent.obj b0 (.cells #[.int .i64 K1.2.1,S K1.2.2.1] 54 (0,0))]) (Hr:=((Ent.obj Q3 (.cells #[.int .i8 2,S [],.int .i64 0,S [],S [],.slice Z4 K1.2.2.2.length P4] 31 (0,0)))::(Ent.obj Q2 (.cells #[.int .i8 0,S [],.int .i64 0,S [],S [],.slice none 0 0] 31 (0,0)))::H)) (.quiet 0 (.quiet 1 (.quiet 2 (.quiet 3 (.quiet 4 (.quiet 5 (.quiet 6 (.quiet 7 (.quiet 8 (.quiet 9 (.quiet 10 (.alt 11 (.alt 12 (.alt 13 .done .none) .none) .none)))))))))))) N21 (by kernel_rfl) (by kernel_rfl) (by kernel_rfl) (Y1 (v:=.pointer (some (⟨Q3,5,none⟩))) rfl f rfl rfl (λ_ _=>by kernel_rfl) λ_ f=>Y1 (v:=.slice Z4 K1.2.2.2.length P4) rfl f rfl rfl (λ_ pq=>Y31 (v:=.slice Z4 K1.2.2.2.length P4) rfl (ad:=⟨Q3,5,none⟩) (pq.ownCell 0 rfl 5)) λ_ f=>Y1 (v:=.pointer (some (⟨b0,0,none⟩))) rfl f rfl rfl (λ_ _=>by kernel_rfl) λ_ f=>Y1 (v:=.pointer (some ((⟨Q1,0,none⟩:Addr).add 4))) rfl f rfl rfl (λ_ _=>by kernel_rfl) λ_ f=>Y1 (v:=.slice Z1 d1.ac.length P1) rfl f rfl rfl (λ_ pq=>Y31 (v:=.slice Z1 d1.ac.length P1) rfl (ad:=(⟨Q1,0,none⟩:Addr).add 4) (pq.cell ((fzu ((J4.trans J5).trans J6) R2) 4 _ rfl))) λ_ f=>Y1 (v:=.int .i64 K1.1) rfl f rfl rfl (λ_ _=>by kernel_rfl) λ_ f=>?_)
           obtain⟨C2,my,e_2,-,D6,R4⟩:=Sli.at_ (B1.mono (((J1.trans J4).trans J5).trans J6)) l4
           obtain⟨Z9,P9,Z10,P10,rfl,B14,B15⟩:=TD0.opn D6
           refine Y1 (v:=.pointer (some (C2.add (K1.1.toNat*6)))) rfl f rfl rfl (λ_ pq=>Y30 e_2 rfl (len:=d1.ac.length) (cap:=P1) (k:=.i64) (i:=K1.1) (e:=26) (sz:=6) (ax l4) (aw l4)) λ_ f=>Y1 (v:=.agg #[.int .i8 X4.ab,.bool X4.ah,.int .i64 X4.af,S X4.aa,.slice Z9 X4.ac.length P9,.slice Z10 X4.ae.length P10]) rfl f rfl rfl (λ_ pq=>Y32 (cs:=[.int .i8 X4.ab,.bool X4.ah,.int .i64 X4.af,S X4.aa,.slice Z9 X4.ac.length P9,.slice Z10 X4.ae.length P10]) rfl (ad:=C2.add (K1.1.toNat*6)) (λj v h=>pq.cell (R4 j v h))) λ_ f=>Y1 (v:=S d2) rfl f rfl rfl (λ_ _=>by kernel_rfl) λ_ f=>Y1 (v:=.int .i64 K1.1) rfl f rfl rfl (λ_ _=>by kernel_rfl) λ_ f=>Y2 (v:=S X5) rfl f rfl rfl (dw n _ d2 K1.1 X5 l5) λ_ f=>aC rfl (λW20 N31=>?_) ?_
           ·have N33:=N31.pl [1]
            refine Y18 (E:=[Ent.obj b0 (.cells #[.int .i64 K1.2.1,S K1.2.2.1] 54 (0,0))]) (H:=((Ent.row 31 6 (.slice Z4 K1.2.2.2.length P4) K1.2.2.2.length L1)::(Ent.obj Q3 (.cells #[.int .i8 2,S [],.int .i64 0,S [],S [],.slice Z4 K1.2.2.2.length P4] 31 (0,0)))::(Ent.obj Q2 (.cells #[.int .i8 0,S [],.int .i64 0,S [],S [],.slice none 0 0] 31 (0,0)))::H)) f N33 (hrec_ref13_reader_expr _ b0 K1.2.1 K1.2.2.1 _ X4 (TD0.shutx (x:=X4) B14 B15) X5 X6 l6) λ_ V8 E_4 W21 J8 N32 q_4 _ f=>?_
            obtain⟨c_4,rfl,rfl,D7⟩:=q_4
            obtain⟨Z11,P11,rfl,B16⟩:=TH0.opn D7
            refine ap rfl (aD 2 J8 N32 rfl (aC rfl (λW22 N34=>?_) ?_))
            ·refine aP (k:=1) (c:=1) f N34 (.cells #[.int .i8 X6.1.ab,S X6.1.aa,.int .i64 X6.1.af,S X6.1.ak,S X6.1.al,.slice Z11 X6.1.fL.length P11] 31 (0,0)) (by kernel_rfl) (λ_=>by kernel_rfl) λQ6 W23 N35 _ f=>ap rfl (aD 3 J8 N35 rfl (aC rfl (λW24 N36=>?_) ?_))
             ·have N37:=N36.pl [2]
              refine Y21 (z:=.agg #[.int .i8 0,S [],.int .i64 0,S [],S [],.slice none 0 0]) (f:=ao) (xs:=K1.2.2.2) (ys:=[(⟨X6.1.ab,X6.1.aa,X6.1.af,X6.1.ak,X6.1.al,X6.1.fL⟩:TH0)]) (news:=[.int .i8 X6.1.ab,S X6.1.aa,.int .i64 X6.1.af,S X6.1.ak,S X6.1.al,.slice Z11 X6.1.fL.length P11]) (ad:=⟨Q6,0,none⟩) (m:=1) (c:=1) f N37 (ag.mono (J6.trans J8) _ _ D2) (by exact⟨_,_,rfl,TH0.shut B16,rfl⟩) rfl rfl rfl rfl (am (N37.ownCell 1 rfl) 0 rfl) (by exact O1) (by have hg_:=O1;first|omega|(simp only[List.length_cons,List.length_nil] at*;omega)) λZ12 P12 L3 W25 N38 D8 _ f=>?_
              have N39:=N38.pl [1]
              have N40:=N39.drop
              refine ap rfl (aD 2 J8 N40 rfl (gV λW26 N41=>Y f 1 λ_ f=>Y26 f N41 2 rfl rfl (b:=Q3) (j:=5) (v:=.slice Z12 (K1.2.2.2++[(⟨X6.1.ab,X6.1.aa,X6.1.af,X6.1.ak,X6.1.al,X6.1.fL⟩:TH0)]).length P12) rfl (by exact rfl) (by simp) (by simp) ((Ent.row 31 6 (.slice Z12 (K1.2.2.2++[(⟨X6.1.ab,X6.1.aa,X6.1.af,X6.1.ak,X6.1.al,X6.1.fL⟩:TH0)]).length P12) (K1.2.2.2++[(⟨X6.1.ab,X6.1.aa,X6.1.af,X6.1.ak,X6.1.al,X6.1.fL⟩:TH0)]).length L3)::(Ent.obj b0 (.cells #[.int .i64 X6.2.1,S X6.2.2] 54 (0,0)))::(Ent.obj Q3 (.cells #[.int .i8 2,S [],.int .i64 0,S [],S [],.slice Z12 (K1.2.2.2++[(⟨X6.1.ab,X6.1.aa,X6.1.af,X6.1.ak,X6.1.al,X6.1.fL⟩:TH0)]).length P12] 31 (0,0)))::(Ent.obj Q2 (.cells #[.int .i8 0,S [],.int .i64 0,S [],S [],.slice none 0 0] 31 (0,0)))::H) rfl λW27 N42 _ f=>ap rfl (mp (aK ?_))))
              exact⟨(X6.2.1,X6.2.2,K1.2.2.2++[(⟨X6.1.ab,X6.1.aa,X6.1.af,X6.1.ak,X6.1.al,X6.1.fL⟩:TH0)]),(sI F29).symm,V8,J8,Z12,P12,L3,D8,f.kp,N42⟩
             exact aB
            exact aB
           exact aB
          ·rintro a_77 W28 ⟨G3,lb,V9,J9,Z13,P13,L4,D9,f,N43⟩
           subst j_4
           refine dZ (aK (aA (Y f 1 λ_ f=>?_)))
           obtain⟨O2,F30⟩:=nS F25
           refine Y f 1 λ_ f=>?_
           have f:=f.st 56 (iW O2)
           refine Y f 1 λ_ f=>eT ?_
           obtain rfl:=sI F30
           exact⟨⟨I2,(K1.1+1,G3.1,G3.2.1,G3.2.2),Z13,P13,L4⟩,Nat.lt_succ_self _,V9,((J5.trans J6).trans J9),⟨T1,D9⟩,f.kp,N43⟩
         ·refine wp_exit (eH (eH ?_))
          obtain rfl:=sI F31
          exact⟨rfl,(K1.2.1,K1.2.2.1,K1.2.2.2),(sI T1).symm,V6,(J5.trans J6),Z4,P4,L1,(ag.mono J6 _ _ D2),f.kp,N21⟩
       ·rintro _ _ W30 ⟨rfl,G4,hq_,V10,J10,Z14,P14,L5,D10,f,N44⟩
        subst Q4
        refine kh (aK (RR (Z (v:=.agg #[.int .i8 2,S [],.int .i64 0,S [],S [],.slice Z14 G4.2.2.length P14]) f (Y32 (cs:=[.int .i8 2,S [],.int .i64 0,S [],S [],.slice Z14 G4.2.2.length P14]) rfl (ad:=⟨Q3,0,none⟩) (am (N44.ownCell 2 rfl) 0 rfl)) λ_ f=>?_)))
        obtain⟨Z15,P15,V11,H2,J11,N45,B17⟩:=N44.rowSli (f:=ao) (xs:=G4.2.2) bg D10
        have f:=Frm.set f 72 (v:=.agg #[.int .i8 2,S [],.int .i64 0,S [],S [],.slice Z14 G4.2.2.length P14]) (v':=.agg #[.int .i8 2,S [],.int .i64 0,S [],S [],.slice Z15 G4.2.2.length P15]) (by kernel_rfl) (by rw[H2])
        have N46:Hp w0 V11 ((Ent.obj b0 (.cells #[.int .i64 G4.1,S G4.2.1] 54 (0,0)))::(Ent.obj Q3 (.cells #[.int .i8 2,S [],.int .i64 0,S [],S [],.slice Z15 G4.2.2.length P15] 31 (0,0)))::(Ent.obj Q2 (.cells #[.int .i8 0,S [],.int .i64 0,S [],S [],.slice none 0 0] 31 (0,0)))::H) W30:=by rw[H2] at N45;exact N45
        have N47:=N46.pl [2]
        refine Y27 (vs:=[.int .i8 2,S [],.int .i64 0,S [],S [],.slice Z15 G4.2.2.length P15]) (j:=0) f N47 rfl rfl (by simp[Value.oneCell',S]) (by simp) (by decide) (cs':=#[.int .i8 2,S [],.int .i64 0,S [],S [],.slice Z15 G4.2.2.length P15]) λW31 N48 _ f=>eT (wp_ret (ed ?_))
        have F32:=bF F20 F3
        refine bC (bC (cD f rfl (Y11 (cs:=[.int .i8 2,S [],.int .i64 0,S [],S [],.slice Z15 G4.2.2.length P15]) (ad:=⟨Q2,0,none⟩) f (am (N48.ownCell 0 rfl) 0 rfl)) ?_))
        obtain rfl:=sI F32
        have N51:=N48.pl [1,2,2]
        exact⟨_,rfl,V11,_,(((J1.trans J4).trans J10).trans J11),(N51.dropN 2),⟨[.int .i8 2,S [],.int .i64 0,S [],S [],.slice Z15 G4.2.2.length P15],rfl,rfl,(TH0.shut B17)⟩⟩
     ·have U16:=aq dI B7
      refine RR (Y f 2 λ_ f=>eT (RcF f F33 (λB18 F34=>?_) λB18 F43=>?_))
      ·have U17:=dI.1 B18
       refine RR (Y f 1 λ_ f=>Y16 f N2 R2 5 rfl λ_ f=>Y f 2 λ_ f=>eT (RcF f F34 (λB19 F35=>?_) λB19 F42=>?_))
       ·have U18:=dI.1 B19
        refine an (dp (E:=[Ent.obj Q2 (.cells #[.int .i8 0,S [],.int .i64 0,S [],S [],.slice none 0 0] 31 (0,0)),Ent.obj b0 (.cells #[.int .i64 bm,S az] 54 (0,0))]) (Hr:=(H)) [(0,true),(1,true),(2,true),(3,true),(4,true),(5,true),(6,true),(7,true),(8,true),(9,true),(10,true),(11,true),(12,true),(13,true),(14,true),(15,false),(16,false)] N2 (by kernel_rfl) (by kernel_rfl) rfl (by kernel_rfl) (Y0 default f 2 λ_ f=>bz (v:=.slice Z2 d1.ae.length P2) f (by kernel_rfl) (by kernel_rfl) rfl rfl (λ_ pq=>Y31 (v:=.slice Z2 d1.ae.length P2) rfl (ad:=(⟨Q1,0,none⟩:Addr).add 5) (pq.cell (R2 5 _ rfl))) λ_ f=>?_))
        obtain⟨X10,l7,F36⟩:=bS F35
        obtain⟨C3,c_5,e_3,-,D11,R5⟩:=Sli.at_ (B2.mono J1) l7
        obtain rfl:c_5=[S X10]:=D11
        refine bz (v:=.pointer (some (C3.add ((0:Int).toNat*1)))) f (by kernel_rfl) (by kernel_rfl) rfl rfl (λ_ pq=>Y30 e_3 rfl (len:=d1.ae.length) (cap:=P2) (k:=.i64) (i:=(0:Int)) (e:=9) (sz:=1) (ax l7) (aw l7)) λ_ f=>bz (v:=S X10) f (by kernel_rfl) (by kernel_rfl) rfl rfl (λ_ pq=>Y31 (v:=S X10) rfl (ad:=C3.add ((0:Int).toNat*1)) (pq.cell (R5 0 _ rfl))) λ_ f=>Y0 default f 1 λ_ f=>bz (v:=.slice Z1 d1.ac.length P1) f (by kernel_rfl) (by kernel_rfl) rfl rfl (λ_ pq=>Y31 (v:=.slice Z1 d1.ac.length P1) rfl (ad:=(⟨Q1,0,none⟩:Addr).add 4) (pq.cell (R2 4 _ rfl))) λ_ f=>?_
        obtain⟨X11,l8,F37⟩:=bS F36
        obtain⟨C4,c_6,e_4,-,D12,R6⟩:=Sli.at_ (B1.mono J1) l8
        obtain⟨Z16,P16,Z17,P17,rfl,B20,B21⟩:=TD0.opn D12
        refine bz (v:=.pointer (some (C4.add ((0:Int).toNat*6)))) f (by kernel_rfl) (by kernel_rfl) rfl rfl (λ_ pq=>Y30 e_4 rfl (len:=d1.ac.length) (cap:=P1) (k:=.i64) (i:=(0:Int)) (e:=26) (sz:=6) (ax l8) (aw l8)) λ_ f=>bz (v:=.agg #[.int .i8 X11.ab,.bool X11.ah,.int .i64 X11.af,S X11.aa,.slice Z16 X11.ac.length P16,.slice Z17 X11.ae.length P17]) f (by kernel_rfl) (by kernel_rfl) rfl rfl (λ_ pq=>Y32 (cs:=[.int .i8 X11.ab,.bool X11.ah,.int .i64 X11.af,S X11.aa,.slice Z16 X11.ac.length P16,.slice Z17 X11.ae.length P17]) rfl (ad:=C4.add ((0:Int).toNat*6)) (λj v h=>pq.cell (R6 j v h))) λ_ f=>Y0 default f 2 λ_ f=>bz (v:=.slice Z2 d1.ae.length P2) f (by kernel_rfl) (by kernel_rfl) rfl rfl (λ_ pq=>Y31 (v:=.slice Z2 d1.ae.length P2) rfl (ad:=(⟨Q1,0,none⟩:Addr).add 5) (pq.cell (R2 5 _ rfl))) λ_ f=>?_
        obtain⟨X12,l9,F38⟩:=bS F37
        obtain⟨C5,c_7,e_5,-,D13,R7⟩:=Sli.at_ (B2.mono J1) l9
        obtain rfl:c_7=[S X12]:=D13
        refine bz (v:=.pointer (some (C5.add ((0:Int).toNat*1)))) f (by kernel_rfl) (by kernel_rfl) rfl rfl (λ_ pq=>Y30 e_5 rfl (len:=d1.ae.length) (cap:=P2) (k:=.i64) (i:=(0:Int)) (e:=9) (sz:=1) (ax l9) (aw l9)) λ_ f=>bz (v:=S X12) f (by kernel_rfl) (by kernel_rfl) rfl rfl (λ_ pq=>Y31 (v:=S X12) rfl (ad:=C5.add ((0:Int).toNat*1)) (pq.cell (R7 0 _ rfl))) λ_ f=>?_
        obtain⟨X13,l10,F39⟩:=bS F38
        refine dM (v:=S X13) f (by kernel_rfl) (by kernel_rfl) rfl rfl (λ_=>by kernel_rfl) (ka n _ d2 X12 X13 l10) λ_ f=>bL (E:=[Ent.obj Q2 (.cells #[.int .i8 0,S [],.int .i64 0,S [],S [],.slice none 0 0] 31 (0,0)),Ent.obj b0 (.cells #[.int .i64 bm,S az] 54 (0,0))]) λW33 N53=>?_
        obtain⟨X14,l11,F40⟩:=bS F39
        have N55:=N53.pl [1]
        refine Y18 (E:=[Ent.obj b0 (.cells #[.int .i64 bm,S az] 54 (0,0))]) (H:=((Ent.obj Q2 (.cells #[.int .i8 0,S [],.int .i64 0,S [],S [],.slice none 0 0] 31 (0,0)))::H)) f N55 (jY n rec_ref13_reader_expr hrec_ref13_reader_expr _ b0 bm az X10 _ X11 (TD0.shutx (x:=X11) B20 B21) X13 X14 l11) λ_ V12 E_5 W34 J12 N54 q_5 _ f=>?_
        obtain⟨c_8,rfl,rfl,D14⟩:=q_5
        obtain⟨Z18,P18,rfl,B22⟩:=TH0.opn D14
        refine ap rfl (dl (M1:=V12) (E:=[Ent.obj b0 (.cells #[.int .i64 X14.2.1,S X14.2.2] 54 (0,0)),Ent.obj Q2 (.cells #[.int .i8 0,S [],.int .i64 0,S [],S [],.slice none 0 0] 31 (0,0))]) J12 N54 (bL (E:=[Ent.obj b0 (.cells #[.int .i64 X14.2.1,S X14.2.2] 54 (0,0)),Ent.obj Q2 (.cells #[.int .i8 0,S [],.int .i64 0,S [],S [],.slice none 0 0] 31 (0,0))]) λW35 N56=>?_))
        have N57:=N56.pl [1]
        refine Y27 (vs:=[.int .i8 X14.1.ab,S X14.1.aa,.int .i64 X14.1.af,S X14.1.ak,S X14.1.al,.slice Z18 X14.1.fL.length P18]) (j:=0) f N57 rfl rfl (by simp[Value.oneCell',S]) (by simp) (by decide) (cs':=#[.int .i8 X14.1.ab,S X14.1.aa,.int .i64 X14.1.af,S X14.1.ak,S X14.1.al,.slice Z18 X14.1.fL.length P18]) λW36 N58 _ f=>ap rfl (dl (M1:=V12) (E:=[Ent.obj Q2 (.cells #[.int .i8 X14.1.ab,S X14.1.aa,.int .i64 X14.1.af,S X14.1.ak,S X14.1.al,.slice Z18 X14.1.fL.length P18] 31 (0,0)),Ent.obj b0 (.cells #[.int .i64 X14.2.1,S X14.2.2] 54 (0,0))]) J12 N58 (dL rfl λW37 N59=>aK (wp_ret (ed ?_))))
        have F41:=bF F40 F3
        refine bC (bC (cD f rfl (Y11 (cs:=[.int .i8 X14.1.ab,S X14.1.aa,.int .i64 X14.1.af,S X14.1.ak,S X14.1.al,.slice Z18 X14.1.fL.length P18]) (ad:=⟨Q2,0,none⟩) f (am (N59.ownCell 0 rfl) 0 rfl)) ?_))
        obtain rfl:=sI F41
        exact⟨_,rfl,V12,_,(J1.trans J12),(N59.dropN 1),⟨[.int .i8 X14.1.ab,S X14.1.aa,.int .i64 X14.1.af,S X14.1.ak,S X14.1.al,.slice Z18 X14.1.fL.length P18],rfl,rfl,(TH0.shutx (x:=X14.1) B22)⟩⟩
       ·have U19:=aq dI B19
        refine wp_skip (dZ (aK ?_))
        exact⟨(),(sI F42).symm,V1,(mR _),f.kp,N2⟩
      ·have U20:=aq dI B18
       refine wp_skip (dZ (aK ?_))
       exact⟨(),(sI F43).symm,V1,(mR _),f.kp,N2⟩
  ·rintro a_104 W38 ⟨G5,rfl,V13,J13,f,N60⟩
   refine aK (RR (Y f 2 λ_ f=>?_))
   obtain⟨X15,l12,F44⟩:=bS F3
   have N62:=N60.pl [1]
   refine Y18 (E:=[Ent.obj b0 (.cells #[.int .i64 bm,S az] 54 (0,0))]) (H:=((Ent.obj Q2 (.cells #[.int .i8 0,S [],.int .i64 0,S [],S [],.slice none 0 0] 31 (0,0)))::H)) f N62 (cn n _ b0 bm az (121:Int) d2 X15 l12) λ_ V14 E_6 W39 J14 N61 q_6 _ f=>?_
   obtain⟨rfl,rfl⟩:=q_6
   refine eT (RR (Y f 1 λ_ f=>?_))
   have N63:=N61.pl [1]
   refine Y27 (vs:=[.int .i8 0,S [],.int .i64 0,S [],S [],.slice none 0 0]) (j:=0) f N63 rfl rfl (by simp[Value.oneCell',S]) (by simp) (by decide) (cs':=#[.int .i8 0,S [],.int .i64 0,S [],S [],.slice none 0 0]) λW40 N64 _ f=>eT (wp_ret (cD f rfl (Y11 (cs:=[.int .i8 0,S [],.int .i64 0,S [],S [],.slice none 0 0]) (ad:=⟨Q2,0,none⟩) f (am (N64.ownCell 0 rfl) 0 rfl)) ?_))
   obtain rfl:=sI F44
   exact⟨_,rfl,V14,_,((J1.trans J13).trans J14),(N64.dropN 1),⟨[.int .i8 0,S [],.int .i64 0,S [],S [],.slice none 0 0],rfl,rfl,(TH0.shut Sli.nil)⟩⟩
def aO (n:Nat):Nat→Int→Bs→TD0→Bs→Option (TH0×Int×Bs)
 |0=>λ_ _ _ _=>none
 |k+1=>bN n (aO n k)
def gp (n:Nat) (bm:Int) (az:Bs) (d1:TD0) (d2:Bs):Option (TH0×Int×Bs):=aO n n bm az d1 d2
theorem jZ (n:Nat) (M:Mem) (b0:Nat) (bm:Int) (az:Bs) (c1:Lv) (d1:TD0) (h1:Rep M (ar d1) c1) (d2:Bs) (r:TH0×Int×Bs) (hF:gp n bm az d1 d2=some r):OkH Tryz.prog M [oC b0 #[iL bm,S az] 54] 20 [pP b0,.agg c1.toArray,S d2] (λM' E' v=>∃ (c0:Lv),v=.agg c0.toArray∧E'=[oC b0 #[iL r.2.1,S r.2.2] 54]∧Rep M' (ao r.1) c0):=by
 have key: ∀ (k:Nat) (M:Mem) (b0:Nat) (bm:Int) (az:Bs) (c1:Lv) (d1:TD0) (h1:Rep M (ar d1) c1) (d2:Bs) (r:TH0×Int×Bs) (hF:aO n k bm az d1 d2=some r),OkH Tryz.prog M [oC b0 #[iL bm,S az] 54] 20 [pP b0,.agg c1.toArray,S d2] (λM' E' v=>∃ (c0:Lv),v=.agg c0.toArray∧E'=[oC b0 #[iL r.2.1,S r.2.2] 54]∧Rep M' (ao r.1) c0):=by
  intro k
  induction k with
  |zero=>intro M b0 bm az c1 d1 h1 d2 r hF;simp[aO] at hF
  |succ k ih=>intro M b0 bm az c1 d1 h1 d2 r hF;exact jr n (aO n k) ih M b0 bm az c1 d1 h1 d2 r hF
 exact key n M b0 bm az c1 d1 h1 d2 r hF
def jq (n:Nat) (d0:TD0):Option (TH0×Bs×Int):=
 (gR n d0).bind λX1=>
 bif(!(decide (X1=0))) then
  (some ((ai,([]:Bs),X1)))
 else
  (gp n (0:Int) ([]:Bs) d0 ([]:Bs)).bind λX2=>
  bif(!(decide (X2.2.1=0))) then
   (some ((ai,X2.2.2,X2.2.1)))
  else
   some ((X2.1,([]:Bs),(0:Int)))
theorem nP (n:Nat) (M:Mem) (c0:Lv) (d0:TD0) (h0:Rep M (ar d0) c0) (r:TH0×Bs×Int) (hF:jq n d0=some r):Ok Tryz.prog M 9 [.agg c0.toArray] (λM' v=>∃ (c0:Lv),v=.tuple #[.agg c0.toArray,S r.2.1,iL r.2.2]∧Rep M' (ao r.1) c0):=by
 unfold jq at hF
 intro M1 hM0 w0 H w p0
 replace h0:=Rep.mono hM0 _ _ h0
 obtain⟨Z1,P1,Z2,P2,rfl,B1,B2⟩:=TD0.opn h0
 refine Re 34 Tryz.func9 rfl λa0 f0=>RR (Y14 (cs:=(aTD0 d0 Z1 P1 Z2 P2)) (T:=26) f0 p0 λQ1 V1 W1 J1 R1 N1 _ f=>?_)
 have R2:=bj R1
 refine Y13 f N1 (.cells #[iB 0,S [],iL 0,S [],S [],Sn] 31 (0,0)) λQ2 W2 N2 _ f=>Ye f 2 λ_ f=>RR (Z f (Y32 (cs:=(lTD0 d0 Z1 P1 Z2 P2)) rfl (ad:=⟨Q1,0,none⟩) (λj v h=>N2.cell (R2 j v h))) λ_ f=>?_)
 obtain⟨X1,l1,F1⟩:=bS hF
 refine Y19 f N2 (nl n _ _ d0 (TD0.shutx (x:=d0) (B1.mono J1) (B2.mono J1)) X1 l1) λW3 N3 _ f=>Ye f 1 λ_ f=>an (RR (Ye f 2 λ_ f=>RcF f F1 (λB3 F2=>?_) λB3 F3=>?_))
 ·have U1: ¬ (X1=0):=(aM dI).1 B3
  refine RR (Y f 2 λ_ f=>Ys [iB 0,S [],iL 0,S [],S [],Sn] #[iB 0,S [],iL 0,S [],S [],Sn] f N3 rfl rfl λW4 N4 _ f=>Ye f 2 λ_ f=>wp_ret (bC (kS f rfl (Y11 (cs:=[iB 0,S [],iL 0,S [],S [],Sn]) (ad:=⟨Q2,0,none⟩) f (am (N4.ownCell 0 rfl) 0 rfl)) (Y12 (v:=S []) f) (Y12 (v:=iL X1) f) ?_)))
  cases sI F2
  exact⟨_,rfl,V1,J1,(N4.dropN 1),⟨[iB 0,S [],iL 0,S [],S [],Sn],rfl,(TH0.shut Sli.nil)⟩⟩
 ·have U2: ¬ (¬ (X1=0)):=aq (aM dI) B3
  refine St (RR (Y f 1 λ_ f=>Y13 f N3 (.cells #[iL 0,S []] 54 (0,0)) λQ3 W5 N5 _ f=>Ye f 1 λ_ f=>RR (Y f 1 λ_ f=>Z f (Y32 (cs:=(lTD0 d0 Z1 P1 Z2 P2)) rfl (ad:=⟨Q1,0,none⟩) (λj v h=>N5.cell (R2 j v h))) λ_ f=>?_)))
  obtain⟨X2,l2,F4⟩:=bS F3
  refine Y18 (E:=[oC Q3 #[iL 0,S []] 54]) (H:=((oC Q2 #[iB 0,S [],iL 0,S [],S [],Sn] 31)::H)) f N5 (jZ n _ Q3 (0:Int) ([]:Bs) _ d0 (TD0.shutx (x:=d0) (B1.mono J1) (B2.mono J1)) ([]:Bs) X2 l2) λ_ V2 mo W6 J2 N6 ej _ f=>?_
  obtain⟨cZ,rfl,rfl,D1⟩:=ej
  obtain⟨Z3,P3,rfl,B4⟩:=TH0.opn D1
  refine Y13 f N6 (.cells #[iB 0,S [],iL 0,S [],S [],Sn] 31 (0,0)) λQ4 W7 N7 _ f=>Ys (lTH0 X2.1 Z3 P3) (aTH0 X2.1 Z3 P3) f N7 rfl rfl λW8 N8 _ f=>eT (an (RR (Y f 3 λ_ f=>Z f (Y31 (v:=iL X2.2.1) rfl (ad:=⟨Q3,0,none⟩) (N8.ownCell 1 rfl 0)) λ_ f=>Ye f 1 λ_ f=>RcF f F4 (λB5 F5=>?_) λB5 F6=>?_)))
  ·have U3: ¬ (X2.2.1=0):=(aM dI).1 B5
   refine an (dp (E:=[]) (Hr:=((Ent.obj Q4 (.cells (aTH0 X2.1 Z3 P3) 31 (0,0)))::(oC Q3 #[iL X2.2.1,S X2.2.2] 54)::(oC Q2 #[iB 0,S [],iL 0,S [],S [],Sn] 31)::H)) [(0,true),(1,true),(2,true),(3,true),(4,true),(5,true),(6,true),(7,true),(8,true),(9,false),(10,true),(11,true)] N8 kr kr rfl kr (Y0 default f 4 λ_ f=>bz (v:=S X2.2.2) f kr kr rfl rfl (λ_ pq=>Y31 (v:=S X2.2.2) rfl (ad:=⟨Q3,1,none⟩) (pq.ownCell 1 rfl 1)) λ_ f=>Y0 default f 3 λ_ f=>bz (v:=iL X2.2.1) f kr kr rfl rfl (λ_ pq=>Y31 (v:=iL X2.2.1) rfl (ad:=⟨Q3,0,none⟩) (pq.ownCell 1 rfl 0)) λ_ f=>bL (E:=[]) λW9 N9=>?_))
   have N10:=N9.pl [2]
   refine Ys [iB 0,S [],iL 0,S [],S [],Sn] #[iB 0,S [],iL 0,S [],S [],Sn] f N10 rfl rfl λW10 N11 _ f=>ap rfl ?_
   have N13:=N11.pl [2,2]
   refine dl (M1:=V2) (E:=[]) (mR _) N13 (Y0 default f 2 λ_ f=>dL rfl λW11 N14=>aK (wp_ret (bC (kS f rfl (Y11 (cs:=[iB 0,S [],iL 0,S [],S [],Sn]) (ad:=⟨Q2,0,none⟩) f (am (N14.ownCell 2 rfl) 0 rfl)) (Y12 (v:=S X2.2.2) f) (Y12 (v:=iL X2.2.1) f) ?_))))
   cases sI F5
   exact⟨_,rfl,V2,(J1.trans J2),(N14.dropN 3),⟨[iB 0,S [],iL 0,S [],S [],Sn],rfl,(TH0.shut Sli.nil)⟩⟩
  ·have U4: ¬ (¬ (X2.2.1=0)):=aq (aM dI) B5
   refine St (RR (Z f (Y32 (cs:=(lTH0 X2.1 Z3 P3)) rfl (ad:=⟨Q4,0,none⟩) (am (N8.ownCell 0 rfl) 0 rfl)) λ_ f=>?_))
   have N15:=N8.pl [2]
   refine Ys (lTH0 X2.1 Z3 P3) (aTH0 X2.1 Z3 P3) f N15 rfl rfl λW12 N16 _ f=>Ye f 2 λ_ f=>wp_ret (kS f rfl (Y11 (cs:=(lTH0 X2.1 Z3 P3)) (ad:=⟨Q2,0,none⟩) f (am (N16.ownCell 0 rfl) 0 rfl)) (Y12 (v:=S []) f) (Y12 (v:=iL 0) f) ?_)
   cases sI F6
   exact⟨_,rfl,V2,(J1.trans J2),(N16.dropN 3),⟨[iB X2.1.ab,S X2.1.aa,iL X2.1.af,S X2.1.ak,S X2.1.al,sL Z3 X2.1.fL P3],rfl,(TH0.shutx (x:=X2.1) B4)⟩⟩
def hZ (n:Nat) (rec_ref12_SameAll: (List TH0)→(List TH0)→Option Bool) (d0:TH0) (d1:TH0):Option Bool:=
 bif(decide (d0.ab=d1.ab)) then
  (bif(decide (d0.aa=d1.aa)) then
   (bif(decide (d0.af=d1.af)) then
    (bif(decide (d0.ak=d1.ak)) then
     (bif(decide (d0.al=d1.al)) then
      ((rec_ref12_SameAll d0.fL d1.fL).bind λX1=>
      some ((X1)))
     else
      some ((false)))
    else
     some ((false)))
   else
    some ((false)))
  else
   some ((false)))
 else
  some ((false))
set_option maxRecDepth 20000 in
theorem mt (n:Nat) (rec_ref12_SameAll: (List TH0)→(List TH0)→Option Bool) (hrec_ref12_SameAll: ∀ (M:Mem) (A0:Oa) (cap0:Nat) (d0:List TH0) (h0:Sli M 6 ao A0 cap0 d0) (A1:Oa) (cap1:Nat) (d1:List TH0) (h1:Sli M 6 ao A1 cap1 d1) (r:Bool) (hF:rec_ref12_SameAll d0 d1=some r),Ok Tryz.prog M 44 [sL A0 d0 cap0,sL A1 d1 cap1] (λ_ v=>v=bO r)) (M:Mem) (c0:Lv) (d0:TH0) (h0:Rep M (ao d0) c0) (c1:Lv) (d1:TH0) (h1:Rep M (ao d1) c1) (r:Bool) (hF:hZ n rec_ref12_SameAll d0 d1=some r):Ok Tryz.prog M 21 [.agg c0.toArray,.agg c1.toArray] (λ_ v=>v=bO r):=by
 unfold hZ at hF
 intro M1 hM0 w0 H w p0
 replace h0:=Rep.mono hM0 _ _ h0
 replace h1:=Rep.mono hM0 _ _ h1
 obtain⟨Z1,P1,rfl,B1⟩:=TH0.opn h0
 obtain⟨Z2,P2,rfl,B2⟩:=TH0.opn h1
 refine Re 45 Tryz.func21 rfl λa0 f0=>RR (Y14 (cs:=(aTH0 d0 Z1 P1)) (T:=31) f0 p0 λQ1 V1 W1 J1 R1 N1 _ f=>?_)
 have R2:=bj R1
 refine Y14 (cs:=(aTH0 d1 Z2 P2)) (T:=31) f N1 λQ2 V2 W2 J2 R3 N2 _ f=>?_
 have R4:=bj R3
 refine Ye f 1 λ_ f=>RR (Y f 1 λ_ f=>Y16 f N2 (fzu J2 R2) 0 rfl λ_ f=>Y f 1 λ_ f=>Y16 f N2 R4 0 rfl λ_ f=>Y f 2 λ_ f=>?_)
 rcases cE hF with⟨B3,F1⟩|⟨B3,F11⟩
 ·have U1:=dI.1 B3
  have f:=f.st 10 (cB B3)
  refine Y f 1 λ_ f=>Y16 f N2 (fzu J2 R2) 1 rfl λ_ f=>Y f 1 λ_ f=>Y16 f N2 R4 1 rfl λ_ f=>Z f (Y36 rfl (l:=d0.aa) (m:=d1.aa)) λ_ f=>Y f 2 λ_ f=>?_
  rcases cE F1 with⟨B4,F2⟩|⟨B4,F10⟩
  ·have U2:=dI.1 B4
   have f:=f.st 17 (cB B4)
   refine Y f 1 λ_ f=>Y16 f N2 (fzu J2 R2) 2 rfl λ_ f=>Y f 1 λ_ f=>Y16 f N2 R4 2 rfl λ_ f=>Y f 3 λ_ f=>?_
   rcases cE F2 with⟨B5,F3⟩|⟨B5,F9⟩
   ·have U3:=dI.1 B5
    have f:=f.st 24 (cB B5)
    refine Y f 1 λ_ f=>Y16 f N2 (fzu J2 R2) 3 rfl λ_ f=>Y f 1 λ_ f=>Y16 f N2 R4 3 rfl λ_ f=>Z f (Y36 rfl (l:=d0.ak) (m:=d1.ak)) λ_ f=>Y f 2 λ_ f=>?_
    rcases cE F3 with⟨B6,F4⟩|⟨B6,F8⟩
    ·have U4:=dI.1 B6
     have f:=f.st 31 (cB B6)
     refine Y f 1 λ_ f=>Y16 f N2 (fzu J2 R2) 4 rfl λ_ f=>Y f 1 λ_ f=>Y16 f N2 R4 4 rfl λ_ f=>Z f (Y36 rfl (l:=d0.al) (m:=d1.al)) λ_ f=>Y f 2 λ_ f=>?_
     rcases cE F4 with⟨B7,F5⟩|⟨B7,F7⟩
     ·have U5:=dI.1 B7
      have f:=f.st 38 (cB B7)
      refine Y f 1 λ_ f=>Y16 f N2 (fzu J2 R2) 5 rfl λ_ f=>Y f 1 λ_ f=>Y16 f N2 R4 5 rfl λ_ f=>?_
      obtain⟨X1,l1,F6⟩:=bS F5
      refine Y19 f N2 (hrec_ref12_SameAll _ Z1 P1 d0.fL (B1.mono (J1.trans J2)) Z2 P2 d1.fL (B2.mono (J1.trans J2)) X1 l1) λW3 N3 _ f=>Ye f 2 λ_ f=>wp_ret (au f rfl (Lk 4 (bO X1)) ?_)
      cases sI F6
      exact⟨_,rfl,V2,(J1.trans J2),N3,rfl⟩
     ·have U6:=aq dI B7
      have f:=f.st 38 (cB B7)
      refine Ye f 7 λ_ f=>wp_ret (au f rfl (Lk 4 (bO false)) ?_)
      cases sI F7
      exact⟨_,rfl,V2,(J1.trans J2),N2,rfl⟩
    ·have U7:=aq dI B6
     have f:=f.st 31 (cB B6)
     refine Ye f 14 λ_ f=>wp_ret (au f rfl (Lk 4 (bO false)) ?_)
     cases sI F8
     exact⟨_,rfl,V2,(J1.trans J2),N2,rfl⟩
   ·have U8:=aq dI B5
    have f:=f.st 24 (cB B5)
    refine Ye f 21 λ_ f=>wp_ret (au f rfl (Lk 4 (bO false)) ?_)
    cases sI F9
    exact⟨_,rfl,V2,(J1.trans J2),N2,rfl⟩
  ·have U9:=aq dI B4
   have f:=f.st 17 (cB B4)
   refine Ye f 28 λ_ f=>wp_ret (au f rfl (Lk 4 (bO false)) ?_)
   cases sI F10
   exact⟨_,rfl,V2,(J1.trans J2),N2,rfl⟩
 ·have U10:=aq dI B3
  have f:=f.st 10 (cB B3)
  refine Ye f 35 λ_ f=>wp_ret (au f rfl (Lk 4 (bO false)) ?_)
  cases sI F11
  exact⟨_,rfl,V2,(J1.trans J2),N2,rfl⟩
def cW (n:Nat) (rec_ref12_SameAll: (List TH0)→(List TH0)→Option Bool) (d0:List TH0) (d1:List TH0) (K1:Int):Option (Lp Int (Sum Unit Unit)):=
    bif(decide (K1<((d0.length:Nat):Int))) then
     ((aQ d0 K1).bind λX1=>
     (aQ d1 K1).bind λX2=>
     (hZ n rec_ref12_SameAll X1 X2).bind λX3=>
     bif !X3 then
      (some (.br (.inl ())))
     else
      aS (inR .i64 (K1+1))<|
      some (.nx (K1+1)))
    else
     some (.br (.inr ()))
def dO (n:Nat) (rec_ref12_SameAll: (List TH0)→(List TH0)→Option Bool) (d0:List TH0) (d1:List TH0):Option Bool:=
 bif(!(decide (((d0.length:Nat):Int)=((d1.length:Nat):Int)))) then
  (some ((false)))
 else
  (aE (cW n rec_ref12_SameAll d0 d1) n (0:Int)).bind λQ1=>
  (match Q1 with
  |.inl G1=>some ((false))
  |.inr G2=>some ((true)))
set_option maxRecDepth 20000 in
theorem kO (n:Nat) (rec_ref12_SameAll: (List TH0)→(List TH0)→Option Bool) (hrec_ref12_SameAll: ∀ (M:Mem) (A0:Oa) (cap0:Nat) (d0:List TH0) (h0:Sli M 6 ao A0 cap0 d0) (A1:Oa) (cap1:Nat) (d1:List TH0) (h1:Sli M 6 ao A1 cap1 d1) (r:Bool) (hF:rec_ref12_SameAll d0 d1=some r),Ok Tryz.prog M 44 [sL A0 d0 cap0,sL A1 d1 cap1] (λ_ v=>v=bO r)) (M:Mem) (A0:Oa) (cap0:Nat) (d0:List TH0) (h0:Sli M 6 ao A0 cap0 d0) (A1:Oa) (cap1:Nat) (d1:List TH0) (h1:Sli M 6 ao A1 cap1 d1) (r:Bool) (hF:dO n rec_ref12_SameAll d0 d1=some r):Ok Tryz.prog M 44 [sL A0 d0 cap0,sL A1 d1 cap1] (λ_ v=>v=bO r):=by
 unfold dO at hF
 intro M1 hM0 w0 H w p0
 replace h0:=h0.mono hM0
 replace h1:=h1.mono hM0
 refine Re 27 Tryz.func44 rfl λa0 f0=>RR (Ye f0 1 λ_ f=>an (RR (Ye f 5 λ_ f=>RcF f hF (λB1 F1=>?_) λB1 F2=>?_)))
 ·have U1: ¬ (((d0.length:Nat):Int)=((d1.length:Nat):Int)):=(aM dI).1 B1
  refine RR (Ye f 1 λ_ f=>wp_ret (bC (au f rfl (Lk 4 (bO false)) ?_)))
  cases sI F1
  exact⟨_,rfl,M1,(mR _),p0,rfl⟩
 ·have U2: ¬ (¬ (((d0.length:Nat):Int)=((d1.length:Nat):Int))):=aq (aM dI) B1
  refine St (an (RR (Ye f 1 λ_ f=>wp_block ?_)))
  obtain⟨Q1,co,F3⟩:=bS F2
  refine wp_mono (Q:=λe a w=>(e=.ret∧(∃G1:Unit,Q1=.inl G1∧∃V2:Mem,M1.le V2∧Frm 27 [(4,bO false)] a∧Hp w0 V2 (H) w))∨(e=.exit 0∧(∃G2:Unit,Q1=.inr G2∧∃V3:Mem,M1.le V3∧Frm 27 [] a∧Hp w0 V3 (H) w))) (bT (n:=27) (w0:=w0) (M:=M1) (λ (I1,K1)=>[(0,sL A0 d0 cap0),(1,sL A1 d1 cap1),(5,iL K1)]) (λ (I1,K1)=>(H)) (λ (I1,K1) MM=>aE (cW n rec_ref12_SameAll d0 d1) I1 K1=some Q1) (λ (I1,K1)=>I1) (n,(0:Int)) (f.kp) p0 co ?_) ?_
  ·rintro⟨I1,K1⟩ V1 _ W1 J1 gM f N1
   have cu:=gM
   obtain⟨I2,lO,rfl,bx,T1⟩:=aZ cu
   unfold cW at bx
   refine an (RR (Ye f 4 λ_ f=>RcF f bx (λB2 F4=>?_) λB2 F11=>?_))
   ·have U3:=dI.1 B2
    refine St (an (wp_block (an (R_draw N1 kr kr (Y6 default f 2 λ_ f=>?_)))))
    obtain⟨X1,l1,F5⟩:=bS F4
    obtain⟨C1,cZ,jC,-,D1,R1⟩:=Sli.at_ (h0.mono J1) l1
    obtain⟨Z1,P1,rfl,B3⟩:=TH0.opn D1
    refine Y3 (v:=Pa (C1.add (K1.toNat*6))) f (λ_ pq=>Y30 jC rfl (len:=d0.length) (cap:=cap0) (k:=.i64) (i:=K1) (e:=31) (sz:=6) (ax l1) (aw l1)) λ_ f=>Y3 (v:=.agg (aTH0 X1 Z1 P1)) f (λ_ pq=>Y32 (cs:=(lTH0 X1 Z1 P1)) rfl (ad:=C1.add (K1.toNat*6)) (λj v h=>pq.cell (R1 j v h))) λ_ f=>Y6 default f 2 λ_ f=>?_
    obtain⟨X2,l2,F6⟩:=bS F5
    obtain⟨C2,gW,e_2,-,D2,R2⟩:=Sli.at_ (h1.mono J1) l2
    obtain⟨Z2,P2,rfl,B4⟩:=TH0.opn D2
    refine Y3 (v:=Pa (C2.add (K1.toNat*6))) f (λ_ pq=>Y30 e_2 rfl (len:=d1.length) (cap:=cap1) (k:=.i64) (i:=K1) (e:=31) (sz:=6) (ax l2) (aw l2)) λ_ f=>Y3 (v:=.agg (aTH0 X2 Z2 P2)) f (λ_ pq=>Y32 (cs:=(lTH0 X2 Z2 P2)) rfl (ad:=C2.add (K1.toNat*6)) (λj v h=>pq.cell (R2 j v h))) λ_ f=>?_
    obtain⟨X3,l3,F7⟩:=bS F6
    refine Y4 f (mt n rec_ref12_SameAll hrec_ref12_SameAll _ _ X1 (TH0.shutx (x:=X1) B3) _ X2 (TH0.shutx (x:=X2) B4) X3 l3) λ_ f=>Y6 default f 1 λ_ f=>Q_end rfl ?_
    intro W3 N3
    refine aK (RcF f F7 (λB5 F8=>?_) λB5 F9=>?_)
    ·have U4: (X3)=false:=by simpa using B5
     refine RR (Ye f 1 λ_ f=>wp_ret (ed (bC (bC ?_))))
     cases sI F8
     exact .inl ⟨rfl,(),(sI T1).symm,V1,J1,f.kp,N3⟩
    ·have U5: (X3)=true:=by simpa using B5
     refine wp_skip (dZ (aK (aA (Y f 1 λ_ f=>?_))))
     obtain⟨O1,F10⟩:=nS F9
     refine Y f 1 λ_ f=>?_
     have f:=f.st 16 (iW O1)
     refine Ye f 1 λ_ f=>?_
     cases sI F10
     exact⟨⟨I2,K1+1⟩,Nat.lt_succ_self _,V1,J1,T1,f.kp,N3⟩
   ·have U6:=aq dI B2
    refine wp_exit (eH (eH ?_))
    cases sI F11
    exact .inr ⟨rfl,(),(sI T1).symm,V1,J1,f.kp,N1⟩
  ·rintro _ _ W6 (⟨rfl,G1,rfl,V2,J2,f,N4⟩|⟨rfl,G2,rfl,V3,J3,f,N5⟩)
   ·refine ed (bC (au f rfl (Lk 4 (bO false)) ?_))
    cases sI F3
    exact⟨_,rfl,V2,J2,N4,rfl⟩
   ·refine kh (aK (RR (Ye f 1 λ_ f=>wp_ret (au f rfl (Lk 4 (bO true)) ?_))))
    cases sI F3
    exact⟨_,rfl,V3,J3,N5,rfl⟩
def cg (n:Nat):Nat→(List TH0)→(List TH0)→Option Bool
 |0=>λ_ _=>none
 |k+1=>dO n (cg n k)
def iT (n:Nat) (d0:List TH0) (d1:List TH0):Option Bool:=cg n n d0 d1
theorem lR (n:Nat) (M:Mem) (A0:Oa) (cap0:Nat) (d0:List TH0) (h0:Sli M 6 ao A0 cap0 d0) (A1:Oa) (cap1:Nat) (d1:List TH0) (h1:Sli M 6 ao A1 cap1 d1) (r:Bool) (hF:iT n d0 d1=some r):Ok Tryz.prog M 44 [sL A0 d0 cap0,sL A1 d1 cap1] (λ_ v=>v=bO r):=by
 have key: ∀ (k:Nat) (M:Mem) (A0:Oa) (cap0:Nat) (d0:List TH0) (h0:Sli M 6 ao A0 cap0 d0) (A1:Oa) (cap1:Nat) (d1:List TH0) (h1:Sli M 6 ao A1 cap1 d1) (r:Bool) (hF:cg n k d0 d1=some r),Ok Tryz.prog M 44 [sL A0 d0 cap0,sL A1 d1 cap1] (λ_ v=>v=bO r):=by
  intro k
  induction k with
  |zero=>intro M A0 cap0 d0 h0 A1 cap1 d1 h1 r hF;simp[cg] at hF
  |succ k ih=>intro M A0 cap0 d0 h0 A1 cap1 d1 h1 r hF;exact kO n (cg n k) ih M A0 cap0 d0 h0 A1 cap1 d1 h1 r hF
 exact key n M A0 cap0 d0 h0 A1 cap1 d1 h1 r hF
def jp (n:Nat) (d0:TH0) (d1:TH0):Option Bool:=
 bif(decide (d0.ab=d1.ab)) then
  (bif(decide (d0.aa=d1.aa)) then
   (bif(decide (d0.af=d1.af)) then
    (bif(decide (d0.ak=d1.ak)) then
     (bif(decide (d0.al=d1.al)) then
      ((iT n d0.fL d1.fL).bind λX1=>
      some ((X1)))
     else
      some ((false)))
    else
     some ((false)))
   else
    some ((false)))
  else
   some ((false)))
 else
  some ((false))
set_option maxRecDepth 20000 in
theorem nM (n:Nat) (M:Mem) (c0:Lv) (d0:TH0) (h0:Rep M (ao d0) c0) (c1:Lv) (d1:TH0) (h1:Rep M (ao d1) c1) (r:Bool) (hF:jp n d0 d1=some r):Ok Tryz.prog M 21 [.agg c0.toArray,.agg c1.toArray] (λ_ v=>v=bO r):=by
 unfold jp at hF
 intro M1 hM0 w0 H w p0
 replace h0:=Rep.mono hM0 _ _ h0
 replace h1:=Rep.mono hM0 _ _ h1
 obtain⟨Z1,P1,rfl,B1⟩:=TH0.opn h0
 obtain⟨Z2,P2,rfl,B2⟩:=TH0.opn h1
 refine Re 45 Tryz.func21 rfl λa0 f0=>RR (Y14 (cs:=(aTH0 d0 Z1 P1)) (T:=31) f0 p0 λQ1 V1 W1 J1 R1 N1 _ f=>?_)
 have R2:=bj R1
 refine Y14 (cs:=(aTH0 d1 Z2 P2)) (T:=31) f N1 λQ2 V2 W2 J2 R3 N2 _ f=>?_
 have R4:=bj R3
 refine Ye f 1 λ_ f=>RR (Y f 1 λ_ f=>Y16 f N2 (fzu J2 R2) 0 rfl λ_ f=>Y f 1 λ_ f=>Y16 f N2 R4 0 rfl λ_ f=>Y f 2 λ_ f=>?_)
 rcases cE hF with⟨B3,F1⟩|⟨B3,F11⟩
 ·have U1:=dI.1 B3
  have f:=f.st 10 (cB B3)
  refine Y f 1 λ_ f=>Y16 f N2 (fzu J2 R2) 1 rfl λ_ f=>Y f 1 λ_ f=>Y16 f N2 R4 1 rfl λ_ f=>Z f (Y36 rfl (l:=d0.aa) (m:=d1.aa)) λ_ f=>Y f 2 λ_ f=>?_
  rcases cE F1 with⟨B4,F2⟩|⟨B4,F10⟩
  ·have U2:=dI.1 B4
   have f:=f.st 17 (cB B4)
   refine Y f 1 λ_ f=>Y16 f N2 (fzu J2 R2) 2 rfl λ_ f=>Y f 1 λ_ f=>Y16 f N2 R4 2 rfl λ_ f=>Y f 3 λ_ f=>?_
   rcases cE F2 with⟨B5,F3⟩|⟨B5,F9⟩
   ·have U3:=dI.1 B5
    have f:=f.st 24 (cB B5)
    refine Y f 1 λ_ f=>Y16 f N2 (fzu J2 R2) 3 rfl λ_ f=>Y f 1 λ_ f=>Y16 f N2 R4 3 rfl λ_ f=>Z f (Y36 rfl (l:=d0.ak) (m:=d1.ak)) λ_ f=>Y f 2 λ_ f=>?_
    rcases cE F3 with⟨B6,F4⟩|⟨B6,F8⟩
    ·have U4:=dI.1 B6
     have f:=f.st 31 (cB B6)
     refine Y f 1 λ_ f=>Y16 f N2 (fzu J2 R2) 4 rfl λ_ f=>Y f 1 λ_ f=>Y16 f N2 R4 4 rfl λ_ f=>Z f (Y36 rfl (l:=d0.al) (m:=d1.al)) λ_ f=>Y f 2 λ_ f=>?_
     rcases cE F4 with⟨B7,F5⟩|⟨B7,F7⟩
     ·have U5:=dI.1 B7
      have f:=f.st 38 (cB B7)
      refine Y f 1 λ_ f=>Y16 f N2 (fzu J2 R2) 5 rfl λ_ f=>Y f 1 λ_ f=>Y16 f N2 R4 5 rfl λ_ f=>?_
      obtain⟨X1,l1,F6⟩:=bS F5
      refine Y19 f N2 (lR n _ Z1 P1 d0.fL (B1.mono (J1.trans J2)) Z2 P2 d1.fL (B2.mono (J1.trans J2)) X1 l1) λW3 N3 _ f=>Ye f 2 λ_ f=>wp_ret (au f rfl (Lk 4 (bO X1)) ?_)
      cases sI F6
      exact⟨_,rfl,V2,(J1.trans J2),N3,rfl⟩
     ·have U6:=aq dI B7
      have f:=f.st 38 (cB B7)
      refine Ye f 7 λ_ f=>wp_ret (au f rfl (Lk 4 (bO false)) ?_)
      cases sI F7
      exact⟨_,rfl,V2,(J1.trans J2),N2,rfl⟩
    ·have U7:=aq dI B6
     have f:=f.st 31 (cB B6)
     refine Ye f 14 λ_ f=>wp_ret (au f rfl (Lk 4 (bO false)) ?_)
     cases sI F8
     exact⟨_,rfl,V2,(J1.trans J2),N2,rfl⟩
   ·have U8:=aq dI B5
    have f:=f.st 24 (cB B5)
    refine Ye f 21 λ_ f=>wp_ret (au f rfl (Lk 4 (bO false)) ?_)
    cases sI F9
    exact⟨_,rfl,V2,(J1.trans J2),N2,rfl⟩
  ·have U9:=aq dI B4
   have f:=f.st 17 (cB B4)
   refine Ye f 28 λ_ f=>wp_ret (au f rfl (Lk 4 (bO false)) ?_)
   cases sI F10
   exact⟨_,rfl,V2,(J1.trans J2),N2,rfl⟩
 ·have U10:=aq dI B3
  have f:=f.st 10 (cB B3)
  refine Ye f 35 λ_ f=>wp_ret (au f rfl (Lk 4 (bO false)) ?_)
  cases sI F11
  exact⟨_,rfl,V2,(J1.trans J2),N2,rfl⟩
def en (n:Nat) (d0:TH0) (d1:TH0):Option Bool:=
 (jp n d0 d1).bind λX1=>
 some ((X1))
theorem ls (n:Nat) (M:Mem) (c0:Lv) (d0:TH0) (h0:Rep M (ao d0) c0) (c1:Lv) (d1:TH0) (h1:Rep M (ao d1) c1) (r:Bool) (hF:en n d0 d1=some r):Ok Tryz.prog M 10 [.agg c0.toArray,.agg c1.toArray] (λ_ v=>v=bO r):=by
 unfold en at hF
 intro M1 hM0 w0 H w p0
 replace h0:=Rep.mono hM0 _ _ h0
 replace h1:=Rep.mono hM0 _ _ h1
 obtain⟨Z1,P1,rfl,B1⟩:=TH0.opn h0
 obtain⟨Z2,P2,rfl,B2⟩:=TH0.opn h1
 refine Re 8 Tryz.func10 rfl λa0 f0=>RR (Y14 (cs:=(aTH0 d0 Z1 P1)) (T:=31) f0 p0 λQ1 V1 W1 J1 R1 N1 _ f=>?_)
 have R2:=bj R1
 refine Y14 (cs:=(aTH0 d1 Z2 P2)) (T:=31) f N1 λQ2 V2 W2 J2 R3 N2 _ f=>?_
 have R4:=bj R3
 refine Ye f 1 λ_ f=>RR (Z f (Y32 (cs:=(lTH0 d0 Z1 P1)) rfl (ad:=⟨Q1,0,none⟩) (λj v h=>N2.cell ((fzu J2 R2) j v h))) λ_ f=>Z f (Y32 (cs:=(lTH0 d1 Z2 P2)) rfl (ad:=⟨Q2,0,none⟩) (λj v h=>N2.cell (R4 j v h))) λ_ f=>?_)
 obtain⟨X1,l1,F1⟩:=bS hF
 refine Y19 f N2 (nM n _ _ d0 (TH0.shutx (x:=d0) (B1.mono (J1.trans J2))) _ d1 (TH0.shutx (x:=d1) (B2.mono (J1.trans J2))) X1 l1) λW3 N3 _ f=>Ye f 1 λ_ f=>wp_ret (au f rfl (Lk 4 (bO X1)) ?_)
 cases sI F1
 exact⟨_,rfl,V2,(J1.trans J2),N3,rfl⟩
theorem nf {n:Nat} {v:TD0} (hn:100000≤n) (h:v.aa.length≤5000):dE n v=some (nameV v):=by
 unfold dE nameV
 cases hk:decide (v.ab=3) with
 |false=>rw[cF,Bool.false_and]
 |true=>rw[cT,jU (by omega) (by omega),bnd,Bool.true_and]
theorem word_doc {n:Nat} {v:TD0} (hn:100000≤n) (h:v.aa.length≤5000):gb n v=some (wordV v):=by
 unfold gb wordV jo wordS
 cases hk:decide (v.ab=3) with
 |false=>rw[cF,Bool.false_and]
 |true=>
  rw[cT,Bool.true_and]
  cases hl:decide ((v.aa.length:Int)≤64) with
  |false=>rw[cF,bnd,Bool.false_and]
  |true=>rw[cT,kv (by omega) (by omega) (by omega),bnd,bnd,Bool.true_and]
theorem und_doc {n:Nat} {a k:Bs} (ha:a.length≤1000000) (hk:k.length≤1000000):gf n a k=some (undS a k):=by
 unfold gf undS
 by_cases h:a=[]
 ·rw[dT h,cT,if_pos h]
 ·rw[dF h,cF,if_neg h,aX (by simp;omega),aX (by simp;omega)]
theorem ko {n:Nat} {a:Bs} {i:Nat} (ha:a.length≤1000000) (hi:i≤8):bK n a (i:Int)=some (plcS a i):=by
 unfold bK kL
 rw[bnd,und_doc ha (by have:=num_len hi;omega),bnd]
 rfl
abbrev RX:=TH0×Int×Bs
def Doc {α:Type} (at0:Bs) (x:FX α) (o:Option (α×Int×Bs)):Prop:=match x with
 |.inl p=>p.1≠0∧∃j,o=some (j,p.1,p.2)
 |.inr x=>o=some (x,0,at0)
theorem lE {n:Nat} {at0 p:Bs} {e:Int}:bt n 0 at0 e p=some (e,p):=rfl
abbrev RcT:=Int→Bs→TD0→Bs→Option RX
structure RecOk (rc:RcT) (E:TD0→Bs→FX TH0) (l:List TD0) (at_:Bs):Prop where
 go: ∀x∈l,∀i,i≤8→∀at0,Doc at0 (E x (plcS at_ i)) (rc 0 at0 x (plcS at_ i))
 stop: ∀ (e:Int) at0 x p,e≠0→rc e at0 x p=some (ai,e,at0)
theorem ou {n : Nat} {rc : RcT} {E : TD0 → List UInt8 → FX TH0} {v : TD0} {at_ at0 : List UInt8} (hat : at_.length ≤ 1000000) (hl : v.ac.length ≤ 8)
  (hr : RecOk rc E v.ac at_) : ∀ (m i : Nat) (acc : List TH0), i + m = v.ac.length → acc.length ≤ i → ∀ q, m < q →
  ∃ b, aE (bA n rc v at_) q ((i : Int), 0, at0, acc) = some b ∧ (match exL E at_ i (v.ac.drop i) with | .inl p => p.1 ≠ 0 ∧ b.1 = p.1 ∧ b.2.1 = p.2 | .inr xs => b = (0, at0, acc ++ xs))
 | m, i, acc, hm, ha, q, hq => by
  obtain ⟨q, rfl⟩ : ∃ r, q = r + 1 := ⟨q - 1, by omega⟩
  rw [aE, bA]
  dsimp only
  by_cases hlt : i < v.ac.length
  ·obtain ⟨m, rfl⟩ : ∃ r, m = r + 1 := ⟨m - 1, by omega⟩
   have hg : aQ v.ac (i : Int) = some v.ac[i] := by simp [aQ, hlt]
   have hdoc := hr.go _ (List.getElem_mem hlt) i (by omega) at0
   rw [decide_eq_true (by omega : (i : Int) < (v.ac.length : Int)), cT, decide_eq_true rfl, bnd, cT, hg, bnd, ko hat (by omega), bnd, List.drop_eq_getElem_cons hlt, exL]
   have ih := fun acc h => ou (n := n) (at0 := at0) hat hl hr m (i + 1) acc (by omega) h q (by omega)
   have e : (i : Int) + 1 = ((i + 1 : Nat) : Int) := by omega
   cases hE : E v.ac[i] (plcS at_ i) with
   | inl p =>
    rw [hE] at hdoc
    obtain ⟨hp, j, hj⟩ := hdoc
    rw [hj, bnd, aX (by omega), bnd, aW (by omega) (by omega), bnd, e]
    obtain ⟨q, rfl⟩ : ∃ r, q = r + 1 := ⟨q - 1, by omega⟩
    dsimp only
    rw [aE, bA]
    dsimp only
    have key : (bif decide (((i + 1 : Nat) : Int) < ((v.ac.length : Nat) : Int)) then some (decide (p.1 = 0)) else some false : Option Bool) = some false := by
     cases decide (((i + 1 : Nat) : Int) < ((v.ac.length : Nat) : Int)) with
     | false => rfl
     | true => rw [cT, decide_eq_false hp]
    rw [key, bnd, cF, bnd]
    exact ⟨_, rfl, hp, rfl, rfl⟩
   | inr x =>
    rw [hE] at hdoc
    have hdoc' : rc 0 at0 v.ac[i] (plcS at_ i) = some (x, 0, at0) := hdoc
    rw [hdoc', bnd, aX (by omega), bnd, aW (by omega) (by omega), bnd, e]
    have ev : (⟨x.ab, x.aa, x.af, x.ak, x.al, x.fL⟩ : TH0) = x := by cases x; rfl
    dsimp only
    rw [ev]
    obtain ⟨b, hb, hc⟩ := ih (acc ++ [x]) (by rw [List.length_append, List.length_singleton]; omega)
    refine ⟨b, hb, ?_⟩
    cases hx : exL E at_ (i + 1) (v.ac.drop (i + 1)) with
    | inl p => rw [hx] at hc; exact hc
    | inr xs => rw [hx] at hc; dsimp only at hc ⊢; rw [hc, List.append_assoc]; rfl
  ·rw [decide_eq_false (by omega), cF, bnd, cF, bnd, List.drop_eq_nil_of_le (by omega), exL]
   refine ⟨_, rfl, ?_⟩
   dsimp only
   rw [List.append_nil]
theorem etaX (x:TH0): (⟨x.ab,x.aa,x.af,x.ak,x.al,x.fL⟩:TH0)=x:=by cases x;rfl
theorem pair_doc {rc : RcT} {E : TD0 → List UInt8 → FX TH0} {l : List TD0} {at_ at0 : List UInt8} (hr : RecOk rc E l at_) {a b : TD0} (ha : a ∈ l) (hb : b ∈ l) {i : Nat} (hi : i ≤ 7) :
  ∃ y1 y2, rc 0 at0 a (plcS at_ i) = some y1 ∧ rc y1.2.1 y1.2.2 b (plcS at_ (i + 1)) = some y2 ∧ (match exL E at_ i [a, b] with | .inl p => p.1 ≠ 0 ∧ y2.2.1 = p.1 ∧ y2.2.2 = p.2 | .inr xs => xs = [y1.1, y2.1] ∧ y2.2.1 = 0 ∧ y2.2.2 = at0) := by
 have h1 := hr.go a ha i (by omega) at0
 rw [exL, exL, exL]
 cases hE : E a (plcS at_ i) with
 | inl p =>
  rw [hE] at h1
  obtain ⟨hp, j, hj⟩ := h1
  exact ⟨_, _, hj, hr.stop p.1 p.2 _ _ hp, hp, rfl, rfl⟩
 | inr x =>
  rw [hE] at h1
  have h1' : rc 0 at0 a (plcS at_ i) = some (x, 0, at0) := h1
  have h2 := hr.go b hb (i + 1) (by omega) at0
  cases hE2 : E b (plcS at_ (i + 1)) with
  | inl p =>
   rw [hE2] at h2
   obtain ⟨hp, j, hj⟩ := h2
   exact ⟨_, _, h1', hj, hp, rfl, rfl⟩
  | inr y =>
   rw [hE2] at h2
   have h2' : rc 0 at0 b (plcS at_ (i + 1)) = some (y, 0, at0) := h2
   exact ⟨_, _, h1', h2', rfl, rfl, rfl⟩
theorem call_doc {n : Nat} {rc : RcT} {E : TD0 → List UInt8 → FX TH0} {key : List UInt8} {v : TD0} {at_ at0 : List UInt8} (hn : 100000 ≤ n) (hat : at_.length ≤ 1000000) (hv0 : v.aa.length ≤ 5000) (hv : ∀ x ∈ v.ac, x.aa.length ≤ 5000)
  (hr : RecOk rc E v.ac at_) : Doc at0 (callV E key v at_) (cH n rc 0 at0 key v at_) := by
 unfold cH callV
 have hshp : Doc at0 (shp at_) (some (ai, 121, at_)) := ⟨(by decide : (121 : Int) ≠ 0), _, rfl⟩
 have hend : (((some (Lp.nx ()) : Option (Lp Unit RX)).bind fun j => joinF j fun y_10 => (bt n 0 at0 (121 : Int) at_).bind fun x_52 => some ((ai, x_52.1, x_52.2)))) = some (ai, 121, at_) := rfl
 cases hk1 : decide (key = [82, 101, 102]) with
 | true =>
  rw [cT, cT, nf hn hv0, bnd, c1V]
  cases nameV v with
  | false => rw [cF, cF, hend]; exact hshp
  | true => rw [cT, cT, joinbr]; exact rfl
 | false =>
  rw [cF, cF]
  cases hk2 : decide (key = [71, 101, 116, 65, 116, 116]) with
  | true =>
   rw [cT, cT, c2V]
   rcases dY v with ⟨a, b, h, hk, hl⟩ | ⟨h, hk⟩
   ·have g0 : aQ v.ac 0 = some a := by rw [hl]; rfl
    have g1 : aQ v.ac 1 = some b := by rw [hl]; rfl
    rw [h, decide_eq_true hk, cT, decide_eq_true (by rw [hl]; rfl), cT, g0, bnd, bnd, g1, bnd, bnd, bnd, nf hn (hv a (by simp [hl])), bnd]
    dsimp only
    cases nameV a with
    | false => rw [cF, bnd, cF, hend]; exact hshp
    | true =>
     rw [cT, Bool.true_and]
     cases hb : decide (b.ab = 3) with
     | false => rw [cF, bnd, cF, hend]; exact hshp
     | true =>
      have := hv b (by simp [hl])
      rw [cT, attr_ref (by omega) (by omega), bnd, bnd, Bool.true_and]
      cases attrS b.aa with
      | false => rw [cF, cF, hend]; exact hshp
      | true => rw [cT, cT, joinbr]; exact rfl
   ·have key : (bif decide (v.ab = 4) then (bif decide (((v.ac.length : Nat) : Int) = 2) then ((aQ v.ac (0 : Int)).bind fun x_2 => (dE n x_2).bind fun x_3 => bif x_3 then ((aQ v.ac (1 : Int)).bind fun x_4 => bif (decide (x_4.ab = 3)) then ((aQ v.ac (1 : Int)).bind fun x_5 => (ga n x_5.aa).bind fun x_6 => some ((x_6))) else some ((false))) else some ((false))) else some ((false))) else some ((false)) : Option Bool) = some false := by
     by_cases h4 : v.ab = 4
     ·rw [decide_eq_true h4, cT, decide_eq_false (by rcases hk with hk | hk <;> omega), cF]
     ·rw [decide_eq_false h4, cF]
    rw [h, key, bnd, cF, hend]
    exact hshp
  | false =>
   rw [cF, cF]
   cases hk3 : decide (key = [83, 117, 98]) with
   | true =>
    rw [cT, cT, c3V]
    cases h3 : decide (v.ab = 3) with
    | false => rw [cF, cF, hend]; exact hshp
    | true =>
     rw [cT, cT, lex_ref (by omega) (by omega), bnd]
     cases hz : decide ((lexS v.aa).2.2 = 0) with
     | true => rw [Bool.not_true, cF, cT, joinbr]; exact rfl
     | false => rw [Bool.not_false, cT, cF, lE, bnd, joinbr]; exact ⟨of_decide_eq_false hz, _, rfl⟩
   | false =>
    rw [cF, cF]
    cases hk4 : decide (key = [73, 102]) with
    | true =>
     rw [cT, cT, c4V]
     rcases iR v with ⟨a, b, c, h, hk, hl⟩ | ⟨h, hk⟩
     ·have g0 : aQ v.ac 0 = some a := by rw [hl]; rfl
      have g1 : aQ v.ac 1 = some b := by rw [hl]; rfl
      have g2 : aQ v.ac 2 = some c := by rw [hl]; rfl
      have e1 : bK n at_ 1 = some (plcS at_ 1) := ko (i := 1) hat (by omega)
      have e2 : bK n at_ 2 = some (plcS at_ (1 + 1)) := ko (i := 2) hat (by omega)
      rw [h, decide_eq_true hk, cT, decide_eq_true (by rw [hl]; rfl), cT, g0, bnd, nf hn (hv a (by simp [hl])), bnd, bnd]
      dsimp only
      cases nameV a with
      | false => rw [cF, cF, hend]; exact hshp
      | true =>
       obtain ⟨y1, y2, h1, h2, h3⟩ := pair_doc (at0 := at0) hr (a := b) (b := c) (by simp [hl]) (by simp [hl]) (i := 1) (by omega)
       rw [cT, cT, g1, bnd, e1, bnd, h1, bnd, bnd]
       dsimp only
       rw [g2, bnd, e2, bnd, h2, bnd, bnd, bnd, joinbr, etaX, etaX]
       cases hx : exL E at_ 1 [b, c] with
       | inl p => rw [hx] at h3; dsimp only at h3; rw [h3.2.1, h3.2.2]; exact ⟨h3.1, _, rfl⟩
       | inr xs => rw [hx] at h3; dsimp only at h3; rw [h3.2.1, h3.2.2, h3.1]; exact rfl
     ·have key : (bif decide (v.ab = 4) then (bif decide (((v.ac.length : Nat) : Int) = 3) then ((aQ v.ac (0 : Int)).bind fun x_2 => (dE n x_2).bind fun x_3 => some x_3) else some ((false))) else some ((false)) : Option Bool) = some false := by
       by_cases h4 : v.ab = 4
       ·rw [decide_eq_true h4, cT, decide_eq_false (by rcases hk with hk | hk <;> omega), cF]
       ·rw [decide_eq_false h4, cF]
      rw [h, key, bnd, cF, hend]
      exact hshp
    | false =>
     rw [cF, cF]
     cases hk5 : decide (key = [74, 111, 105, 110]) with
     | true =>
      rw [cT, cT, c5V]
      rcases dY v with ⟨a, b, h, hk, hl⟩ | ⟨h, hk⟩
      ·have g0 : aQ v.ac 0 = some a := by rw [hl]; rfl
       have g1 : aQ v.ac 1 = some b := by rw [hl]; rfl
       have e1 : bK n at_ 1 = some (plcS at_ 1) := ko (i := 1) hat (by omega)
       rw [h, decide_eq_true hk, cT, decide_eq_true (by rw [hl]; rfl), cT, g0, bnd, word_doc hn (hv a (by simp [hl])), bnd, bnd]
       dsimp only
       cases wordV a with
       | false => rw [cF, cF, hend]; exact hshp
       | true =>
        have hd := hr.go b (by simp [hl]) 1 (by omega) at0
        rw [cT, cT, g1, bnd, e1, bnd, exL, exL]
        cases hE : E b (plcS at_ 1) with
        | inl p =>
         rw [hE] at hd
         obtain ⟨hp, j, hj⟩ := hd
         rw [hj, bnd, bnd, bnd, joinbr]
         exact ⟨hp, _, rfl⟩
        | inr x =>
         rw [hE] at hd
         have hd' : rc 0 at0 b (plcS at_ 1) = some (x, 0, at0) := hd
         rw [hd', bnd, bnd, bnd, joinbr, etaX]
         exact rfl
      ·have key : (bif decide (v.ab = 4) then (bif decide (((v.ac.length : Nat) : Int) = 2) then ((aQ v.ac (0 : Int)).bind fun x_2 => (gb n x_2).bind fun x_3 => some x_3) else some ((false))) else some ((false)) : Option Bool) = some false := by
        by_cases h4 : v.ab = 4
        ·rw [decide_eq_true h4, cT, decide_eq_false (by rcases hk with hk | hk <;> omega), cF]
        ·rw [decide_eq_false h4, cF]
       rw [h, key, bnd, cF, hend]
       exact hshp
     | false =>
      rw [cF, cF]
      cases hk6 : decide (key = [83, 101, 108, 101, 99, 116]) with
      | true =>
       rw [cT, cT, c6V]
       rcases dY v with ⟨a, b, h, hk, hl⟩ | ⟨h, hk⟩
       ·have g0 : aQ v.ac 0 = some a := by rw [hl]; rfl
        have g1 : aQ v.ac 1 = some b := by rw [hl]; rfl
        have e0 : bK n at_ 0 = some (plcS at_ 0) := ko (i := 0) hat (by omega)
        have e1 : bK n at_ 1 = some (plcS at_ (0 + 1)) := ko (i := 1) hat (by omega)
        obtain ⟨y1, y2, h1, h2, h3⟩ := pair_doc (at0 := at0) hr (a := a) (b := b) (by simp [hl]) (by simp [hl]) (i := 0) (by omega)
        rw [h, decide_eq_true hk, cT, decide_eq_true (by rw [hl]; rfl), bnd, cT, g0, bnd, e0, bnd, h1, bnd, bnd]
        dsimp only
        rw [g1, bnd, e1, bnd, h2, bnd, bnd, joinbr, etaX, etaX]
        cases hx : exL E at_ 0 [a, b] with
        | inl p => rw [hx] at h3; dsimp only at h3; rw [h3.2.1, h3.2.2]; exact ⟨h3.1, _, rfl⟩
        | inr xs => rw [hx] at h3; dsimp only at h3; rw [h3.2.1, h3.2.2, h3.1]; exact rfl
       ·have key : (bif decide (v.ab = 4) then (some (decide (((v.ac.length : Nat) : Int) = 2))) else some ((false)) : Option Bool) = some false := by
         by_cases h4 : v.ab = 4
         ·rw [decide_eq_true h4, cT, decide_eq_false (by rcases hk with hk | hk <;> omega)]
         ·rw [decide_eq_false h4, cF]
        rw [h, key, bnd, cF, hend]
        exact hshp
      | false =>
       rw [cF, cF, hend]
       exact hshp
theorem stop_doc {n:Nat} (k:Nat) (e:Int) (at0:Bs) (x:TD0) (p:Bs) (he:e≠0):aO n (k+1) e at0 x p=some (ai,e,at0):=by
 show bN n (aO n k) e at0 x p=_
 unfold bN
 rw[dF he,nF,cT]
theorem expr_doc {n:Nat} (hn:100000≤n): ∀ (k d:Nat) (v:TD0) (at_ at0:Bs),d<k→Small d v→OkV v→at_.length+6000*d≤900000→Doc at0 (exprV d v at_) (aO n k 0 at0 v at_)
 |_,0,v,_,_,_,h,_,_=>h.elim
 |0,d+1,v,_,_,h,_,_,_=>absurd h (by omega)
 |k+1,d+1,v,at_,at0,hk,hs,hok,hat=>by
  have hs0:=hs
  obtain⟨s1,s2,s3,s4,s5⟩:=hs
  have hp:=OkV.plain hok
  obtain⟨k,rfl⟩: ∃j,k=j+1:=⟨k-1,by omega⟩
  have ih: ∀x,Small d x→OkV x→∀p at0:Bs,p.length+6000*d≤900000→Doc at0 (exprV d x p) (aO n (k+1) 0 at0 x p):=λx hx hx' p at0 h=>expr_doc hn (k+1) d x p at0 (by omega) hx hx' h
  show Doc at0 (exprB (exprV d) v at_) (bN n (aO n (k+1)) 0 at0 v at_)
  unfold bN
  have hshp:Doc at0 (shp at_) (some (ai,121,at_)):=⟨(by decide: (121:Int)≠0),_,rfl⟩
  have hend: (((some (Lp.nx ()):Option (Lp Unit RX)).bind λj=>joinF j λy_10=>(bt n 0 at0 (121:Int) at_).bind λx_52=>some ((ai,x_52.1,x_52.2))))=some (ai,121,at_):=rfl
  rw[dT rfl,nT,cF]
  cases h3:decide (v.ab=3) with
  |true=>
   rw[cT,word_doc hn s3,bnd,exprB,h3,cT]
   cases wordV v with
   |false=>rw[nF,cT,cF,lE,bnd,joinbr];exact⟨(by decide: (121:Int)≠0),_,rfl⟩
   |true=>rw[nT,cF,cT,joinbr];exact rfl
  |false=>
   rw[cF]
   cases h2:decide (v.ab=2) with
   |true=>rw[cT,exprB,h3,cF,h2,cT,joinbr];exact rfl
   |false=>
    rw[cF]
    cases h4:decide (v.ab=4) with
    |true=>
     rw[cT,exprB,h3,cF,h2,cF,h4,cT]
     cases h8:decide (((v.ac.length:Nat):Int)≤8) with
     |false=>
      have h8':=of_decide_eq_false h8
      rw[cF,dT (by omega),cT,lE,bnd,bnd]
      obtain⟨m,hm⟩: ∃m,n=m+1:=⟨n-1,by omega⟩
      have: ∀q,aE (bA n (aO n (k+1)) v at_) (q+1) ((0:Int),3,at_,([]:List TH0))=some (3,at_,[]):=λq=>by
       rw[aE,bA]
       dsimp only
       rw[dT (by omega),cT,dF (by decide),bnd,cF,bnd]
      have:=this m
      rw[←hm] at this
      dsimp only
      rw[this,bnd,joinbr]
      exact⟨(by decide: (3:Int)≠0),_,rfl⟩
     |true=>
      have h8':=of_decide_eq_true h8
      rw[cT,dF (by omega),cF,bnd]
      obtain⟨b,hb,hc⟩:=ou (n:=n) (rc:=aO n (k+1)) (E:=exprV d) (v:=v) (at_:=at_) (at0:=at0) (by omega) (by omega)
       ⟨λx hx i hi at0=>ih x (s5 x hx) (hok.part hx) _ _ (by have:=li (a:=at_) hi;omega),λe at0 x p he=>stop_doc k e at0 x p he⟩ v.ac.length 0 [] (by omega) (by simp) n (by omega)
      have e1: ((0:Nat):Int)=0:=rfl
      rw[e1] at hb
      rw[List.drop_zero] at hc
      dsimp only
      rw[hb,bnd,joinbr]
      cases hx:exL (exprV d) at_ 0 v.ac with
      |inl p=>rw[hx] at hc;dsimp only at hc;rw[hc.2.1,hc.2.2];exact⟨hc.1,_,rfl⟩
      |inr xs=>rw[hx] at hc;dsimp only at hc;rw[hc];exact rfl
    |false=>
     have k3:=of_decide_eq_false h3
     have k2:=of_decide_eq_false h2
     have k4:=of_decide_eq_false h4
     rw[cF]
     cases h5:decide (v.ab=5) with
     |false=>
      rw[cF,jh k3 k2 k4 (λh=>of_decide_eq_false h5 (Classical.byContradiction λh'=>by have:=hp.2.2.2.2.2.2.2 h';omega)),hend]
      exact hshp
     |true=>
      rw[cT]
      cases h1:decide (((v.ae.length:Nat):Int)=1) with
      |false=>
       rw[cF,jh k3 k2 k4 (λh=>of_decide_eq_false h1 (by omega)),hend]
       exact hshp
      |true=>
       obtain⟨key,x,hks,hls⟩:=one_key hp (of_decide_eq_true h5) (by have:=of_decide_eq_true h1;omega)
       have hx:x∈v.ac:=by rw[hls];simp
       have hkey:key.length≤5000:=s4 key (by rw[hks];simp)
       have hxs:x.aa.length≤5000:=(Small.wide (s5 x hx)).2.2.1
       have hxl: ∀y∈x.ac,y.aa.length≤5000:=λy hy=>(Small.wide (js (s5 x hx) hy)).2.2.1
       have g0:aQ v.ae 0=some key:=by rw[hks];rfl
       have g1:aQ v.ac 0=some x:=by rw[hls];rfl
       have hu:=und_doc (n:=n) (a:=at_) (k:=key) (by omega) (by omega)
       have hul:=ny at_ key
       have hr:RecOk (aO n (k+1)) (exprV d) x.ac (undS at_ key):=
        ⟨λy hy i hi at0=>ih y (js (s5 x hx) hy) ((hok.part hx).part hy) _ _ (by have hpl:=li (a:=undS at_ key) hi;omega),λe at0 x p he=>stop_doc k e at0 x p he⟩
       rw[mS (of_decide_eq_true h5) hks hls,cT,g0,bnd,g1,bnd,bnd,hu,bnd]
       have hcall:=call_doc (n:=n) (at0:=at0) (key:=key) hn (by omega) hxs hxl hr
       generalize cH n (aO n (k+1)) 0 at0 key x (undS at_ key)=o at hcall ⊢
       cases hE:callV (exprV d) key x (undS at_ key) with
       |inl p=>
        rw[hE] at hcall
        obtain⟨hp,j,hj⟩:=hcall
        rw[hj,bnd,joinbr]
        exact⟨hp,_,rfl⟩
       |inr z=>
        rw[hE] at hcall
        have hcall':o=some (z,0,at0):=hcall
        rw[hcall',bnd,joinbr]
        exact rfl
end Go.Proofs.YtkopljikappieaaGreatDoor
end
section
namespace Go.Vc
open Go Go.RowKit
section
variable {P:Program} {w0 w:World} {M:Mem} {H:List Ent} {e T:TypeId} {k:IntKind}
end
section
variable {P:Program} {ops:Array Oper} {n:Nat} {Q:Exit→Act→World→Prop} {L:Fr} {a:Act} {w0 w:World} {M:Mem} {H:List Ent} {dd:List Deferred}
end
end Go.Vc
end
section
namespace Go.Vc
open Go Go.RowKit Go.Sort
section
variable {α:Type}
end
section
variable {α:Type} {P:Program} {ops:Array Oper} {n:Nat} {Q:Exit→Act→World→Prop} {L:Fr} {a:Act} {w0 w:World} {M:Mem} {H:List Ent} {sz:Nat} {f:α→Dat} {dd:List Deferred}
end
theorem strs_eq_ {M:Mem}: ∀ {xs:List Bs} {cs:Lv},ag M (xs.map Dat.str) cs→cs=xs.map S
 |[],_,h=>h
 |x::r,_,⟨c,c',e1,e2,h⟩=>by
  subst e1
  have e3:c=[S x]:=e2
  rw[e3,strs_eq_ h];rfl
theorem strs_rep {M:Mem}: ∀xs:List Bs,ag M (xs.map Dat.str) (xs.map S)
 |[]=>rfl
 |x::r=>⟨[S x],_,rfl,rfl,strs_rep r⟩
end Go.Vc
end
section
namespace Go.Proofs.YtkopljikappieaaGreatDoor
open Go Go.Vc Go.RowKit Go.Sort
def insG {α:Type} (le:α→α→Bool) (x:α):List α→List α
 |[]=>[x]
 |y::r=>bif le x y then x::y::r else y::insG le x r
def sortG {α:Type} (le:α→α→Bool):List α→List α
 |[]=>[]
 |x::r=>insG le x (sortG le r)
section
variable {α:Type} {le:α→α→Bool}
theorem lJ (le:α→α→Bool) (x:α): ∀l,(insG le x l).Perm (x::l)
 |[]=>List.Perm.refl _
 |y::r=>by
  unfold insG
  cases le x y with
  |true=>exact List.Perm.refl _
  |false=>exact((lJ le x r).cons y).trans (List.Perm.swap x y r)
theorem kQ (le:α→α→Bool): ∀l,(sortG le l).Perm l
 |[]=>List.Perm.refl _
 |x::r=>(lJ le x _).trans ((kQ le r).cons x)
theorem sortG_len (le:α→α→Bool) (l:List α): (sortG le l).length=l.length:=(kQ le l).length_eq
theorem mh (ht: ∀a b c,le a b=true→le b c=true→le a c=true) (hn: ∀a b,le a b=true∨le b a=true) (x:α): ∀l,l.Pairwise (λa b=>le a b=true)→(insG le x l).Pairwise (λa b=>le a b=true)
 |[],_=>by simp[insG]
 |y::r,h=>by
  obtain⟨h1,h2⟩:=List.pairwise_cons.1 h
  unfold insG
  cases hxy:le x y with
  |true=>exact List.pairwise_cons.2 ⟨λz hz=>by
   rcases List.mem_cons.1 hz with rfl|hz
   ·exact hxy
   ·exact ht _ _ _ hxy (h1 z hz),h⟩
  |false=>
   refine List.pairwise_cons.2 ⟨λz hz=>?_,mh ht hn x r h2⟩
   rcases List.mem_cons.1 ((lJ le x r).mem_iff.1 hz) with rfl|hz
   ·exact(hn z y).resolve_left (by simp[hxy])
   ·exact h1 z hz
theorem lv (ht: ∀a b c,le a b=true→le b c=true→le a c=true) (hn: ∀a b,le a b=true∨le b a=true): ∀l,(sortG le l).Pairwise (λa b=>le a b=true)
 |[]=>List.Pairwise.nil
 |x::r=>mh ht hn x _ (lv ht hn r)
theorem sortG_eq (ht: ∀a b c,le a b=true→le b c=true→le a c=true) (hn: ∀a b,le a b=true∨le b a=true) (ha: ∀a b,le a b=true→le b a=true→a=b) (l:List α):l.mergeSort le=sortG le l:=
 List.Perm.eq_of_pairwise (le:=λa b=>le a b=true) (λa b _ _ h1 h2=>ha a b h1 h2) (List.pairwise_mergeSort ht (λa b=>by simpa using hn a b) l) (lv ht hn l) ((List.mergeSort_perm l _).trans (kQ _ l).symm)
end
def leS (x y:Bs):Bool:=decide (x≤y)
theorem sortS_eq (l:List Bs):l.mergeSort (λx y=>decide (x≤y))=sortG leS l:=
 sortG_eq (le:=leS) (λa b c h1 h2=>by simp only[leS,decide_eq_true_eq] at*;exact List.le_trans h1 h2) (λa b=>by simp only[leS,decide_eq_true_eq];exact List.le_total a b) (λa b h1 h2=>by simp only[leS,decide_eq_true_eq] at*;exact List.le_antisymm h1 h2) l
def h_SortS (_:Nat) (d:List Bs):Option (List Bs):=aS (d.length<4611686018427387904) (some (sortG leS d))
theorem h_SortS_ok (n:Nat) (M:Mem) (A:Oa) (cap:Nat) (d:List Bs) (cs:Lv) (hr:ag M (d.map Dat.str) cs) (r:List Bs) (hF:h_SortS n d=some r):
 OkH Tryz.prog M [.row 9 1 (sL A d cap) d.length cs] 96 [sL A d cap] λM' E' v=>∃s,v=.tuple #[]∧E'=[.row 9 1 (sL A d cap) r.length s]∧ag M' (r.map Dat.str) s∧r.length=d.length:=by
 unfold h_SortS at hF
 obtain⟨g0,hF⟩:=kn hF
 obtain rfl:=Option.some.inj hF
 have hl:=sortG_len leS d
 obtain rfl:=strs_eq_ hr
 intro M2 hM w0 H w hp
 refine(sortRow (P:=Tryz.prog) (f:=96) (e:=9) (enc:=S) (zs:=d) (ys:=sortG leS d) hl (λblk off cap w hH hb=>by have:=Tryz.slices_Sort_string blk off cap d w hH hb g0;rwa [sortS_eq] at this) (λ_ M=>Ok.ofPure λw=>Tryz.slices_Sort_string_none none 0 w) M (sL A d cap) M2 hM w0 H w hp).mono λ_ w' ⟨v,he,M',E',h1,h2,h3,h4⟩=>⟨v,he,M',E',h1,h2,_,h3,by rw[hl];exact h4,strs_rep _,hl⟩
end Go.Proofs.YtkopljikappieaaGreatDoor
end
section
namespace Go.Proofs.YtkopljikappieaaGreatDoor
open Go Go.Vc Go.RowKit
def cL (n:Nat) (d0:List Bs) (d1:Bs) (K1:Int):Option (Lp Int (Sum Int Unit)):=
    bif(decide (K1<((d0.length:Nat):Int))) then
     ((aQ d0 K1).bind λX1=>
     bif(decide (d1=X1)) then
      (some (.br (.inl K1)))
     else
      aS (inR .i64 (K1+1))<|
      some (.nx (K1+1)))
    else
     some (.br (.inr ()))
def cm (n:Nat) (d0:List Bs) (d1:Bs):Option Int:=
 (aE (cL n d0 d1) n (0:Int)).bind λQ1=>
 (match Q1 with
 |.inl G1=>some (G1)
 |.inr G2=>some ((-1:Int)))
theorem dP (n:Nat) (M:Mem) (A0:Oa) (cap0:Nat) (d0:List Bs) (h0:Sli M 1 Dat.str A0 cap0 d0) (d1:Bs) (r:Int) (hF:cm n d0 d1=some r):Ok Tryz.prog M 131 [sL A0 d0 cap0,S d1] (λ_ v=>v=iL r):=by
 unfold cm at hF
 intro M1 hM0 w0 H w p0
 replace h0:=h0.mono hM0
 refine Re 19 Tryz.func131 rfl λa0 f0=>RR (Ye f0 1 λ_ f=>an (RR (Ye f 3 λ_ f=>wp_block ?_)))
 obtain⟨Q1,co,F1⟩:=bS hF
 refine wp_mono (Q:=λe a w=>(e=.ret∧(∃G1:Int,Q1=.inl G1∧∃V2:Mem,M1.le V2∧Frm 19 [(4,iL G1)] a∧Hp w0 V2 (H) w))∨(e=.exit 0∧(∃G2:Unit,Q1=.inr G2∧∃V3:Mem,M1.le V3∧Frm 19 [] a∧Hp w0 V3 (H) w))) (bT (n:=19) (w0:=w0) (M:=M1) (λ (I1,K1)=>[(0,sL A0 d0 cap0),(1,S d1),(7,iL ((d0.length:Nat):Int)),(8,iL K1)]) (λ (I1,K1)=>(H)) (λ (I1,K1) MM=>aE (cL n d0 d1) I1 K1=some Q1) (λ (I1,K1)=>I1) (n,(0:Int)) (f.kp) p0 co ?_) ?_
 ·rintro⟨I1,K1⟩ V1 _ W1 J1 gM f N1
  have cu:=gM
  obtain⟨I2,lO,rfl,bx,T1⟩:=aZ cu
  unfold cL at bx
  refine RR (Ye f 1 λ_ f=>an (RcF f bx (λB1 F2=>?_) λB1 F7=>?_))
  ·have U1:=dI.1 B1
   refine St (an (wp_block (RR (Ye f 2 λ_ f=>RR (Y f 3 λ_ f=>?_)))))
   obtain⟨X1,l1,F3⟩:=bS F2
   obtain⟨C1,cZ,jC,-,D1,R1⟩:=Sli.at_ (h0.mono J1) l1
   obtain rfl:cZ=[S X1]:=D1
   refine Z f (Y30 jC rfl (len:=d0.length) (cap:=cap0) (k:=.i64) (i:=K1) (e:=9) (sz:=1) (ax l1) (aw l1)) λ_ f=>Y16 f N1 R1 0 rfl λ_ f=>Z f (Y36 rfl (l:=d1) (m:=X1)) λ_ f=>eT (RcF f F3 (λB2 F4=>?_) λB2 F5=>?_)
   ·have U2:=dI.1 B2
    refine RR (Ye f 2 λ_ f=>wp_ret (ed (bC (bC ?_))))
    cases sI F4
    exact .inl ⟨rfl,K1,(sI T1).symm,V1,J1,f.kp,N1⟩
   ·have U3:=aq dI B2
    refine wp_skip (dZ (aK (aA ?_)))
    obtain⟨O1,F6⟩:=nS F5
    refine Y f 1 λ_ f=>?_
    have f:=f.st 18 (iW O1)
    refine Ye f 1 λ_ f=>?_
    cases sI F6
    exact⟨⟨I2,K1+1⟩,Nat.lt_succ_self _,V1,J1,T1,f.kp,N1⟩
  ·have U4:=aq dI B1
   refine wp_exit (eH (eH ?_))
   cases sI F7
   exact .inr ⟨rfl,(),(sI T1).symm,V1,J1,f.kp,N1⟩
 ·rintro _ _ W4 (⟨rfl,G1,rfl,V2,J2,f,N2⟩|⟨rfl,G2,rfl,V3,J3,f,N3⟩)
  ·refine ed (bC (au f rfl (Lk 4 (iL G1)) ?_))
   cases sI F1
   exact⟨_,rfl,V2,J2,N2,rfl⟩
  ·refine kh (aK (RR (Ye f 1 λ_ f=>wp_ret (au f rfl (Lk 4 (iL (-1))) ?_))))
   cases sI F1
   exact⟨_,rfl,V3,J3,N3,rfl⟩
def bV (n:Nat) (d0:List Bs) (d1:Bs):Option Bool:=
 (cm n d0 d1).bind λX1=>
 some ((decide ((0:Int)≤X1)))
theorem dk (n:Nat) (M:Mem) (A0:Oa) (cap0:Nat) (d0:List Bs) (h0:Sli M 1 Dat.str A0 cap0 d0) (d1:Bs) (r:Bool) (hF:bV n d0 d1=some r):Ok Tryz.prog M 92 [sL A0 d0 cap0,S d1] (λ_ v=>v=bO r):=by
 unfold bV at hF
 intro M1 hM0 w0 H w p0
 replace h0:=h0.mono hM0
 refine Re 9 Tryz.func92 rfl λa0 f0=>RR (Ye f0 1 λ_ f=>RR (Y f 2 λ_ f=>?_))
 obtain⟨X1,l1,F1⟩:=bS hF
 refine Y19 f p0 (dP n _ A0 cap0 d0 h0 d1 X1 l1) λW1 N1 _ f=>Ye f 2 λ_ f=>wp_ret (au f rfl (Lk 4 (bO (decide ((0:Int)≤X1)))) ?_)
 cases sI F1
 exact⟨_,rfl,M1,(mR _),N1,rfl⟩
end Go.Proofs.YtkopljikappieaaGreatDoor
end
section
namespace Go.Vc
open Go Go.RowKit
variable {dd:List Deferred}
section
variable {P:Program} {α:Type} {ops:Array Oper} {n:Nat} {L:Fr} {a:Act} {w0 w:World} {M:Mem} {H:List Ent} {Q:Exit→Act→World→Prop} {sz:Nat} {f:α→Dat}
end
end Go.Vc
end
section
namespace Go.Proofs.YtkopljikappieaaGreatDoor
open Go Go.Vc Go.RowKit
def lz (n:Nat) (d0:TD0) (d1:Bs):Option (TD0×Bool):=
 (cm n d0.ae d1).bind λX1=>
 ((bif(!(decide (d0.ab=5))) then
  (some ((true)))
   else
    bif(!(decide (((d0.ae.length:Nat):Int)=((d0.ac.length:Nat):Int)))) then
     (some ((true)))
    else
     some ((decide (X1<0))):Option Bool)).bind λG1=>
 bif G1 then
  (some ((z_TD0,(false))))
 else
  (aQ d0.ac X1).bind λX2=>
  some ((X2,(true)))
theorem mn (n:Nat) (M:Mem) (hG:GL M) (c0:Lv) (d0:TD0) (h0:Rep M (ar d0) c0) (d1:Bs) (r:TD0×Bool) (hF:lz n d0 d1=some r):Ok Tryz.prog M 94 [.agg c0.toArray,S d1] (λM' v=>∃ (c0:Lv),v=.tuple #[.agg c0.toArray,bO r.2]∧Rep M' (ar r.1) c0):=by
 unfold lz at hF
 intro M1 hM0 w0 H w p0
 replace hG:=GL.mono hM0 hG
 replace h0:=Rep.mono hM0 _ _ h0
 obtain⟨Z1,P1,Z2,P2,rfl,B1,B2⟩:=TD0.opn h0
 refine Re 33 Tryz.func94 rfl λa0 f0=>RR (Y14 (cs:=(aTD0 d0 Z1 P1 Z2 P2)) (T:=26) f0 p0 λQ1 V1 W1 J1 R1 N1 _ f=>?_)
 have R2:=bj R1
 refine Y13 f N1 (.cells #[iB 0,bO false,iL 0,S [],Sn,Sn] 26 (0,0)) λQ2 W2 N2 _ f=>Ye f 1 λ_ f=>RR (Y f 1 λ_ f=>Y16 f N2 R2 5 rfl λ_ f=>Y f 1 λ_ f=>?_)
 obtain⟨X1,l1,F1⟩:=bS hF
 refine Y19 f N2 (dP n _ Z2 P2 d0.ae (B2.mono J1) d1 X1 l1) λW3 N3 _ f=>Ye f 1 λ_ f=>an (an ?_)
 obtain⟨gN,ec,F2⟩:=bS F1
 refine bD (λa_20 W4=>∃G1:Bool,gN=G1∧∃V2:Mem,V1.le V2∧Frm 33 [(2,pP Q1),(4,pP Q2),(6,iL X1),(26,bO G1)] a_20∧Hp w0 V2 ((oC Q2 #[iB 0,bO false,iL 0,S [],Sn,Sn] 26)::H) W4) ?_ ?_
 ·refine aA (Y f 1 λ_ f=>Y16 f N3 R2 0 rfl λ_ f=>Y f 2 λ_ f=>?_)
  rcases cE ec with⟨B3,F3⟩|⟨B3,F4⟩
  ·have U1: ¬ (d0.ab=5):=(aM dI).1 B3
   have f:=f.st 14 (cB B3)
   refine Ye f 12 λ_ f=>?_
   exact⟨(true),(sI F3).symm,V1,(mR _),f.kp,N3⟩
  ·have U2: ¬ (¬ (d0.ab=5)):=aq (aM dI) B3
   have f:=f.st 14 (cB B3)
   refine Y f 1 λ_ f=>Y16 f N3 R2 5 rfl λ_ f=>Y f 2 λ_ f=>Y16 f N3 R2 4 rfl λ_ f=>Y f 4 λ_ f=>?_
   rcases cE F4 with⟨B4,F5⟩|⟨B4,F6⟩
   ·have U3: ¬ (((d0.ae.length:Nat):Int)=((d0.ac.length:Nat):Int)):=(aM dI).1 B4
    have f:=f.st 23 (cB B4)
    refine Ye f 3 λ_ f=>?_
    exact⟨(true),(sI F5).symm,V1,(mR _),f.kp,N3⟩
   ·have U4: ¬ (¬ (((d0.ae.length:Nat):Int)=((d0.ac.length:Nat):Int))):=aq (aM dI) B4
    have f:=f.st 23 (cB B4)
    refine Ye f 3 λ_ f=>?_
    exact⟨(decide (X1<0)),(sI F6).symm,V1,(mR _),f.kp,N3⟩
 ·rintro a_20 W4 ⟨G1,dC,V2,J2,f,N4⟩
  subst gN
  refine aK (RcF f F2 (λB5 F7=>?_) λB5 F8=>?_)
  ·refine RR (Y f 1 λ_ f=>Ys [iB 0,bO false,iL 0,S [],Sn,Sn] #[iB 0,bO false,iL 0,S [],Sn,Sn] f N4 rfl rfl λW5 N5 _ f=>Ye f 1 λ_ f=>wp_ret (bC (mC f rfl (Y11 (cs:=[iB 0,bO false,iL 0,S [],Sn,Sn]) (ad:=⟨Q2,0,none⟩) f (am (N5.ownCell 0 rfl) 0 rfl)) (Y12 (v:=bO false) f) ?_)))
   cases sI F7
   exact⟨_,rfl,V2,(J1.trans J2),(N5.dropN 1),⟨[iB 0,bO false,iL 0,S [],Sn,Sn],rfl,(TD0.shut Sli.nil Sli.nil)⟩⟩
  ·refine St (RR (Y f 1 λ_ f=>Y16 f N4 (fzu J2 R2) 4 rfl λ_ f=>Y f 1 λ_ f=>?_))
   obtain⟨X2,l2,F9⟩:=bS F8
   obtain⟨C1,cZ,jC,-,D1,R3⟩:=Sli.at_ (B1.mono (J1.trans J2)) l2
   obtain⟨Z3,P3,Z4,P4,rfl,B6,B7⟩:=TD0.opn D1
   refine Z f (Y30 jC rfl (len:=d0.ac.length) (cap:=P1) (k:=.i64) (i:=X1) (e:=26) (sz:=6) (ax l2) (aw l2)) λ_ f=>Z f (Y32 (cs:=(lTD0 X2 Z3 P3 Z4 P4)) rfl (ad:=C1.add (X1.toNat*6)) (λj v h=>N4.cell (R3 j v h))) λ_ f=>Ys (lTD0 X2 Z3 P3 Z4 P4) (aTD0 X2 Z3 P3 Z4 P4) f N4 rfl rfl λW6 N6 _ f=>Ye f 1 λ_ f=>wp_ret (mC f rfl (Y11 (cs:=(lTD0 X2 Z3 P3 Z4 P4)) (ad:=⟨Q2,0,none⟩) f (am (N6.ownCell 0 rfl) 0 rfl)) (Y12 (v:=bO true) f) ?_)
   cases sI F9
   exact⟨_,rfl,V2,(J1.trans J2),(N6.dropN 1),⟨[iB X2.ab,bO X2.ah,iL X2.af,S X2.aa,sL Z3 X2.ac P3,sL Z4 X2.ae P4],rfl,(TD0.shutx (x:=X2) B6 B7)⟩⟩
def cN (n:Nat) (d0:List Bs) (z0:Bool):Option (List Bs):=
 bif z0 then
  (some (([]:List Bs)))
 else
  aS ((([]:List Bs).length+d0.length)*16≤140737488355328)<|
  some (([]:List Bs)++d0)
theorem gH (n:Nat) (M:Mem) (A0:Oa) (cap0:Nat) (d0:List Bs) (h0:Sli M 1 Dat.str A0 cap0 d0) (z0:Bool) (hz0:A0.isNone=z0) (r:List Bs) (hF:cN n d0 z0=some r):OkH Tryz.prog M [] 95 [sL A0 d0 cap0] (λM' E' v=>∃ (A0:Oa) (k0:Nat) (s0:Lv),v=sL A0 r k0∧E'=[.row 9 1 (sL A0 r k0) r.length s0]∧ag M' (r.map Dat.str) s0):=by
 unfold cN at hF
 intro M1 hM0 w0 H w p0
 replace h0:=h0.mono hM0
 refine Re 8 Tryz.func95 rfl λa0 f0=>RR (Ye f0 1 λ_ f=>an (RR (Y f 1 λ_ f=>Z (v:=bO A0.isNone) f (X_slicenil (A:=A0) (n:=d0.length) (c:=cap0) (e:=9) rfl kr kr kr _) λ_ f=>?_)))
 have f:=Frm.set f 4 (v:=bO A0.isNone) (v':=bO z0) kr (cB hz0)
 refine eT (RcF f hF (λB1 F1=>?_) λB1 F2=>?_)
 ·refine RR (Ye f 1 λ_ f=>wp_ret (bC ?_))
  obtain⟨Z1,P1,H1,N1⟩:=p0.nilR 9 1 Bs
  have f:=f.st 2 (H1)
  have D1:ag M1 (([]:List Bs).map Dat.str) []:=rfl
  refine au f rfl (Lk 2 (sL Z1 ([]:List Bs) P1)) ?_
  cases sI F1
  exact⟨_,rfl,M1,_,(mR _),N1,⟨Z1,P1,[],rfl,rfl,D1⟩⟩
 ·refine St (RR (aP (k:=0) (c:=0) f p0 (.cells #[] 9 (0,0)) kr (λ_=>by kernel_rfl) λQ1 W1 N2 _ f=>Y f 1 λ_ f=>?_))
  have D2:ag M1 (([]:List Bs).map Dat.str) []:=rfl
  have N3:Hp w0 M1 ((Ent.row 9 1 (.slice (some ⟨Q1,0,none⟩) 0 0) ([]:List Bs).length [])::H) W1:=N2.objRow (n:=0) (cap:=0) (size:=1) (by decide) (by decide) (dq (by decide) rfl) rfl rfl
  obtain⟨O1,F3⟩:=nS F2
  refine Y22 (z:=S []) (f:=Dat.str) (xs:=([]:List Bs)) (ys:=d0) (c:=cap0) f N3 D2 h0 rfl rfl rfl O1 (by omega) λZ2 P2 L1 W2 N4 D3 _ f=>Ye f 1 λ_ f=>wp_ret (au f rfl (Lk 2 (sL Z2 (([]:List Bs)++d0) P2)) ?_)
  cases sI F3
  exact⟨_,rfl,M1,_,(mR _),N4,⟨Z2,P2,L1,rfl,rfl,D3⟩⟩
def dc (_:Nat) (d0:List Bs):Option (List Bs):=aS (d0.length*16≤140737488355328) (some d0)
theorem gZ (n:Nat) (M:Mem) (A0:Oa) (cap0:Nat) (d0:List Bs) (h0:Sli M 1 Dat.str A0 cap0 d0) (r:List Bs) (hF:dc n d0=some r):OkH Tryz.prog M [] 95 [sL A0 d0 cap0] (λM' E' v=>∃ (A0:Oa) (k0:Nat) (s0:Lv),v=sL A0 r k0∧E'=[.row 9 1 (sL A0 r k0) r.length s0]∧ag M' (r.map Dat.str) s0):=by
 unfold dc at hF
 obtain⟨g,hF⟩:=nS hF
 cases sI hF
 refine gH n M A0 cap0 d0 h0 A0.isNone rfl d0 ?_
 unfold cN
 cases A0 with
 |none=>
  obtain⟨h1,h2,_⟩:=h0
  have h3:=h2 rfl
  obtain rfl:d0=[]:=List.eq_nil_of_length_eq_zero (by omega)
  rfl
 |some a=>simp[aS];omega
def gu (n:Nat) (d0:TD0) (X2:List Bs) (K1:List ay×Int):Option (Lp (List ay×Int) (List ay)):=
    bif(decide (K1.2<((X2.length:Nat):Int))) then
     ((aQ X2 K1.2).bind λX3=>
     (lz n d0 X3).bind λX4=>
     aS ((K1.1.length+1)*96≤140737488355328)<|
     aS (inR .i64 (K1.2+1))<|
     some (.nx (K1.1++[(⟨X3,(⟨X4.1.ab,(X4.1.ah),X4.1.af,X4.1.aa,X4.1.ac,X4.1.ae⟩:TD0)⟩:ay)],K1.2+1)))
    else
     some (.br K1.1)
def cz (n:Nat) (d0:TD0):Option (List ay):=
 (dc n d0.ae).bind λX1=>
 (h_SortS n X1).bind λX2=>
 (aE (gu n d0 X2) n (([]:List ay),(0:Int))).bind λG1=>
 some (G1)
set_option maxRecDepth 20000 in
theorem cJ (n:Nat) (M:Mem) (hG:GL M) (c0:List Value) (d0:TD0) (h0:Rep M (ar d0) c0) (r:List ay) (hF:cz n d0=some r):OkH Tryz.prog M [] 47 [.agg c0.toArray] (λM' E' v=>∃ (A0:Option Addr) (k0:Nat) (s0:List Value),v=.slice A0 r.length k0∧E'=[.row 99 7 (.slice A0 r.length k0) r.length s0]∧ag M' (r.map bq) s0):=by
 unfold cz at hF
 intro M1 hM0 w0 H w p0
 replace hG:=GL.mono hM0 hG
 replace h0:=Rep.mono hM0 _ _ h0
 obtain⟨Z1,P1,Z2,P2,rfl,B1,B2⟩:=TD0.opn h0
 refine av 33 Tryz.func47 rfl rfl (by simp) λa0 f0=>RR (Y14 (cs:=#[.int .i8 d0.ab,.bool d0.ah,.int .i64 d0.af,S d0.aa,.slice Z1 d0.ac.length P1,.slice Z2 d0.ae.length P2]) (T:=26) f0 p0 λQ1 V1 W1 J1 R1 N1 _ f=>?_)
 have R2:=bj R1
 refine Y f 1 λ_ f=>eT (RR (Y f 1 λ_ f=>Y16 f N1 R2 5 rfl λ_ f=>?_))
 obtain⟨X1,l1,F1⟩:=bS hF
 refine Y18 (E:=[]) (H:=(H)) f N1 (gZ n _ Z2 P2 d0.ae (B2.mono J1) X1 l1) λ_ V2 mo W2 J2 N2 ej _ f=>?_
 obtain⟨Z3,P3,L1,rfl,rfl,D1⟩:=ej
 refine Y f 1 λ_ f=>eT (RR (Y f 1 λ_ f=>?_))
 obtain⟨X2,l2,F2⟩:=bS F1
 refine Y18 (E:=[Ent.row 9 1 (.slice Z3 X1.length P3) X1.length L1]) (H:=(H)) f N2 (h_SortS_ok n _ Z3 P3 X1 L1 D1 X2 l2) λ_ V3 E_2 W3 J3 N3 jk _ f=>?_
 obtain⟨L2,rfl,rfl,D2,hl_1⟩:=jk
 have H1: (.slice Z3 X1.length P3:Value)=.slice Z3 X2.length P3:=by rw[hl_1]
 have N4:Hp w0 V3 ((Ent.row 9 1 (.slice Z3 X2.length P3) X2.length L2)::H) W3:=by rw[←H1];exact N3
 have f:=f.st 3 (H1)
 have f:=f.st 11 (H1)
 refine eT (an (RR (Y f 3 λ_ f=>eT (wp_block ?_))))
 obtain⟨Z4,P4,H2⟩: ∃A cap,Value.slice none 0 0=.slice A ([]:List ay).length cap:=⟨none,0,rfl⟩
 have N5:Hp w0 V3 ((Ent.row 99 7 (.slice Z4 ([]:List ay).length P4) ([]:List ay).length [])::(Ent.row 9 1 (.slice Z3 X2.length P3) X2.length L2)::H) W3:=by rw[←H2];exact N4.nilRow 99 7
 have f:=f.st 2 (H2)
 have D3:ag V3 (([]:List ay).map bq) []:=rfl
 obtain⟨Q2,co,F3⟩:=bS F2
 refine wp_mono (Q:=λe a w=>(e=.exit 0∧(∃G1:List ay,Q2=G1∧∃V6:Mem,V3.le V6∧∃ (Z9:Option Addr),∃ (P10:Nat),∃ (L5:List Value),ag V6 (G1.map bq) L5∧Frm 33 [(2,.slice Z9 G1.length P10)] a∧Hp w0 V6 ((Ent.row 99 7 (.slice Z9 G1.length P10) G1.length L5)::(Ent.row 9 1 (.slice Z3 X2.length P3) X2.length L2)::H) w))) (bT (n:=33) (w0:=w0) (M:=V3) (λ (x:Nat× (List ay×Int)× (Option Addr)×Nat× (List Value))=>match x with|(I1,K1,Z5,P5,L3)=>[(1,.pointer (some (⟨Q1,0,none⟩))),(2,.slice Z5 K1.1.length P5),(13,.slice Z3 X2.length P3),(14,.int .i64 ((X2.length:Nat):Int)),(15,.int .i64 K1.2)]) (λ (x:Nat× (List ay×Int)× (Option Addr)×Nat× (List Value))=>match x with|(I1,K1,Z5,P5,L3)=>((Ent.row 99 7 (.slice Z5 K1.1.length P5) K1.1.length L3)::(Ent.row 9 1 (.slice Z3 X2.length P3) X2.length L2)::H)) (λ (x:Nat× (List ay×Int)× (Option Addr)×Nat× (List Value)) (MM:Mem)=>match x with|(I1,K1,Z5,P5,L3)=>aE (gu n d0 X2) I1 K1=some Q2∧ag MM (K1.1.map bq) L3) (λ (x:Nat× (List ay×Int)× (Option Addr)×Nat× (List Value))=>match x with|(I1,K1,Z5,P5,L3)=>I1) (n,(([]:List ay),(0:Int)),Z4,P4,[]) (f.kp) N5 ⟨co,D3⟩ ?_) ?_
 ·rintro⟨I1,K1,Z5,P5,L3⟩ V4 _ W4 J4 gM f N6
  obtain⟨cu,D4⟩:=gM
  obtain⟨I2,lO,rfl,bx,T1⟩:=aZ cu
  unfold gu at bx
  refine RR (Y f 1 λ_ f=>eT (an (RcF f bx (λB3 F4=>?_) λB3 F9=>?_)))
  ·have U1:=dI.1 B3
   refine wp_skip (aK (an (wp_block (RR ?_))))
   obtain⟨X3,l3,F5⟩:=bS F4
   obtain⟨Q3,P6,H3,lI⟩:=N6.rowAddr 1 rfl (bJ l3)
   have f:=f.st 13 (H3)
   refine Z f (Y29 rfl (ad:=⟨Q3,0,none⟩) (len:=X2.length) (cap:=P6) (k:=.i64) (i:=K1.2) (e:=9) (sz:=1) (ax l3) (aw l3)) λ_ f=>?_
   have f:=f.st 13 (H3.symm)
   obtain⟨cZ,-,D5,R3⟩:=ag.get K1.2.toNat (eW bX) (ag.mono J4 _ _ D2) (ip l3)
   obtain rfl:cZ=[S X3]:=D5
   refine Z f (Y31 (v:=S X3) rfl (ad:=(⟨Q3,0,none⟩:Addr).add (K1.2.toNat*1)) (by simpa [Addr.add] using (λj v h=>kP (N6.rowCell 1 rfl H3) R3 j v h) 0 _ rfl)) λ_ f=>Y f 1 λ_ f=>eT (RR (Z (v:=.agg #[.int .i8 d0.ab,.bool d0.ah,.int .i64 d0.af,S d0.aa,.slice Z1 d0.ac.length P1,.slice Z2 d0.ae.length P2]) f (Y32 (cs:=[.int .i8 d0.ab,.bool d0.ah,.int .i64 d0.af,S d0.aa,.slice Z1 d0.ac.length P1,.slice Z2 d0.ae.length P2]) rfl (ad:=⟨Q1,0,none⟩) (λj v h=>N6.cell ((fzu ((J2.trans J3).trans J4) R2) j v h))) λ_ f=>Y f 1 λ_ f=>?_))
   obtain⟨X4,l4,F6⟩:=bS F5
   refine Y17 f N6 (mn n _ (GL.mono (((J1.trans J2).trans J3).trans J4) hG) _ d0 (TD0.shutx (x:=d0) (B1.mono (((J1.trans J2).trans J3).trans J4)) (B2.mono (((J1.trans J2).trans J3).trans J4))) X3 X4 l4) λ_ V5 W5 J5 N7 q_3 _ f=>?_
   obtain⟨gW,rfl,D6⟩:=q_3
   obtain⟨Z6,P7,Z7,P8,rfl,B4,B5⟩:=TD0.opn D6
   refine Y f 3 λ_ f=>Y13 f N7 (.cells #[.int .i8 0,.bool false,.int .i64 0,S [],.slice none 0 0,.slice none 0 0] 26 (0,0)) λQ4 W6 N8 _ f=>Y27 (vs:=[.int .i8 X4.1.ab,.bool X4.1.ah,.int .i64 X4.1.af,S X4.1.aa,.slice Z6 X4.1.ac.length P7,.slice Z7 X4.1.ae.length P8]) (j:=0) f N8 rfl rfl (by simp[Value.oneCell',S]) (by simp) (by decide) (cs':=#[.int .i8 X4.1.ab,.bool X4.1.ah,.int .i64 X4.1.af,S X4.1.aa,.slice Z6 X4.1.ac.length P7,.slice Z7 X4.1.ae.length P8]) λW7 N9 _ f=>Y f 1 λ_ f=>eT (aA (Y f 2 λ_ f=>Z (v:=.agg #[.int .i8 X4.1.ab,.bool X4.1.ah,.int .i64 X4.1.af,S X4.1.aa,.slice Z6 X4.1.ac.length P7,.slice Z7 X4.1.ae.length P8]) f (Y32 (cs:=[.int .i8 X4.1.ab,.bool X4.1.ah,.int .i64 X4.1.af,S X4.1.aa,.slice Z6 X4.1.ac.length P7,.slice Z7 X4.1.ae.length P8]) rfl (ad:=⟨Q4,0,none⟩) (am (N9.ownCell 0 rfl) 0 rfl)) λ_ f=>Y f 1 λ_ f=>aP (k:=1) (c:=1) f N9 (.cells #[S X3,.int .i8 X4.1.ab,.bool X4.1.ah,.int .i64 X4.1.af,S X4.1.aa,.slice Z6 X4.1.ac.length P7,.slice Z7 X4.1.ae.length P8] 99 (0,0)) (by kernel_rfl) (λ_=>by kernel_rfl) λQ5 W8 N10 _ f=>?_))
   have N11:=N10.pl [2]
   obtain⟨O1,F7⟩:=nS F6
   refine Y21 (z:=.agg #[S [],.int .i8 0,.bool false,.int .i64 0,S [],.slice none 0 0,.slice none 0 0]) (f:=bq) (xs:=K1.1) (ys:=[(⟨X3,(⟨X4.1.ab,(X4.1.ah),X4.1.af,X4.1.aa,X4.1.ac,X4.1.ae⟩:TD0)⟩:ay)]) (news:=[S X3,.int .i8 X4.1.ab,.bool X4.1.ah,.int .i64 X4.1.af,S X4.1.aa,.slice Z6 X4.1.ac.length P7,.slice Z7 X4.1.ae.length P8]) (ad:=⟨Q5,0,none⟩) (m:=1) (c:=1) f N11 (ag.mono J5 _ _ D4) (by exact⟨_,_,rfl,ay.shut B4 B5,rfl⟩) rfl rfl rfl rfl (am (N11.ownCell 1 rfl) 0 rfl) (by exact O1) (by have hg_:=O1;first|omega|(simp only[List.length_cons,List.length_nil] at*;omega)) λZ8 P9 L4 W9 N12 D7 _ f=>?_
   have N13:=N12.pl [1]
   have N14:=N13.drop
   refine Y f 1 λ_ f=>ap rfl (dZ (aK (aA ?_)))
   obtain⟨O2,F8⟩:=nS F7
   refine Y f 1 λ_ f=>?_
   have f:=f.st 31 (iW O2)
   refine Y f 1 λ_ f=>ap rfl ?_
   have N18:=N14.pl [2,1,2]
   refine aK ?_
   obtain rfl:=sI F8
   exact⟨⟨I2,(K1.1++[(⟨X3,(⟨X4.1.ab,(X4.1.ah),X4.1.af,X4.1.aa,X4.1.ac,X4.1.ae⟩:TD0)⟩:ay)],K1.2+1),Z8,P9,L4⟩,Nat.lt_succ_self _,V5,(J4.trans J5),⟨T1,D7⟩,f.kp,(N18.dropN 1)⟩
  ·have U2:=aq dI B3
   refine wp_exit (eH (eH ?_))
   obtain rfl:=sI F9
   exact⟨rfl,K1.1,(sI T1).symm,V4,J4,Z5,P5,L3,D4,f.kp,N6⟩
 ·rintro _ _ W11 ⟨rfl,G1,hq_,V6,J6,Z9,P10,L5,D8,f,N15⟩
  subst Q2
  refine kh (aK (RR (Y f 2 λ_ f=>eT (wp_ret (au f rfl (by kernel_rfl:Vc.look _ 2=some (.slice Z9 G1.length P10)) ?_)))))
  obtain rfl:=sI F3
  have N19:=N15.pl [1]
  exact⟨_,rfl,V6,_,(((J1.trans J2).trans J3).trans J6),(N19.dropN 1),⟨Z9,P10,L5,rfl,rfl,D8⟩⟩
def gK (n:Nat) (d1:Bs) (d2:List Bs) (X1:List ay) (K1:Int):Option (Lp Int (Sum (Int×Bs) Unit)):=
    bif(decide (K1<((X1.length:Nat):Int))) then
     ((aQ X1 K1).bind λX2=>
     (bV n d2 X2.key).bind λX3=>
     (aL n d1 X2.key).bind λX4=>
     bif X3 then
      (aS (inR .i64 (K1+1))<|
      some (.nx (K1+1)))
     else
      some (.br (.inl ((120:Int),X4))))
    else
     some (.br (.inr ()))
def eQ (n:Nat) (d0:TD0) (d1:Bs) (d2:List Bs):Option (Sum (Int×Bs) (TD0×Bs)):=
 bif(decide (d0.ab=5)) then
  ((cz n d0).bind λX1=>
  (aE (gK n d1 d2 X1) n (0:Int)).bind λQ3=>
  (match Q3 with
  |.inl G1=>some (.inl G1)
  |.inr G2=>some (.inr (d0,d1))))
 else
  some (.inl ((120:Int),d1))
set_option maxRecDepth 20000 in
theorem cX (n:Nat) (M:Mem) (hG:GL M) (c0:Lv) (d0:TD0) (h0:Rep M (ar d0) c0) (d1:Bs) (A2:Oa) (cap2:Nat) (d2:List Bs) (h2:Sli M 1 Dat.str A2 cap2 d2) (r:Sum (Int×Bs) (TD0×Bs)) (hF:eQ n d0 d1 d2=some r):OkX Tryz.prog M 45 [.agg c0.toArray,S d1,sL A2 d2 cap2] 78 r (λr=>λM' v=>∃ (ad0_0:Addr) (c0_0:Lv) (ad0_1:Addr) (c0_1:Lv),v=.func (.func 93) #[] #[Pa ad0_0,Pa ad0_1]∧Rep M' (ar r.1) c0_0∧(∀j v,c0_0[j]? =some v→M'.cell? (ad0_0.add j)=some v)∧Rep M' (Dat.str r.2) c0_1∧(∀j v,c0_1[j]? =some v→M'.cell? (ad0_1.add j)=some v)):=by
 unfold eQ at hF
 intro M1 hM0 w0 H w p0
 replace hG:=GL.mono hM0 hG
 replace h0:=Rep.mono hM0 _ _ h0
 replace h2:=h2.mono hM0
 obtain⟨Z1,P1,Z2,P2,rfl,B1,B2⟩:=TD0.opn h0
 refine Re 32 Tryz.func45 rfl λa0 f0=>RR (Y14 (cs:=(aTD0 d0 Z1 P1 Z2 P2)) (T:=26) f0 p0 λQ1 V1 W1 J1 R1 N1 _ f=>?_)
 have R2:=bj R1
 refine Y14 (cs:=#[S d1]) (T:=9) f N1 λQ2 V2 W2 J2 R3 N2 _ f=>?_
 have R4:=bj R3
 refine Ye f 1 λ_ f=>RR (Y f 1 λ_ f=>Y16 f N2 (fzu J2 R2) 0 rfl λ_ f=>Y f 1 λ_ f=>Y16 f N2 R4 0 rfl λ_ f=>?_)
 rcases cE hF with⟨B3,F1⟩|⟨B3,F12⟩
 ·have U1:=dI.1 B3
  have f:=f.st 11 (cB B3)
  refine Y19 f N2 (bk _ (120:Int) d1) λW3 N3 _ f=>eT (an (RR (Z f (Y32 (cs:=(lTD0 d0 Z1 P1 Z2 P2)) rfl (ad:=⟨Q1,0,none⟩) (λj v h=>N3.cell ((fzu J2 R2) j v h))) λ_ f=>?_)))
  obtain⟨X1,l1,F2⟩:=bS F1
  refine Y18 (E:=[]) (H:=(H)) f N3 (cJ n _ (GL.mono (J1.trans J2) hG) _ d0 (TD0.shutx (x:=d0) (B1.mono (J1.trans J2)) (B2.mono (J1.trans J2))) X1 l1) λ_ V3 mo W4 J3 N4 ej _ f=>?_
  obtain⟨Z3,P3,L1,rfl,rfl,D1⟩:=ej
  refine Ye f 2 λ_ f=>wp_block ?_
  obtain⟨Q3,co,F3⟩:=bS F2
  refine wp_mono (Q:=λe a w=>(∃G1:Int×Bs,e=.panic (flawE 78 G1)∧Q3=.inl G1∧∃V6:Mem,V3.le V6∧Frm 32 [] a∧Hp w0 V6 (H) w)∨(e=.exit 0∧(∃G2:Unit,Q3=.inr G2∧∃V7:Mem,V3.le V7∧Frm 32 [(3,pP Q1),(4,pP Q2)] a∧Hp w0 V7 ((rO 99 7 Z3 X1 P3 L1)::H) w))) (bT (n:=32) (w0:=w0) (M:=V3) (λ (I1,K1)=>[(2,sL A2 d2 cap2),(3,pP Q1),(4,pP Q2),(15,sL Z3 X1 P3),(16,iL ((X1.length:Nat):Int)),(17,iL K1)]) (λ (I1,K1)=>((rO 99 7 Z3 X1 P3 L1)::H)) (λ (I1,K1) MM=>aE (gK n d1 d2 X1) I1 K1=some Q3) (λ (I1,K1)=>I1) (n,(0:Int)) (f.kp) N4 co ?_) ?_
  ·rintro⟨I1,K1⟩ V4 _ W5 J4 gM f N5
   have cu:=gM
   obtain⟨I2,lO,rfl,bx,T1⟩:=aZ cu
   unfold gK at bx
   refine RR (Ye f 1 λ_ f=>an (RcF f bx (λB4 F4=>?_) λB4 F11=>?_))
   ·have U2:=dI.1 B4
    refine St (an (wp_block (RR ?_)))
    obtain⟨X2,l2,F5⟩:=bS F4
    obtain⟨Q4,P4,H1,lI⟩:=N5.rowAddr 0 rfl (bJ l2)
    have f:=f.st 15 (H1)
    refine Z f (Y29 rfl (ad:=⟨Q4,0,none⟩) (len:=X1.length) (cap:=P4) (k:=.i64) (i:=K1) (e:=99) (sz:=7) (ax l2) (aw l2)) λ_ f=>?_
    have f:=f.st 15 (H1.symm)
    obtain⟨cZ,-,D2,R5⟩:=ag.get K1.toNat (eW cq) (ag.mono J4 _ _ D1) (ip l2)
    obtain⟨Z4,P5,Z5,P6,rfl,B5,B6⟩:=ay.opn D2
    refine Z f (Y32 (cs:=[S X2.key,iB X2.v.ab,bO X2.v.ah,iL X2.v.af,S X2.v.aa,sL Z4 X2.v.ac P5,sL Z5 X2.v.ae P6]) rfl (ad:=(⟨Q4,0,none⟩:Addr).add (K1.toNat*7)) (λj v h=>kP (N5.rowCell 0 rfl H1) R5 j v h)) λ_ f=>Y13 f N5 (.cells #[S [],iB 0,bO false,iL 0,S [],Sn,Sn] 99 (0,0)) λQ5 W6 N6 _ f=>Ys [S X2.key,iB X2.v.ab,bO X2.v.ah,iL X2.v.af,S X2.v.aa,sL Z4 X2.v.ac P5,sL Z5 X2.v.ae P6] #[S X2.key,iB X2.v.ab,bO X2.v.ah,iL X2.v.af,S X2.v.aa,sL Z4 X2.v.ac P5,sL Z5 X2.v.ae P6] f N6 rfl rfl λW7 N7 _ f=>eT (dp (E:=[]) (Hr:=((oC Q5 #[S X2.key,iB X2.v.ab,bO X2.v.ah,iL X2.v.af,S X2.v.aa,sL Z4 X2.v.ac P5,sL Z5 X2.v.ae P6] 99)::(rO 99 7 Z3 X1 P3 L1)::H)) [(0,true),(1,true),(2,true),(3,true),(4,true),(5,true),(6,true),(7,true),(8,false)] N7 kr kr rfl kr (Y0 default f 2 λ_ f=>bz (v:=S X2.key) f kr kr rfl rfl (λ_ pq=>Y31 (v:=S X2.key) rfl (ad:=⟨Q5,0,none⟩) (pq.ownCell 0 rfl 0)) λ_ f=>?_))
    obtain⟨X3,l3,F6⟩:=bS F5
    refine dM (v:=bO X3) f kr kr rfl rfl (λ_=>by kernel_rfl) (dk n _ A2 cap2 d2 (h2.mono (((J1.trans J2).trans J3).trans J4)) X2.key X3 l3) λ_ f=>bz (v:=S d1) f kr kr rfl rfl (λ_ pq=>Y31 (v:=S d1) rfl (ad:=⟨Q2,0,none⟩) (pq.cell ((fzu (J3.trans J4) R4) 0 _ rfl))) λ_ f=>Y0 default f 1 λ_ f=>bz (v:=S X2.key) f kr kr rfl rfl (λ_ pq=>Y31 (v:=S X2.key) rfl (ad:=⟨Q5,0,none⟩) (pq.ownCell 0 rfl 0)) λ_ f=>?_
    obtain⟨X4,l4,F7⟩:=bS F6
    refine dM (v:=S X4) f kr kr rfl rfl (λ_=>by kernel_rfl) (aJ n _ (GL.mono (((J1.trans J2).trans J3).trans J4) hG) d1 X2.key X4 l4) λ_ f=>bL (E:=[]) λW10 N10=>?_
    rcases cE F7 with⟨B7,F8⟩|⟨B7,F10⟩
    ·have f:=f.st 24 (cB B7)
     refine Y19 f N10 (bk _ (120:Int) X4) λW11 N11 _ f=>ap rfl (dl (M1:=V4) (E:=[]) (mR _) N11 (dL rfl λW12 N12=>dZ (aK (aA ?_))))
     obtain⟨O1,F9⟩:=nS F8
     refine Y f 1 λ_ f=>?_
     have f:=f.st 30 (iW O1)
     refine Ye f 1 λ_ f=>?_
     cases sI F9
     exact⟨⟨I2,K1+1⟩,Nat.lt_succ_self _,V4,J4,T1,f.kp,(N12.dropN 1)⟩
    ·have f:=f.st 24 (cB B7)
     refine aR f N10 (bw _ (120:Int) X4) kr (λ_=>by kernel_rfl) λV5 W13 J5 N13=>M_p f λ_ f=>nE (cr (cr ?_))
     cases sI F10
     exact .inl ⟨((120:Int),X4),rfl,(sI T1).symm,V5,(J4.trans J5),f.kp,(N13.dropN 2)⟩
   ·have U5:=aq dI B4
    refine wp_exit (eH (eH ?_))
    cases sI F11
    exact .inr ⟨rfl,(),(sI T1).symm,V4,J4,f.kp,N5⟩
  ·rintro _ _ W16 (⟨G1,rfl,rfl,V6,J6,f,N14⟩|⟨rfl,G2,rfl,V7,J7,f,N15⟩)
   ·refine nE (cr (ba f ?_))
    cases sI F3
    exact⟨V6,(((J1.trans J2).trans J3).trans J6),N14,rfl⟩
   ·refine kh (aK (RR (Ye f 2 λ_ f=>wp_ret (au f rfl (Lk 6 (.func (.func 93) #[] #[pP Q1,pP Q2])) ?_))))
    cases sI F3
    exact⟨_,rfl,V7,(((J1.trans J2).trans J3).trans J7),(N15.dropN 1),⟨(⟨Q1,0,none⟩),(lTD0 d0 Z1 P1 Z2 P2),(⟨Q2,0,none⟩),[S d1],rfl,(TD0.shutx (x:=d0) (B1.mono (((J1.trans J2).trans J3).trans J7)) (B2.mono (((J1.trans J2).trans J3).trans J7))),(bu ((fzu ((J2.trans J3).trans J7) R2)) 0 rfl),(rfl),(bu ((fzu (J3.trans J7) R4)) 0 rfl)⟩⟩
 ·have U6:=aq dI B3
  have f:=f.st 11 (cB B3)
  refine aR f N2 (bw _ (120:Int) d1) kr (λ_=>by kernel_rfl) λV8 W17 J8 N16=>cr (ba f ?_)
  cases sI F12
  exact⟨V8,((J1.trans J2).trans J8),N16,rfl⟩
end Go.Proofs.YtkopljikappieaaGreatDoor
end
