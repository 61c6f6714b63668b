/-
  Texts of this claim, packed (what nothing names is left out): Q1, Q2a, WalkIt, Vp, Vu, Q2d, Q2e, Q3a, Shelf, Lay, Hd, WalkIt2, Q4b, TreeM. Own work, partly printed by own programs. No condition.
-/
import Derived.Test.YtkopljikappieaaGreatDoorPkF1
import Derived.Test.YtkopljikappieaaGreatDoorRows
import Derived.Shelf.Abstract
import Derived.Lib.MapLaws
import Derived.Lib.ValidLaws
import Derived.Shelf.Small.Bits
import Derived.Shelf.Small.Wraps
import Derived.Shelf.Strconv.Itoa0
import Derived.Shelf.Strings.Search1
import Derived.Shelf.Strings.Search2
import Derived.Shelf.Strings.Cut
import Derived.Shelf.LaysM
import Derived.Shelf.Strings.Shaped
import Derived.Shelf.Sort.Plain
import Derived.Shelf.Strings.Prefix
import Derived.Shelf.Slices.In.SortNone
import Derived.Test.YtkopljikappieaaGreatDoorProg
import Derived.Shelf.Lays
import Derived.Shelf.Unicode.ValidAny
set_option linter.unusedVariables false
set_option linter.unusedSimpArgs false
set_option maxHeartbeats 2000000
section
namespace Go.Proofs.YtkopljikappieaaGreatDoor
open Go Go.Vc Go.RowKit
def ct (n:Nat) (d0:Bs) (d1:Int) (G5:Int×Int×Int) (K1:Int×Int):Option (Lp (Int×Int) (Sum Unit Int)):=
    bif(decide (K1.2<G5.1)) then
     (aS (inR .i64 (d1+K1.2))<|
     (aQ d0 (d1+K1.2)).bind λgW=>
     ((bif(decide (((gW).toNat:Int)<128)) then
      (some ((true)))
       else
        some ((decide ((191:Int)<((gW).toNat:Int)))):Option Bool)).bind λG6=>
     bif G6 then
      (some (.br (.inl ())))
     else
      aS (inR .i64 ((64:Int)*K1.1))<|
      aS (inR .i64 (((64:Int)*K1.1)+ ((gW).toNat:Int)))<|
      aS (inR .i64 ((((64:Int)*K1.1)+ ((gW).toNat:Int))-128))<|
      aS (inR .i64 (K1.2+1))<|
      some (.nx ((((64:Int)*K1.1)+ ((gW).toNat:Int))-128,K1.2+1)))
    else
     some (.br (.inr K1.1))
def ja (n:Nat) (d0:Bs) (d1:Int):Option (Int×Int):=
 ((bif(decide (d1<0)) then
  (some ((true)))
   else
    some ((decide ((d0.length:Int)≤d1))):Option Bool)).bind λG1=>
 bif G1 then
  (some (((0:Int),(0:Int))))
 else
  (aQ d0 d1).bind λcZ=>
  ((bif(decide (((cZ).toNat:Int)<128)) then
   (((some ((((cZ).toNat:Int),(1:Int))):Option (Int×Int))).map Lp.br)
    else
     ((bif(decide ((192:Int)≤((cZ).toNat:Int))) then
      (some ((decide (((cZ).toNat:Int)<224))))
       else
        some ((false)):Option Bool)).bind λG2=>
     bif G2 then
      (some (.nx ((2:Int),bAnd .i64 ((cZ).toNat:Int) (31:Int),(128:Int))))
     else
      ((bif(decide ((224:Int)≤((cZ).toNat:Int))) then
       (some ((decide (((cZ).toNat:Int)<240))))
        else
         some ((false)):Option Bool)).bind λG3=>
      bif G3 then
       (some (.nx ((3:Int),bAnd .i64 ((cZ).toNat:Int) (15:Int),(2048:Int))))
      else
       ((bif(decide ((240:Int)≤((cZ).toNat:Int))) then
        (some ((decide (((cZ).toNat:Int)<248))))
         else
          some ((false)):Option Bool)).bind λG4=>
       bif G4 then
        (some (.nx ((4:Int),bAnd .i64 ((cZ).toNat:Int) (7:Int),(65536:Int))))
       else
        ((some (((0:Int),(0:Int))):Option (Int×Int))).map Lp.br:Option (Lp (Int×Int×Int) (Int×Int)))).bind λj=>joinF j λG5=>
  aS (inR .i64 (d1+G5.1))<|
  bif(decide ((d0.length:Int)<(d1+G5.1))) then
   (some (((0:Int),(0:Int))))
  else
   (aE (ct n d0 d1 G5) n (G5.2.1,(1:Int))).bind λQ1=>
   (match Q1 with
   |.inl G7=>some (((0:Int),(0:Int)))
   |.inr G8=>((bif(decide (G8<G5.2.2)) then
    (some ((true)))
    else
     bif(decide ((1114111:Int)<G8)) then
      (some ((true)))
     else
      bif(decide ((55296:Int)≤G8)) then
       (some ((decide (G8≤57343))))
      else
       some ((false)):Option Bool)).bind λG9=>
    bif G9 then
     (some (((0:Int),(0:Int))))
    else
     some ((G8,G5.1)))
set_option maxRecDepth 20000 in
theorem ref01_One_ok (n:Nat) (M:Mem) (d0:Bs) (d1:Int) (r:Int×Int) (hF:ja n d0 d1=some r):Ok Tryz.prog M 125 [S d0,iL d1] (λ_ v=>v=.tuple #[iL r.1,iL r.2]):=by
 unfold ja at hF
 intro M1 hM0 w0 H w p0
 refine Re 101 Tryz.func125 rfl λa0 f0=>RR (Ye f0 2 λ_ f=>an (an ?_))
 obtain⟨gN,ec,F1⟩:=bS hF
 refine bD (λa_5 W1=>∃G1:Bool,gN=G1∧∃V1:Mem,M1.le V1∧Frm 101 [(0,S d0),(1,iL d1),(19,bO G1)] a_5∧Hp w0 V1 (H) W1) ?_ ?_
 ·refine aA (Y f 3 λ_ f=>?_)
  rcases cE ec with⟨B1,F2⟩|⟨B1,F3⟩
  ·have U1:=dI.1 B1
   have f:=f.st 14 (cB B1)
   refine Ye f 5 λ_ f=>?_
   exact⟨(true),(sI F2).symm,M1,(mR _),f.kp,p0⟩
  ·have U2:=aq dI B1
   have f:=f.st 14 (cB B1)
   refine Ye f 5 λ_ f=>?_
   exact⟨(decide ((d0.length:Int)≤d1)),(sI F3).symm,M1,(mR _),f.kp,p0⟩
 ·rintro a_5 W1 ⟨G1,dC,V1,J1,f,N1⟩
  subst gN
  refine aK (RcF f F1 (λB2 F4=>?_) λB2 F5=>?_)
  ·refine RR (Ye f 2 λ_ f=>wp_ret (bC (eX f rfl (Lk 4 (iL 0)) (Lk 5 (iL 0)) ?_)))
   cases sI F4
   exact⟨_,rfl,V1,J1,N1,rfl⟩
  ·refine St (RR (Y f 2 λ_ f=>?_))
   obtain⟨cZ,l1,F6⟩:=bS F5
   refine Z f (Y35 rfl (l:=d0) (k:=.i64) (i:=d1) (ax l1) (aw l1)) λ_ f=>?_
   have f:=Frm.set f 22 (v:=.int .u8 ((d0.getD d1.toNat 0).toNat:Int)) (v':=.int .u8 ((cZ).toNat:Int)) kr (congrArg (λc:UInt8=>Value.int .u8 ((c.toNat:Nat):Int)) (cG l1))
   refine Y f 1 λ_ f=>?_
   have f:=Frm.set f 23 (v:=iL (IntKind.wrap .i64 (((cZ).toNat:Int)))) (v':=iL ((cZ).toNat:Int)) kr (congrArg (Value.int .i64) (lY _ (by simp) _))
   refine Ye f 1 λ_ f=>RR (Ye f 4 λ_ f=>an ?_)
   obtain⟨mi,ji,F7⟩:=bS F6
   refine bD (λa_36 W5=>∃G5:Int×Int×Int,mi=.nx G5∧∃V5:Mem,V1.le V5∧Frm 101 [(0,S d0),(1,iL d1),(7,iL G5.1),(8,iL G5.2.1),(9,iL G5.2.2)] a_36∧Hp w0 V5 (H) W5) ?_ ?_
   ·refine wp_block (RR (Ye f 3 λ_ f=>RcF f ji (λB3 F8=>?_) λB3 F10=>?_))
    ·have U5:=dI.1 B3
     refine RR (Ye f 3 λ_ f=>wp_ret (ed ?_))
     have F9:=bF F8 F7
     refine bC (bC (eX f rfl (Lk 4 (iL ((cZ).toNat:Int))) (Lk 5 (iL 1)) ?_))
     cases sI F9
     exact⟨_,rfl,V1,J1,N1,rfl⟩
    ·have U6:=aq dI B3
     refine an ?_
     obtain⟨j_3,mY,F11⟩:=bS F10
     refine bD (λa_17 W2=>∃G2:Bool,j_3=G2∧∃V2:Mem,V1.le V2∧Frm 101 [(0,S d0),(1,iL d1),(6,iL ((cZ).toNat:Int)),(29,bO G2)] a_17∧Hp w0 V2 (H) W2) ?_ ?_
     ·refine aA (Y f 3 λ_ f=>?_)
      rcases cE mY with⟨B4,F12⟩|⟨B4,F13⟩
      ·have U7:=dI.1 B4
       have f:=f.st 32 (cB B4)
       refine Ye f 4 λ_ f=>?_
       exact⟨(decide (((cZ).toNat:Int)<224)),(sI F12).symm,V1,(mR _),f.kp,N1⟩
      ·have U8:=aq dI B4
       have f:=f.st 32 (cB B4)
       refine Ye f 4 λ_ f=>?_
       exact⟨(false),(sI F13).symm,V1,(mR _),f.kp,N1⟩
     ·rintro a_17 W2 ⟨G2,eZ,V2,J2,f,N2⟩
      subst j_3
      refine aK (RcF f F11 (λB5 F14=>?_) λB5 F15=>?_)
      ·refine RR (Ye f 1 λ_ f=>RR (Ye f 3 λ_ f=>aA (Y f 1 λ_ f=>ap rfl (dZ (aK ?_)))))
       exact⟨((2:Int),bAnd .i64 ((cZ).toNat:Int) (31:Int),(128:Int)),(sI F14).symm,V2,J2,f.kp,N2⟩
      ·refine an ?_
       obtain⟨j_4,hj_4,F16⟩:=bS F15
       refine bD (λa_24 W3=>∃G3:Bool,j_4=G3∧∃V3:Mem,V2.le V3∧Frm 101 [(0,S d0),(1,iL d1),(6,iL ((cZ).toNat:Int)),(38,bO G3)] a_24∧Hp w0 V3 (H) W3) ?_ ?_
       ·refine aA (Y f 3 λ_ f=>?_)
        rcases cE hj_4 with⟨B6,F17⟩|⟨B6,F18⟩
        ·have U11:=dI.1 B6
         have f:=f.st 41 (cB B6)
         refine Ye f 4 λ_ f=>?_
         exact⟨(decide (((cZ).toNat:Int)<240)),(sI F17).symm,V2,(mR _),f.kp,N2⟩
        ·have U12:=aq dI B6
         have f:=f.st 41 (cB B6)
         refine Ye f 4 λ_ f=>?_
         exact⟨(false),(sI F18).symm,V2,(mR _),f.kp,N2⟩
       ·rintro a_24 W3 ⟨G3,lb,V3,J3,f,N3⟩
        subst j_4
        refine aK (RcF f F16 (λB7 F19=>?_) λB7 F20=>?_)
        ·refine RR (Ye f 1 λ_ f=>RR (Ye f 3 λ_ f=>aA (Y f 1 λ_ f=>ap rfl (dZ (aK ?_)))))
         exact⟨((3:Int),bAnd .i64 ((cZ).toNat:Int) (15:Int),(2048:Int)),(sI F19).symm,V3,(J2.trans J3),f.kp,N3⟩
        ·refine an ?_
         obtain⟨j_5,hj_5,F21⟩:=bS F20
         refine bD (λa_31 W4=>∃G4:Bool,j_5=G4∧∃V4:Mem,V3.le V4∧Frm 101 [(0,S d0),(1,iL d1),(6,iL ((cZ).toNat:Int)),(47,bO G4)] a_31∧Hp w0 V4 (H) W4) ?_ ?_
         ·refine aA (Y f 3 λ_ f=>?_)
          rcases cE hj_5 with⟨B8,F22⟩|⟨B8,F23⟩
          ·have U15:=dI.1 B8
           have f:=f.st 50 (cB B8)
           refine Ye f 4 λ_ f=>?_
           exact⟨(decide (((cZ).toNat:Int)<248)),(sI F22).symm,V3,(mR _),f.kp,N3⟩
          ·have U16:=aq dI B8
           have f:=f.st 50 (cB B8)
           refine Ye f 4 λ_ f=>?_
           exact⟨(false),(sI F23).symm,V3,(mR _),f.kp,N3⟩
         ·rintro a_31 W4 ⟨G4,hq_4,V4,J4,f,N4⟩
          subst j_5
          refine aK (RcF f F21 (λB9 F24=>?_) λB9 F25=>?_)
          ·refine RR (Ye f 1 λ_ f=>RR (Ye f 3 λ_ f=>aA (Y f 1 λ_ f=>ap rfl (dZ (aK ?_)))))
           exact⟨((4:Int),bAnd .i64 ((cZ).toNat:Int) (7:Int),(65536:Int)),(sI F24).symm,V4,((J2.trans J3).trans J4),f.kp,N4⟩
          ·refine RR (Ye f 2 λ_ f=>wp_ret (ed ?_))
           have F26:=bF F25 F7
           refine bC (bC (eX f rfl (Lk 4 (iL 0)) (Lk 5 (iL 0)) ?_))
           cases sI F26
           exact⟨_,rfl,V4,(((J1.trans J2).trans J3).trans J4),N4,rfl⟩
   ·rintro a_36 W5 ⟨G5,rfl,V5,J5,f,N5⟩
    refine aK (an (RR (Y f 2 λ_ f=>?_)))
    obtain⟨O1,F27⟩:=nS F7
    refine Y f 1 λ_ f=>?_
    have f:=f.st 58 (iW O1)
    refine Ye f 3 λ_ f=>RcF f F27 (λB10 F28=>?_) λB10 F29=>?_
    ·have U19:=dI.1 B10
     refine RR (Ye f 2 λ_ f=>wp_ret (bC (eX f rfl (Lk 4 (iL 0)) (Lk 5 (iL 0)) ?_)))
     cases sI F28
     exact⟨_,rfl,V5,(J1.trans J5),N5,rfl⟩
    ·have U20:=aq dI B10
     refine St (an (RR (Ye f 1 λ_ f=>wp_block ?_)))
     obtain⟨Q1,co,F30⟩:=bS F29
     refine wp_mono (Q:=λe a w=>(e=.ret∧(∃G7:Unit,Q1=.inl G7∧∃V8:Mem,V5.le V8∧Frm 101 [(4,iL 0),(5,iL 0)] a∧Hp w0 V8 (H) w))∨(e=.exit 1∧(∃G8:Int,Q1=.inr G8∧∃V9:Mem,V5.le V9∧Frm 101 [(7,iL G5.1),(8,iL G8),(9,iL G5.2.2)] a∧Hp w0 V9 (H) w))) (bT (n:=101) (w0:=w0) (M:=V5) (λ (I1,K1)=>[(0,S d0),(1,iL d1),(7,iL G5.1),(8,iL K1.1),(9,iL G5.2.2),(10,iL K1.2)]) (λ (I1,K1)=>(H)) (λ (I1,K1) MM=>aE (ct n d0 d1 G5) I1 K1=some Q1) (λ (I1,K1)=>I1) (n,(G5.2.1,(1:Int))) (f.kp) N5 co ?_) ?_
     ·rintro⟨I1,K1⟩ V6 _ W6 J6 gM f N6
      have cu:=gM
      obtain⟨I2,lO,rfl,bx,T1⟩:=aZ cu
      unfold ct at bx
      refine an (RR (Ye f 3 λ_ f=>RcF f bx (λB11 F31=>?_) λB11 F43=>?_))
      ·have U21:=dI.1 B11
       refine St (an (wp_block (RR (Y f 3 λ_ f=>?_))))
       obtain⟨O2,F32⟩:=nS F31
       refine Y f 1 λ_ f=>?_
       have f:=f.st 70 (iW O2)
       obtain⟨gW,l2,F33⟩:=bS F32
       refine Z f (Y35 rfl (l:=d0) (k:=.i64) (i:=d1+K1.2) (ax l2) (aw l2)) λ_ f=>?_
       have f:=Frm.set f 71 (v:=.int .u8 ((d0.getD (d1+K1.2).toNat 0).toNat:Int)) (v':=.int .u8 ((gW).toNat:Int)) kr (congrArg (λc:UInt8=>Value.int .u8 ((c.toNat:Nat):Int)) (cG l2))
       refine Y f 1 λ_ f=>?_
       have f:=Frm.set f 72 (v:=iL (IntKind.wrap .i64 (((gW).toNat:Int)))) (v':=iL ((gW).toNat:Int)) kr (congrArg (Value.int .i64) (lY _ (by simp) _))
       refine Ye f 1 λ_ f=>an (an ?_)
       obtain⟨j_6,hj_6,F34⟩:=bS F33
       refine bD (λa_52 W7=>∃G6:Bool,j_6=G6∧∃V7:Mem,V6.le V7∧Frm 101 [(0,S d0),(1,iL d1),(7,iL G5.1),(8,iL K1.1),(9,iL G5.2.2),(10,iL K1.2),(11,iL ((gW).toNat:Int)),(78,bO G6)] a_52∧Hp w0 V7 (H) W7) ?_ ?_
       ·refine aA (Y f 3 λ_ f=>?_)
        rcases cE hj_6 with⟨B12,F35⟩|⟨B12,F36⟩
        ·have U22:=dI.1 B12
         have f:=f.st 75 (cB B12)
         refine Ye f 3 λ_ f=>?_
         exact⟨(true),(sI F35).symm,V6,(mR _),f.kp,N6⟩
        ·have U23:=aq dI B12
         have f:=f.st 75 (cB B12)
         refine Ye f 3 λ_ f=>?_
         exact⟨(decide ((191:Int)<((gW).toNat:Int))),(sI F36).symm,V6,(mR _),f.kp,N6⟩
       ·rintro a_52 W7 ⟨G6,hq_6,V7,J7,f,N7⟩
        subst j_6
        refine aK (RcF f F34 (λB13 F37=>?_) λB13 F38=>?_)
        ·refine RR (Ye f 2 λ_ f=>wp_ret (bC (ed (bC (bC ?_)))))
         cases sI F37
         exact .inl ⟨rfl,(),(sI T1).symm,V7,(J6.trans J7),f.kp,N7⟩
        ·refine St (aA (Y f 1 λ_ f=>?_))
         obtain⟨O3,F39⟩:=nS F38
         refine Y f 1 λ_ f=>?_
         have f:=f.st 80 (iW O3)
         refine Y f 1 λ_ f=>?_
         obtain⟨O4,F40⟩:=nS F39
         refine Y f 1 λ_ f=>?_
         have f:=f.st 82 (iW O4)
         obtain⟨O5,F41⟩:=nS F40
         refine Y f 1 λ_ f=>?_
         have f:=f.st 83 (iW O5)
         refine Y f 1 λ_ f=>ap rfl (dZ (aK (aA (Y f 1 λ_ f=>?_))))
         obtain⟨O6,F42⟩:=nS F41
         refine Y f 1 λ_ f=>?_
         have f:=f.st 66 (iW O6)
         refine Ye f 1 λ_ f=>?_
         cases sI F42
         exact⟨⟨I2,((((64:Int)*K1.1)+ ((gW).toNat:Int))-128,K1.2+1)⟩,Nat.lt_succ_self _,V7,(J6.trans J7),T1,f.kp,N7⟩
      ·have U26:=aq dI B11
       refine wp_exit (eH (eH ?_))
       cases sI F43
       exact .inr ⟨rfl,K1.1,(sI T1).symm,V6,J6,f.kp,N6⟩
     ·rintro _ _ W10 (⟨rfl,G7,rfl,V8,J8,f,N8⟩|⟨rfl,G8,rfl,V9,J9,f,N9⟩)
      ·refine ed (bC (eX f rfl (Lk 4 (iL 0)) (Lk 5 (iL 0)) ?_))
       cases sI F30
       exact⟨_,rfl,V8,((J1.trans J5).trans J8),N8,rfl⟩
      ·refine kh (aK (an (an ?_)))
       obtain⟨j_7,hj_7,F44⟩:=bS F30
       refine bD (λa_73 W11=>∃G9:Bool,j_7=G9∧∃V10:Mem,V9.le V10∧Frm 101 [(7,iL G5.1),(8,iL G8),(98,bO G9)] a_73∧Hp w0 V10 (H) W11) ?_ ?_
       ·refine aA (Y f 4 λ_ f=>?_)
        rcases cE hj_7 with⟨B14,F45⟩|⟨B14,F46⟩
        ·have U27:=dI.1 B14
         have f:=f.st 87 (cB B14)
         refine Ye f 11 λ_ f=>?_
         exact⟨(true),(sI F45).symm,V9,(mR _),f.kp,N9⟩
        ·have U28:=aq dI B14
         have f:=f.st 87 (cB B14)
         refine Y f 4 λ_ f=>?_
         rcases cE F46 with⟨B15,F47⟩|⟨B15,F48⟩
         ·have U29:=dI.1 B15
          have f:=f.st 91 (cB B15)
          refine Ye f 7 λ_ f=>?_
          exact⟨(true),(sI F47).symm,V9,(mR _),f.kp,N9⟩
         ·have U30:=aq dI B15
          have f:=f.st 91 (cB B15)
          refine Y f 3 λ_ f=>?_
          rcases cE F48 with⟨B16,F49⟩|⟨B16,F50⟩
          ·have U31:=dI.1 B16
           have f:=f.st 94 (cB B16)
           refine Ye f 4 λ_ f=>?_
           exact⟨(decide (G8≤57343)),(sI F49).symm,V9,(mR _),f.kp,N9⟩
          ·have U32:=aq dI B16
           have f:=f.st 94 (cB B16)
           refine Ye f 4 λ_ f=>?_
           exact⟨(false),(sI F50).symm,V9,(mR _),f.kp,N9⟩
       ·rintro a_73 W11 ⟨G9,hq_7,V10,J10,f,N10⟩
        subst j_7
        refine aK (RcF f F44 (λB17 F51=>?_) λB17 F52=>?_)
        ·refine RR (Ye f 2 λ_ f=>wp_ret (bC (eX f rfl (Lk 4 (iL 0)) (Lk 5 (iL 0)) ?_)))
         cases sI F51
         exact⟨_,rfl,V10,(((J1.trans J5).trans J9).trans J10),N10,rfl⟩
        ·refine St (RR (Ye f 4 λ_ f=>wp_ret (eX f rfl (Lk 4 (iL G8)) (Lk 5 (iL G5.1)) ?_)))
         cases sI F52
         exact⟨_,rfl,V10,(((J1.trans J5).trans J9).trans J10),N10,rfl⟩
def cx (n:Nat) (d0:Bs) (K1:Int):Option (Lp Int (Sum Unit Unit)):=
    bif(decide (K1<(d0.length:Int))) then
     ((ja n d0 K1).bind λX1=>
     bif(decide (X1.2=0)) then
      (some (.br (.inl ())))
     else
      aS (inR .i64 (K1+X1.2))<|
      some (.nx (K1+X1.2)))
    else
     some (.br (.inr ()))
def dA (n:Nat) (d0:Bs):Option Bool:=
 (aE (cx n d0) n (0:Int)).bind λQ1=>
 (match Q1 with
 |.inl G1=>some ((false))
 |.inr G2=>some ((true)))
theorem gm (n:Nat) (M:Mem) (d0:Bs) (r:Bool) (hF:dA n d0=some r):Ok Tryz.prog M 86 [S d0] (λ_ v=>v=bO r):=by
 unfold dA at hF
 intro M1 hM0 w0 H w p0
 refine Re 21 Tryz.func86 rfl λa0 f0=>RR (Ye f0 1 λ_ f=>RR (Ye f 1 λ_ f=>an (wp_block ?_)))
 obtain⟨Q1,co,F1⟩:=bS hF
 refine wp_mono (Q:=λe a w=>(e=.ret∧(∃G1:Unit,Q1=.inl G1∧∃V2:Mem,M1.le V2∧Frm 21 [(2,bO false)] a∧Hp w0 V2 (H) w))∨(e=.exit 0∧(∃G2:Unit,Q1=.inr G2∧∃V3:Mem,M1.le V3∧Frm 21 [] a∧Hp w0 V3 (H) w))) (bT (n:=21) (w0:=w0) (M:=M1) (λ (I1,K1)=>[(0,S d0),(3,iL K1)]) (λ (I1,K1)=>(H)) (λ (I1,K1) MM=>aE (cx n d0) I1 K1=some Q1) (λ (I1,K1)=>I1) (n,(0:Int)) (f.kp) p0 co ?_) ?_
 ·rintro⟨I1,K1⟩ V1 _ W1 J1 gM f N1
  have cu:=gM
  obtain⟨I2,lO,rfl,bx,T1⟩:=aZ cu
  unfold cx at bx
  refine an (RR (Ye f 4 λ_ f=>RcF f bx (λB1 F2=>?_) λB1 F7=>?_))
  ·have U1:=dI.1 B1
   refine St (wp_block (RR (Y f 2 λ_ f=>?_)))
   obtain⟨X1,l1,F3⟩:=bS F2
   refine Y19 f N1 (ref01_One_ok n _ d0 K1 X1 l1) λW2 N2 _ f=>Ye f 5 λ_ f=>an (RR (Ye f 2 λ_ f=>RcF f F3 (λB2 F4=>?_) λB2 F5=>?_))
   ·have U2:=dI.1 B2
    refine RR (Ye f 1 λ_ f=>wp_ret (bC (ed (bC ?_))))
    cases sI F4
    exact .inl ⟨rfl,(),(sI T1).symm,V1,J1,f.kp,N2⟩
   ·have U3:=aq dI B2
    refine St (aA (Y f 2 λ_ f=>?_))
    obtain⟨O1,F6⟩:=nS F5
    refine Y f 1 λ_ f=>?_
    have f:=f.st 20 (iW O1)
    refine Y f 1 λ_ f=>ap rfl (dZ (aK ?_))
    cases sI F6
    exact⟨⟨I2,K1+X1.2⟩,Nat.lt_succ_self _,V1,J1,T1,f.kp,N2⟩
  ·have U4:=aq dI B1
   refine wp_exit (eH (eH ?_))
   cases sI F7
   exact .inr ⟨rfl,(),(sI T1).symm,V1,J1,f.kp,N1⟩
 ·rintro _ _ W5 (⟨rfl,G1,rfl,V2,J2,f,N3⟩|⟨rfl,G2,rfl,V3,J3,f,N4⟩)
  ·refine ed (bC (au f rfl (Lk 2 (bO false)) ?_))
   cases sI F1
   exact⟨_,rfl,V2,J2,N3,rfl⟩
  ·refine kh (aK (RR (Ye f 1 λ_ f=>wp_ret (au f rfl (Lk 2 (bO true)) ?_))))
   cases sI F1
   exact⟨_,rfl,V3,J3,N4,rfl⟩
def eA (n:Nat) (d0:Int):Option Bool:=
 bif(decide ((97:Int)≤d0)) then
  (bif(decide (d0≤122)) then
   (some ((true)))
  else
   bif(decide ((65:Int)≤d0)) then
    (some ((decide (d0≤90))))
   else
    some ((false)))
 else
  bif(decide ((65:Int)≤d0)) then
   (some ((decide (d0≤90))))
  else
   some ((false))
theorem jz (n:Nat) (M:Mem) (d0:Int) (r:Bool) (hF:eA n d0=some r):Ok Tryz.prog M 103 [.int .u8 d0] (λ_ v=>v=bO r):=by
 unfold eA at hF
 intro M1 hM0 w0 H w p0
 refine Re 17 Tryz.func103 rfl λa0 f0=>RR (Ye f0 1 λ_ f=>RR (Y f 3 λ_ f=>?_))
 rcases cE hF with⟨B1,F1⟩|⟨B1,F6⟩
 ·have U1:=dI.1 B1
  have f:=f.st 5 (cB B1)
  refine Y f 4 λ_ f=>?_
  rcases cE F1 with⟨B2,F2⟩|⟨B2,F3⟩
  ·have U2:=dI.1 B2
   have f:=f.st 9 (cB B2)
   refine Ye f 8 λ_ f=>wp_ret (au f rfl (Lk 2 (bO true)) ?_)
   cases sI F2
   exact⟨_,rfl,M1,(mR _),p0,rfl⟩
  ·have U3:=aq dI B2
   have f:=f.st 9 (cB B2)
   refine Y f 3 λ_ f=>?_
   rcases cE F3 with⟨B3,F4⟩|⟨B3,F5⟩
   ·have U4:=dI.1 B3
    have f:=f.st 12 (cB B3)
    refine Ye f 5 λ_ f=>wp_ret (au f rfl (Lk 2 (bO (decide (d0≤90)))) ?_)
    cases sI F4
    exact⟨_,rfl,M1,(mR _),p0,rfl⟩
   ·have U5:=aq dI B3
    have f:=f.st 12 (cB B3)
    refine Ye f 5 λ_ f=>wp_ret (au f rfl (Lk 2 (bO false)) ?_)
    cases sI F5
    exact⟨_,rfl,M1,(mR _),p0,rfl⟩
 ·have U6:=aq dI B1
  have f:=f.st 5 (cB B1)
  refine Y f 7 λ_ f=>?_
  rcases cE F6 with⟨B4,F7⟩|⟨B4,F8⟩
  ·have U7:=dI.1 B4
   have f:=f.st 12 (cB B4)
   refine Ye f 5 λ_ f=>wp_ret (au f rfl (Lk 2 (bO (decide (d0≤90)))) ?_)
   cases sI F7
   exact⟨_,rfl,M1,(mR _),p0,rfl⟩
  ·have U8:=aq dI B4
   have f:=f.st 12 (cB B4)
   refine Ye f 5 λ_ f=>wp_ret (au f rfl (Lk 2 (bO false)) ?_)
   cases sI F8
   exact⟨_,rfl,M1,(mR _),p0,rfl⟩
def gQ (n:Nat) (d0:Int):Option Bool:=
 bif(decide ((48:Int)≤d0)) then
  (some ((decide (d0≤57))))
 else
  some ((false))
theorem nk (n:Nat) (M:Mem) (d0:Int) (r:Bool) (hF:gQ n d0=some r):Ok Tryz.prog M 104 [.int .u8 d0] (λ_ v=>v=bO r):=by
 unfold gQ at hF
 intro M1 hM0 w0 H w p0
 refine Re 9 Tryz.func104 rfl λa0 f0=>RR (Ye f0 1 λ_ f=>RR (Y f 3 λ_ f=>?_))
 rcases cE hF with⟨B1,F1⟩|⟨B1,F2⟩
 ·have U1:=dI.1 B1
  have f:=f.st 5 (cB B1)
  refine Ye f 4 λ_ f=>wp_ret (au f rfl (Lk 2 (bO (decide (d0≤57)))) ?_)
  cases sI F1
  exact⟨_,rfl,M1,(mR _),p0,rfl⟩
 ·have U2:=aq dI B1
  have f:=f.st 5 (cB B1)
  refine Ye f 4 λ_ f=>wp_ret (au f rfl (Lk 2 (bO false)) ?_)
  cases sI F2
  exact⟨_,rfl,M1,(mR _),p0,rfl⟩
def dS (n:Nat) (d0:Bs) (K1:Int):Option (Lp Int (Sum Unit Unit)):=
    bif(decide (K1<(d0.length:Int))) then
     ((aQ d0 K1).bind λgW=>
     (eA n ((gW).toNat:Int)).bind λX2=>
     bif !X2 then
      ((aQ d0 K1).bind λmy=>
      (gQ n ((my).toNat:Int)).bind λX3=>
      bif !X3 then
       (some (.br (.inl ())))
      else
       aS (inR .i64 (K1+1))<|
       some (.nx (K1+1)))
     else
      aS (inR .i64 (K1+1))<|
      some (.nx (K1+1)))
    else
     some (.br (.inr ()))
def dD (n:Nat) (d0:Bs):Option Bool:=
 ((bif(decide ((d0.length:Int)<1)) then
  (some ((true)))
   else
    bif(decide ((32:Int)<(d0.length:Int))) then
     (some ((true)))
    else
     (aQ d0 (0:Int)).bind λcZ=>
     (eA n ((cZ).toNat:Int)).bind λX1=>
     some ((!X1)):Option Bool)).bind λG1=>
 bif G1 then
  (some ((false)))
 else
  (aE (dS n d0) n (0:Int)).bind λQ1=>
  (match Q1 with
  |.inl G2=>some ((false))
  |.inr G3=>some ((true)))
set_option maxRecDepth 20000 in
theorem eK (n:Nat) (M:Mem) (d0:Bs) (r:Bool) (hF:dD n d0=some r):Ok Tryz.prog M 60 [S d0] (λ_ v=>v=bO r):=by
 unfold dD at hF
 intro M1 hM0 w0 H w p0
 refine Re 36 Tryz.func60 rfl λa0 f0=>RR (Ye f0 1 λ_ f=>an (an ?_))
 obtain⟨gN,ec,F1⟩:=bS hF
 refine bD (λa_10 W2=>∃G1:Bool,gN=G1∧∃V1:Mem,M1.le V1∧Frm 36 [(0,S d0),(17,bO G1)] a_10∧Hp w0 V1 (H) W2) ?_ ?_
 ·refine aA (Y f 4 λ_ f=>?_)
  rcases cE ec with⟨B1,F2⟩|⟨B1,F3⟩
  ·have U1:=dI.1 B1
   have f:=f.st 7 (cB B1)
   refine Ye f 10 λ_ f=>?_
   exact⟨(true),(sI F2).symm,M1,(mR _),f.kp,p0⟩
  ·have U2:=aq dI B1
   have f:=f.st 7 (cB B1)
   refine Y f 5 λ_ f=>?_
   rcases cE F3 with⟨B2,F4⟩|⟨B2,F5⟩
   ·have U3:=dI.1 B2
    have f:=f.st 12 (cB B2)
    refine Ye f 5 λ_ f=>?_
    exact⟨(true),(sI F4).symm,M1,(mR _),f.kp,p0⟩
   ·have U4:=aq dI B2
    have f:=f.st 12 (cB B2)
    refine Y f 1 λ_ f=>?_
    obtain⟨cZ,l1,F6⟩:=bS F5
    refine Z f (Y35 rfl (l:=d0) (k:=.i64) (i:=(0:Int)) (ax l1) (aw l1)) λ_ f=>?_
    have f:=Frm.set f 14 (v:=.int .u8 ((d0.getD (0:Int).toNat 0).toNat:Int)) (v':=.int .u8 ((cZ).toNat:Int)) kr (congrArg (λc:UInt8=>Value.int .u8 ((c.toNat:Nat):Int)) (cG l1))
    obtain⟨X1,l2,F7⟩:=bS F6
    refine Y19 f p0 (jz n _ ((cZ).toNat:Int) X1 l2) λW1 N1 _ f=>Ye f 2 λ_ f=>?_
    exact⟨(!X1),(sI F7).symm,M1,(mR _),f.kp,N1⟩
 ·rintro a_10 W2 ⟨G1,dC,V1,J1,f,N2⟩
  subst gN
  refine aK (RcF f F1 (λB3 F8=>?_) λB3 F9=>?_)
  ·refine RR (Ye f 1 λ_ f=>wp_ret (bC (au f rfl (Lk 2 (bO false)) ?_)))
   cases sI F8
   exact⟨_,rfl,V1,J1,N2,rfl⟩
  ·refine St (an (RR (Ye f 1 λ_ f=>wp_block ?_)))
   obtain⟨Q1,co,F10⟩:=bS F9
   refine wp_mono (Q:=λe a w=>(e=.ret∧(∃G2:Unit,Q1=.inl G2∧∃V3:Mem,V1.le V3∧Frm 36 [(2,bO false)] a∧Hp w0 V3 (H) w))∨(e=.exit 0∧(∃G3:Unit,Q1=.inr G3∧∃V4:Mem,V1.le V4∧Frm 36 [] a∧Hp w0 V4 (H) w))) (bT (n:=36) (w0:=w0) (M:=V1) (λ (I1,K1)=>[(0,S d0),(3,iL K1)]) (λ (I1,K1)=>(H)) (λ (I1,K1) MM=>aE (dS n d0) I1 K1=some Q1) (λ (I1,K1)=>I1) (n,(0:Int)) (f.kp) N2 co ?_) ?_
   ·rintro⟨I1,K1⟩ V2 _ W3 J2 gM f N3
    have cu:=gM
    obtain⟨I2,lO,rfl,bx,T1⟩:=aZ cu
    unfold dS at bx
    refine an (RR (Ye f 4 λ_ f=>RcF f bx (λB4 F11=>?_) λB4 F22=>?_))
    ·have U7:=dI.1 B4
     refine St (an (wp_block (RR (Y f 2 λ_ f=>?_))))
     obtain⟨gW,l3,F12⟩:=bS F11
     refine Z f (Y35 rfl (l:=d0) (k:=.i64) (i:=K1) (ax l3) (aw l3)) λ_ f=>?_
     have f:=Frm.set f 26 (v:=.int .u8 ((d0.getD K1.toNat 0).toNat:Int)) (v':=.int .u8 ((gW).toNat:Int)) kr (congrArg (λc:UInt8=>Value.int .u8 ((c.toNat:Nat):Int)) (cG l3))
     obtain⟨X2,l4,F13⟩:=bS F12
     refine Y19 f N3 (jz n _ ((gW).toNat:Int) X2 l4) λW4 N4 _ f=>Y f 2 λ_ f=>?_
     rcases cE F13 with⟨B5,F14⟩|⟨B5,F20⟩
     ·have U8: (X2)=false:=by simpa using B5
      have f:=f.st 29 (cB B5)
      refine Y f 2 λ_ f=>?_
      obtain⟨my,l5,F15⟩:=bS F14
      refine Z f (Y35 rfl (l:=d0) (k:=.i64) (i:=K1) (ax l5) (aw l5)) λ_ f=>?_
      have f:=Frm.set f 32 (v:=.int .u8 ((d0.getD K1.toNat 0).toNat:Int)) (v':=.int .u8 ((my).toNat:Int)) kr (congrArg (λc:UInt8=>Value.int .u8 ((c.toNat:Nat):Int)) (cG l5))
      obtain⟨X3,l6,F16⟩:=bS F15
      refine Y19 f N4 (nk n _ ((my).toNat:Int) X3 l6) λW5 N5 _ f=>Ye f 2 λ_ f=>RcF f F16 (λB6 F17=>?_) λB6 F18=>?_
      ·have U9: (X3)=false:=by simpa using B6
       refine RR (Ye f 1 λ_ f=>wp_ret (ed (bC (bC ?_))))
       cases sI F17
       exact .inl ⟨rfl,(),(sI T1).symm,V2,J2,f.kp,N5⟩
      ·have U10: (X3)=true:=by simpa using B6
       refine wp_skip (dZ (aK (aA (Y f 1 λ_ f=>?_))))
       obtain⟨O1,F19⟩:=nS F18
       refine Y f 1 λ_ f=>?_
       have f:=f.st 23 (iW O1)
       refine Ye f 1 λ_ f=>?_
       cases sI F19
       exact⟨⟨I2,K1+1⟩,Nat.lt_succ_self _,V2,J2,T1,f.kp,N5⟩
     ·have U11: (X2)=true:=by simpa using B5
      have f:=f.st 29 (cB B5)
      refine Ye f 6 λ_ f=>Y8 f (wp_skip (dZ (aK (aA (Y f 1 λ_ f=>?_)))))
      obtain⟨O2,F21⟩:=nS F20
      refine Y f 1 λ_ f=>?_
      have f:=f.st 23 (iW O2)
      refine Ye f 1 λ_ f=>?_
      cases sI F21
      exact⟨⟨I2,K1+1⟩,Nat.lt_succ_self _,V2,J2,T1,f.kp,N4⟩
    ·have U12:=aq dI B4
     refine wp_exit (eH (eH ?_))
     cases sI F22
     exact .inr ⟨rfl,(),(sI T1).symm,V2,J2,f.kp,N3⟩
   ·rintro _ _ W8 (⟨rfl,G2,rfl,V3,J3,f,N6⟩|⟨rfl,G3,rfl,V4,J4,f,N7⟩)
    ·refine ed (bC (au f rfl (Lk 2 (bO false)) ?_))
     cases sI F10
     exact⟨_,rfl,V3,(J1.trans J3),N6,rfl⟩
    ·refine kh (aK (RR (Ye f 1 λ_ f=>wp_ret (au f rfl (Lk 2 (bO true)) ?_))))
     cases sI F10
     exact⟨_,rfl,V4,(J1.trans J4),N7,rfl⟩
def eB (n:Nat) (d0:Bs) (K1:Int):Option (Lp Int (Sum Int Unit)):=
    bif(decide (K1<(d0.length:Int))) then
     ((aQ d0 K1).bind λcZ=>
     bif(decide (((cZ).toNat:Int)=46)) then
      (some (.br (.inl K1)))
     else
      aS (inR .i64 (K1+1))<|
      some (.nx (K1+1)))
    else
     some (.br (.inr ()))
def ij (n:Nat) (d0:Bs):Option Int:=
 (aE (eB n d0) n (0:Int)).bind λQ1=>
 (match Q1 with
 |.inl G1=>some (G1)
 |.inr G2=>some ((-1:Int)))
theorem lr (n:Nat) (M:Mem) (d0:Bs) (r:Int) (hF:ij n d0=some r):Ok Tryz.prog M 128 [S d0] (λ_ v=>v=iL r):=by
 unfold ij at hF
 intro M1 hM0 w0 H w p0
 refine Re 15 Tryz.func128 rfl λa0 f0=>RR (Ye f0 1 λ_ f=>an (RR (Ye f 1 λ_ f=>wp_block ?_)))
 obtain⟨Q1,co,F1⟩:=bS hF
 refine wp_mono (Q:=λe a w=>(e=.ret∧(∃G1:Int,Q1=.inl G1∧∃V2:Mem,M1.le V2∧Frm 15 [(2,iL G1)] a∧Hp w0 V2 (H) w))∨(e=.exit 0∧(∃G2:Unit,Q1=.inr G2∧∃V3:Mem,M1.le V3∧Frm 15 [] a∧Hp w0 V3 (H) w))) (bT (n:=15) (w0:=w0) (M:=M1) (λ (I1,K1)=>[(0,S d0),(3,iL K1)]) (λ (I1,K1)=>(H)) (λ (I1,K1) MM=>aE (eB n d0) I1 K1=some Q1) (λ (I1,K1)=>I1) (n,(0:Int)) (f.kp) p0 co ?_) ?_
 ·rintro⟨I1,K1⟩ V1 _ W1 J1 gM f N1
  have cu:=gM
  obtain⟨I2,lO,rfl,bx,T1⟩:=aZ cu
  unfold eB at bx
  refine an (RR (Ye f 4 λ_ f=>RcF f bx (λB1 F2=>?_) λB1 F7=>?_))
  ·have U1:=dI.1 B1
   refine St (an (wp_block (RR (Y f 2 λ_ f=>?_))))
   obtain⟨cZ,l1,F3⟩:=bS F2
   refine Z f (Y35 rfl (l:=d0) (k:=.i64) (i:=K1) (ax l1) (aw l1)) λ_ f=>?_
   have f:=Frm.set f 12 (v:=.int .u8 ((d0.getD K1.toNat 0).toNat:Int)) (v':=.int .u8 ((cZ).toNat:Int)) kr (congrArg (λc:UInt8=>Value.int .u8 ((c.toNat:Nat):Int)) (cG l1))
   refine Ye f 1 λ_ f=>RcF f F3 (λB2 F4=>?_) λB2 F5=>?_
   ·have U2:=dI.1 B2
    refine RR (Ye f 2 λ_ f=>wp_ret (ed (bC (bC ?_))))
    cases sI F4
    exact .inl ⟨rfl,K1,(sI T1).symm,V1,J1,f.kp,N1⟩
   ·have U3:=aq dI B2
    refine wp_skip (dZ (aK (aA (Y f 1 λ_ f=>?_))))
    obtain⟨O1,F6⟩:=nS F5
    refine Y f 1 λ_ f=>?_
    have f:=f.st 9 (iW O1)
    refine Ye f 1 λ_ f=>?_
    cases sI F6
    exact⟨⟨I2,K1+1⟩,Nat.lt_succ_self _,V1,J1,T1,f.kp,N1⟩
  ·have U4:=aq dI B1
   refine wp_exit (eH (eH ?_))
   cases sI F7
   exact .inr ⟨rfl,(),(sI T1).symm,V1,J1,f.kp,N1⟩
 ·rintro _ _ W4 (⟨rfl,G1,rfl,V2,J2,f,N2⟩|⟨rfl,G2,rfl,V3,J3,f,N3⟩)
  ·refine ed (bC (au f rfl (Lk 2 (iL G1)) ?_))
   cases sI F1
   exact⟨_,rfl,V2,J2,N2,rfl⟩
  ·refine kh (aK (RR (Ye f 1 λ_ f=>wp_ret (au f rfl (Lk 2 (iL (-1))) ?_))))
   cases sI F1
   exact⟨_,rfl,V3,J3,N3,rfl⟩
def dU (n:Nat) (d0:Bs) (K1:Int):Option (Lp Int (Sum Int Unit)):=
    bif(decide (K1<(d0.length:Int))) then
     ((aQ d0 K1).bind λcZ=>
     bif(decide (((cZ).toNat:Int)=125)) then
      (some (.br (.inl K1)))
     else
      aS (inR .i64 (K1+1))<|
      some (.nx (K1+1)))
    else
     some (.br (.inr ()))
def iu (n:Nat) (d0:Bs) (d1:Int):Option Int:=
 (aE (dU n d0) n d1).bind λQ1=>
 (match Q1 with
 |.inl G1=>some (G1)
 |.inr G2=>some ((-1:Int)))
theorem nO (n:Nat) (M:Mem) (d0:Bs) (d1:Int) (r:Int) (hF:iu n d0 d1=some r):Ok Tryz.prog M 129 [S d0,iL d1] (λ_ v=>v=iL r):=by
 unfold iu at hF
 intro M1 hM0 w0 H w p0
 refine Re 18 Tryz.func129 rfl λa0 f0=>RR (Ye f0 1 λ_ f=>an (RR (Ye f 2 λ_ f=>wp_block ?_)))
 obtain⟨Q1,co,F1⟩:=bS hF
 refine wp_mono (Q:=λe a w=>(e=.ret∧(∃G1:Int,Q1=.inl G1∧∃V2:Mem,M1.le V2∧Frm 18 [(4,iL G1)] a∧Hp w0 V2 (H) w))∨(e=.exit 0∧(∃G2:Unit,Q1=.inr G2∧∃V3:Mem,M1.le V3∧Frm 18 [] a∧Hp w0 V3 (H) w))) (bT (n:=18) (w0:=w0) (M:=M1) (λ (I1,K1)=>[(0,S d0),(5,iL K1)]) (λ (I1,K1)=>(H)) (λ (I1,K1) MM=>aE (dU n d0) I1 K1=some Q1) (λ (I1,K1)=>I1) (n,d1) (f.kp) p0 co ?_) ?_
 ·rintro⟨I1,K1⟩ V1 _ W1 J1 gM f N1
  have cu:=gM
  obtain⟨I2,lO,rfl,bx,T1⟩:=aZ cu
  unfold dU at bx
  refine an (RR (Ye f 4 λ_ f=>RcF f bx (λB1 F2=>?_) λB1 F7=>?_))
  ·have U1:=dI.1 B1
   refine St (an (wp_block (RR (Y f 2 λ_ f=>?_))))
   obtain⟨cZ,l1,F3⟩:=bS F2
   refine Z f (Y35 rfl (l:=d0) (k:=.i64) (i:=K1) (ax l1) (aw l1)) λ_ f=>?_
   have f:=Frm.set f 15 (v:=.int .u8 ((d0.getD K1.toNat 0).toNat:Int)) (v':=.int .u8 ((cZ).toNat:Int)) kr (congrArg (λc:UInt8=>Value.int .u8 ((c.toNat:Nat):Int)) (cG l1))
   refine Ye f 1 λ_ f=>RcF f F3 (λB2 F4=>?_) λB2 F5=>?_
   ·have U2:=dI.1 B2
    refine RR (Ye f 2 λ_ f=>wp_ret (ed (bC (bC ?_))))
    cases sI F4
    exact .inl ⟨rfl,K1,(sI T1).symm,V1,J1,f.kp,N1⟩
   ·have U3:=aq dI B2
    refine wp_skip (dZ (aK (aA (Y f 1 λ_ f=>?_))))
    obtain⟨O1,F6⟩:=nS F5
    refine Y f 1 λ_ f=>?_
    have f:=f.st 12 (iW O1)
    refine Ye f 1 λ_ f=>?_
    cases sI F6
    exact⟨⟨I2,K1+1⟩,Nat.lt_succ_self _,V1,J1,T1,f.kp,N1⟩
  ·have U4:=aq dI B1
   refine wp_exit (eH (eH ?_))
   cases sI F7
   exact .inr ⟨rfl,(),(sI T1).symm,V1,J1,f.kp,N1⟩
 ·rintro _ _ W4 (⟨rfl,G1,rfl,V2,J2,f,N2⟩|⟨rfl,G2,rfl,V3,J3,f,N3⟩)
  ·refine ed (bC (au f rfl (Lk 4 (iL G1)) ?_))
   cases sI F1
   exact⟨_,rfl,V2,J2,N2,rfl⟩
  ·refine kh (aK (RR (Ye f 1 λ_ f=>wp_ret (au f rfl (Lk 4 (iL (-1))) ?_))))
   cases sI F1
   exact⟨_,rfl,V3,J3,N3,rfl⟩
def ga (n:Nat) (d0:Bs):Option Bool:=
 (ij n d0).bind λX1=>
 bif(decide (X1<0)) then
  ((dD n d0).bind λX2=>
  some ((X2)))
 else
  aS (0≤X1∧X1≤d0.length)<|
  bif(decide ((d0.take X1.toNat)=[79,117,116,112,117,116,115])) then
   (aS (inR .i64 (X1+1))<|
   aS (0≤(X1+1)∧(X1+1)≤d0.length)<|
   (dD n (d0.drop (X1+1).toNat)).bind λX3=>
   some ((X3)))
  else
   some ((false))
theorem kD (n:Nat) (M:Mem) (d0:Bs) (r:Bool) (hF:ga n d0=some r):Ok Tryz.prog M 90 [S d0] (λ_ v=>v=bO r):=by
 unfold ga at hF
 intro M1 hM0 w0 H w p0
 refine Re 21 Tryz.func90 rfl λa0 f0=>RR (Ye f0 1 λ_ f=>RR (Y f 1 λ_ f=>?_))
 obtain⟨X1,l1,F1⟩:=bS hF
 refine Y19 f p0 (lr n _ d0 X1 l1) λW1 N1 _ f=>Ye f 1 λ_ f=>an (RR (Ye f 2 λ_ f=>RcF f F1 (λB1 F2=>?_) λB1 F4=>?_))
 ·have U1:=dI.1 B1
  refine RR (Y f 1 λ_ f=>?_)
  obtain⟨X2,l2,F3⟩:=bS F2
  refine Y19 f N1 (eK n _ d0 X2 l2) λW2 N2 _ f=>Ye f 1 λ_ f=>wp_ret (bC (au f rfl (Lk 2 (bO X2)) ?_))
  cases sI F3
  exact⟨_,rfl,M1,(mR _),N2,rfl⟩
 ·have U2:=aq dI B1
  refine St (RR (Y f 2 λ_ f=>?_))
  obtain⟨O1,F5⟩:=nS F4
  refine Z (v:=S (d0.take X1.toNat)) f (X_strTo rfl (l:=d0) (k':=.i64) (b:=X1) kr kr kr O1.1 O1.2) λ_ f=>Z f (Y36 rfl (l:=d0.take X1.toNat) (m:=[79,117,116,112,117,116,115])) λ_ f=>Y f 1 λ_ f=>?_
  rcases cE F5 with⟨B2,F6⟩|⟨B2,F10⟩
  ·have U3:=dI.1 B2
   have f:=f.st 14 (cB B2)
   refine Y f 2 λ_ f=>?_
   obtain⟨O2,F7⟩:=nS F6
   refine Y f 1 λ_ f=>?_
   have f:=f.st 17 (iW O2)
   obtain⟨O3,F8⟩:=nS F7
   refine Z (v:=S (d0.drop (X1+1).toNat)) f (ki rfl (l:=d0) (k:=.i64) (a:=X1+1) kr kr kr O3.1 O3.2) λ_ f=>?_
   obtain⟨X3,l3,F9⟩:=bS F8
   refine Y19 f N1 (eK n _ (d0.drop (X1+1).toNat) X3 l3) λW3 N3 _ f=>Ye f 2 λ_ f=>wp_ret (au f rfl (Lk 2 (bO X3)) ?_)
   cases sI F9
   exact⟨_,rfl,M1,(mR _),N3,rfl⟩
  ·have U4:=aq dI B2
   have f:=f.st 14 (cB B2)
   refine Ye f 7 λ_ f=>wp_ret (au f rfl (Lk 2 (bO false)) ?_)
   cases sI F10
   exact⟨_,rfl,M1,(mR _),N1,rfl⟩
def dV (n:Nat) (d0:Bs) (K1:Int):Option (Lp Int (Sum Unit Unit)):=
    bif(decide (K1<(d0.length:Int))) then
     ((aQ d0 K1).bind λcZ=>
     ((bif(decide ((97:Int)≤(bOr .u8 ((cZ).toNat:Int) (32:Int)))) then
      (some ((decide ((bOr .u8 ((cZ).toNat:Int) (32:Int))≤122))))
       else
        some ((false)):Option Bool)).bind λG1=>
     bif !G1 then
      (bif(decide (K1=0)) then
       (some (.br (.inl ())))
      else
       (aQ d0 K1).bind λgW=>
       bif(decide (((gW).toNat:Int)<48)) then
        (some (.br (.inl ())))
       else
        (aQ d0 K1).bind λmy=>
        bif(decide ((57:Int)<((my).toNat:Int))) then
         (some (.br (.inl ())))
        else
         aS (inR .i64 (K1+1))<|
         some (.nx (K1+1)))
     else
      aS (inR .i64 (K1+1))<|
      some (.nx (K1+1)))
    else
     some (.br (.inr ()))
def ce (n:Nat) (d0:Bs):Option Bool:=
 (aE (dV n d0) n (0:Int)).bind λQ1=>
 (match Q1 with
 |.inl G2=>some ((false))
 |.inr G3=>bif(decide ((0:Int)<(d0.length:Int))) then
  (some ((decide ((d0.length:Int)≤32))))
  else
   some ((false)))
set_option maxRecDepth 20000 in
theorem bZ (n:Nat) (M:Mem) (d0:Bs) (r:Bool) (hF:ce n d0=some r):Ok Tryz.prog M 48 [S d0] (λ_ v=>v=bO r):=by
 unfold ce at hF
 intro M1 hM0 w0 H w p0
 refine Re 48 Tryz.func48 rfl λa0 f0=>RR (Ye f0 1 λ_ f=>an (RR (Ye f 3 λ_ f=>wp_block ?_)))
 obtain⟨Q1,co,F1⟩:=bS hF
 refine wp_mono (Q:=λe a w=>(e=.ret∧(∃G2:Unit,Q1=.inl G2∧∃V3:Mem,M1.le V3∧Frm 48 [(2,bO false)] a∧Hp w0 V3 (H) w))∨(e=.exit 0∧(∃G3:Unit,Q1=.inr G3∧∃V4:Mem,M1.le V4∧Frm 48 [(0,S d0)] a∧Hp w0 V4 (H) w))) (bT (n:=48) (w0:=w0) (M:=M1) (λ (I1,K1)=>[(0,S d0),(7,iL (d0.length:Int)),(8,iL K1)]) (λ (I1,K1)=>(H)) (λ (I1,K1) MM=>aE (dV n d0) I1 K1=some Q1) (λ (I1,K1)=>I1) (n,(0:Int)) (f.kp) p0 co ?_) ?_
 ·rintro⟨I1,K1⟩ V1 _ W1 J1 gM f N1
  have cu:=gM
  obtain⟨I2,lO,rfl,bx,T1⟩:=aZ cu
  unfold dV at bx
  refine RR (Ye f 1 λ_ f=>an (RcF f bx (λB1 F2=>?_) λB1 F19=>?_))
  ·have U1:=dI.1 B1
   refine St (an (wp_block (RR (Ye f 2 λ_ f=>RR (Y f 2 λ_ f=>?_)))))
   obtain⟨cZ,l1,F3⟩:=bS F2
   refine Z f (Y35 rfl (l:=d0) (k:=.i64) (i:=K1) (ax l1) (aw l1)) λ_ f=>?_
   have f:=Frm.set f 13 (v:=.int .u8 ((d0.getD K1.toNat 0).toNat:Int)) (v':=.int .u8 ((cZ).toNat:Int)) kr (congrArg (λc:UInt8=>Value.int .u8 ((c.toNat:Nat):Int)) (cG l1))
   refine Ye f 2 λ_ f=>an ?_
   obtain⟨gN,ec,F4⟩:=bS F3
   refine bD (λa_12 W2=>∃G1:Bool,gN=G1∧∃V2:Mem,V1.le V2∧Frm 48 [(0,S d0),(3,iL K1),(5,bO G1),(7,iL (d0.length:Int)),(8,iL K1)] a_12∧Hp w0 V2 (H) W2) ?_ ?_
   ·refine aA (Y f 3 λ_ f=>?_)
    rcases cE ec with⟨B2,F5⟩|⟨B2,F6⟩
    ·have U2:=dI.1 B2
     have f:=f.st 17 (cB B2)
     refine Ye f 4 λ_ f=>?_
     exact⟨(decide ((bOr .u8 ((cZ).toNat:Int) (32:Int))≤122)),(sI F5).symm,V1,(mR _),f.kp,N1⟩
    ·have U3:=aq dI B2
     have f:=f.st 17 (cB B2)
     refine Ye f 4 λ_ f=>?_
     exact⟨(false),(sI F6).symm,V1,(mR _),f.kp,N1⟩
   ·rintro a_12 W2 ⟨G1,dC,V2,J2,f,N2⟩
    subst gN
    refine aK (RR (Y f 3 λ_ f=>?_))
    rcases cE F4 with⟨B3,F7⟩|⟨B3,F17⟩
    ·have U4: (G1)=false:=by simpa using B3
     have f:=f.st 23 (cB B3)
     refine Y f 3 λ_ f=>?_
     rcases cE F7 with⟨B4,F8⟩|⟨B4,F9⟩
     ·have U5:=dI.1 B4
      have f:=f.st 26 (cB B4)
      refine Ye f 12 λ_ f=>Y9 f (RR (Ye f 1 λ_ f=>wp_ret (ed (bC (bC ?_)))))
      cases sI F8
      exact .inl ⟨rfl,(),(sI T1).symm,V2,(J1.trans J2),f.kp,N2⟩
     ·have U6:=aq dI B4
      have f:=f.st 26 (cB B4)
      refine Y f 2 λ_ f=>?_
      obtain⟨gW,l2,F10⟩:=bS F9
      refine Z f (Y35 rfl (l:=d0) (k:=.i64) (i:=K1) (ax l2) (aw l2)) λ_ f=>?_
      have f:=Frm.set f 29 (v:=.int .u8 ((d0.getD K1.toNat 0).toNat:Int)) (v':=.int .u8 ((gW).toNat:Int)) kr (congrArg (λc:UInt8=>Value.int .u8 ((c.toNat:Nat):Int)) (cG l2))
      refine Y f 3 λ_ f=>?_
      rcases cE F10 with⟨B5,F11⟩|⟨B5,F12⟩
      ·have U7:=dI.1 B5
       have f:=f.st 32 (cB B5)
       refine Ye f 6 λ_ f=>Y9 f (RR (Ye f 1 λ_ f=>wp_ret (ed (bC (bC ?_)))))
       cases sI F11
       exact .inl ⟨rfl,(),(sI T1).symm,V2,(J1.trans J2),f.kp,N2⟩
      ·have U8:=aq dI B5
       have f:=f.st 32 (cB B5)
       refine Y f 2 λ_ f=>?_
       obtain⟨my,l3,F13⟩:=bS F12
       refine Z f (Y35 rfl (l:=d0) (k:=.i64) (i:=K1) (ax l3) (aw l3)) λ_ f=>?_
       have f:=Frm.set f 35 (v:=.int .u8 ((d0.getD K1.toNat 0).toNat:Int)) (v':=.int .u8 ((my).toNat:Int)) kr (congrArg (λc:UInt8=>Value.int .u8 ((c.toNat:Nat):Int)) (cG l3))
       refine Ye f 3 λ_ f=>RcF f F13 (λB6 F14=>?_) λB6 F15=>?_
       ·have U9:=dI.1 B6
        refine RR (Ye f 1 λ_ f=>wp_ret (ed (bC (bC ?_))))
        cases sI F14
        exact .inl ⟨rfl,(),(sI T1).symm,V2,(J1.trans J2),f.kp,N2⟩
       ·have U10:=aq dI B6
        refine wp_skip (dZ (aK (aA ?_)))
        obtain⟨O1,F16⟩:=nS F15
        refine Y f 1 λ_ f=>?_
        have f:=f.st 39 (iW O1)
        refine Ye f 1 λ_ f=>?_
        cases sI F16
        exact⟨⟨I2,K1+1⟩,Nat.lt_succ_self _,V2,(J1.trans J2),T1,f.kp,N2⟩
    ·have U11: (G1)=true:=by simpa using B3
     have f:=f.st 23 (cB B3)
     refine Ye f 15 λ_ f=>Y8 f (wp_skip (dZ (aK (aA ?_))))
     obtain⟨O2,F18⟩:=nS F17
     refine Y f 1 λ_ f=>?_
     have f:=f.st 39 (iW O2)
     refine Ye f 1 λ_ f=>?_
     cases sI F18
     exact⟨⟨I2,K1+1⟩,Nat.lt_succ_self _,V2,(J1.trans J2),T1,f.kp,N2⟩
  ·have U12:=aq dI B1
   refine wp_exit (eH (eH ?_))
   cases sI F19
   exact .inr ⟨rfl,(),(sI T1).symm,V1,J1,f.kp,N1⟩
 ·rintro _ _ W5 (⟨rfl,G2,rfl,V3,J3,f,N3⟩|⟨rfl,G3,rfl,V4,J4,f,N4⟩)
  ·refine ed (bC (au f rfl (Lk 2 (bO false)) ?_))
   cases sI F1
   exact⟨_,rfl,V3,J3,N3,rfl⟩
  ·refine kh (aK (RR (Y f 4 λ_ f=>?_)))
   rcases cE F1 with⟨B7,F20⟩|⟨B7,F21⟩
   ·have U13:=dI.1 B7
    have f:=f.st 43 (cB B7)
    refine Ye f 5 λ_ f=>wp_ret (au f rfl (Lk 2 (bO (decide ((d0.length:Int)≤32)))) ?_)
    cases sI F20
    exact⟨_,rfl,V4,J4,N4,rfl⟩
   ·have U14:=aq dI B7
    have f:=f.st 43 (cB B7)
    refine Ye f 5 λ_ f=>wp_ret (au f rfl (Lk 2 (bO false)) ?_)
    cases sI F21
    exact⟨_,rfl,V4,J4,N4,rfl⟩
def cK (n:Nat) (d0:TD0) (K1:Int×Int):Option (Lp (Int×Int) Int):=
    bif(decide (K1.2<((d0.ae.length:Nat):Int))) then
     ((aQ d0.ae K1.2).bind λX1=>
     aS (inR .i64 (K1.1+ (min (X1.length:Int) (10000:Int))))<|
     aS (inR .i64 (K1.2+1))<|
     some (.nx (K1.1+ (min (X1.length:Int) (10000:Int)),K1.2+1)))
    else
     some (.br K1.1)
def cf (n:Nat) (rec_ref03_weight:TD0→Int→Option Int) (d0:TD0) (d1:Int) (K2:Int×Int):Option (Lp (Int×Int) Int):=
    ((bif(decide (K2.2<((d0.ac.length:Nat):Int))) then
     (some ((decide (K2.1≤10000))))
      else
       some ((false)):Option Bool)).bind λG3=>
    bif G3 then
     ((aQ d0.ac K2.2).bind λX2=>
     aS (inR .i64 (d1-1))<|
     (rec_ref03_weight X2 (d1-1)).bind λX3=>
     aS (inR .i64 (K2.1+X3))<|
     aS (inR .i64 (K2.2+1))<|
     some (.nx (K2.1+X3,K2.2+1)))
    else
     some (.br K2.1)
def em (n:Nat) (rec_ref03_weight:TD0→Int→Option Int) (d0:TD0) (d1:Int):Option Int:=
 ((bif(decide (d1=0)) then
  (some ((true)))
   else
    bif(decide ((3000:Int)<((d0.ac.length:Nat):Int))) then
     (some ((true)))
    else
     some ((decide ((3000:Int)<((d0.ae.length:Nat):Int)))):Option Bool)).bind λG1=>
 bif G1 then
  (some ((10000:Int)))
 else
  aS (inR .i64 ((1:Int)+ (min (d0.aa.length:Int) (10000:Int))))<|
  (aE (cK n d0) n ((1:Int)+ (min (d0.aa.length:Int) (10000:Int)),(0:Int))).bind λG2=>
  (aE (cf n rec_ref03_weight d0 d1) n (G2,(0:Int))).bind λG4=>
  some (G4)
set_option maxRecDepth 20000 in
theorem lp (n:Nat) (rec_ref03_weight:TD0→Int→Option Int) (hrec_ref03_weight: ∀ (M:Mem) (c0:Lv) (d0:TD0) (h0:Rep M (ar d0) c0) (d1:Int) (r:Int) (hF:rec_ref03_weight d0 d1=some r),Ok Tryz.prog M 15 [.agg c0.toArray,iL d1] (λ_ v=>v=iL r)) (M:Mem) (c0:Lv) (d0:TD0) (h0:Rep M (ar d0) c0) (d1:Int) (r:Int) (hF:em n rec_ref03_weight d0 d1=some r):Ok Tryz.prog M 15 [.agg c0.toArray,iL d1] (λ_ v=>v=iL r):=by
 unfold em at hF
 intro M1 hM0 w0 H w p0
 replace h0:=Rep.mono hM0 _ _ h0
 obtain⟨Z1,P1,Z2,P2,rfl,B1,B2⟩:=TD0.opn h0
 refine Re 65 Tryz.func15 rfl λa0 f0=>RR (Y14 (cs:=(aTD0 d0 Z1 P1 Z2 P2)) (T:=26) f0 p0 λQ1 V1 W1 J1 R1 N1 _ f=>?_)
 have R2:=bj R1
 refine Ye f 1 λ_ f=>an (an ?_)
 obtain⟨gN,ec,F1⟩:=bS hF
 refine bD (λa_12 W2=>∃G1:Bool,gN=G1∧∃V2:Mem,V1.le V2∧Frm 65 [(1,iL d1),(2,pP Q1),(21,bO G1)] a_12∧Hp w0 V2 (H) W2) ?_ ?_
 ·refine aA (Y f 3 λ_ f=>?_)
  rcases cE ec with⟨B3,F2⟩|⟨B3,F3⟩
  ·have U1:=dI.1 B3
   have f:=f.st 10 (cB B3)
   refine Ye f 11 λ_ f=>?_
   exact⟨(true),(sI F2).symm,V1,(mR _),f.kp,N1⟩
  ·have U2:=aq dI B3
   have f:=f.st 10 (cB B3)
   refine Y f 1 λ_ f=>Y16 f N1 R2 4 rfl λ_ f=>Y f 4 λ_ f=>?_
   rcases cE F3 with⟨B4,F4⟩|⟨B4,F5⟩
   ·have U3:=dI.1 B4
    have f:=f.st 16 (cB B4)
    refine Ye f 5 λ_ f=>?_
    exact⟨(true),(sI F4).symm,V1,(mR _),f.kp,N1⟩
   ·have U4:=aq dI B4
    have f:=f.st 16 (cB B4)
    refine Y f 1 λ_ f=>Y16 f N1 R2 5 rfl λ_ f=>Ye f 3 λ_ f=>?_
    exact⟨(decide ((3000:Int)<((d0.ae.length:Nat):Int))),(sI F5).symm,V1,(mR _),f.kp,N1⟩
 ·rintro a_12 W2 ⟨G1,dC,V2,J2,f,N2⟩
  subst gN
  refine aK (RcF f F1 (λB5 F6=>?_) λB5 F7=>?_)
  ·refine RR (Ye f 1 λ_ f=>wp_ret (bC (au f rfl (Lk 4 (iL 10000)) ?_)))
   cases sI F6
   exact⟨_,rfl,V2,(J1.trans J2),N2,rfl⟩
  ·refine St (RR (Y f 1 λ_ f=>Y16 f N2 (fzu J2 R2) 3 rfl λ_ f=>Y f 1 λ_ f=>Z (v:=iL (min (d0.aa.length:Int) (10000:Int))) f (X_min (k:=.i64) (a:=(d0.aa.length:Int)) (b:=(10000:Int)) rfl kr kr) λ_ f=>?_))
   obtain⟨O1,F8⟩:=nS F7
   refine Y f 1 λ_ f=>?_
   have f:=f.st 26 (iW O1)
   refine Ye f 1 λ_ f=>an (RR (Ye f 1 λ_ f=>wp_block ?_))
   obtain⟨Q2,co,F9⟩:=bS F8
   refine wp_mono (Q:=λe a w=>(e=.exit 0∧(∃G2:Int,Q2=G2∧∃V4:Mem,V2.le V4∧Frm 65 [(1,iL d1),(2,pP Q1),(5,iL G2)] a∧Hp w0 V4 (H) w))) (bT (n:=65) (w0:=w0) (M:=V2) (λ (I1,K1)=>[(1,iL d1),(2,pP Q1),(5,iL K1.1),(6,iL K1.2)]) (λ (I1,K1)=>(H)) (λ (I1,K1) MM=>aE (cK n d0) I1 K1=some Q2) (λ (I1,K1)=>I1) (n,((1:Int)+ (min (d0.aa.length:Int) (10000:Int)),(0:Int))) (f.kp) N2 co ?_) ?_
   ·rintro⟨I1,K1⟩ V3 _ W3 J3 gM f N3
    have cu:=gM
    obtain⟨I2,lO,rfl,bx,T1⟩:=aZ cu
    unfold cK at bx
    refine an (RR (Y f 2 λ_ f=>Y16 f N3 (fzu (J2.trans J3) R2) 5 rfl λ_ f=>Ye f 2 λ_ f=>RcF f bx (λB6 F10=>?_) λB6 F14=>?_))
    ·have U7:=dI.1 B6
     refine St (an (wp_block (aA (Y f 2 λ_ f=>Y16 f N3 (fzu (J2.trans J3) R2) 5 rfl λ_ f=>Y f 1 λ_ f=>?_))))
     obtain⟨X1,l1,F11⟩:=bS F10
     obtain⟨C1,cZ,jC,-,D1,R3⟩:=Sli.at_ (B2.mono ((J1.trans J2).trans J3)) l1
     obtain rfl:cZ=[S X1]:=D1
     refine Z f (Y30 jC rfl (len:=d0.ae.length) (cap:=P2) (k:=.i64) (i:=K1.2) (e:=9) (sz:=1) (ax l1) (aw l1)) λ_ f=>Y16 f N3 R3 0 rfl λ_ f=>Y f 1 λ_ f=>Z (v:=iL (min (X1.length:Int) (10000:Int))) f (X_min (k:=.i64) (a:=(X1.length:Int)) (b:=(10000:Int)) rfl kr kr) λ_ f=>?_
     obtain⟨O2,F12⟩:=nS F11
     refine Y f 1 λ_ f=>?_
     have f:=f.st 42 (iW O2)
     refine Y f 1 λ_ f=>ap rfl (dZ (aK (aA (Y f 1 λ_ f=>?_))))
     obtain⟨O3,F13⟩:=nS F12
     refine Y f 1 λ_ f=>?_
     have f:=f.st 33 (iW O3)
     refine Ye f 1 λ_ f=>?_
     cases sI F13
     exact⟨⟨I2,(K1.1+ (min (X1.length:Int) (10000:Int)),K1.2+1)⟩,Nat.lt_succ_self _,V3,J3,T1,f.kp,N3⟩
    ·have U8:=aq dI B6
     refine wp_exit (eH (eH ?_))
     cases sI F14
     exact⟨rfl,K1.1,(sI T1).symm,V3,J3,f.kp,N3⟩
   ·rintro _ _ W5 ⟨rfl,G2,hq_,V4,J4,f,N4⟩
    subst Q2
    refine kh (aK (an (RR (Ye f 1 λ_ f=>wp_block ?_))))
    obtain⟨Q3,hL_2,F15⟩:=bS F9
    refine wp_mono (Q:=λe a w=>(e=.exit 2∧(∃G4:Int,Q3=G4∧∃V7:Mem,V4.le V7∧Frm 65 [(5,iL G4)] a∧Hp w0 V7 (H) w))) (bT (n:=65) (w0:=w0) (M:=V4) (λ (I3,K2)=>[(1,iL d1),(2,pP Q1),(5,iL K2.1),(7,iL K2.2)]) (λ (I3,K2)=>(H)) (λ (I3,K2) MM=>aE (cf n rec_ref03_weight d0 d1) I3 K2=some Q3) (λ (I3,K2)=>I3) (n,(G2,(0:Int))) (f.kp) N4 hL_2 ?_) ?_
    ·rintro⟨I3,K2⟩ V5 _ W6 J5 I_2 f N5
     have I_2L:=I_2
     obtain⟨I4,r_2,rfl,hs_2,T2⟩:=aZ I_2L
     unfold cf at hs_2
     refine an (an ?_)
     obtain⟨mi,ji,F16⟩:=bS hs_2
     refine bD (λa_46 W7=>∃G3:Bool,mi=G3∧∃V6:Mem,V5.le V6∧Frm 65 [(1,iL d1),(2,pP Q1),(5,iL K2.1),(7,iL K2.2),(51,bO G3)] a_46∧Hp w0 V6 (H) W7) ?_ ?_
     ·refine aA (Y f 2 λ_ f=>Y16 f N5 (fzu ((J2.trans J4).trans J5) R2) 4 rfl λ_ f=>Y f 3 λ_ f=>?_)
      rcases cE ji with⟨B7,F17⟩|⟨B7,F18⟩
      ·have U9:=dI.1 B7
       have f:=f.st 48 (cB B7)
       refine Ye f 3 λ_ f=>?_
       exact⟨(decide (K2.1≤10000)),(sI F17).symm,V5,(mR _),f.kp,N5⟩
      ·have U10:=aq dI B7
       have f:=f.st 48 (cB B7)
       refine Ye f 3 λ_ f=>?_
       exact⟨(false),(sI F18).symm,V5,(mR _),f.kp,N5⟩
     ·rintro a_46 W7 ⟨G3,eZ,V6,J6,f,N6⟩
      subst mi
      refine aK (RcF f F16 (λB8 F19=>?_) λB8 F25=>?_)
      ·refine St (an (wp_block (aA (Y f 2 λ_ f=>Y16 f N6 (fzu (((J2.trans J4).trans J5).trans J6) R2) 4 rfl λ_ f=>Y f 1 λ_ f=>?_))))
       obtain⟨X2,l2,F20⟩:=bS F19
       obtain⟨C2,gW,e_2,-,D2,R4⟩:=Sli.at_ (B1.mono ((((J1.trans J2).trans J4).trans J5).trans J6)) l2
       obtain⟨Z3,P3,Z4,P4,rfl,B9,B10⟩:=TD0.opn D2
       refine Z f (Y30 e_2 rfl (len:=d0.ac.length) (cap:=P1) (k:=.i64) (i:=K2.2) (e:=26) (sz:=6) (ax l2) (aw l2)) λ_ f=>Z f (Y32 (cs:=(lTD0 X2 Z3 P3 Z4 P4)) rfl (ad:=C2.add (K2.2.toNat*6)) (λj v h=>N6.cell (R4 j v h))) λ_ f=>Y f 1 λ_ f=>?_
       obtain⟨O4,F21⟩:=nS F20
       refine Y f 1 λ_ f=>?_
       have f:=f.st 61 (iW O4)
       obtain⟨X3,l3,F22⟩:=bS F21
       refine Y19 f N6 (hrec_ref03_weight _ _ X2 (TD0.shutx (x:=X2) B9 B10) (d1-1) X3 l3) λW8 N7 _ f=>?_
       obtain⟨O5,F23⟩:=nS F22
       refine Y f 1 λ_ f=>?_
       have f:=f.st 63 (iW O5)
       refine Y f 1 λ_ f=>ap rfl (dZ (aK (aA (Y f 1 λ_ f=>?_))))
       obtain⟨O6,F24⟩:=nS F23
       refine Y f 1 λ_ f=>?_
       have f:=f.st 53 (iW O6)
       refine Ye f 1 λ_ f=>?_
       cases sI F24
       exact⟨⟨I4,(K2.1+X3,K2.2+1)⟩,Nat.lt_succ_self _,V6,(J5.trans J6),T2,f.kp,N7⟩
      ·refine wp_exit (eH (eH ?_))
       cases sI F25
       exact⟨rfl,K2.1,(sI T2).symm,V6,(J5.trans J6),f.kp,N6⟩
    ·rintro _ _ W10 ⟨rfl,G4,hq_,V7,J7,f,N8⟩
     subst Q3
     refine kh (aK (RR (Ye f 2 λ_ f=>wp_ret (au f rfl (Lk 4 (iL G4)) ?_))))
     cases sI F15
     exact⟨_,rfl,V7,(((J1.trans J2).trans J4).trans J7),N8,rfl⟩
def cd (n:Nat):Nat→TD0→Int→Option Int
 |0=>λ_ _=>none
 |k+1=>em n (cd n k)
def jn (n:Nat) (d0:TD0) (d1:Int):Option Int:=cd n n d0 d1
theorem ms (n:Nat) (M:Mem) (c0:Lv) (d0:TD0) (h0:Rep M (ar d0) c0) (d1:Int) (r:Int) (hF:jn n d0 d1=some r):Ok Tryz.prog M 15 [.agg c0.toArray,iL d1] (λ_ v=>v=iL r):=by
 have key: ∀ (k:Nat) (M:Mem) (c0:Lv) (d0:TD0) (h0:Rep M (ar d0) c0) (d1:Int) (r:Int) (hF:cd n k d0 d1=some r),Ok Tryz.prog M 15 [.agg c0.toArray,iL d1] (λ_ v=>v=iL r):=by
  intro k
  induction k with
  |zero=>intro M c0 d0 h0 d1 r hF;simp[cd] at hF
  |succ k ih=>intro M c0 d0 h0 d1 r hF;exact lp n (cd n k) ih M c0 d0 h0 d1 r hF
 exact key n M c0 d0 h0 d1 r hF
def gd (n:Nat) (d0:TD0):Option Bool:=
 (jn n d0 (30:Int)).bind λX1=>
 some ((decide ((5000:Int)<X1)))
theorem nn (n:Nat) (M:Mem) (c0:Lv) (d0:TD0) (h0:Rep M (ar d0) c0) (r:Bool) (hF:gd n d0=some r):Ok Tryz.prog M 6 [.agg c0.toArray] (λ_ v=>v=bO r):=by
 unfold gd at hF
 intro M1 hM0 w0 H w p0
 replace h0:=Rep.mono hM0 _ _ h0
 obtain⟨Z1,P1,Z2,P2,rfl,B1,B2⟩:=TD0.opn h0
 refine Re 6 Tryz.func6 rfl λa0 f0=>RR (Y14 (cs:=(aTD0 d0 Z1 P1 Z2 P2)) (T:=26) f0 p0 λQ1 V1 W1 J1 R1 N1 _ f=>?_)
 have R2:=bj R1
 refine Ye f 1 λ_ f=>RR (Z f (Y32 (cs:=(lTD0 d0 Z1 P1 Z2 P2)) rfl (ad:=⟨Q1,0,none⟩) (λj v h=>N1.cell (R2 j v h))) λ_ f=>?_)
 obtain⟨X1,l1,F1⟩:=bS hF
 refine Y19 f N1 (ms n _ _ d0 (TD0.shutx (x:=d0) (B1.mono J1) (B2.mono J1)) (30:Int) X1 l1) λW2 N2 _ f=>Ye f 2 λ_ f=>wp_ret (au f rfl (Lk 2 (bO (decide ((5000:Int)<X1)))) ?_)
 cases sI F1
 exact⟨_,rfl,V1,J1,N2,rfl⟩
mutual
def bY:TD0→List TD0
 |⟨k,b,n,t,l,ks⟩=>⟨k,b,n,t,l,ks⟩::bh l
def bh:List TD0→List TD0
 |[]=>[]
 |x::r=>bY x++bh r
end
theorem eR (v:TD0):bY v=v::bh v.ac:=by cases v;rw[bY]
theorem walkVs_drop {l:List TD0} {i:Nat} {x:TD0} (h:l[i]? =some x):bh (l.drop i)=bY x++bh (l.drop (i+1)):=by
 obtain⟨hi,hx⟩:=List.getElem?_eq_some_iff.1 h
 rw[List.drop_eq_getElem_cons hi,hx,bh]
theorem part_small {v x:TD0} (h:x∈v.ac):SizeOf.sizeOf x<SizeOf.sizeOf v:=by
 have:=List.sizeOf_lt_of_mem h
 cases v
 simp only[TD0.mk.sizeOf_spec]
 dsimp only at this
 omega
theorem walkV_pos (v:TD0):1≤(bY v).length:=by rw[eR,List.length_cons];omega
theorem nA: ∀l:List TD0,l.length≤(bh l).length
 |[]=>Nat.zero_le _
 |x::r=>by
  have h1:=nA r
  have h2:=walkV_pos x
  rw[bh,List.length_append,List.length_cons]
  omega
theorem jy: ∀ {l:List TD0} {x:TD0},x∈l→(bY x).length≤(bh l).length
 |y::r,x,h=>by
  rw[bh,List.length_append]
  rcases List.mem_cons.1 h with rfl|h
  ·omega
  ·have:=jy h
   omega
def valsV (M:Mem) (x:TD0) (vs:Lv):Prop:=∃cs,vs=[.agg cs.toArray]∧Rep M (ar x) cs
def WalkPost {σ β:Type} (J:σ→Mem→List Ent→Prop) (Jx:β→Mem→List Ent→Prop) (r:Lp σ β) (w0:World) (M1:Mem) (H:List Ent):Ending→World→Prop:=λe w'=>
 ∃M' E',M1.le M'∧Hp w0 M' (E'++H) w'∧match r with
  |.nx s'=>e=.returned (.bool true)∧J s' M' E'
  |.br b=>e=.returned (.bool false)∧Jx b M' E'
theorem jv {σ β:Type} {J:σ→Mem→List Ent→Prop} {Jx:β→Mem→List Ent→Prop} {r:Lp σ β} {w0:World} {M1:Mem} {H:List Ent}: ¬LetsOut (bodyPost Tryz.prog Tryz.f68 (WalkPost J Jx r w0 M1 H)):=by
 rintro⟨a,w,M',E',_,_,h⟩
 cases r with
 |nx s=>cases h.1
 |br b=>cases h.1
set_option maxRecDepth 100000 in
theorem walkIns (by_ bs l : Nat) {σ β : Type} (Y : σ → TD0 → Option (Lp σ β)) (J : σ → Mem → List Ent → Prop) (Jx : β → Mem → List Ent → Prop) (hJ : Grows J) (hY : Yld Tryz.prog l valsV J Jx Y) :
  ∀ (m : Nat) (v : TD0), SizeOf.sizeOf v < m → (bY v).length ≤ 9223372036854775806 → ∀ (s0 : σ) (r : Lp σ β), iY Y (bY v) s0 = some r → ∀ (M : Mem) (ad : Addr) (c0 : List Value), Rep M (ar v) c0 → (∀ j u, c0[j]? = some u → M.cell? (ad.add j) = some u) →
   M.cell? ⟨by_, 0, none⟩ = some (.func (.yield l) #[] #[]) → M.cell? ⟨bs, 0, none⟩ = some (.func (.func 68) #[] #[.pointer (some ⟨by_, 0, none⟩), .pointer (some ⟨bs, 0, none⟩)]) →
   ∀ w0 M1 E H w, M.le M1 → J s0 M1 E → Hp w0 M1 (E ++ H) w → Calls Tryz.prog 68 [.pointer (some ad), .pointer (some ⟨by_, 0, none⟩), .pointer (some ⟨bs, 0, none⟩)].toArray w (WalkPost J Jx r w0 M1 H)
 | 0, v, hm => fun _ _ _ => absurd hm (by omega)
 | m + 1, v, hm => by
  intro hw0 s0 r hfold M ad c0 h0 q0 hby hbs w0 M1 E H w hM0 hj p0
  replace h0 := Rep.mono hM0 _ _ h0
  replace q0 := fun j u h => hM0.cell (q0 j u h)
  replace hby := hM0.cell hby
  replace hbs := hM0.cell hbs
  have hvl : v.ac.length < 9223372036854775806 := by
   have h1 := nA v.ac
   rw [eR, List.length_cons] at hw0
   omega
  rw [eR] at hfold
  obtain ⟨r1, hy1, hfold⟩ := Option.bind_eq_some_iff.1 hfold
  have hrep := h0
  obtain ⟨A_1, kB, A_2, cap_2, rfl, h_1, h_2⟩ := TD0.opn h0
  refine av 30 Tryz.func68 rfl rfl (by simp) (fun a0 f0 => ?_)
  replace f0 : Frm 30 [(0, .pointer (some ad)), (1, .pointer (some ⟨by_, 0, none⟩)), (2, .pointer (some ⟨bs, 0, none⟩))] a0 := f0
  refine an ?_
  refine aA ?_
  refine ei (L' := [(0, .pointer (some ad)), (1, .pointer (some ⟨by_, 0, none⟩)), (2, .pointer (some ⟨bs, 0, none⟩))]) (w' := w) f0 1 [0, 1, 2] (by kernel_rfl) (fun a_1 f_1 => ?_)
  refine ap rfl ?_
  refine aK ?_
  refine an ?_
  refine an ?_
  -- the call of yield
  refine RI_out (RI_drawT 4 p0 (by kernel_rfl) (by kernel_rfl) (dy (dy jv)) (by kernel_rfl) (fun w p0 => ?_))
  refine cb (v := .func (.yield l) #[] #[]) f_1 (by kernel_rfl) (by kernel_rfl) rfl rfl (iG (v := .func (.yield l) #[] #[]) rfl (ad := ⟨by_, 0, none⟩) (by kernel_rfl) (by kernel_rfl) (p0.cell hby)) (fun a_2 f_2 => ?_)
  refine cb (v := .pointer (some ad)) f_2 (by kernel_rfl) (by kernel_rfl) rfl rfl (by kernel_rfl) (fun a_3 f_3 => ?_)
  refine cb (v := .pointer (some ad)) f_3 (by kernel_rfl) (by kernel_rfl) rfl rfl (by kernel_rfl) (fun a_4 f_4 => ?_)
  refine cb (v := .agg #[.int .i8 v.ab, .bool v.ah, .int .i64 v.af, S v.aa, .slice A_1 v.ac.length kB, .slice A_2 v.ae.length cap_2]) f_4 (by kernel_rfl) (by kernel_rfl) rfl rfl
   (X_loadN (cs := [.int .i8 v.ab, .bool v.ah, .int .i64 v.af, S v.aa, .slice A_1 v.ac.length kB, .slice A_2 v.ae.length cap_2]) rfl (ad := ad) (by kernel_rfl) (by kernel_rfl) (fun j u h => p0.cell (q0 j u h))) (fun a_5 f_5 => ?_)
  refine mG rfl ?_
  obtain ⟨fn, tmps, asg, bd, hrun, hR⟩ := hY s0 v r1 hy1 w0 M1 E H w _ hj ⟨_, rfl, hrep⟩ p0
  refine WI_round f_5 (by kernel_rfl) (by kernel_rfl) rfl rfl (fun c e => by cases e) (hx := Eq.trans (by kernel_rfl) hrun) hR ?_
  rintro e w_1 ⟨M2, E2, hM2, p_1, hr⟩
  cases r1 with
  | br b =>
   obtain ⟨rfl, hjx⟩ := hr
   refine ⟨_, rfl, fun a_6 f_6 => ?_⟩
   refine ld (ro := none) (dy (dy jv)) _ (by kernel_rfl) _ _ ?_
   refine ei (L' := [(0, .pointer (some ad)), (1, .pointer (some ⟨by_, 0, none⟩)), (2, .pointer (some ⟨bs, 0, none⟩)), (11, .bool true)]) (w' := w_1) f_6 1 [0, 1, 2, 11] (by kernel_rfl) (fun a_7 f_7 => ?_)
   refine ap rfl ?_
   refine aK ?_
   refine mF f_7 (by kernel_rfl) (by kernel_rfl) ?_
   refine an ?_
   refine aA ?_
   refine ei (L' := [(4, .bool false)]) (w' := w_1) f_7 1 [4] (by kernel_rfl) (fun a_8 f_8 => ?_)
   refine ap rfl ?_
   refine aK ?_
   refine wp_ret ?_
   refine bC ?_
   refine au f_8 rfl (by kernel_rfl : Vc.look _ 4 = some (.bool false)) ?_
   obtain rfl := Option.some.inj hfold
   exact ⟨M2, E2, hM2, p_1, rfl, hjx⟩
  | nx s1 =>
   obtain ⟨rfl, hj1⟩ := hr
   refine ⟨_, rfl, fun a_6 f_6 => ?_⟩
   refine ld (ro := none) (dy (dy jv)) _ (by kernel_rfl) _ _ ?_
   refine ei (L' := [(0, .pointer (some ad)), (1, .pointer (some ⟨by_, 0, none⟩)), (2, .pointer (some ⟨bs, 0, none⟩)), (11, .bool false)]) (w' := w_1) f_6 1 [0, 1, 2, 11] (by kernel_rfl) (fun a_7 f_7 => ?_)
   refine ap rfl ?_
   refine aK ?_
   refine mE f_7 (by kernel_rfl) (by kernel_rfl) ?_
   refine wp_skip ?_
   refine aK ?_
   replace q0 := fun j u h => hM2.cell (q0 j u h)
   replace hby := hM2.cell hby
   replace hbs := hM2.cell hbs
   replace h_1 := h_1.mono hM2
   replace hM0 := hM0.trans hM2
   replace hfold : iY Y (bh v.ac) s1 = some r := hfold
   refine an ?_
   refine an ?_
   refine aA ?_
   refine ei (L' := [(0, .pointer (some ad)), (1, .pointer (some ⟨by_, 0, none⟩)), (2, .pointer (some ⟨bs, 0, none⟩)), (14, .pointer (some (ad.add 4)))]) (w' := w_1) f_7 3 [0, 1, 2, 14] (by kernel_rfl) (fun a_8 f_8 => ?_)
   refine kw (v := .slice A_1 v.ac.length kB) f_8 (by kernel_rfl) (by kernel_rfl) rfl rfl (iG (v := .slice A_1 v.ac.length kB) rfl (ad := ad.add 4) (by kernel_rfl) (by kernel_rfl) (p_1.cell (q0 4 _ rfl))) (fun a_9 f_9 => ?_)
   refine ei (L' := [(0, .pointer (some ad)), (1, .pointer (some ⟨by_, 0, none⟩)), (2, .pointer (some ⟨bs, 0, none⟩)), (16, .int .i64 ((v.ac.length : Nat) : Int)), (17, .int .i64 0)]) (w' := w_1) f_9 2 [0, 1, 2, 16, 17] (by kernel_rfl) (fun a_10 f_10 => ?_)
   refine ap rfl ?_
   refine aK ?_
   refine wp_block ?_
   refine wp_mono (Q := fun e a w => (e = .exit 0 ∧ ∃ s' M' E', r = .nx s' ∧ M1.le M' ∧ J s' M' E' ∧ Frm 30 [(0, .pointer (some ad))] a ∧ Hp w0 M' (E' ++ H) w) ∨ (e = .ret ∧ ∃ b M' E', r = .br b ∧ M1.le M' ∧ Jx b M' E' ∧ Frm 30 [(4, .bool false)] a ∧ Hp w0 M' (E' ++ H) w))
    (bT (n := 30) (w0 := w0) (M := M2) (fun (x : Nat × σ × List Ent) => [(0, .pointer (some ad)), (1, .pointer (some ⟨by_, 0, none⟩)), (2, .pointer (some ⟨bs, 0, none⟩)), (16, .int .i64 ((v.ac.length : Nat) : Int)), (17, .int .i64 (x.1 : Int))]) (fun x => x.2.2 ++ H)
     (fun x (MM : Mem) => J x.2.1 MM x.2.2 ∧ iY Y (bh (v.ac.drop x.1)) x.2.1 = some r ∧ x.1 ≤ v.ac.length) (fun x => v.ac.length - x.1) (0, s1, E2) (f_10.keep (ks := [0, 1, 2, 16, 17]) (by kernel_rfl)) p_1 ⟨hj1, by rw [List.drop_zero]; exact hfold, Nat.zero_le _⟩ ?_) ?_
   ·rintro ⟨i, s, Es⟩ M_3 a_11 w_2 hM3 ⟨hjs, hfs, hi⟩ f_11 p_2
    dsimp only at hjs hfs hi
    replace f_11 : Frm 30 [(0, .pointer (some ad)), (1, .pointer (some ⟨by_, 0, none⟩)), (2, .pointer (some ⟨bs, 0, none⟩)), (16, .int .i64 ((v.ac.length : Nat) : Int)), (17, .int .i64 (i : Int))] a_11 := f_11
    replace p_2 : Hp w0 M_3 (Es ++ H) w_2 := p_2
    refine an ?_
    refine aA ?_
    refine ei (L' := [(0, .pointer (some ad)), (1, .pointer (some ⟨by_, 0, none⟩)), (2, .pointer (some ⟨bs, 0, none⟩)), (16, .int .i64 ((v.ac.length : Nat) : Int)), (17, .int .i64 (i : Int)), (18, .bool (decide ((i : Int) < ((v.ac.length : Nat) : Int))))]) (w' := w_2) f_11 1 [0, 1, 2, 16, 17, 18] (by kernel_rfl) (fun a_12 f_12 => ?_)
    refine ap rfl ?_
    refine aK ?_
    refine an ?_
    refine R_cond f_12 (b := decide ((i : Int) < ((v.ac.length : Nat) : Int))) (by kernel_rfl) (by kernel_rfl) (fun h_3 => ?_) (fun h_3 => ?_)
    ·have k_1 : i < v.ac.length := by have := of_decide_eq_true h_3; omega
     refine wp_skip ?_
     refine aK ?_
     refine an ?_
     refine wp_block ?_
     refine an ?_
     refine aA ?_
     refine ei (L' := [(0, .pointer (some ad)), (1, .pointer (some ⟨by_, 0, none⟩)), (2, .pointer (some ⟨bs, 0, none⟩)), (5, .int .i64 (i : Int)), (16, .int .i64 ((v.ac.length : Nat) : Int)), (17, .int .i64 (i : Int))]) (w' := w_2) f_12 2 [0, 1, 2, 5, 16, 17] (by kernel_rfl) (fun a_13 f_13 => ?_)
     refine ap rfl ?_
     refine aK ?_
     have hx : v.ac[i]? = some v.ac[i] := List.getElem?_eq_getElem k_1
     have hgx : aQ v.ac (i : Int) = some v.ac[i] := by unfold aQ; rw [if_pos (by omega)]; exact hx
     rw [walkVs_drop hx, og] at hfs
     obtain ⟨r2, hr2, hfs⟩ := Option.bind_eq_some_iff.1 hfs
     obtain ⟨ad_1, cZ, jC, hl_1, hr_1, hc_1⟩ := Sli.at_ (h_1.mono hM3) hgx
     refine an ?_
     refine mx 7 p_2 (by kernel_rfl) (by kernel_rfl) (fun w_3 p_3 => ?_)
     refine cb (v := .func (.func 68) #[] #[.pointer (some ⟨by_, 0, none⟩), .pointer (some ⟨bs, 0, none⟩)]) f_13 (by kernel_rfl) (by kernel_rfl) rfl rfl (iG (v := .func (.func 68) #[] #[.pointer (some ⟨by_, 0, none⟩), .pointer (some ⟨bs, 0, none⟩)]) rfl (ad := ⟨bs, 0, none⟩) (by kernel_rfl) (by kernel_rfl) (p_3.cell (hM3.cell hbs))) (fun a_14 f_14 => ?_)
     refine cb (v := .pointer (some ad)) f_14 (by kernel_rfl) (by kernel_rfl) rfl rfl (by kernel_rfl) (fun a_15 f_15 => ?_)
     refine cb (v := .pointer (some ad)) f_15 (by kernel_rfl) (by kernel_rfl) rfl rfl (by kernel_rfl) (fun a_16 f_16 => ?_)
     refine cb (v := .pointer (some (ad.add 4))) f_16 (by kernel_rfl) (by kernel_rfl) rfl rfl (by kernel_rfl) (fun a_17 f_17 => ?_)
     refine cb (v := .slice A_1 v.ac.length kB) f_17 (by kernel_rfl) (by kernel_rfl) rfl rfl (iG (v := .slice A_1 v.ac.length kB) rfl (ad := ad.add 4) (by kernel_rfl) (by kernel_rfl) (p_3.cell (hM3.cell (q0 4 _ rfl)))) (fun a_18 f_18 => ?_)
     refine cb (v := .int .i64 (i : Int)) f_18 (by kernel_rfl) (by kernel_rfl) rfl rfl (by kernel_rfl) (fun a_19 f_19 => ?_)
     refine cb (v := .pointer (some (ad_1.add ((i : Int).toNat * 6)))) f_19 (by kernel_rfl) (by kernel_rfl) rfl rfl (kT jC rfl (len := v.ac.length) (cap := kB) (k := .i64) (i := (i : Int)) (by kernel_rfl) (by kernel_rfl) (e := 26) (by kernel_rfl) (sz := 6) (by kernel_rfl) (ax hgx) (aw hgx)) (fun a_20 f_20 => ?_)
     refine mG rfl ?_
     have hcall := walkIns by_ bs l Y J Jx hJ hY m v.ac[i] (by have := part_small (v := v) (List.getElem_mem k_1); omega) (by
      have h1 := jy (List.getElem_mem k_1)
      have h2 := hw0
      rw [eR, List.length_cons] at h2
      omega) s r2 hr2 M_3 _ cZ hr_1 hc_1 (hM3.cell hby) (hM3.cell hbs) w0 M_3 Es H w_3 (Mem.le_refl _) hjs p_3
     refine W_call (R := fun v w' => ∃ M' E', M_3.le M' ∧ Hp w0 M' (E' ++ H) w' ∧ match r2 with
      | .nx s' => v = .bool true ∧ J s' M' E'
      | .br b => v = .bool false ∧ Jx b M' E') f_20 (by kernel_rfl) (by kernel_rfl) rfl rfl (by kernel_rfl) (hcall.mono fun e w' ⟨M', E', g1, g2, g3⟩ => ?_) ?_
     ·cases r2 with
      | nx s' => exact ⟨_, g3.1, M', E', g1, g2, rfl, g3.2⟩
      | br b => exact ⟨_, g3.1, M', E', g1, g2, rfl, g3.2⟩
     rintro v_1 w_4 ⟨M4, E4, hM4, p_4, g4⟩ a_21 f_21
     cases r2 with
     | br b =>
      obtain ⟨rfl, hjx⟩ := g4
      obtain rfl := Option.some.inj hfs
      refine ei (L' := [(28, .bool true)]) (w' := w_4) f_21 1 [28] (by kernel_rfl) (fun a_22 f_22 => ?_)
      refine ap rfl ?_
      refine aK ?_
      refine mF f_22 (by kernel_rfl) (by kernel_rfl) ?_
      refine an ?_
      refine aA ?_
      refine ei (L' := [(4, .bool false)]) (w' := w_4) f_22 1 [4] (by kernel_rfl) (fun a_23 f_23 => ?_)
      refine ap rfl ?_
      refine aK ?_
      refine wp_ret ?_
      refine ed ?_
      refine bC ?_
      refine bC ?_
      exact .inr ⟨rfl, b, M4, E4, rfl, hM2.trans (hM3.trans hM4), hjx, f_23, p_4⟩
     | nx s2 =>
      obtain ⟨rfl, hj2⟩ := g4
      replace hfs : iY Y (bh (v.ac.drop (i + 1))) s2 = some r := hfs
      refine ei (L' := [(0, .pointer (some ad)), (1, .pointer (some ⟨by_, 0, none⟩)), (2, .pointer (some ⟨bs, 0, none⟩)), (16, .int .i64 ((v.ac.length : Nat) : Int)), (17, .int .i64 (i : Int)), (28, .bool false)]) (w' := w_4) f_21 1 [0, 1, 2, 16, 17, 28] (by kernel_rfl) (fun a_22 f_22 => ?_)
      refine ap rfl ?_
      refine aK ?_
      refine mE f_22 (by kernel_rfl) (by kernel_rfl) ?_
      refine wp_skip ?_
      refine dZ ?_
      refine aK ?_
      refine aA ?_
      have hin : inR .i64 ((i : Int) + 1) := inR_mk.2 ⟨by omega, by omega⟩
      refine ei (L' := [(0, .pointer (some ad)), (1, .pointer (some ⟨by_, 0, none⟩)), (2, .pointer (some ⟨bs, 0, none⟩)), (16, .int .i64 ((v.ac.length : Nat) : Int)), (29, .int .i64 (IntKind.wrap .i64 ((i : Int) + 1)))]) (w' := w_4) f_22 1 [0, 1, 2, 16, 29] (by kernel_rfl) (fun a_23 f_23 => ?_)
      have f_24 := Frm.set f_23 29 (v := .int .i64 (IntKind.wrap .i64 ((i : Int) + 1))) (v' := .int .i64 (((i + 1 : Nat) : Int))) (by kernel_rfl) (congrArg (Value.int .i64) ((inR_wrap hin).trans (by omega)))
      have f_25 : Frm 30 [(0, .pointer (some ad)), (1, .pointer (some ⟨by_, 0, none⟩)), (2, .pointer (some ⟨bs, 0, none⟩)), (16, .int .i64 ((v.ac.length : Nat) : Int)), (29, .int .i64 (((i + 1 : Nat) : Int)))] a_23 := f_24.keep (ks := [0, 1, 2, 16, 29]) (by kernel_rfl)
      refine ei (L' := [(0, .pointer (some ad)), (1, .pointer (some ⟨by_, 0, none⟩)), (2, .pointer (some ⟨bs, 0, none⟩)), (16, .int .i64 ((v.ac.length : Nat) : Int)), (17, .int .i64 (((i + 1 : Nat) : Int)))]) (w' := w_4) f_25 1 [0, 1, 2, 16, 17] (by kernel_rfl) (fun a_26 f_26 => ?_)
      refine ap rfl ?_
      refine aK ?_
      exact ⟨(i + 1, s2, E4), by dsimp only; omega, M4, hM3.trans hM4, ⟨hj2, hfs, by dsimp only; omega⟩, f_26, p_4⟩
    ·have k_1 : ¬ (i < v.ac.length) := fun h => by
      have := of_decide_eq_false h_3
      omega
     refine wp_exit ?_
     refine eH ?_
     refine eH ?_
     have : v.ac.drop i = [] := List.drop_eq_nil_of_le (by omega)
     rw [this] at hfs
     obtain rfl := Option.some.inj hfs
     exact .inl ⟨rfl, s, M_3, Es, rfl, hM2.trans hM3, hjs, f_12.keep (ks := [0]) (by kernel_rfl), p_2⟩
   ·rintro _ a_24 w_4 (⟨rfl, s', M', E', rfl, g1, g2, f_29, p_3⟩ | ⟨rfl, b, M', E', rfl, g1, g2, f_29, p_3⟩)
    ·refine kh ?_
     refine aK ?_
     refine an ?_
     refine aA ?_
     refine ei (L' := [(4, .bool true)]) (w' := w_4) f_29 1 [4] (by kernel_rfl) (fun a_25 f_30 => ?_)
     refine ap rfl ?_
     refine aK ?_
     refine wp_ret ?_
     refine au f_30 rfl (by kernel_rfl : Vc.look _ 4 = some (.bool true)) ?_
     exact ⟨M', E', g1, p_3, rfl, g2⟩
    ·refine ed ?_
     refine bC ?_
     refine au f_29 rfl (by kernel_rfl : Vc.look _ 4 = some (.bool false)) ?_
     exact ⟨M', E', g1, p_3, rfl, g2⟩
end Go.Proofs.YtkopljikappieaaGreatDoor
end
section
namespace Go.Vc
open Go
theorem bnd {α β:Type} (x:α) (f:α→Option β): (some x).bind f=f x:=(Option.bind_some x f).trans (Eq.refl _)
theorem cT {α:Type} (x y:α): (bif true then x else y)=x:=(cond_true x y).trans (Eq.refl _)
theorem cF {α:Type} (x y:α): (bif false then x else y)=y:=(cond_false x y).trans (Eq.refl _)
theorem da {α:Type} {xs:List α} {k:Nat} (d:α) (h:k<xs.length):aQ xs (k:Int)=some (xs.getD k d):=by
 unfold aQ
 rw[if_pos (by omega)]
 simp[List.getD,h]
theorem getI_in {α:Type} {xs:List α} {i:Int} (d:α) (h0:0≤i) (h:i<xs.length):aQ xs i=some (xs.getD i.toNat d):=by
 obtain⟨k,rfl⟩:=Int.eq_ofNat_of_zero_le h0
 exact da d (by omega)
theorem inR_small {x:Int} (h0: -1000000000000≤x) (h1:x≤1000000000000):inR .i64 x:=inR_mk.2 ⟨by omega,by omega⟩
theorem aW {α:Type} {x:Int} {y:Option α} (h0: -1000000000000≤x) (h1:x≤1000000000000):aS (inR .i64 x) y=y:=aX (inR_small h0 h1)
section
variable {σ β:Type} {step:σ→Option (Lp σ β)} {n:Nat}
theorem loop_run (f:Nat→σ) (p:Nat→Option β) (len:Nat) (e:β) (hs: ∀k,k<len→step (f k)=some (match p k with|some b=>.br b|none=>.nx (f (k+1)))) (he:step (f len)=some (.br e)) (hn:len<n):
 aE step n (f 0)=some (((List.range len).findSome? p).getD e):=by
 have key: ∀m k,k+m=len→∀n,m<n→aE step n (f k)=some (((List.range' k m).findSome? p).getD e):=by
  intro m
  induction m with
  |zero=>
   intro k hk n hn
   obtain⟨n,rfl⟩: ∃q,n=q+1:=⟨n-1,by omega⟩
   have:k=len:=by omega
   subst this
   simp[aE,he]
  |succ m ih=>
   intro k hk n hn
   obtain⟨n,rfl⟩: ∃q,n=q+1:=⟨n-1,by omega⟩
   have h1:=hs k (by omega)
   rw[aE,h1,Option.bind_some,List.range'_succ,List.findSome?_cons]
   cases p k with
   |some b=>rfl
   |none=>exact ih (k+1) (by omega) n (by omega)
 have:=key len 0 (by omega) n hn
 rwa [←List.range_eq_range'] at this
theorem nb (f:Nat→σ) (len:Nat) (e:β) (hs: ∀k,k<len→step (f k)=some (.nx (f (k+1)))) (he:step (f len)=some (.br e)) (hn:len<n):aE step n (f 0)=some e:=by
 have:=loop_run f (λ_=>none) len e hs he hn
 rw[this]
 have: (List.range len).findSome? (λ_=>(none:Option β))=none:=by simp
 rw[this];rfl
theorem lf {step:Int→Option (Lp Int β)} (q:Nat→Bool) (len:Nat) (b e:β) (hs: ∀k:Nat,k<len→step (k:Int)=if q k then some (.br b) else some (.nx ((k:Int)+1))) (he:step (len:Int)=some (.br e)) (hn:len<n):
 aE step n 0=some (bif(List.range len).any q then b else e):=by
 have:=loop_run (n:=n) (λk=>(k:Int)) (λk=>if q k then some b else none) len e (λk hk=>by
  rw[hs k hk]
  by_cases h:q k=true<;>simp[h]) he hn
 have e0: ((0:Nat):Int)=0:=rfl
 simp only[e0] at this
 rw[this]
 congr 1
 cases h: (List.range len).any q with
 |true=>
  cases h2: (List.range len).findSome? (λk=>if q k=true then some b else none) with
  |some x=>
   obtain⟨k,hk,hx⟩:=List.exists_of_findSome?_eq_some h2
   by_cases hq:q k=true
   ·simp[hq] at hx;simp[hx]
   ·simp[hq] at hx
  |none=>
   rw[List.findSome?_eq_none_iff] at h2
   obtain⟨k,hk,hq⟩:=List.any_eq_true.1 h
   have:=h2 k hk
   simp[hq] at this
 |false=>
  have: (List.range len).findSome? (λk=>if q k=true then some b else none)=none:=by
   rw[List.findSome?_eq_none_iff]
   intro k hk
   have:=List.any_eq_false.1 h k hk
   simp[this]
  rw[this];rfl
theorem iq (I:Nat→σ→Prop) (post:β→Prop) (len:Nat) {s0:σ} (h0:I 0 s0)
 (hs: ∀k s,k<len→I k s→(∃s',step s=some (.nx s')∧I (k+1) s')∨∃b,step s=some (.br b)∧post b)
 (he: ∀s,I len s→∃b,step s=some (.br b)∧post b) (hn:len<n): ∃b,aE step n s0=some b∧post b:=by
 have key: ∀m k s,k+m=len→I k s→∀n,m<n→∃b,aE step n s=some b∧post b:=by
  intro m
  induction m with
  |zero=>
   intro k s hk hI n hn
   obtain⟨n,rfl⟩: ∃q,n=q+1:=⟨n-1,by omega⟩
   have:k=len:=by omega
   subst this
   obtain⟨b,h1,h2⟩:=he s hI
   exact⟨b,by simp[aE,h1],h2⟩
  |succ m ih=>
   intro k s hk hI n hn
   obtain⟨n,rfl⟩: ∃q,n=q+1:=⟨n-1,by omega⟩
   rcases hs k s (by omega) hI with⟨s',h1,h2⟩|⟨b,h1,h2⟩
   ·obtain⟨b,h3,h4⟩:=ih (k+1) s' (by omega) h2 n (by omega)
    exact⟨b,by simp[aE,h1,h3],h4⟩
   ·exact⟨b,by simp[aE,h1],h2⟩
 exact key len 0 s0 (by omega) h0 n hn
end
theorem lA {α:Type} (d:α) (q:α→Bool) (xs:List α): ((List.range xs.length).any λk=>q (xs.getD k d))=xs.any q:=by
 rw[Bool.eq_iff_iff,List.any_eq_true,List.any_eq_true]
 constructor
 ·rintro⟨k,hk,h⟩
  have hk':k<xs.length:=by simpa using hk
  exact⟨xs[k],List.getElem_mem hk',by simpa [List.getD,hk'] using h⟩
 ·rintro⟨x,hx,h⟩
  obtain⟨k,hk,rfl⟩:=List.mem_iff_getElem.1 hx
  exact⟨k,by simpa using hk,by simpa [List.getD,hk] using h⟩
theorem mpS {α β:Type} (x:α) (f:α→β): (some x).map f=some (f x):=(Option.map_some x f).trans (Eq.refl _)
theorem jN {τ Λ:Type} (x:τ) (k:τ→Option Λ):joinF (.nx x) k=k x:=(Eq.refl (joinF (.nx x) k)).trans (Eq.refl _)
theorem jB {τ Λ:Type} (l:Λ) (k:τ→Option Λ):joinF (.br l) k=some l:=(Eq.refl (joinF (.br l) k)).trans (Eq.refl _)
theorem lB (l:Bs) (hne:l≠ []):
 (Lib.decodeL l=(65533,1)∧128≤(l.getD 0 0).toNat)∨
 ∃r w,Lib.decodeL l=(r,w)∧w≤l.length∧1≤w∧w≤4∧(∀j,1≤j→j<w→(l.getD j 0).toNat / 64=2)∧((w=1∧(l.getD 0 0).toNat<128∧r=(l.getD 0 0).toNat)∨(1<w∧128≤r∧192≤(l.getD 0 0).toNat))∧r≤1114111:=by
 have hl:0<l.length:=List.length_pos_iff.2 hne
 rw[Lib.decodeL_N]
 rcases Lib.decodeN_shape l.length (l.getD 0 0).toNat (l.getD 1 0).toNat (l.getD 2 0).toNat (l.getD 3 0).toNat with⟨c,e⟩|⟨c1,c2,c3,cv,e⟩|⟨c1,c2,c3,c4,cv,cs,e⟩|⟨c1,c2,c3,c4,c5,cv,cw,e⟩|e
 ·exact .inr ⟨_,_,e,by omega,by omega,by omega,λj h1 h2=>by omega,.inl ⟨rfl,c,rfl⟩,by omega⟩
 ·refine .inr ⟨_,_,e,by omega,by omega,by omega,λj h1 h2=>?_,.inr ⟨by omega,by omega,by omega⟩,by omega⟩
  obtain rfl:j=1:=by omega
  exact c3
 ·refine .inr ⟨_,_,e,by omega,by omega,by omega,λj h1 h2=>?_,.inr ⟨by omega,by omega,by omega⟩,by omega⟩
  obtain rfl|rfl:j=1∨j=2:=by omega
  ·exact c3
  ·exact c4
 ·refine .inr ⟨_,_,e,by omega,by omega,by omega,λj h1 h2=>?_,.inr ⟨by omega,by omega,by omega⟩,by omega⟩
  obtain rfl|rfl|rfl:j=1∨j=2∨j=3:=by omega
  ·exact c3
  ·exact c4
  ·exact c5
 ·by_cases h: (l.getD 0 0).toNat<128
  ·refine .inr ⟨_,_,Lib.decodeN_ascii _ _ _ _ _ h,by omega,by omega,by omega,λj h1 h2=>by omega,.inl ⟨rfl,h,rfl⟩,by omega⟩
  ·exact .inl ⟨e,by omega⟩
theorem rune_at {l:Bs} (hne:l≠ []) (hv:Lib.validD l=true):
 (∃c t,l=c::t∧c.toNat<128∧Lib.decodeL l=(c.toNat,1)∧Lib.validD t=true)∨
 ∃r a t,l=a++t∧Lib.decodeL l=(r,a.length)∧a≠ []∧(∀x∈a,128≤x.toNat)∧128≤r∧r≤1114111∧Lib.encodeRune (r:Int)=a∧Lib.validD t=true:=by
 have hs:=hv
 rw[Lib.validD_step _ hne] at hs
 split at hs
 ·cases hs
 ·rename_i hnv
  rcases lB l hne with⟨e,_⟩|⟨r,w,e,h1,h2,h3,h4,h5,h6⟩
  ·rw[e] at hnv;exact absurd ⟨rfl,rfl⟩ hnv
  ·have henc:=Lib.encode_decode l hne hnv
   rw[e] at hs henc
   rcases h5 with⟨rfl,h7,rfl⟩|⟨h7,h8,h9⟩
   ·left
    obtain⟨c,t,rfl⟩: ∃c t,l=c::t:=List.exists_cons_of_ne_nil hne
    exact⟨c,t,rfl,h7,e,hs⟩
   ·right
    have hlen: (l.take w).length=w:=by rw[List.length_take];omega
    refine⟨r,l.take w,l.drop w,(List.take_append_drop w l).symm,by rw[hlen,e],λe0=>by rw[e0] at hlen;simp at hlen;omega,λx hx=>?_,h8,h6,henc,hs⟩
    obtain⟨j,hj,rfl⟩:=List.mem_iff_getElem.1 hx
    rw[hlen] at hj
    have hg:l.getD j 0=(l.take w)[j]:=by simp[List.getD,show j<l.length by omega]
    rw[←hg]
    by_cases hj0:j=0
    ·subst hj0;omega
    ·have:=h4 j (by omega) hj
     omega
end Go.Vc
end
section
namespace Go.Proofs.YtkopljikappieaaGreatDoor
open Go Go.Vc Go.RowKit
def dr (n:Nat) (rec_ref03_Count:TD0→Option Int) (d0:TD0) (K1:Int×Int):Option (Lp (Int×Int) Int):=
    bif(decide (K1.2<((d0.ac.length:Nat):Int))) then
     ((aQ d0.ac K1.2).bind λX1=>
     (rec_ref03_Count X1).bind λX2=>
     aS (inR .i64 (K1.1+X2))<|
     aS (inR .i64 (K1.2+1))<|
     some (.nx (K1.1+X2,K1.2+1)))
    else
     some (.br K1.1)
def eM (n:Nat) (rec_ref03_Count:TD0→Option Int) (d0:TD0):Option Int:=
 (aE (dr n rec_ref03_Count d0) n ((1:Int),(0:Int))).bind λG1=>
 some (G1)
theorem lP (n:Nat) (rec_ref03_Count:TD0→Option Int) (hrec_ref03_Count: ∀ (M:Mem) (c0:Lv) (d0:TD0) (h0:Rep M (ar d0) c0) (r:Int) (hF:rec_ref03_Count d0=some r),Ok Tryz.prog M 38 [.agg c0.toArray] (λ_ v=>v=iL r)) (M:Mem) (c0:Lv) (d0:TD0) (h0:Rep M (ar d0) c0) (r:Int) (hF:eM n rec_ref03_Count d0=some r):Ok Tryz.prog M 38 [.agg c0.toArray] (λ_ v=>v=iL r):=by
 unfold eM at hF
 intro M1 hM0 w0 H w p0
 replace h0:=Rep.mono hM0 _ _ h0
 obtain⟨Z1,P1,Z2,P2,rfl,B1,B2⟩:=TD0.opn h0
 refine Re 21 Tryz.func38 rfl λa0 f0=>RR (Y14 (cs:=(aTD0 d0 Z1 P1 Z2 P2)) (T:=26) f0 p0 λQ1 V1 W1 J1 R1 N1 _ f=>?_)
 have R2:=bj R1
 refine Ye f 1 λ_ f=>RR (Ye f 1 λ_ f=>an (RR (Ye f 1 λ_ f=>wp_block ?_)))
 obtain⟨Q2,co,F1⟩:=bS hF
 refine wp_mono (Q:=λe a w=>(e=.exit 0∧(∃G1:Int,Q2=G1∧∃V3:Mem,V1.le V3∧Frm 21 [(3,iL G1)] a∧Hp w0 V3 (H) w))) (bT (n:=21) (w0:=w0) (M:=V1) (λ (I1,K1)=>[(1,pP Q1),(3,iL K1.1),(4,iL K1.2)]) (λ (I1,K1)=>(H)) (λ (I1,K1) MM=>aE (dr n rec_ref03_Count d0) I1 K1=some Q2) (λ (I1,K1)=>I1) (n,((1:Int),(0:Int))) (f.kp) N1 co ?_) ?_
 ·rintro⟨I1,K1⟩ V2 _ W2 J2 gM f N2
  have cu:=gM
  obtain⟨I2,lO,rfl,bx,T1⟩:=aZ cu
  unfold dr at bx
  refine an (RR (Y f 2 λ_ f=>Y16 f N2 (fzu J2 R2) 4 rfl λ_ f=>Ye f 2 λ_ f=>RcF f bx (λB3 F2=>?_) λB3 F7=>?_))
  ·have U1:=dI.1 B3
   refine St (an (wp_block (aA (Y f 2 λ_ f=>Y16 f N2 (fzu J2 R2) 4 rfl λ_ f=>Y f 1 λ_ f=>?_))))
   obtain⟨X1,l1,F3⟩:=bS F2
   obtain⟨C1,cZ,jC,-,D1,R3⟩:=Sli.at_ (B1.mono (J1.trans J2)) l1
   obtain⟨Z3,P3,Z4,P4,rfl,B4,B5⟩:=TD0.opn D1
   refine Z f (Y30 jC rfl (len:=d0.ac.length) (cap:=P1) (k:=.i64) (i:=K1.2) (e:=26) (sz:=6) (ax l1) (aw l1)) λ_ f=>Z f (Y32 (cs:=(lTD0 X1 Z3 P3 Z4 P4)) rfl (ad:=C1.add (K1.2.toNat*6)) (λj v h=>N2.cell (R3 j v h))) λ_ f=>?_
   obtain⟨X2,l2,F4⟩:=bS F3
   refine Y19 f N2 (hrec_ref03_Count _ _ X1 (TD0.shutx (x:=X1) B4 B5) X2 l2) λW3 N3 _ f=>?_
   obtain⟨O1,F5⟩:=nS F4
   refine Y f 1 λ_ f=>?_
   have f:=f.st 19 (iW O1)
   refine Y f 1 λ_ f=>ap rfl (dZ (aK (aA (Y f 1 λ_ f=>?_))))
   obtain⟨O2,F6⟩:=nS F5
   refine Y f 1 λ_ f=>?_
   have f:=f.st 11 (iW O2)
   refine Ye f 1 λ_ f=>?_
   cases sI F6
   exact⟨⟨I2,(K1.1+X2,K1.2+1)⟩,Nat.lt_succ_self _,V2,J2,T1,f.kp,N3⟩
  ·have U2:=aq dI B3
   refine wp_exit (eH (eH ?_))
   cases sI F7
   exact⟨rfl,K1.1,(sI T1).symm,V2,J2,f.kp,N2⟩
 ·rintro _ _ W5 ⟨rfl,G1,hq_,V3,J3,f,N4⟩
  subst Q2
  refine kh (aK (RR (Ye f 2 λ_ f=>wp_ret (au f rfl (Lk 2 (iL G1)) ?_))))
  cases sI F1
  exact⟨_,rfl,V3,(J1.trans J3),N4,rfl⟩
def cP (n:Nat):Nat→TD0→Option Int
 |0=>λ_=>none
 |k+1=>eM n (cP n k)
def jW (n:Nat) (d0:TD0):Option Int:=cP n n d0
theorem nm (n:Nat) (M:Mem) (c0:Lv) (d0:TD0) (h0:Rep M (ar d0) c0) (r:Int) (hF:jW n d0=some r):Ok Tryz.prog M 38 [.agg c0.toArray] (λ_ v=>v=iL r):=by
 have key: ∀ (k:Nat) (M:Mem) (c0:Lv) (d0:TD0) (h0:Rep M (ar d0) c0) (r:Int) (hF:cP n k d0=some r),Ok Tryz.prog M 38 [.agg c0.toArray] (λ_ v=>v=iL r):=by
  intro k
  induction k with
  |zero=>intro M c0 d0 h0 r hF;simp[cP] at hF
  |succ k ih=>intro M c0 d0 h0 r hF;exact lP n (cP n k) ih M c0 d0 h0 r hF
 exact key n M c0 d0 h0 r hF
def de (n:Nat) (rec_ref03_deeper:TD0→Int→Option Bool) (d0:TD0) (d1:Int) (K1:Int):Option (Lp Int (Sum Unit Unit)):=
    bif(decide (K1<((d0.ac.length:Nat):Int))) then
     ((aQ d0.ac K1).bind λX1=>
     aS (inR .i64 (d1-1))<|
     (rec_ref03_deeper X1 (d1-1)).bind λX2=>
     bif X2 then
      (some (.br (.inl ())))
     else
      aS (inR .i64 (K1+1))<|
      some (.nx (K1+1)))
    else
     some (.br (.inr ()))
def el (n:Nat) (rec_ref03_deeper:TD0→Int→Option Bool) (d0:TD0) (d1:Int):Option Bool:=
 bif(decide (d1=0)) then
  (some ((true)))
 else
  (aE (de n rec_ref03_deeper d0 d1) n (0:Int)).bind λQ2=>
  (match Q2 with
  |.inl G1=>some ((true))
  |.inr G2=>some ((false)))
set_option maxRecDepth 20000 in
theorem ln (n:Nat) (rec_ref03_deeper:TD0→Int→Option Bool) (hrec_ref03_deeper: ∀ (M:Mem) (c0:Lv) (d0:TD0) (h0:Rep M (ar d0) c0) (d1:Int) (r:Bool) (hF:rec_ref03_deeper d0 d1=some r),Ok Tryz.prog M 36 [.agg c0.toArray,iL d1] (λ_ v=>v=bO r)) (M:Mem) (c0:Lv) (d0:TD0) (h0:Rep M (ar d0) c0) (d1:Int) (r:Bool) (hF:el n rec_ref03_deeper d0 d1=some r):Ok Tryz.prog M 36 [.agg c0.toArray,iL d1] (λ_ v=>v=bO r):=by
 unfold el at hF
 intro M1 hM0 w0 H w p0
 replace h0:=Rep.mono hM0 _ _ h0
 obtain⟨Z1,P1,Z2,P2,rfl,B1,B2⟩:=TD0.opn h0
 refine Re 23 Tryz.func36 rfl λa0 f0=>RR (Y14 (cs:=(aTD0 d0 Z1 P1 Z2 P2)) (T:=26) f0 p0 λQ1 V1 W1 J1 R1 N1 _ f=>?_)
 have R2:=bj R1
 refine Ye f 1 λ_ f=>an (RR (Ye f 2 λ_ f=>RcF f hF (λB3 F1=>?_) λB3 F2=>?_))
 ·have U1:=dI.1 B3
  refine RR (Ye f 1 λ_ f=>wp_ret (bC (au f rfl (Lk 4 (bO true)) ?_)))
  cases sI F1
  exact⟨_,rfl,V1,J1,N1,rfl⟩
 ·have U2:=aq dI B3
  refine St (an (RR (Ye f 1 λ_ f=>wp_block ?_)))
  obtain⟨Q2,co,F3⟩:=bS F2
  refine wp_mono (Q:=λe a w=>(e=.ret∧(∃G1:Unit,Q2=.inl G1∧∃V3:Mem,V1.le V3∧Frm 23 [(4,bO true)] a∧Hp w0 V3 (H) w))∨(e=.exit 0∧(∃G2:Unit,Q2=.inr G2∧∃V4:Mem,V1.le V4∧Frm 23 [] a∧Hp w0 V4 (H) w))) (bT (n:=23) (w0:=w0) (M:=V1) (λ (I1,K1)=>[(1,iL d1),(2,pP Q1),(5,iL K1)]) (λ (I1,K1)=>(H)) (λ (I1,K1) MM=>aE (de n rec_ref03_deeper d0 d1) I1 K1=some Q2) (λ (I1,K1)=>I1) (n,(0:Int)) (f.kp) N1 co ?_) ?_
  ·rintro⟨I1,K1⟩ V2 _ W2 J2 gM f N2
   have cu:=gM
   obtain⟨I2,lO,rfl,bx,T1⟩:=aZ cu
   unfold de at bx
   refine an (RR (Y f 2 λ_ f=>Y16 f N2 (fzu J2 R2) 4 rfl λ_ f=>Ye f 2 λ_ f=>RcF f bx (λB4 F4=>?_) λB4 F11=>?_))
   ·have U3:=dI.1 B4
    refine St (an (wp_block (RR (Y f 1 λ_ f=>Y16 f N2 (fzu J2 R2) 4 rfl λ_ f=>Y f 1 λ_ f=>?_))))
    obtain⟨X1,l1,F5⟩:=bS F4
    obtain⟨C1,cZ,jC,-,D1,R3⟩:=Sli.at_ (B1.mono (J1.trans J2)) l1
    obtain⟨Z3,P3,Z4,P4,rfl,B5,B6⟩:=TD0.opn D1
    refine Z f (Y30 jC rfl (len:=d0.ac.length) (cap:=P1) (k:=.i64) (i:=K1) (e:=26) (sz:=6) (ax l1) (aw l1)) λ_ f=>Z f (Y32 (cs:=(lTD0 X1 Z3 P3 Z4 P4)) rfl (ad:=C1.add (K1.toNat*6)) (λj v h=>N2.cell (R3 j v h))) λ_ f=>Y f 1 λ_ f=>?_
    obtain⟨O1,F6⟩:=nS F5
    refine Y f 1 λ_ f=>?_
    have f:=f.st 21 (iW O1)
    obtain⟨X2,l2,F7⟩:=bS F6
    refine Y19 f N2 (hrec_ref03_deeper _ _ X1 (TD0.shutx (x:=X1) B5 B6) (d1-1) X2 l2) λW3 N3 _ f=>eT (RcF f F7 (λB7 F8=>?_) λB7 F9=>?_)
    ·refine RR (Ye f 1 λ_ f=>wp_ret (ed (bC (bC ?_))))
     cases sI F8
     exact .inl ⟨rfl,(),(sI T1).symm,V2,J2,f.kp,N3⟩
    ·refine wp_skip (dZ (aK (aA (Y f 1 λ_ f=>?_))))
     obtain⟨O2,F10⟩:=nS F9
     refine Y f 1 λ_ f=>?_
     have f:=f.st 14 (iW O2)
     refine Ye f 1 λ_ f=>?_
     cases sI F10
     exact⟨⟨I2,K1+1⟩,Nat.lt_succ_self _,V2,J2,T1,f.kp,N3⟩
   ·have U6:=aq dI B4
    refine wp_exit (eH (eH ?_))
    cases sI F11
    exact .inr ⟨rfl,(),(sI T1).symm,V2,J2,f.kp,N2⟩
  ·rintro _ _ W6 (⟨rfl,G1,rfl,V3,J3,f,N4⟩|⟨rfl,G2,rfl,V4,J4,f,N5⟩)
   ·refine ed (bC (au f rfl (Lk 4 (bO true)) ?_))
    cases sI F3
    exact⟨_,rfl,V3,(J1.trans J3),N4,rfl⟩
   ·refine kh (aK (RR (Ye f 1 λ_ f=>wp_ret (au f rfl (Lk 4 (bO false)) ?_))))
    cases sI F3
    exact⟨_,rfl,V4,(J1.trans J4),N5,rfl⟩
def cy (n:Nat):Nat→TD0→Int→Option Bool
 |0=>λ_ _=>none
 |k+1=>el n (cy n k)
def jl (n:Nat) (d0:TD0) (d1:Int):Option Bool:=cy n n d0 d1
theorem mr (n:Nat) (M:Mem) (c0:Lv) (d0:TD0) (h0:Rep M (ar d0) c0) (d1:Int) (r:Bool) (hF:jl n d0 d1=some r):Ok Tryz.prog M 36 [.agg c0.toArray,iL d1] (λ_ v=>v=bO r):=by
 have key: ∀ (k:Nat) (M:Mem) (c0:Lv) (d0:TD0) (h0:Rep M (ar d0) c0) (d1:Int) (r:Bool) (hF:cy n k d0 d1=some r),Ok Tryz.prog M 36 [.agg c0.toArray,iL d1] (λ_ v=>v=bO r):=by
  intro k
  induction k with
  |zero=>intro M c0 d0 h0 d1 r hF;simp[cy] at hF
  |succ k ih=>intro M c0 d0 h0 d1 r hF;exact ln n (cy n k) ih M c0 d0 h0 d1 r hF
 exact key n M c0 d0 h0 d1 r hF
def gS (n:Nat) (d0:TD0):Option Bool:=
 ((bif(decide (d0.ab<0)) then
  (some ((true)))
   else
    some ((decide ((5:Int)<d0.ab))):Option Bool)).bind λG1=>
 bif G1 then
  (some ((false)))
 else
  ((bif d0.ah then
   (bif(!(decide (d0.ab=1))) then
    (some ((true)))
   else
    bif(!(decide (d0.af=0))) then
     (bif(!(decide (d0.ab=2))) then
      (some ((true)))
     else
      bif(!(decide (d0.aa=[]))) then
       (some ((!(decide (d0.ab=3)))))
      else
       some ((false)))
    else
     bif(!(decide (d0.aa=[]))) then
      (some ((!(decide (d0.ab=3)))))
     else
      some ((false)))
    else
     bif(!(decide (d0.af=0))) then
      (bif(!(decide (d0.ab=2))) then
       (some ((true)))
      else
       bif(!(decide (d0.aa=[]))) then
        (some ((!(decide (d0.ab=3)))))
       else
        some ((false)))
     else
      bif(!(decide (d0.aa=[]))) then
       (some ((!(decide (d0.ab=3)))))
      else
       some ((false)):Option Bool)).bind λG2=>
  bif G2 then
   (some ((false)))
  else
   ((bif(decide ((0:Int)<((d0.ac.length:Nat):Int))) then
    (bif(!(decide (d0.ab=4))) then
     (some ((!(decide (d0.ab=5)))))
    else
     some ((false)))
     else
      some ((false)):Option Bool)).bind λG3=>
   bif G3 then
    (some ((false)))
   else
    bif(decide (d0.ab=5)) then
     (some ((decide (((d0.ae.length:Nat):Int)=((d0.ac.length:Nat):Int)))))
    else
     some ((decide (((d0.ae.length:Nat):Int)=0)))
set_option maxRecDepth 20000 in
theorem np (n:Nat) (M:Mem) (c0:Lv) (d0:TD0) (h0:Rep M (ar d0) c0) (r:Bool) (hF:gS n d0=some r):Ok Tryz.prog M 85 [.agg c0.toArray] (λ_ v=>v=bO r):=by
 unfold gS at hF
 intro M1 hM0 w0 H w p0
 replace h0:=Rep.mono hM0 _ _ h0
 obtain⟨Z1,P1,Z2,P2,rfl,B1,B2⟩:=TD0.opn h0
 refine Re 66 Tryz.func85 rfl λa0 f0=>RR (Y14 (cs:=(aTD0 d0 Z1 P1 Z2 P2)) (T:=26) f0 p0 λQ1 V1 W1 J1 R1 N1 _ f=>?_)
 have R2:=bj R1
 refine Ye f 1 λ_ f=>an (an ?_)
 obtain⟨gN,ec,F1⟩:=bS hF
 refine bD (λa_10 W2=>∃G1:Bool,gN=G1∧∃V2:Mem,V1.le V2∧Frm 66 [(1,pP Q1),(10,bO G1)] a_10∧Hp w0 V2 (H) W2) ?_ ?_
 ·refine aA (Y f 1 λ_ f=>Y16 f N1 R2 0 rfl λ_ f=>Y f 2 λ_ f=>?_)
  rcases cE ec with⟨B3,F2⟩|⟨B3,F3⟩
  ·have U1:=dI.1 B3
   have f:=f.st 6 (cB B3)
   refine Ye f 4 λ_ f=>?_
   exact⟨(true),(sI F2).symm,V1,(mR _),f.kp,N1⟩
  ·have U2:=aq dI B3
   have f:=f.st 6 (cB B3)
   refine Y f 1 λ_ f=>Y16 f N1 R2 0 rfl λ_ f=>Ye f 2 λ_ f=>?_
   exact⟨(decide ((5:Int)<d0.ab)),(sI F3).symm,V1,(mR _),f.kp,N1⟩
 ·rintro a_10 W2 ⟨G1,dC,V2,J2,f,N2⟩
  subst gN
  refine aK (RcF f F1 (λB4 F4=>?_) λB4 F5=>?_)
  ·refine RR (Ye f 1 λ_ f=>wp_ret (bC (au f rfl (Lk 2 (bO false)) ?_)))
   cases sI F4
   exact⟨_,rfl,V2,(J1.trans J2),N2,rfl⟩
  ·refine St (an (an ?_))
   obtain⟨mi,ji,F6⟩:=bS F5
   refine bD (λa_65 W3=>∃G2:Bool,mi=G2∧∃V3:Mem,V2.le V3∧Frm 66 [(1,pP Q1),(37,bO G2)] a_65∧Hp w0 V3 (H) W3) ?_ ?_
   ·refine aA (Y f 1 λ_ f=>Y16 f N2 (fzu J2 R2) 1 rfl λ_ f=>Y f 1 λ_ f=>?_)
    rcases cE ji with⟨B5,F7⟩|⟨B5,F18⟩
    ·have f:=f.st 13 (cB B5)
     refine Y f 1 λ_ f=>Y16 f N2 (fzu J2 R2) 0 rfl λ_ f=>Y f 3 λ_ f=>?_
     rcases cE F7 with⟨B6,F8⟩|⟨B6,F9⟩
     ·have U6: ¬ (d0.ab=1):=(aM dI).1 B6
      have f:=f.st 18 (cB B6)
      refine Ye f 19 λ_ f=>?_
      exact⟨(true),(sI F8).symm,V2,(mR _),f.kp,N2⟩
     ·have U7: ¬ (¬ (d0.ab=1)):=aq (aM dI) B6
      have f:=f.st 18 (cB B6)
      refine Y f 1 λ_ f=>Y16 f N2 (fzu J2 R2) 2 rfl λ_ f=>Y f 2 λ_ f=>?_
      rcases cE F9 with⟨B7,F10⟩|⟨B7,F15⟩
      ·have U8: ¬ (d0.af=0):=(aM dI).1 B7
       have f:=f.st 22 (cB B7)
       refine Y f 1 λ_ f=>Y16 f N2 (fzu J2 R2) 0 rfl λ_ f=>Y f 4 λ_ f=>?_
       rcases cE F10 with⟨B8,F11⟩|⟨B8,F12⟩
       ·have U9: ¬ (d0.ab=2):=(aM dI).1 B8
        have f:=f.st 28 (cB B8)
        refine Ye f 9 λ_ f=>?_
        exact⟨(true),(sI F11).symm,V2,(mR _),f.kp,N2⟩
       ·have U10: ¬ (¬ (d0.ab=2)):=aq (aM dI) B8
        have f:=f.st 28 (cB B8)
        refine Y f 1 λ_ f=>Y16 f N2 (fzu J2 R2) 3 rfl λ_ f=>Z f (Y37 rfl (l:=d0.aa) (m:=[])) λ_ f=>Y f 1 λ_ f=>?_
        rcases cE F12 with⟨B9,F13⟩|⟨B9,F14⟩
        ·have U11: ¬ (d0.aa=[]):=(aM dI).1 B9
         have f:=f.st 32 (cB B9)
         refine Y f 1 λ_ f=>Y16 f N2 (fzu J2 R2) 0 rfl λ_ f=>Ye f 3 λ_ f=>?_
         exact⟨(!(decide (d0.ab=3))),(sI F13).symm,V2,(mR _),f.kp,N2⟩
        ·have U12: ¬ (¬ (d0.aa=[])):=aq (aM dI) B9
         have f:=f.st 32 (cB B9)
         refine Ye f 5 λ_ f=>?_
         exact⟨(false),(sI F14).symm,V2,(mR _),f.kp,N2⟩
      ·have U13: ¬ (¬ (d0.af=0)):=aq (aM dI) B7
       have f:=f.st 22 (cB B7)
       refine Y f 7 λ_ f=>Y16 f N2 (fzu J2 R2) 3 rfl λ_ f=>Z f (Y37 rfl (l:=d0.aa) (m:=[])) λ_ f=>Y f 1 λ_ f=>?_
       rcases cE F15 with⟨B10,F16⟩|⟨B10,F17⟩
       ·have U14: ¬ (d0.aa=[]):=(aM dI).1 B10
        have f:=f.st 32 (cB B10)
        refine Y f 1 λ_ f=>Y16 f N2 (fzu J2 R2) 0 rfl λ_ f=>Ye f 3 λ_ f=>?_
        exact⟨(!(decide (d0.ab=3))),(sI F16).symm,V2,(mR _),f.kp,N2⟩
       ·have U15: ¬ (¬ (d0.aa=[])):=aq (aM dI) B10
        have f:=f.st 32 (cB B10)
        refine Ye f 5 λ_ f=>?_
        exact⟨(false),(sI F17).symm,V2,(mR _),f.kp,N2⟩
    ·have f:=f.st 13 (cB B5)
     refine Y f 6 λ_ f=>Y16 f N2 (fzu J2 R2) 2 rfl λ_ f=>Y f 2 λ_ f=>?_
     rcases cE F18 with⟨B11,F19⟩|⟨B11,F24⟩
     ·have U17: ¬ (d0.af=0):=(aM dI).1 B11
      have f:=f.st 22 (cB B11)
      refine Y f 1 λ_ f=>Y16 f N2 (fzu J2 R2) 0 rfl λ_ f=>Y f 4 λ_ f=>?_
      rcases cE F19 with⟨B12,F20⟩|⟨B12,F21⟩
      ·have U18: ¬ (d0.ab=2):=(aM dI).1 B12
       have f:=f.st 28 (cB B12)
       refine Ye f 9 λ_ f=>?_
       exact⟨(true),(sI F20).symm,V2,(mR _),f.kp,N2⟩
      ·have U19: ¬ (¬ (d0.ab=2)):=aq (aM dI) B12
       have f:=f.st 28 (cB B12)
       refine Y f 1 λ_ f=>Y16 f N2 (fzu J2 R2) 3 rfl λ_ f=>Z f (Y37 rfl (l:=d0.aa) (m:=[])) λ_ f=>Y f 1 λ_ f=>?_
       rcases cE F21 with⟨B13,F22⟩|⟨B13,F23⟩
       ·have U20: ¬ (d0.aa=[]):=(aM dI).1 B13
        have f:=f.st 32 (cB B13)
        refine Y f 1 λ_ f=>Y16 f N2 (fzu J2 R2) 0 rfl λ_ f=>Ye f 3 λ_ f=>?_
        exact⟨(!(decide (d0.ab=3))),(sI F22).symm,V2,(mR _),f.kp,N2⟩
       ·have U21: ¬ (¬ (d0.aa=[])):=aq (aM dI) B13
        have f:=f.st 32 (cB B13)
        refine Ye f 5 λ_ f=>?_
        exact⟨(false),(sI F23).symm,V2,(mR _),f.kp,N2⟩
     ·have U22: ¬ (¬ (d0.af=0)):=aq (aM dI) B11
      have f:=f.st 22 (cB B11)
      refine Y f 7 λ_ f=>Y16 f N2 (fzu J2 R2) 3 rfl λ_ f=>Z f (Y37 rfl (l:=d0.aa) (m:=[])) λ_ f=>Y f 1 λ_ f=>?_
      rcases cE F24 with⟨B14,F25⟩|⟨B14,F26⟩
      ·have U23: ¬ (d0.aa=[]):=(aM dI).1 B14
       have f:=f.st 32 (cB B14)
       refine Y f 1 λ_ f=>Y16 f N2 (fzu J2 R2) 0 rfl λ_ f=>Ye f 3 λ_ f=>?_
       exact⟨(!(decide (d0.ab=3))),(sI F25).symm,V2,(mR _),f.kp,N2⟩
      ·have U24: ¬ (¬ (d0.aa=[])):=aq (aM dI) B14
       have f:=f.st 32 (cB B14)
       refine Ye f 5 λ_ f=>?_
       exact⟨(false),(sI F26).symm,V2,(mR _),f.kp,N2⟩
   ·rintro a_65 W3 ⟨G2,eZ,V3,J3,f,N3⟩
    subst mi
    refine aK (RcF f F6 (λB15 F27=>?_) λB15 F28=>?_)
    ·refine RR (Ye f 1 λ_ f=>wp_ret (bC (au f rfl (Lk 2 (bO false)) ?_)))
     cases sI F27
     exact⟨_,rfl,V3,((J1.trans J2).trans J3),N3,rfl⟩
    ·refine St (an (an ?_))
     obtain⟨j_3,mY,F29⟩:=bS F28
     refine bD (λa_78 W4=>∃G3:Bool,j_3=G3∧∃V4:Mem,V3.le V4∧Frm 66 [(1,pP Q1),(51,bO G3)] a_78∧Hp w0 V4 (H) W4) ?_ ?_
     ·refine aA (Y f 1 λ_ f=>Y16 f N3 (fzu (J2.trans J3) R2) 4 rfl λ_ f=>Y f 3 λ_ f=>?_)
      rcases cE mY with⟨B16,F30⟩|⟨B16,F33⟩
      ·have U27:=dI.1 B16
       have f:=f.st 42 (cB B16)
       refine Y f 1 λ_ f=>Y16 f N3 (fzu (J2.trans J3) R2) 0 rfl λ_ f=>Y f 3 λ_ f=>?_
       rcases cE F30 with⟨B17,F31⟩|⟨B17,F32⟩
       ·have U28: ¬ (d0.ab=4):=(aM dI).1 B17
        have f:=f.st 47 (cB B17)
        refine Y f 1 λ_ f=>Y16 f N3 (fzu (J2.trans J3) R2) 0 rfl λ_ f=>Ye f 2 λ_ f=>?_
        exact⟨(!(decide (d0.ab=5))),(sI F31).symm,V3,(mR _),f.kp,N3⟩
       ·have U29: ¬ (¬ (d0.ab=4)):=aq (aM dI) B17
        have f:=f.st 47 (cB B17)
        refine Ye f 4 λ_ f=>?_
        exact⟨(false),(sI F32).symm,V3,(mR _),f.kp,N3⟩
      ·have U30:=aq dI B16
       have f:=f.st 42 (cB B16)
       refine Ye f 9 λ_ f=>?_
       exact⟨(false),(sI F33).symm,V3,(mR _),f.kp,N3⟩
     ·rintro a_78 W4 ⟨G3,lb,V4,J4,f,N4⟩
      subst j_3
      refine aK (RcF f F29 (λB18 F34=>?_) λB18 F35=>?_)
      ·refine RR (Ye f 1 λ_ f=>wp_ret (bC (au f rfl (Lk 2 (bO false)) ?_)))
       cases sI F34
       exact⟨_,rfl,V4,(((J1.trans J2).trans J3).trans J4),N4,rfl⟩
      ·refine St (an (RR (Y f 1 λ_ f=>Y16 f N4 (fzu ((J2.trans J3).trans J4) R2) 0 rfl λ_ f=>Ye f 1 λ_ f=>RcF f F35 (λB19 F36=>?_) λB19 F37=>?_)))
       ·have U33:=dI.1 B19
        refine RR (Y f 1 λ_ f=>Y16 f N4 (fzu ((J2.trans J3).trans J4) R2) 5 rfl λ_ f=>Y f 2 λ_ f=>Y16 f N4 (fzu ((J2.trans J3).trans J4) R2) 4 rfl λ_ f=>Ye f 3 λ_ f=>wp_ret (bC (au f rfl (Lk 2 (bO (decide (((d0.ae.length:Nat):Int)=((d0.ac.length:Nat):Int))))) ?_)))
        cases sI F36
        exact⟨_,rfl,V4,(((J1.trans J2).trans J3).trans J4),N4,rfl⟩
       ·have U34:=aq dI B19
        refine St (RR (Y f 1 λ_ f=>Y16 f N4 (fzu ((J2.trans J3).trans J4) R2) 5 rfl λ_ f=>Ye f 3 λ_ f=>wp_ret (au f rfl (Lk 2 (bO (decide (((d0.ae.length:Nat):Int)=0)))) ?_)))
        cases sI F37
        exact⟨_,rfl,V4,(((J1.trans J2).trans J3).trans J4),N4,rfl⟩
def dt (n:Nat) (d0:TD0) (K1:Int):Option (Lp Int (Sum Unit Unit)):=
    bif(decide (K1<((d0.ae.length:Nat):Int))) then
     ((aQ d0.ae K1).bind λX3=>
     (dA n X3).bind λX4=>
     bif !X4 then
      (some (.br (.inl ())))
     else
      aS (inR .i64 (K1+1))<|
      some (.nx (K1+1)))
    else
     some (.br (.inr ()))
def du (n:Nat) (d0:TD0) (K2:Int) (K3:Int):Option (Lp Int (Sum Unit Unit)):=
    bif(decide (K3<K2)) then
     ((aQ d0.ae K3).bind λX5=>
     (aQ d0.ae K2).bind λX6=>
     bif(decide (X5=X6)) then
      (some (.br (.inl ())))
     else
      aS (inR .i64 (K3+1))<|
      some (.nx (K3+1)))
    else
     some (.br (.inr ()))
def cY (n:Nat) (d0:TD0) (K2:Int):Option (Lp Int (Sum Unit Unit)):=
    bif(decide (K2<((d0.ae.length:Nat):Int))) then
     ((aE (du n d0 K2) n (0:Int)).bind λQ4=>
     (match Q4 with
     |.inl G4=>some (.br (.inl ()))
     |.inr G5=>aS (inR .i64 (K2+1))<|
      some (.nx (K2+1))))
    else
     some (.br (.inr ()))
def dv (n:Nat) (rec_ref03_wrong:TD0→Option Int) (d0:TD0) (K4:Int):Option (Lp Int (Sum Int Unit)):=
    bif(decide (K4<((d0.ac.length:Nat):Int))) then
     ((aQ d0.ac K4).bind λX7=>
     (rec_ref03_wrong X7).bind λX8=>
     bif(!(decide (X8=0))) then
      (some (.br (.inl X8)))
     else
      aS (inR .i64 (K4+1))<|
      some (.nx (K4+1)))
    else
     some (.br (.inr ()))
def eN (n:Nat) (rec_ref03_wrong:TD0→Option Int) (d0:TD0):Option Int:=
 (gS n d0).bind λX1=>
 bif !X1 then
  (some ((2:Int)))
 else
  ((bif(decide (d0.af<(-9007199254740992))) then
   (some ((true)))
    else
     some ((decide ((9007199254740992:Int)<d0.af))):Option Bool)).bind λG1=>
  bif G1 then
   (some ((20:Int)))
  else
   (dA n d0.aa).bind λX2=>
   bif !X2 then
    (some ((10:Int)))
   else
    (aE (dt n d0) n (0:Int)).bind λQ2=>
    (match Q2 with
    |.inl G2=>some ((10:Int))
    |.inr G3=>(aE (cY n d0) n (0:Int)).bind λQ3=>
     (match Q3 with
     |.inl G6=>some ((41:Int))
     |.inr G7=>(aE (dv n rec_ref03_wrong d0) n (0:Int)).bind λQ5=>
      (match Q5 with
      |.inl G8=>some (G8)
      |.inr G9=>some ((0:Int)))))
set_option maxRecDepth 20000 in
theorem lQ (n:Nat) (rec_ref03_wrong:TD0→Option Int) (hrec_ref03_wrong: ∀ (M:Mem) (c0:Lv) (d0:TD0) (h0:Rep M (ar d0) c0) (r:Int) (hF:rec_ref03_wrong d0=some r),Ok Tryz.prog M 37 [.agg c0.toArray] (λ_ v=>v=iL r)) (M:Mem) (c0:Lv) (d0:TD0) (h0:Rep M (ar d0) c0) (r:Int) (hF:eN n rec_ref03_wrong d0=some r):Ok Tryz.prog M 37 [.agg c0.toArray] (λ_ v=>v=iL r):=by
 unfold eN at hF
 intro M1 hM0 w0 H w p0
 replace h0:=Rep.mono hM0 _ _ h0
 obtain⟨Z1,P1,Z2,P2,rfl,B1,B2⟩:=TD0.opn h0
 refine Re 76 Tryz.func37 rfl λa0 f0=>RR (Y14 (cs:=(aTD0 d0 Z1 P1 Z2 P2)) (T:=26) f0 p0 λQ1 V1 W1 J1 R1 N1 _ f=>?_)
 have R2:=bj R1
 refine Ye f 1 λ_ f=>an (RR (Z f (Y32 (cs:=(lTD0 d0 Z1 P1 Z2 P2)) rfl (ad:=⟨Q1,0,none⟩) (λj v h=>N1.cell (R2 j v h))) λ_ f=>?_))
 obtain⟨X1,l1,F1⟩:=bS hF
 refine Y19 f N1 (np n _ _ d0 (TD0.shutx (x:=d0) (B1.mono J1) (B2.mono J1)) X1 l1) λW2 N2 _ f=>Ye f 1 λ_ f=>RcF f F1 (λB3 F2=>?_) λB3 F3=>?_
 ·have U1: (X1)=false:=by simpa using B3
  refine RR (Ye f 1 λ_ f=>wp_ret (bC (au f rfl (Lk 2 (iL 2)) ?_)))
  cases sI F2
  exact⟨_,rfl,V1,J1,N2,rfl⟩
 ·have U2: (X1)=true:=by simpa using B3
  refine St (an (an ?_))
  obtain⟨gN,ec,F4⟩:=bS F3
  refine bD (λa_14 W3=>∃G1:Bool,gN=G1∧∃V2:Mem,V1.le V2∧Frm 76 [(1,pP Q1),(18,bO G1)] a_14∧Hp w0 V2 (H) W3) ?_ ?_
  ·refine aA (Y f 1 λ_ f=>Y16 f N2 R2 2 rfl λ_ f=>Y f 2 λ_ f=>?_)
   rcases cE ec with⟨B4,F5⟩|⟨B4,F6⟩
   ·have U3:=dI.1 B4
    have f:=f.st 14 (cB B4)
    refine Ye f 4 λ_ f=>?_
    exact⟨(true),(sI F5).symm,V1,(mR _),f.kp,N2⟩
   ·have U4:=aq dI B4
    have f:=f.st 14 (cB B4)
    refine Y f 1 λ_ f=>Y16 f N2 R2 2 rfl λ_ f=>Ye f 2 λ_ f=>?_
    exact⟨(decide ((9007199254740992:Int)<d0.af)),(sI F6).symm,V1,(mR _),f.kp,N2⟩
  ·rintro a_14 W3 ⟨G1,dC,V2,J2,f,N3⟩
   subst gN
   refine aK (RcF f F4 (λB5 F7=>?_) λB5 F8=>?_)
   ·refine RR (Ye f 1 λ_ f=>wp_ret (bC (au f rfl (Lk 2 (iL 20)) ?_)))
    cases sI F7
    exact⟨_,rfl,V2,(J1.trans J2),N3,rfl⟩
   ·refine St (an (RR (Y f 1 λ_ f=>Y16 f N3 (fzu J2 R2) 3 rfl λ_ f=>?_)))
    obtain⟨X2,l2,F9⟩:=bS F8
    refine Y19 f N3 (gm n _ d0.aa X2 l2) λW4 N4 _ f=>Ye f 1 λ_ f=>RcF f F9 (λB6 F10=>?_) λB6 F11=>?_
    ·have U7: (X2)=false:=by simpa using B6
     refine RR (Ye f 1 λ_ f=>wp_ret (bC (au f rfl (Lk 2 (iL 10)) ?_)))
     cases sI F10
     exact⟨_,rfl,V2,(J1.trans J2),N4,rfl⟩
    ·have U8: (X2)=true:=by simpa using B6
     refine St (an (RR (Ye f 1 λ_ f=>wp_block ?_)))
     obtain⟨Q2,co,F12⟩:=bS F11
     refine wp_mono (Q:=λe a w=>(e=.ret∧(∃G2:Unit,Q2=.inl G2∧∃V4:Mem,V2.le V4∧Frm 76 [(2,iL 10)] a∧Hp w0 V4 (H) w))∨(e=.exit 0∧(∃G3:Unit,Q2=.inr G3∧∃V5:Mem,V2.le V5∧Frm 76 [(1,pP Q1)] a∧Hp w0 V5 (H) w))) (bT (n:=76) (w0:=w0) (M:=V2) (λ (I1,K1)=>[(1,pP Q1),(3,iL K1)]) (λ (I1,K1)=>(H)) (λ (I1,K1) MM=>aE (dt n d0) I1 K1=some Q2) (λ (I1,K1)=>I1) (n,(0:Int)) (f.kp) N4 co ?_) ?_
     ·rintro⟨I1,K1⟩ V3 _ W5 J3 gM f N5
      have cu:=gM
      obtain⟨I2,lO,rfl,bx,T1⟩:=aZ cu
      unfold dt at bx
      refine an (RR (Y f 2 λ_ f=>Y16 f N5 (fzu (J2.trans J3) R2) 5 rfl λ_ f=>Ye f 2 λ_ f=>RcF f bx (λB7 F13=>?_) λB7 F19=>?_))
      ·have U9:=dI.1 B7
       refine St (an (wp_block (RR (Y f 1 λ_ f=>Y16 f N5 (fzu (J2.trans J3) R2) 5 rfl λ_ f=>Y f 1 λ_ f=>?_))))
       obtain⟨X3,l3,F14⟩:=bS F13
       obtain⟨C1,cZ,jC,-,D1,R3⟩:=Sli.at_ (B2.mono ((J1.trans J2).trans J3)) l3
       obtain rfl:cZ=[S X3]:=D1
       refine Z f (Y30 jC rfl (len:=d0.ae.length) (cap:=P2) (k:=.i64) (i:=K1) (e:=9) (sz:=1) (ax l3) (aw l3)) λ_ f=>Y16 f N5 R3 0 rfl λ_ f=>?_
       obtain⟨X4,l4,F15⟩:=bS F14
       refine Y19 f N5 (gm n _ X3 X4 l4) λW6 N6 _ f=>Ye f 1 λ_ f=>RcF f F15 (λB8 F16=>?_) λB8 F17=>?_
       ·have U10: (X4)=false:=by simpa using B8
        refine RR (Ye f 1 λ_ f=>wp_ret (ed (bC (bC ?_))))
        cases sI F16
        exact .inl ⟨rfl,(),(sI T1).symm,V3,J3,f.kp,N6⟩
       ·have U11: (X4)=true:=by simpa using B8
        refine wp_skip (dZ (aK (aA (Y f 1 λ_ f=>?_))))
        obtain⟨O1,F18⟩:=nS F17
        refine Y f 1 λ_ f=>?_
        have f:=f.st 29 (iW O1)
        refine Ye f 1 λ_ f=>?_
        cases sI F18
        exact⟨⟨I2,K1+1⟩,Nat.lt_succ_self _,V3,J3,T1,f.kp,N6⟩
      ·have U12:=aq dI B7
       refine wp_exit (eH (eH ?_))
       cases sI F19
       exact .inr ⟨rfl,(),(sI T1).symm,V3,J3,f.kp,N5⟩
     ·rintro _ _ W9 (⟨rfl,G2,rfl,V4,J4,f,N7⟩|⟨rfl,G3,rfl,V5,J5,f,N8⟩)
      ·refine ed (bC (au f rfl (Lk 2 (iL 10)) ?_))
       cases sI F12
       exact⟨_,rfl,V4,((J1.trans J2).trans J4),N7,rfl⟩
      ·refine kh (aK (an (RR (Ye f 1 λ_ f=>wp_block ?_))))
       obtain⟨Q3,hL_2,F20⟩:=bS F12
       refine wp_mono (Q:=λe a w=>(e=.ret∧(∃G6:Unit,Q3=.inl G6∧∃V10:Mem,V5.le V10∧Frm 76 [(2,iL 41)] a∧Hp w0 V10 (H) w))∨(e=.exit 2∧(∃G7:Unit,Q3=.inr G7∧∃V11:Mem,V5.le V11∧Frm 76 [(1,pP Q1)] a∧Hp w0 V11 (H) w))) (bT (n:=76) (w0:=w0) (M:=V5) (λ (I3,K2)=>[(1,pP Q1),(4,iL K2)]) (λ (I3,K2)=>(H)) (λ (I3,K2) MM=>aE (cY n d0) I3 K2=some Q3) (λ (I3,K2)=>I3) (n,(0:Int)) (f.kp) N8 hL_2 ?_) ?_
       ·rintro⟨I3,K2⟩ V6 _ W10 J6 I_2 f N9
        have I_2L:=I_2
        obtain⟨I4,r_2,rfl,hs_2,T2⟩:=aZ I_2L
        unfold cY at hs_2
        refine an (RR (Y f 2 λ_ f=>Y16 f N9 (fzu ((J2.trans J5).trans J6) R2) 5 rfl λ_ f=>Ye f 2 λ_ f=>RcF f hs_2 (λB9 F21=>?_) λB9 F31=>?_))
        ·have U13:=dI.1 B9
         refine St (an (wp_block (RR (Ye f 1 λ_ f=>wp_block ?_))))
         obtain⟨Q4,hL_3,F22⟩:=bS F21
         refine wp_mono (Q:=λe a w=>(e=.ret∧(∃G4:Unit,Q4=.inl G4∧∃V8:Mem,V6.le V8∧Frm 76 [(2,iL 41)] a∧Hp w0 V8 (H) w))∨(e=.exit 4∧(∃G5:Unit,Q4=.inr G5∧∃V9:Mem,V6.le V9∧Frm 76 [(1,pP Q1),(4,iL K2)] a∧Hp w0 V9 (H) w))) (bT (n:=76) (w0:=w0) (M:=V6) (λ (I5,K3)=>[(1,pP Q1),(4,iL K2),(5,iL K3)]) (λ (I5,K3)=>(H)) (λ (I5,K3) MM=>aE (du n d0 K2) I5 K3=some Q4) (λ (I5,K3)=>I5) (n,(0:Int)) (f.kp) N9 hL_3 ?_) ?_
         ·rintro⟨I5,K3⟩ V7 _ W11 J7 I_3 f N10
          have I_3L:=I_3
          obtain⟨I6,r_3,rfl,hs_3,T3⟩:=aZ I_3L
          unfold du at hs_3
          refine an (RR (Ye f 3 λ_ f=>RcF f hs_3 (λB10 F23=>?_) λB10 F29=>?_))
          ·have U14:=dI.1 B10
           refine St (an (wp_block (an (R_draw N10 kr kr (Y6 default f 1 λ_ f=>Y5 f (fzu (((J2.trans J5).trans J6).trans J7) R2) 5 rfl λ_ f=>Y6 default f 1 λ_ f=>?_)))))
           obtain⟨X5,l5,F24⟩:=bS F23
           obtain⟨C2,gW,e_2,-,D2,R4⟩:=Sli.at_ (B2.mono ((((J1.trans J2).trans J5).trans J6).trans J7)) l5
           obtain rfl:gW=[S X5]:=D2
           refine Y3 (v:=Pa (C2.add (K3.toNat*1))) f (λ_ pq=>Y30 e_2 rfl (len:=d0.ae.length) (cap:=P2) (k:=.i64) (i:=K3) (e:=9) (sz:=1) (ax l5) (aw l5)) λ_ f=>Y5 f R4 0 rfl λ_ f=>Y6 default f 1 λ_ f=>Y5 f (fzu (((J2.trans J5).trans J6).trans J7) R2) 5 rfl λ_ f=>Y6 default f 1 λ_ f=>?_
           obtain⟨X6,l6,F25⟩:=bS F24
           obtain⟨C3,my,e_3,-,D3,R5⟩:=Sli.at_ (B2.mono ((((J1.trans J2).trans J5).trans J6).trans J7)) l6
           obtain rfl:my=[S X6]:=D3
           refine Y3 (v:=Pa (C3.add (K2.toNat*1))) f (λ_ pq=>Y30 e_3 rfl (len:=d0.ae.length) (cap:=P2) (k:=.i64) (i:=K2) (e:=9) (sz:=1) (ax l6) (aw l6)) λ_ f=>Y5 f R5 0 rfl λ_ f=>Y3 (v:=bO (decide (X5=X6))) f (λ_ pq=>Y36 rfl (l:=X5) (m:=X6)) λ_ f=>Q_end rfl ?_
           intro W12 N11
           refine aK (RcF f F25 (λB11 F26=>?_) λB11 F27=>?_)
           ·have U15:=dI.1 B11
            refine RR (Ye f 1 λ_ f=>wp_ret (ed (bC (bC ?_))))
            cases sI F26
            exact .inl ⟨rfl,(),(sI T3).symm,V7,J7,f.kp,N11⟩
           ·have U16:=aq dI B11
            refine wp_skip (dZ (aK (aA (Y f 1 λ_ f=>?_))))
            obtain⟨O2,F28⟩:=nS F27
            refine Y f 1 λ_ f=>?_
            have f:=f.st 48 (iW O2)
            refine Ye f 1 λ_ f=>?_
            cases sI F28
            exact⟨⟨I6,K3+1⟩,Nat.lt_succ_self _,V7,J7,T3,f.kp,N11⟩
          ·have U17:=aq dI B10
           refine wp_exit (eH (eH ?_))
           cases sI F29
           exact .inr ⟨rfl,(),(sI T3).symm,V7,J7,f.kp,N10⟩
         ·rintro _ _ W15 (⟨rfl,G4,rfl,V8,J8,f,N12⟩|⟨rfl,G5,rfl,V9,J9,f,N13⟩)
          ·refine ed (ed (bC (bC ?_)))
           cases sI F22
           exact .inl ⟨rfl,(),(sI T2).symm,V8,(J6.trans J8),f.kp,N12⟩
          ·refine kh (dZ (aK (aA (Y f 1 λ_ f=>?_))))
           obtain⟨O3,F30⟩:=nS F22
           refine Y f 1 λ_ f=>?_
           have f:=f.st 43 (iW O3)
           refine Ye f 1 λ_ f=>?_
           cases sI F30
           exact⟨⟨I4,K2+1⟩,Nat.lt_succ_self _,V9,(J6.trans J9),T2,f.kp,N13⟩
        ·have U18:=aq dI B9
         refine wp_exit (eH (eH ?_))
         cases sI F31
         exact .inr ⟨rfl,(),(sI T2).symm,V6,J6,f.kp,N9⟩
       ·rintro _ _ W18 (⟨rfl,G6,rfl,V10,J10,f,N14⟩|⟨rfl,G7,rfl,V11,J11,f,N15⟩)
        ·refine ed (bC (au f rfl (Lk 2 (iL 41)) ?_))
         cases sI F20
         exact⟨_,rfl,V10,(((J1.trans J2).trans J5).trans J10),N14,rfl⟩
        ·refine kh (aK (an (RR (Ye f 1 λ_ f=>wp_block ?_))))
         obtain⟨Q5,hL_4,F32⟩:=bS F20
         refine wp_mono (Q:=λe a w=>(e=.ret∧(∃G8:Int,Q5=.inl G8∧∃V13:Mem,V11.le V13∧Frm 76 [(2,iL G8)] a∧Hp w0 V13 (H) w))∨(e=.exit 6∧(∃G9:Unit,Q5=.inr G9∧∃V14:Mem,V11.le V14∧Frm 76 [] a∧Hp w0 V14 (H) w))) (bT (n:=76) (w0:=w0) (M:=V11) (λ (I7,K4)=>[(1,pP Q1),(6,iL K4)]) (λ (I7,K4)=>(H)) (λ (I7,K4) MM=>aE (dv n rec_ref03_wrong d0) I7 K4=some Q5) (λ (I7,K4)=>I7) (n,(0:Int)) (f.kp) N15 hL_4 ?_) ?_
         ·rintro⟨I7,K4⟩ V12 _ W19 J12 I_4 f N16
          have I_4L:=I_4
          obtain⟨I8,r_4,rfl,hs_4,T4⟩:=aZ I_4L
          unfold dv at hs_4
          refine an (RR (Y f 2 λ_ f=>Y16 f N16 (fzu (((J2.trans J5).trans J11).trans J12) R2) 4 rfl λ_ f=>Ye f 2 λ_ f=>RcF f hs_4 (λB12 F33=>?_) λB12 F39=>?_))
          ·have U19:=dI.1 B12
           refine St (an (wp_block (RR (Y f 1 λ_ f=>Y16 f N16 (fzu (((J2.trans J5).trans J11).trans J12) R2) 4 rfl λ_ f=>Y f 1 λ_ f=>?_))))
           obtain⟨X7,l7,F34⟩:=bS F33
           obtain⟨C4,c_4,e_4,-,D4,R6⟩:=Sli.at_ (B1.mono ((((J1.trans J2).trans J5).trans J11).trans J12)) l7
           obtain⟨Z3,P3,Z4,P4,rfl,B13,B14⟩:=TD0.opn D4
           refine Z f (Y30 e_4 rfl (len:=d0.ac.length) (cap:=P1) (k:=.i64) (i:=K4) (e:=26) (sz:=6) (ax l7) (aw l7)) λ_ f=>Z f (Y32 (cs:=(lTD0 X7 Z3 P3 Z4 P4)) rfl (ad:=C4.add (K4.toNat*6)) (λj v h=>N16.cell (R6 j v h))) λ_ f=>?_
           obtain⟨X8,l8,F35⟩:=bS F34
           refine Y19 f N16 (hrec_ref03_wrong _ _ X7 (TD0.shutx (x:=X7) B13 B14) X8 l8) λW20 N17 _ f=>Ye f 1 λ_ f=>RR (Ye f 2 λ_ f=>RcF f F35 (λB15 F36=>?_) λB15 F37=>?_)
           ·have U20: ¬ (X8=0):=(aM dI).1 B15
            refine RR (Ye f 2 λ_ f=>wp_ret (ed (bC (bC ?_))))
            cases sI F36
            exact .inl ⟨rfl,X8,(sI T4).symm,V12,J12,f.kp,N17⟩
           ·have U21: ¬ (¬ (X8=0)):=aq (aM dI) B15
            refine wp_skip (dZ (aK (aA (Y f 1 λ_ f=>?_))))
            obtain⟨O4,F38⟩:=nS F37
            refine Y f 1 λ_ f=>?_
            have f:=f.st 66 (iW O4)
            refine Ye f 1 λ_ f=>?_
            cases sI F38
            exact⟨⟨I8,K4+1⟩,Nat.lt_succ_self _,V12,J12,T4,f.kp,N17⟩
          ·have U22:=aq dI B12
           refine wp_exit (eH (eH ?_))
           cases sI F39
           exact .inr ⟨rfl,(),(sI T4).symm,V12,J12,f.kp,N16⟩
         ·rintro _ _ W23 (⟨rfl,G8,rfl,V13,J13,f,N18⟩|⟨rfl,G9,rfl,V14,J14,f,N19⟩)
          ·refine ed (bC (au f rfl (Lk 2 (iL G8)) ?_))
           cases sI F32
           exact⟨_,rfl,V13,((((J1.trans J2).trans J5).trans J11).trans J13),N18,rfl⟩
          ·refine kh (aK (RR (Ye f 1 λ_ f=>wp_ret (au f rfl (Lk 2 (iL 0)) ?_))))
           cases sI F32
           exact⟨_,rfl,V14,((((J1.trans J2).trans J5).trans J11).trans J14),N19,rfl⟩
def cQ (n:Nat):Nat→TD0→Option Int
 |0=>λ_=>none
 |k+1=>eN n (cQ n k)
def jX (n:Nat) (d0:TD0):Option Int:=cQ n n d0
theorem nq (n:Nat) (M:Mem) (c0:Lv) (d0:TD0) (h0:Rep M (ar d0) c0) (r:Int) (hF:jX n d0=some r):Ok Tryz.prog M 37 [.agg c0.toArray] (λ_ v=>v=iL r):=by
 have key: ∀ (k:Nat) (M:Mem) (c0:Lv) (d0:TD0) (h0:Rep M (ar d0) c0) (r:Int) (hF:cQ n k d0=some r),Ok Tryz.prog M 37 [.agg c0.toArray] (λ_ v=>v=iL r):=by
  intro k
  induction k with
  |zero=>intro M c0 d0 h0 r hF;simp[cQ] at hF
  |succ k ih=>intro M c0 d0 h0 r hF;exact lQ n (cQ n k) ih M c0 d0 h0 r hF
 exact key n M c0 d0 h0 r hF
def gR (n:Nat) (d0:TD0):Option Int:=
 (jl n d0 (24:Int)).bind λX1=>
 bif X1 then
  (some ((30:Int)))
 else
  (jX n d0).bind λX2=>
  bif(!(decide (X2=0))) then
   (some (X2))
  else
   (jW n d0).bind λX3=>
   bif(decide ((4096:Int)<X3)) then
    (some ((3:Int)))
   else
    some ((0:Int))
theorem nl (n:Nat) (M:Mem) (c0:Lv) (d0:TD0) (h0:Rep M (ar d0) c0) (r:Int) (hF:gR n d0=some r):Ok Tryz.prog M 19 [.agg c0.toArray] (λ_ v=>v=iL r):=by
 unfold gR at hF
 intro M1 hM0 w0 H w p0
 replace h0:=Rep.mono hM0 _ _ h0
 obtain⟨Z1,P1,Z2,P2,rfl,B1,B2⟩:=TD0.opn h0
 refine Re 14 Tryz.func19 rfl λa0 f0=>RR (Y14 (cs:=(aTD0 d0 Z1 P1 Z2 P2)) (T:=26) f0 p0 λQ1 V1 W1 J1 R1 N1 _ f=>?_)
 have R2:=bj R1
 refine Ye f 1 λ_ f=>an (RR (Z f (Y32 (cs:=(lTD0 d0 Z1 P1 Z2 P2)) rfl (ad:=⟨Q1,0,none⟩) (λj v h=>N1.cell (R2 j v h))) λ_ f=>?_))
 obtain⟨X1,l1,F1⟩:=bS hF
 refine Y19 f N1 (mr n _ _ d0 (TD0.shutx (x:=d0) (B1.mono J1) (B2.mono J1)) (24:Int) X1 l1) λW2 N2 _ f=>eT (RcF f F1 (λB3 F2=>?_) λB3 F3=>?_)
 ·refine RR (Ye f 1 λ_ f=>wp_ret (bC (au f rfl (Lk 2 (iL 30)) ?_)))
  cases sI F2
  exact⟨_,rfl,V1,J1,N2,rfl⟩
 ·refine St (RR (Z f (Y32 (cs:=(lTD0 d0 Z1 P1 Z2 P2)) rfl (ad:=⟨Q1,0,none⟩) (λj v h=>N2.cell (R2 j v h))) λ_ f=>?_))
  obtain⟨X2,l2,F4⟩:=bS F3
  refine Y19 f N2 (nq n _ _ d0 (TD0.shutx (x:=d0) (B1.mono J1) (B2.mono J1)) X2 l2) λW3 N3 _ f=>Ye f 1 λ_ f=>an (RR (Ye f 2 λ_ f=>RcF f F4 (λB4 F5=>?_) λB4 F6=>?_))
  ·have U3: ¬ (X2=0):=(aM dI).1 B4
   refine RR (Ye f 2 λ_ f=>wp_ret (bC (au f rfl (Lk 2 (iL X2)) ?_)))
   cases sI F5
   exact⟨_,rfl,V1,J1,N3,rfl⟩
  ·have U4: ¬ (¬ (X2=0)):=aq (aM dI) B4
   refine St (an (RR (Z f (Y32 (cs:=(lTD0 d0 Z1 P1 Z2 P2)) rfl (ad:=⟨Q1,0,none⟩) (λj v h=>N3.cell (R2 j v h))) λ_ f=>?_)))
   obtain⟨X3,l3,F7⟩:=bS F6
   refine Y19 f N3 (nm n _ _ d0 (TD0.shutx (x:=d0) (B1.mono J1) (B2.mono J1)) X3 l3) λW4 N4 _ f=>Ye f 1 λ_ f=>RcF f F7 (λB5 F8=>?_) λB5 F9=>?_
   ·have U5:=dI.1 B5
    refine RR (Ye f 1 λ_ f=>wp_ret (bC (au f rfl (Lk 2 (iL 3)) ?_)))
    cases sI F8
    exact⟨_,rfl,V1,J1,N4,rfl⟩
   ·have U6:=aq dI B5
    refine St (RR (Ye f 1 λ_ f=>wp_ret (au f rfl (Lk 2 (iL 0)) ?_)))
    cases sI F9
    exact⟨_,rfl,V1,J1,N4,rfl⟩
def dX (n:Nat) (rec_tree_depth:TD0→Int→Option Int) (d0:TD0) (d1:Int) (K1:Int×Int):Option (Lp (Int×Int) Int):=
    bif(decide (K1.2<((d0.ac.length:Nat):Int))) then
     (bif(decide ((0:Int)<d1)) then
      ((aQ d0.ac K1.2).bind λX1=>
      aS (inR .i64 (d1-1))<|
      (rec_tree_depth X1 (d1-1)).bind λX2=>
      aS (inR .i64 (K1.2+1))<|
      some (.nx (max K1.1 X2,K1.2+1)))
     else
      aS (inR .i64 (K1.2+1))<|
      some (.nx (K1.1,K1.2+1)))
    else
     some (.br K1.1)
def gD (n:Nat) (rec_tree_depth:TD0→Int→Option Int) (d0:TD0) (d1:Int):Option Int:=
 (aE (dX n rec_tree_depth d0 d1) n ((0:Int),(0:Int))).bind λG1=>
 aS (inR .i64 (G1+1))<|
 some (G1+1)
set_option maxRecDepth 20000 in
theorem mw (n:Nat) (rec_tree_depth:TD0→Int→Option Int) (hrec_tree_depth: ∀ (M:Mem) (ad0:Addr) (c0:Lv) (d0:TD0) (h0:Rep M (ar d0) c0) (q0: ∀j v,c0[j]? =some v→M.cell? (ad0.add j)=some v) (d1:Int) (r:Int) (hF:rec_tree_depth d0 d1=some r),Ok Tryz.prog M 28 [Pa ad0,iL d1] (λ_ v=>v=iL r)) (M:Mem) (ad0:Addr) (c0:Lv) (d0:TD0) (h0:Rep M (ar d0) c0) (q0: ∀j v,c0[j]? =some v→M.cell? (ad0.add j)=some v) (d1:Int) (r:Int) (hF:gD n rec_tree_depth d0 d1=some r):Ok Tryz.prog M 28 [Pa ad0,iL d1] (λ_ v=>v=iL r):=by
 unfold gD at hF
 intro M1 hM0 w0 H w p0
 replace h0:=Rep.mono hM0 _ _ h0
 replace q0:=λj v h=>hM0.cell (q0 j v h)
 obtain⟨Z1,P1,Z2,P2,rfl,B1,B2⟩:=TD0.opn h0
 refine Re 31 Tryz.func28 rfl λa0 f0=>RR (Ye f0 1 λ_ f=>RR (Ye f 1 λ_ f=>an (RR (Y f 3 λ_ f=>Y16 f p0 q0 4 rfl λ_ f=>Ye f 2 λ_ f=>wp_block ?_))))
 obtain⟨Q1,co,F1⟩:=bS hF
 refine wp_mono (Q:=λe a w=>(e=.exit 0∧(∃G1:Int,Q1=G1∧∃V2:Mem,M1.le V2∧Frm 31 [(5,iL G1)] a∧Hp w0 V2 (H) w))) (bT (n:=31) (w0:=w0) (M:=M1) (λ (I1,K1)=>[(0,Pa ad0),(1,iL d1),(5,iL K1.1),(11,iL ((d0.ac.length:Nat):Int)),(12,iL K1.2)]) (λ (I1,K1)=>(H)) (λ (I1,K1) MM=>aE (dX n rec_tree_depth d0 d1) I1 K1=some Q1) (λ (I1,K1)=>I1) (n,((0:Int),(0:Int))) (f.kp) p0 co ?_) ?_
 ·rintro⟨I1,K1⟩ V1 _ W1 J1 gM f N1
  have cu:=gM
  obtain⟨I2,lO,rfl,bx,T1⟩:=aZ cu
  unfold dX at bx
  refine RR (Ye f 1 λ_ f=>an (RcF f bx (λB3 F2=>?_) λB3 F10=>?_))
  ·have U1:=dI.1 B3
   refine St (an (wp_block (RR (Ye f 2 λ_ f=>RR (Ye f 2 λ_ f=>RcF f F2 (λB4 F3=>?_) λB4 F8=>?_)))))
   ·have U2:=dI.1 B4
    refine aA (Y f 4 λ_ f=>Y16 f N1 (fzu J1 q0) 4 rfl λ_ f=>Y f 1 λ_ f=>?_)
    obtain⟨X1,l1,F4⟩:=bS F3
    obtain⟨C1,cZ,jC,-,D1,R1⟩:=Sli.at_ (B1.mono J1) l1
    obtain⟨Z3,P3,Z4,P4,rfl,B5,B6⟩:=TD0.opn D1
    refine Z f (Y30 jC rfl (len:=d0.ac.length) (cap:=P1) (k:=.i64) (i:=K1.2) (e:=26) (sz:=6) (ax l1) (aw l1)) λ_ f=>Y f 1 λ_ f=>?_
    obtain⟨O1,F5⟩:=nS F4
    refine Y f 1 λ_ f=>?_
    have f:=f.st 25 (iW O1)
    obtain⟨X2,l2,F6⟩:=bS F5
    refine Y19 f N1 (hrec_tree_depth _ (C1.add (K1.2.toNat*6)) (lTD0 X1 Z3 P3 Z4 P4) X1 (TD0.shutx (x:=X1) B5 B6) (bu (R1) 0 rfl) (d1-1) X2 l2) λW2 N2 _ f=>Z (v:=iL (max K1.1 X2)) f (X_max (k:=.i64) (a:=K1.1) (b:=X2) rfl kr kr) λ_ f=>Y f 1 λ_ f=>ap rfl (dZ (aK (aA ?_)))
    obtain⟨O2,F7⟩:=nS F6
    refine Y f 1 λ_ f=>?_
    have f:=f.st 28 (iW O2)
    refine Ye f 1 λ_ f=>?_
    cases sI F7
    exact⟨⟨I2,(max K1.1 X2,K1.2+1)⟩,Nat.lt_succ_self _,V1,J1,T1,f.kp,N2⟩
   ·have U3:=aq dI B4
    refine wp_skip (dZ (aK (aA ?_)))
    obtain⟨O3,F9⟩:=nS F8
    refine Y f 1 λ_ f=>?_
    have f:=f.st 28 (iW O3)
    refine Ye f 1 λ_ f=>?_
    cases sI F9
    exact⟨⟨I2,(K1.1,K1.2+1)⟩,Nat.lt_succ_self _,V1,J1,T1,f.kp,N1⟩
  ·have U4:=aq dI B3
   refine wp_exit (eH (eH ?_))
   cases sI F10
   exact⟨rfl,K1.1,(sI T1).symm,V1,J1,f.kp,N1⟩
 ·rintro _ _ W4 ⟨rfl,G1,hq_,V2,J2,f,N3⟩
  subst Q1
  refine kh (aK (RR (Y f 1 λ_ f=>?_)))
  obtain⟨O4,F11⟩:=nS F1
  refine Y f 1 λ_ f=>?_
  have f:=f.st 30 (iW O4)
  refine Ye f 1 λ_ f=>wp_ret (au f rfl (Lk 4 (iL (G1+1))) ?_)
  cases sI F11
  exact⟨_,rfl,V2,J2,N3,rfl⟩
def dj (n:Nat):Nat→TD0→Int→Option Int
 |0=>λ_ _=>none
 |k+1=>gD n (dj n k)
def kR (n:Nat) (d0:TD0) (d1:Int):Option Int:=dj n n d0 d1
theorem nU (n:Nat) (M:Mem) (ad0:Addr) (c0:Lv) (d0:TD0) (h0:Rep M (ar d0) c0) (q0: ∀j v,c0[j]? =some v→M.cell? (ad0.add j)=some v) (d1:Int) (r:Int) (hF:kR n d0 d1=some r):Ok Tryz.prog M 28 [Pa ad0,iL d1] (λ_ v=>v=iL r):=by
 have key: ∀ (k:Nat) (M:Mem) (ad0:Addr) (c0:Lv) (d0:TD0) (h0:Rep M (ar d0) c0) (q0: ∀j v,c0[j]? =some v→M.cell? (ad0.add j)=some v) (d1:Int) (r:Int) (hF:dj n k d0 d1=some r),Ok Tryz.prog M 28 [Pa ad0,iL d1] (λ_ v=>v=iL r):=by
  intro k
  induction k with
  |zero=>intro M ad0 c0 d0 h0 q0 d1 r hF;simp[dj] at hF
  |succ k ih=>intro M ad0 c0 d0 h0 q0 d1 r hF;exact mw n (dj n k) ih M ad0 c0 d0 h0 q0 d1 r hF
 exact key n M ad0 c0 d0 h0 q0 d1 r hF
end Go.Proofs.YtkopljikappieaaGreatDoor
end
section
namespace Go.Proofs
open Go.Shelf
def Tryz.lays103_ren:Go.Shelf.Ren:=⟨λ |103=>115|210=>138|206=>139|n=>n,λ |9=>9|4=>4|24=>137|3=>3|n=>n,λ |n=>n⟩
theorem Tryz.lays103:Go.Proofs.Lays.n103 Tryz.prog Tryz.lays103_ren:={
 mixed:=by kernel_rfl
 f103:=Tryz.func115.trans (congrArg some kr)
 f206:=Tryz.func139.trans (congrArg some kr)
 f210:=Tryz.func138.trans (congrArg some kr)
 t3:=Tryz.underlying3
 a3:=Tryz.isAgg3
 z3:=Tryz.sizeOf3
 v3:=Tryz.zeroValue3
 t4:=Tryz.underlying4
 a4:=Tryz.isAgg4
 z4:=Tryz.sizeOf4
 v4:=Tryz.zeroValue4
 t9:=Tryz.underlying9
 a9:=Tryz.isAgg9
 z9:=Tryz.sizeOf9
 v9:=Tryz.zeroValue9
 t24:=Tryz.underlying137
 a24:=Tryz.isAgg137
 z24:=Tryz.sizeOf137
 v24:=Tryz.zeroValue137}
open Go.RowKit in
theorem Tryz.strings_CutPrefix (s p:ByteArray) (w:World):
 Calls Tryz.prog 115 #[.string s,.string p] w λe w'=>e=.returned (.tuple #[.string ⟨(Lib.trimPrefix s.data.toList p.data.toList).toArray⟩,.bool (Lib.hasPrefix s.data.toList p.data.toList)])∧w'=w:=Any.strings_CutPrefix Tryz.lays103 s p w
def Tryz.lays145_ren:Go.Shelf.Ren:=⟨λ |145=>141|220=>155|219=>163|217=>165|225=>166|224=>167|267=>168|266=>169|314=>170|n=>n,λ |9=>9|4=>4|59=>174|3=>3|5=>5|46=>163|146=>202|51=>186|n=>n,λ |1=>2|n=>n⟩
theorem Tryz.lays145:Go.Proofs.Lays.n145 Tryz.prog Tryz.lays145_ren:={
 mixed:=by kernel_rfl
 f145:=Tryz.func141.trans (congrArg some kr)
 f217:=Tryz.func165.trans (congrArg some kr)
 f219:=Tryz.func163.trans (congrArg some kr)
 f220:=Tryz.func155.trans (congrArg some kr)
 f224:=Tryz.func167.trans (congrArg some kr)
 f225:=Tryz.func166.trans (congrArg some kr)
 f266:=Tryz.func169.trans (congrArg some kr)
 f267:=Tryz.func168.trans (congrArg some kr)
 f314:=Tryz.func170.trans (congrArg some kr)
 t3:=Tryz.underlying3
 a3:=Tryz.isAgg3
 z3:=Tryz.sizeOf3
 v3:=Tryz.zeroValue3
 t4:=Tryz.underlying4
 a4:=Tryz.isAgg4
 z4:=Tryz.sizeOf4
 v4:=Tryz.zeroValue4
 t5:=Tryz.underlying5
 a5:=Tryz.isAgg5
 z5:=Tryz.sizeOf5
 v5:=Tryz.zeroValue5
 t9:=Tryz.underlying9
 a9:=Tryz.isAgg9
 z9:=Tryz.sizeOf9
 v9:=Tryz.zeroValue9
 t46:=Tryz.underlying163
 a46:=Tryz.isAgg163
 z46:=Tryz.sizeOf163
 v46:=Tryz.zeroValue163
 t51:=Tryz.underlying186
 a51:=Tryz.isAgg186
 z51:=Tryz.sizeOf186
 v51:=Tryz.zeroValue186
 t59:=Tryz.underlying174
 a59:=Tryz.isAgg174
 z59:=Tryz.sizeOf174
 v59:=Tryz.zeroValue174
 t146:=Tryz.underlying202
 a146:=Tryz.isAgg202
 z146:=Tryz.sizeOf202
 v146:=Tryz.zeroValue202
 g1:=by kernel_rfl}
open Go.RowKit Go.Lib in
theorem Tryz.strings_Cut (s sep:ByteArray) (m:Int) (w:World) (hs:s.size<4294967281) (hm:w.cell? ⟨2,0,none⟩=some (.int .i64 m)):
 Calls Tryz.prog 141 #[.string s,.string sep] w λe w'=>e=.returned (.tuple #[.string ⟨(Lib.cut s.data.toList sep.data.toList).1.toArray⟩,.string ⟨(Lib.cut s.data.toList sep.data.toList).2.1.toArray⟩,.bool (Lib.cut s.data.toList sep.data.toList).2.2])∧∃n,w'=w.drewN n:=Any.strings_Cut Tryz.lays145 s sep m w hs hm
def Tryz.lays190_ren:Go.Shelf.Ren:=⟨λ |190=>96|125=>133|258=>132|128=>152|129=>153|302=>143|303=>144|304=>145|305=>146|306=>147|307=>148|308=>149|309=>150|310=>151|333=>157|329=>158|330=>159|334=>160|335=>161|336=>162|344=>164|n=>n,λ |31=>24|9=>9|3=>3|46=>163|0=>0|51=>186|53=>188|4=>4|183=>179|182=>178|131=>183|5=>5|218=>191|222=>195|228=>198|229=>154|n=>n,λ |n=>n⟩
theorem Tryz.lays190:Go.Proofs.Lays.n190 Tryz.prog Tryz.lays190_ren:={
 mixed:=by kernel_rfl
 f125:=Tryz.func133.trans (congrArg some kr)
 f128:=Tryz.func152.trans (congrArg some kr)
 f129:=Tryz.func153.trans (congrArg some kr)
 f190:=Tryz.func96.trans (congrArg some kr)
 f258:=Tryz.func132.trans (congrArg some kr)
 f302:=Tryz.func143.trans (congrArg some kr)
 f303:=Tryz.func144.trans (congrArg some kr)
 f304:=Tryz.func145.trans (congrArg some kr)
 f305:=Tryz.func146.trans (congrArg some kr)
 f306:=Tryz.func147.trans (congrArg some kr)
 f307:=Tryz.func148.trans (congrArg some kr)
 f308:=Tryz.func149.trans (congrArg some kr)
 f309:=Tryz.func150.trans (congrArg some kr)
 f310:=Tryz.func151.trans (congrArg some kr)
 f329:=Tryz.func158.trans (congrArg some kr)
 f330:=Tryz.func159.trans (congrArg some kr)
 f333:=Tryz.func157.trans (congrArg some kr)
 f334:=Tryz.func160.trans (congrArg some kr)
 f335:=Tryz.func161.trans (congrArg some kr)
 f336:=Tryz.func162.trans (congrArg some kr)
 f344:=Tryz.func164.trans (congrArg some kr)
 t0:=Tryz.underlying0
 a0:=Tryz.isAgg0
 z0:=Tryz.sizeOf0
 v0:=Tryz.zeroValue0
 t3:=Tryz.underlying3
 a3:=Tryz.isAgg3
 z3:=Tryz.sizeOf3
 v3:=Tryz.zeroValue3
 t4:=Tryz.underlying4
 a4:=Tryz.isAgg4
 z4:=Tryz.sizeOf4
 v4:=Tryz.zeroValue4
 t5:=Tryz.underlying5
 a5:=Tryz.isAgg5
 z5:=Tryz.sizeOf5
 v5:=Tryz.zeroValue5
 t9:=Tryz.underlying9
 a9:=Tryz.isAgg9
 z9:=Tryz.sizeOf9
 v9:=Tryz.zeroValue9
 t31:=Tryz.underlying24
 a31:=Tryz.isAgg24
 z31:=Tryz.sizeOf24
 v31:=Tryz.zeroValue24
 t46:=Tryz.underlying163
 a46:=Tryz.isAgg163
 z46:=Tryz.sizeOf163
 v46:=Tryz.zeroValue163
 t51:=Tryz.underlying186
 a51:=Tryz.isAgg186
 z51:=Tryz.sizeOf186
 v51:=Tryz.zeroValue186
 t53:=Tryz.underlying188
 a53:=Tryz.isAgg188
 z53:=Tryz.sizeOf188
 v53:=Tryz.zeroValue188
 t131:=Tryz.underlying183
 a131:=Tryz.isAgg183
 z131:=Tryz.sizeOf183
 v131:=Tryz.zeroValue183
 t182:=Tryz.underlying178
 a182:=Tryz.isAgg178
 z182:=Tryz.sizeOf178
 v182:=Tryz.zeroValue178
 t183:=Tryz.underlying179
 a183:=Tryz.isAgg179
 z183:=Tryz.sizeOf179
 v183:=Tryz.zeroValue179
 t218:=Tryz.underlying191
 a218:=Tryz.isAgg191
 z218:=Tryz.sizeOf191
 v218:=Tryz.zeroValue191
 t222:=Tryz.underlying195
 a222:=Tryz.isAgg195
 z222:=Tryz.sizeOf195
 v222:=Tryz.zeroValue195
 t228:=Tryz.underlying198
 a228:=Tryz.isAgg198
 z228:=Tryz.sizeOf198
 v228:=Tryz.zeroValue198
 t229:=Tryz.underlying154
 a229:=Tryz.isAgg154
 z229:=Tryz.sizeOf154
 v229:=Tryz.zeroValue154}
open Go.Sort Go.RowKit in
theorem Tryz.slices_Sort_string (blk off cap:Nat) (ss:List Bs) (w:World) (hH:Holds encStr w blk off ss.toArray) (hblk:blk<w.heap.size) (hsz:ss.length<4611686018427387904):
 Calls Tryz.prog 96 #[.slice (some ⟨blk,off,none⟩) ss.length cap] w λe w'=>
  e=.returned (.tuple #[])∧∃n os,w'=grow (putRow encStr (Sort.ahead w n) blk off (ss.mergeSort λx y=>decide (x≤y)).toArray) os:=Any.slices_Sort_string Tryz.lays190 blk off cap ss w hH hblk hsz
def Tryz.lays99_ren:Go.Shelf.Ren:=⟨λ |99=>120|206=>139|n=>n,λ |9=>9|4=>4|3=>3|n=>n,λ |n=>n⟩
theorem Tryz.lays99:Go.Proofs.Lays.n99 Tryz.prog Tryz.lays99_ren:={
 mixed:=by kernel_rfl
 f99:=Tryz.func120.trans (congrArg some kr)
 f206:=Tryz.func139.trans (congrArg some kr)
 t3:=Tryz.underlying3
 a3:=Tryz.isAgg3
 z3:=Tryz.sizeOf3
 v3:=Tryz.zeroValue3
 t4:=Tryz.underlying4
 a4:=Tryz.isAgg4
 z4:=Tryz.sizeOf4
 v4:=Tryz.zeroValue4
 t9:=Tryz.underlying9
 a9:=Tryz.isAgg9
 z9:=Tryz.sizeOf9
 v9:=Tryz.zeroValue9}
open Go.RowKit Go.Lib in
theorem Tryz.strings_HasPrefix (s p:ByteArray) (w:World):
 Calls Tryz.prog 120 #[.string s,.string p] w λe w'=>e=.returned (.bool (Lib.hasPrefix s.data.toList p.data.toList))∧w'=w:=Any.strings_HasPrefix Tryz.lays99 s p w
open Go.RowKit Go.Sort in
theorem Tryz.slices_Sort_string_none (p:Oa) (cap:Nat) (w:World):
 Calls Tryz.prog 96 #[.slice p 0 cap] w λe w'=>e=.returned (.tuple #[])∧w'=w:=Any.slices_Sort_string_none Tryz.lays190 p cap w
end Go.Proofs
end
section
namespace Go.Proofs
open Go Go.Shelf
def Tryz.lays196_ren:Go.Shelf.Ren:=⟨λ |196=>112|259=>135|n=>n,λ |46=>163|53=>188|119=>168|138=>170|139=>171|n=>n,λ |3=>0|4=>1|n=>n⟩
theorem Tryz.lays196:Go.Proofs.Lays.n196 Tryz.prog Tryz.lays196_ren:={
 mixed:=by kernel_rfl
 f196:=Tryz.func112.trans (congrArg some kr)
 f259:=Tryz.func135.trans (congrArg some kr)
 t0:=Tryz.underlying0
 a0:=Tryz.isAgg0
 z0:=Tryz.sizeOf0
 v0:=Tryz.zeroValue0
 t3:=Tryz.underlying3
 a3:=Tryz.isAgg3
 z3:=Tryz.sizeOf3
 v3:=Tryz.zeroValue3
 t4:=Tryz.underlying4
 a4:=Tryz.isAgg4
 z4:=Tryz.sizeOf4
 v4:=Tryz.zeroValue4
 t5:=Tryz.underlying5
 a5:=Tryz.isAgg5
 z5:=Tryz.sizeOf5
 v5:=Tryz.zeroValue5
 t9:=Tryz.underlying9
 a9:=Tryz.isAgg9
 z9:=Tryz.sizeOf9
 v9:=Tryz.zeroValue9
 t12:=Tryz.underlying12
 a12:=Tryz.isAgg12
 z12:=Tryz.sizeOf12
 v12:=Tryz.zeroValue12
 t46:=Tryz.underlying163
 a46:=Tryz.isAgg163
 z46:=Tryz.sizeOf163
 v46:=Tryz.zeroValue163
 t53:=Tryz.underlying188
 a53:=Tryz.isAgg188
 z53:=Tryz.sizeOf188
 v53:=Tryz.zeroValue188
 t119:=Tryz.underlying168
 a119:=Tryz.isAgg168
 z119:=Tryz.sizeOf168
 t138:=Tryz.underlying170
 a138:=Tryz.isAgg170
 z138:=Tryz.sizeOf170
 v138:=Tryz.zeroValue170
 t139:=Tryz.underlying171
 a139:=Tryz.isAgg171
 z139:=Tryz.sizeOf171
 v139:=Tryz.zeroValue171
 g3:=by kernel_rfl
 g4:=by kernel_rfl}
end Go.Proofs
end
section
namespace Go.Proofs.YtkopljikappieaaGreatDoor
open Go Go.Vc Go.RowKit
def GL (M:Mem):Prop:=Tabs 0 1 M∧IntVar 2 M
theorem GL.mono {M M':Mem} (hM:M.le M') (h:GL M):GL M':=⟨h.1.mono hM,h.2.mono hM⟩
def eI (_:Nat) (d0:Bs):Option Bool:=aS ((d0.length:Int)≤9223372036854775807) (some (Lib.validD d0))
theorem lG (n:Nat) (M:Mem) (hG:GL M) (d0:Bs) (r:Bool) (hF:eI n d0=some r):Ok Tryz.prog M 112 [S d0] (λ_ v=>v=bO r):=by
 unfold eI at hF
 obtain⟨g,hF⟩:=kn hF
 obtain rfl:=Option.some.inj hF
 refine Ok.ofBelow λM2 w0 H w hM hp=>?_
 exact Any.utf8_ValidString Tryz.lays196 (mkS d0) w (by have: (mkS d0).size=d0.length:=rfl;omega) ((hG.1.mono hM).at hp)
def jQ (_:Nat) (d0 d1:Bs):Option Bool:=some (Lib.hasPrefix d0 d1)
theorem mX (n:Nat) (M:Mem) (hG:GL M) (d0 d1:Bs) (r:Bool) (hF:jQ n d0 d1=some r):Ok Tryz.prog M 120 [S d0,S d1] (λ_ v=>v=bO r):=by
 have _:=hG
 obtain rfl:=Option.some.inj hF
 exact Ok.ofPure λw=>Tryz.strings_HasPrefix (mkS d0) (mkS d1) w
def jP (_:Nat) (d0 d1:Bs):Option (Bs×Bool):=some (Lib.trimPrefix d0 d1,Lib.hasPrefix d0 d1)
theorem mW (n:Nat) (M:Mem) (hG:GL M) (d0 d1:Bs) (r:Bs×Bool) (hF:jP n d0 d1=some r):Ok Tryz.prog M 115 [S d0,S d1] (λ_ v=>v=.tuple #[S r.1,bO r.2]):=by
 have _:=hG
 obtain rfl:=Option.some.inj hF
 exact Ok.ofPure λw=>Tryz.strings_CutPrefix (mkS d0) (mkS d1) w
def h_Cut (_:Nat) (d0 d1:Bs):Option (Bs×Bs×Bool):=aS (d0.length<4294967281) (some (Lib.cut d0 d1))
theorem h_Cut_ok (n:Nat) (M:Mem) (hG:GL M) (d0 d1:Bs) (r:Bs×Bs×Bool) (hF:h_Cut n d0 d1=some r):Ok Tryz.prog M 141 [S d0,S d1] (λ_ v=>v=.tuple #[S r.1,S r.2.1,bO r.2.2]):=by
 unfold h_Cut at hF
 obtain⟨g,hF⟩:=kn hF
 obtain rfl:=Option.some.inj hF
 obtain⟨m,hm⟩:=hG.2
 exact Ok.ofDrew λM2 w0 H w hM hp=>Tryz.strings_Cut (mkS d0) (mkS d1) m w g (hp.cell (hM.cell hm))
set_option maxRecDepth 100000 in
theorem walk_iter (v:TD0) (hlen: (bY v).length≤9223372036854775806) (M:Mem) (bv:Nat) (cs:Lv) (hrep:Rep M (ar v) cs) (hbv: ∀j u,cs[j]? =some u→M.cell? ((⟨bv,0,none⟩:Addr).add j)=some u):
 IterOk Tryz.prog 67 [pP bv] valsV (bY v) M:=by
 refine⟨Go.Proofs.enters_of Tryz.func67 kr rfl,λσ β Y s0 r hr l J Jx hJ hJx hY w0 M1 E H w hM0 hj p0=>?_⟩
 refine Re 7 Tryz.func67 rfl (λa0 f0=>?_)
 replace f0:Frm 7 [(0,.func (.yield l) #[] #[]),(1,pP bv)] a0:=f0
 refine an ?_
 refine aA ?_
 refine W_box (cs:=#[.func (.yield l) #[] #[]]) (T:=27) f0 p0 1 [1,2] (λb=>[(1,pP bv),(2,pP b)]) (λ_=>by kernel_rfl) (λby_ M2 w hM1 hc p1 a_1 f_1=>?_)
 replace f_1:Frm 7 [(1,pP bv),(2,pP by_)] a_1:=f_1
 refine ap rfl ?_
 refine aK ?_
 refine an ?_
 refine aA ?_
 refine W_alloc f_1 p1 1 [1,2,3] (.cells #[.nilFunc] 113 (0,0)) (λb=>[(1,pP bv),(2,pP by_),(3,pP b)]) (λ_=>by kernel_rfl) (λbs w p2 a_2 f_2=>?_)
 replace f_2:Frm 7 [(1,pP bv),(2,pP by_),(3,pP bs)] a_2:=f_2
 refine ap rfl ?_
 refine aK ?_
 refine an ?_
 refine aA ?_
 refine ei (L':=[(1,pP bv),(3,pP bs),(4,.func (.func 68) #[] #[pP by_,pP bs])]) (w':=w) f_2 1 [1,3,4] kr (λa_3 f_3=>?_)
 refine W_store1 f_3 p2 0 kr kr rfl rfl (b:=bs) (j:=0) (v:=.func (.func 68) #[] #[pP by_,pP bs]) kr kr rfl kr (by exact rfl) (by simp) (by simp)
  (.obj bs (.cells #[.func (.func 68) #[] #[pP by_,pP bs]] 113 (0,0))::(E++H)) (by exact rfl) (λw p3 a_4 f_4=>?_)
 refine ap rfl ?_
 refine aK ?_
 obtain⟨hM2,p4⟩:=p3.freeze
 have hself: (M2.add bs (.cells #[.func (.func 68) #[] #[pP by_,pP bs]] 113 (0,0))).cell? ⟨bs,0,none⟩=some (.func (.func 68) #[] #[pP by_,pP bs]):=by rw[il];rfl
 generalize (M2.add bs (.cells #[.func (.func 68) #[] #[pP by_,pP bs]] 113 (0,0)))=M3 at hM2 p4 hself
 have hM3:=hM1.trans hM2
 refine aA ?_
 refine kw (v:=.func (.func 68) #[] #[pP by_,pP bs]) f_4 kr kr rfl rfl (iG (v:=.func (.func 68) #[] #[pP by_,pP bs]) rfl (ad:=⟨bs,0,none⟩) kr kr (p4.cell hself)) (λa_5 f_5=>?_)
 have hcall:=walkIns by_ bs l Y J Jx hJ hY (SizeOf.sizeOf v+1) v (Nat.lt_succ_self _) hlen s0 r hr M3 ⟨bv,0,none⟩ cs (Rep.mono (hM0.trans hM3) _ _ hrep) (λj u h=>(hM0.trans hM3).cell (hbv j u h)) (hM2.cell (hc 0 _ rfl)) hself w0 M3 E H w (Mem.le_refl _) (hJ _ _ _ _ hM3 hj) p4
 refine W_call (R:=λ_ w'=>∃M' E',M3.le M'∧Hp w0 M' (E'++H) w'∧match r with
  |.nx s'=>J s' M' E'
  |.br b=>Jx b M' E') f_5 kr kr rfl rfl kr (hcall.mono λe w' ⟨M',E',g1,g2,g3⟩=>?_) ?_
 ·cases r with
  |nx s'=>exact⟨_,g3.1,M',E',g1,g2,g3.2⟩
  |br b=>exact⟨_,g3.1,M',E',g1,g2,g3.2⟩
 rintro v_1 w_4 ⟨M4,E4,hM4,p_4,g4⟩ a_6 f_6
 refine ap rfl ?_
 refine dn f_6 rfl ?_
 cases r with
 |nx s'=>exact⟨_,rfl,M4,E4,hM3.trans hM4,p_4,g4⟩
 |br b=>exact⟨_,rfl,M4,E4,hM3.trans hM4,p_4,g4⟩
def WalkRes (v:TD0) (M:Mem) (u:Value):Prop:=∃f caps,u=.func (.func f) #[] caps.toArray∧IterOk Tryz.prog f caps valsV (bY v) M
set_option maxRecDepth 100000 in
theorem walk_ok (v:TD0) (hlen: (bY v).length≤9223372036854775806) (M:Mem) (cs:Lv) (h0:Rep M (ar v) cs):Ok Tryz.prog M 29 [.agg cs.toArray] (λM' u=>WalkRes v M' u):=by
 intro M1 hM0 w0 H w p0
 replace h0:=Rep.mono hM0 _ _ h0
 obtain⟨A_1,kB,A_2,cap_2,rfl,h_1,h_2⟩:=TD0.opn h0
 refine Re 4 Tryz.func29 rfl (λa0 f0=>?_)
 replace f0:Frm 4 [(0,.agg (aTD0 v A_1 kB A_2 cap_2))] a0:=f0
 refine an ?_
 refine aA ?_
 refine W_box (cs:=(aTD0 v A_1 kB A_2 cap_2)) (T:=26) f0 p0 1 [1] (λb=>[(1,pP b)]) (λ_=>by kernel_rfl) (λbv M2 w hM1 hc p1 a_1 f_1=>?_)
 replace f_1:Frm 4 [(1,pP bv)] a_1:=f_1
 have hc2:=bj hc
 refine ei (L':=[(1,pP bv)]) (w':=w) f_1 1 [1] kr (λa_2 f_2=>?_)
 refine ap rfl ?_
 refine aK ?_
 refine an ?_
 refine aA ?_
 refine ei (L':=[(2,.func (.func 67) #[] #[pP bv])]) (w':=w) f_2 2 [2] kr (λa_3 f_3=>?_)
 refine ap rfl ?_
 refine aK ?_
 refine wp_ret ?_
 refine au f_3 rfl (Lk 2 (.func (.func 67) #[] #[pP bv])) ?_
 refine⟨_,rfl,M2,hM1,p1,67,[pP bv],rfl,?_⟩
 exact walk_iter v hlen M2 bv _ (Rep.mono hM1 _ _ h0) hc2
def cR (n:Nat) (d0:Bs):Option Bool:=
 (eI n d0).bind λX1=>
 some ((X1))
theorem gq (n:Nat) (M:Mem) (hG:GL M) (d0:Bs) (r:Bool) (hF:cR n d0=some r):Ok Tryz.prog M 69 [S d0] (λ_ v=>v=bO r):=by
 unfold cR at hF
 intro M1 hM0 w0 H w p0
 replace hG:=GL.mono hM0 hG
 refine Re 5 Tryz.func69 rfl λa0 f0=>RR (Ye f0 1 λ_ f=>RR (Y f 1 λ_ f=>?_))
 obtain⟨X1,l1,F1⟩:=bS hF
 refine Y19 f p0 (lG n _ hG d0 X1 l1) λW1 N1 _ f=>Ye f 1 λ_ f=>wp_ret (au f rfl (Lk 2 (bO X1)) ?_)
 cases sI F1
 exact⟨_,rfl,M1,(mR _),N1,rfl⟩
def ii (n:Nat) (d0:Bs):Option Bool:=
 (cR n d0).bind λX1=>
 some ((!X1))
theorem mv (n:Nat) (M:Mem) (hG:GL M) (d0:Bs) (r:Bool) (hF:ii n d0=some r):Ok Tryz.prog M 71 [S d0] (λ_ v=>v=bO r):=by
 unfold ii at hF
 intro M1 hM0 w0 H w p0
 replace hG:=GL.mono hM0 hG
 refine Re 6 Tryz.func71 rfl λa0 f0=>RR (Ye f0 1 λ_ f=>RR (Y f 1 λ_ f=>?_))
 obtain⟨X1,l1,F1⟩:=bS hF
 refine Y19 f p0 (gq n _ hG d0 X1 l1) λW1 N1 _ f=>Ye f 2 λ_ f=>wp_ret (au f rfl (Lk 2 (.bool !X1)) ?_)
 cases sI F1
 exact⟨_,rfl,M1,(mR _),N1,rfl⟩
def aU (n:Nat) (d0:List Bs) (K1:Int):Option (Lp Int (Sum Int Unit)):=
    bif(decide (K1<((d0.length:Nat):Int))) then
     ((aQ d0 K1).bind λX1=>
     (ii n X1).bind λX2=>
     bif X2 then
      (some (.br (.inl K1)))
     else
      aS (inR .i64 (K1+1))<|
      some (.nx (K1+1)))
    else
     some (.br (.inr ()))
def bQ (n:Nat) (d0:List Bs):Option Int:=
 (aE (aU n d0) n (0:Int)).bind λQ1=>
 (match Q1 with
 |.inl G1=>some (G1)
 |.inr G2=>some ((-1:Int)))
theorem gr (n:Nat) (M:Mem) (hG:GL M) (A0:Oa) (cap0:Nat) (d0:List Bs) (h0:Sli M 1 Dat.str A0 cap0 d0) (r:Int) (hF:bQ n d0=some r):Ok Tryz.prog M 113 [sL A0 d0 cap0,.func (.func 71) #[] #[]] (λ_ v=>v=iL r):=by
 unfold bQ at hF
 intro M1 hM0 w0 H w p0
 replace hG:=GL.mono hM0 hG
 replace h0:=h0.mono hM0
 refine Re 19 Tryz.func113 rfl λa0 f0=>RR (Ye f0 1 λ_ f=>an (RR (Ye f 3 λ_ f=>wp_block ?_)))
 obtain⟨Q1,co,F1⟩:=bS hF
 refine wp_mono (Q:=λe a w=>(e=.ret∧(∃G1:Int,Q1=.inl G1∧∃V2:Mem,M1.le V2∧Frm 19 [(4,iL G1)] a∧Hp w0 V2 (H) w))∨(e=.exit 0∧(∃G2:Unit,Q1=.inr G2∧∃V3:Mem,M1.le V3∧Frm 19 [] a∧Hp w0 V3 (H) w))) (bT (n:=19) (w0:=w0) (M:=M1) (λ (I1,K1)=>[(0,sL A0 d0 cap0),(1,.func (.func 71) #[] #[]),(7,iL ((d0.length:Nat):Int)),(8,iL K1)]) (λ (I1,K1)=>(H)) (λ (I1,K1) MM=>aE (aU n d0) I1 K1=some Q1) (λ (I1,K1)=>I1) (n,(0:Int)) (f.kp) p0 co ?_) ?_
 ·rintro⟨I1,K1⟩ V1 _ W1 J1 gM f N1
  have cu:=gM
  obtain⟨I2,lO,rfl,bx,T1⟩:=aZ cu
  unfold aU at bx
  refine RR (Ye f 1 λ_ f=>an (RcF f bx (λB1 F2=>?_) λB1 F8=>?_))
  ·have U1:=dI.1 B1
   refine St (an (wp_block (RR (Ye f 2 λ_ f=>RR (Y f 3 λ_ f=>?_)))))
   obtain⟨X1,l1,F3⟩:=bS F2
   obtain⟨C1,cZ,jC,-,D1,R1⟩:=Sli.at_ (h0.mono J1) l1
   obtain rfl:cZ=[S X1]:=D1
   refine Z f (Y30 jC rfl (len:=d0.length) (cap:=cap0) (k:=.i64) (i:=K1) (e:=9) (sz:=1) (ax l1) (aw l1)) λ_ f=>Y16 f N1 R1 0 rfl λ_ f=>?_
   obtain⟨X2,l2,F4⟩:=bS F3
   refine Y19 f N1 (mv n _ (GL.mono J1 hG) X1 X2 l2) λW2 N2 _ f=>eT (RcF f F4 (λB2 F5=>?_) λB2 F6=>?_)
   ·refine RR (Ye f 2 λ_ f=>wp_ret (ed (bC (bC ?_))))
    cases sI F5
    exact .inl ⟨rfl,K1,(sI T1).symm,V1,J1,f.kp,N2⟩
   ·refine wp_skip (dZ (aK (aA ?_)))
    obtain⟨O1,F7⟩:=nS F6
    refine Y f 1 λ_ f=>?_
    have f:=f.st 18 (iW O1)
    refine Ye f 1 λ_ f=>?_
    cases sI F7
    exact⟨⟨I2,K1+1⟩,Nat.lt_succ_self _,V1,J1,T1,f.kp,N2⟩
  ·have U4:=aq dI B1
   refine wp_exit (eH (eH ?_))
   cases sI F8
   exact .inr ⟨rfl,(),(sI T1).symm,V1,J1,f.kp,N1⟩
 ·rintro _ _ W5 (⟨rfl,G1,rfl,V2,J2,f,N3⟩|⟨rfl,G2,rfl,V3,J3,f,N4⟩)
  ·refine ed (bC (au f rfl (Lk 4 (iL G1)) ?_))
   cases sI F1
   exact⟨_,rfl,V2,J2,N3,rfl⟩
  ·refine kh (aK (RR (Ye f 1 λ_ f=>wp_ret (au f rfl (Lk 4 (iL (-1))) ?_))))
   cases sI F1
   exact⟨_,rfl,V3,J3,N4,rfl⟩
def bc (n:Nat) (d0:List Bs):Option Bool:=
 (bQ n d0).bind λX1=>
 some ((decide ((0:Int)≤X1)))
theorem eO (n:Nat) (M:Mem) (hG:GL M) (A0:Oa) (cap0:Nat) (d0:List Bs) (h0:Sli M 1 Dat.str A0 cap0 d0) (r:Bool) (hF:bc n d0=some r):Ok Tryz.prog M 70 [sL A0 d0 cap0,.func (.func 71) #[] #[]] (λ_ v=>v=bO r):=by
 unfold bc at hF
 intro M1 hM0 w0 H w p0
 replace hG:=GL.mono hM0 hG
 replace h0:=h0.mono hM0
 refine Re 9 Tryz.func70 rfl λa0 f0=>RR (Ye f0 1 λ_ f=>RR (Y f 2 λ_ f=>?_))
 obtain⟨X1,l1,F1⟩:=bS hF
 refine Y19 f p0 (gr n _ hG A0 cap0 d0 h0 X1 l1) λW1 N1 _ f=>Ye f 2 λ_ f=>wp_ret (au f rfl (Lk 4 (bO (decide ((0:Int)≤X1)))) ?_)
 cases sI F1
 exact⟨_,rfl,M1,(mR _),N1,rfl⟩
def cV (n:Nat) (d0:TD0) (K1:Int× (List (Bs×Bool))):Option (Lp (Int× (List (Bs×Bool))) (Sum (List (Bs×Bool)) (List (Bs×Bool)))):=
    bif(decide (K1.1<((d0.ae.length:Nat):Int))) then
     ((aQ d0.ae K1.1).bind λX3=>
     bif((dz K1.2 X3).getD false) then
      (some (.br (.inl K1.2)))
     else
      aS (inR .i64 (K1.1+1))<|
      some (.nx (K1.1+1,ez K1.2 X3 (true))))
    else
     some (.br (.inr K1.2))
def iD (n:Nat) (d0:TD0):Option Int:=
 ((bif(decide (d0.ab=0)) then
  (some (.nx ((d0.ah),d0.af,d0.aa,d0.ac,d0.ae)))
   else
    bif(decide (d0.ab=1)) then
     (some (.nx ((false),d0.af,d0.aa,d0.ac,d0.ae)))
    else
     bif(decide (d0.ab=2)) then
      (some (.nx ((d0.ah),(0:Int),d0.aa,d0.ac,d0.ae)))
     else
      bif(decide (d0.ab=3)) then
       (some (.nx ((d0.ah),d0.af,([]:Bs),d0.ac,d0.ae)))
      else
       bif(decide (d0.ab=4)) then
        (some (.nx ((d0.ah),d0.af,d0.aa,([]:List TD0),d0.ae)))
       else
        bif(decide (d0.ab=5)) then
         (bif(!(decide (((d0.ae.length:Nat):Int)=((d0.ac.length:Nat):Int)))) then
          (((some ((2:Int)):Option Int)).map Lp.br)
         else
          some (.nx ((d0.ah),d0.af,d0.aa,([]:List TD0),([]:List Bs))))
        else
         ((some ((2:Int)):Option Int)).map Lp.br:Option (Lp (Bool×Int×Bs×List TD0×List Bs) Int))).bind λj=>joinF j λG1=>
 ((((bif G1.1 then
  (some ((true)))
     else
      bif(!(decide (G1.2.1=0))) then
       (some ((true)))
      else
       bif(!(decide (G1.2.2.1=[]))) then
        (some ((true)))
       else
        aS (inR .i64 (((G1.2.2.2.1.length:Nat):Int)+ ((G1.2.2.2.2.length:Nat):Int)))<|
        some ((decide ((0:Int)<(((G1.2.2.2.1.length:Nat):Int)+ ((G1.2.2.2.2.length:Nat):Int))))):Option Bool)).bind λG2=>
   bif G2 then
    (((some ((2:Int)):Option Int)).map Lp.br)
   else
    ((bif(decide (d0.af<(-9007199254740992))) then
     (some ((true)))
      else
       some ((decide ((9007199254740992:Int)<d0.af))):Option Bool)).bind λG3=>
    bif G3 then
     (((some ((20:Int)):Option Int)).map Lp.br)
    else
     (cR n d0.aa).bind λX1=>
     bif !X1 then
      (((some ((10:Int)):Option Int)).map Lp.br)
     else
      (bc n d0.ae).bind λX2=>
      bif X2 then
       (((some ((10:Int)):Option Int)).map Lp.br)
      else
       some (.nx ()):Option (Lp Unit Int))).bind λj=>joinF j λG4=>
 (aE (cV n d0) n ((0:Int),([]:List (Bs×Bool)))).bind λQ2=>
 (match Q2 with
 |.inl G5=>some ((41:Int))
 |.inr G6=>some ((0:Int)))
set_option maxRecDepth 20000 in
theorem nR (n:Nat) (M:Mem) (hG:GL M) (ad0:Addr) (c0:Lv) (d0:TD0) (h0:Rep M (ar d0) c0) (q0: ∀j v,c0[j]? =some v→M.cell? (ad0.add j)=some v) (r:Int) (hF:iD n d0=some r):Ok Tryz.prog M 30 [Pa ad0] (λ_ v=>v=iL r):=by
 unfold iD at hF
 intro M1 hM0 w0 H w p0
 replace hG:=GL.mono hM0 hG
 replace h0:=Rep.mono hM0 _ _ h0
 replace q0:=λj v h=>hM0.cell (q0 j v h)
 obtain⟨Z1,P1,Z2,P2,rfl,B1,B2⟩:=TD0.opn h0
 refine Re 109 Tryz.func30 rfl λa0 f0=>RR (Ye f0 1 λ_ f=>RR (Y f 2 λ_ f=>Z f (Y32 (cs:=(lTD0 d0 Z1 P1 Z2 P2)) rfl (ad:=ad0) (λj v h=>p0.cell (q0 j v h))) λ_ f=>Y13 f p0 (.cells #[iB 0,bO false,iL 0,S [],Sn,Sn] 26 (0,0)) λQ1 W1 N1 _ f=>Ys (lTD0 d0 Z1 P1 Z2 P2) (aTD0 d0 Z1 P1 Z2 P2) f N1 rfl rfl λW2 N2 _ f=>eT (an (RR (Y f 3 λ_ f=>Y16 f N2 q0 0 rfl λ_ f=>eT ?_)))))
 obtain⟨gN,ec,F1⟩:=bS hF
 refine bD (λa_33 W10=>∃G1:Bool×Int×Bs×List TD0×List Bs,gN=.nx G1∧∃V1:Mem,M1.le V1∧∃ (Z3:Oa),∃ (P3:Nat),∃ (Z4:Oa),∃ (P4:Nat),Sli V1 6 ar Z3 P3 G1.t3.1∧Sli V1 1 Dat.str Z4 P4 G1.t4∧Frm 109 [(0,Pa ad0),(3,pP Q1)] a_33∧Hp w0 V1 ((oC Q1 #[iB d0.ab,bO G1.1,iL G1.2.1,S G1.2.2.1,sL Z3 G1.t3.1 P3,sL Z4 G1.t4 P4] 26)::H) W10) ?_ ?_
 ·refine wp_block (RR (Ye f 2 λ_ f=>RcF f ec (λB3 F2=>?_) λB3 F3=>?_))
  ·have U1:=dI.1 B3
   refine wp_skip (dZ (aK ?_))
   exact⟨((d0.ah),d0.af,d0.aa,d0.ac,d0.ae),(sI F2).symm,M1,(mR _),Z1,P1,Z2,P2,B1,B2,f.kp,N2⟩
  ·have U2:=aq dI B3
   refine RR (Ye f 2 λ_ f=>RcF f F3 (λB4 F4=>?_) λB4 F5=>?_)
   ·have U3:=dI.1 B4
    refine aA (Y f 1 λ_ f=>Y26 f N2 0 rfl rfl (b:=Q1) (j:=1) (v:=bO false) rfl (by exact rfl) (by simp) (by simp) _ rfl λW3 N3 _ f=>ap rfl (dZ (aK ?_)))
    exact⟨((false),d0.af,d0.aa,d0.ac,d0.ae),(sI F4).symm,M1,(mR _),Z1,P1,Z2,P2,B1,B2,f.kp,N3⟩
   ·have U4:=aq dI B4
    refine RR (Ye f 2 λ_ f=>RcF f F5 (λB5 F6=>?_) λB5 F7=>?_)
    ·have U5:=dI.1 B5
     refine aA (Y f 1 λ_ f=>Y26 f N2 0 rfl rfl (b:=Q1) (j:=2) (v:=iL 0) rfl (by exact rfl) (by simp) (by simp) _ rfl λW4 N4 _ f=>ap rfl (dZ (aK ?_)))
     exact⟨((d0.ah),(0:Int),d0.aa,d0.ac,d0.ae),(sI F6).symm,M1,(mR _),Z1,P1,Z2,P2,B1,B2,f.kp,N4⟩
    ·have U6:=aq dI B5
     refine RR (Ye f 2 λ_ f=>RcF f F7 (λB6 F8=>?_) λB6 F9=>?_)
     ·have U7:=dI.1 B6
      refine aA (Y f 1 λ_ f=>Y26 f N2 0 rfl rfl (b:=Q1) (j:=3) (v:=S []) rfl (by exact rfl) (by simp) (by simp) _ rfl λW5 N5 _ f=>ap rfl (dZ (aK ?_)))
      exact⟨((d0.ah),d0.af,([]:Bs),d0.ac,d0.ae),(sI F8).symm,M1,(mR _),Z1,P1,Z2,P2,B1,B2,f.kp,N5⟩
     ·have U8:=aq dI B6
      refine RR (Ye f 2 λ_ f=>RcF f F9 (λB7 F10=>?_) λB7 F11=>?_)
      ·have U9:=dI.1 B7
       refine aA (Y f 1 λ_ f=>Y26 f N2 0 rfl rfl (b:=Q1) (j:=4) (v:=Sn) rfl (by exact rfl) (by simp) (by simp) _ rfl λW6 N6 _ f=>ap rfl (dZ (aK ?_)))
       exact⟨((d0.ah),d0.af,d0.aa,([]:List TD0),d0.ae),(sI F10).symm,M1,(mR _),none,0,Z2,P2,Sli.nil,B2,f.kp,N6⟩
      ·have U10:=aq dI B7
       refine RR (Ye f 2 λ_ f=>RcF f F11 (λB8 F12=>?_) λB8 F16=>?_)
       ·have U11:=dI.1 B8
        refine an (an (R_draw N2 kr kr (Y6 default f 3 λ_ f=>Y5 f q0 5 rfl λ_ f=>Y6 default f 4 λ_ f=>Y5 f q0 4 rfl λ_ f=>Y6 default f 2 λ_ f=>Q_end rfl ?_)))
        intro W7 N7
        refine aK (RcF f F12 (λB9 F13=>?_) λB9 F15=>?_)
        ·have U12: ¬ (((d0.ae.length:Nat):Int)=((d0.ac.length:Nat):Int)):=(aM dI).1 B9
         refine RR (Ye f 1 λ_ f=>wp_ret (bC (ed ?_)))
         have F14:=bF F13 F1
         refine bC (bC (au f rfl (Lk 2 (iL 2)) ?_))
         cases sI F14
         exact⟨_,rfl,M1,(mR _),(N7.dropN 1),rfl⟩
        ·have U13: ¬ (¬ (((d0.ae.length:Nat):Int)=((d0.ac.length:Nat):Int))):=aq (aM dI) B9
         refine St (aA (Y f 1 λ_ f=>Y26 f N7 0 rfl rfl (b:=Q1) (j:=4) (v:=Sn) rfl (by exact rfl) (by simp) (by simp) _ rfl λW8 N8 _ f=>Y f 1 λ_ f=>Y26 f N8 0 rfl rfl (b:=Q1) (j:=5) (v:=Sn) rfl (by exact rfl) (by simp) (by simp) _ rfl λW9 N9 _ f=>ap rfl (dZ (aK ?_))))
         exact⟨((d0.ah),d0.af,d0.aa,([]:List TD0),([]:List Bs)),(sI F15).symm,M1,(mR _),none,0,none,0,Sli.nil,Sli.nil,f.kp,N9⟩
       ·have U14:=aq dI B8
        refine RR (Ye f 1 λ_ f=>wp_ret (ed ?_))
        have F17:=bF F16 F1
        refine bC (bC (au f rfl (Lk 2 (iL 2)) ?_))
        cases sI F17
        exact⟨_,rfl,M1,(mR _),(N2.dropN 1),rfl⟩
 ·rintro a_33 W10 ⟨G1,rfl,V1,J1,Z3,P3,Z4,P4,B10,B11,f,N10⟩
  refine aK (RR (W_newmap S Value.bool f N10 kr kr rfl rfl rfl λo1 W11 N11 _ f=>Ye f 1 λ_ f=>an ?_))
  obtain⟨mi,ji,F18⟩:=bS F1
  refine bD (λa_78 W16=>∃G4:Unit,mi=.nx G4∧∃V4:Mem,V1.le V4∧Frm 109 [(0,Pa ad0),(4,.map (some o1))] a_78∧Hp w0 V4 ((Ent.obj o1 (jT S Value.bool ([]:List (Bs×Bool))))::(oC Q1 #[iB d0.ab,bO G1.1,iL G1.2.1,S G1.2.2.1,sL Z3 G1.t3.1 P3,sL Z4 G1.t4 P4] 26)::H) W16) ?_ ?_
  ·refine wp_block (an ?_)
   obtain⟨j_3,mY,F19⟩:=bS ji
   refine bD (λa_56 W12=>∃G2:Bool,j_3=G2∧∃V2:Mem,V1.le V2∧Frm 109 [(0,Pa ad0),(4,.map (some o1)),(44,bO G2)] a_56∧Hp w0 V2 ((Ent.obj o1 (jT S Value.bool ([]:List (Bs×Bool))))::(oC Q1 #[iB d0.ab,bO G1.1,iL G1.2.1,S G1.2.2.1,sL Z3 G1.t3.1 P3,sL Z4 G1.t4 P4] 26)::H) W12) ?_ ?_
   ·refine aA (Y f 1 λ_ f=>Z f (Y31 (v:=bO G1.1) rfl (ad:=⟨Q1,1,none⟩) (N11.ownCell 1 rfl 1)) λ_ f=>Y f 1 λ_ f=>?_)
    rcases cE mY with⟨B12,F20⟩|⟨B12,F21⟩
    ·have f:=f.st 47 (cB B12)
     refine Ye f 20 λ_ f=>?_
     exact⟨(true),(sI F20).symm,V1,(mR _),f.kp,N11⟩
    ·have f:=f.st 47 (cB B12)
     refine Y f 1 λ_ f=>Z f (Y31 (v:=iL G1.2.1) rfl (ad:=⟨Q1,2,none⟩) (N11.ownCell 1 rfl 2)) λ_ f=>Y f 3 λ_ f=>?_
     rcases cE F21 with⟨B13,F22⟩|⟨B13,F23⟩
     ·have U17: ¬ (G1.2.1=0):=(aM dI).1 B13
      have f:=f.st 52 (cB B13)
      refine Ye f 15 λ_ f=>?_
      exact⟨(true),(sI F22).symm,V1,(mR _),f.kp,N11⟩
     ·have U18: ¬ (¬ (G1.2.1=0)):=aq (aM dI) B13
      have f:=f.st 52 (cB B13)
      refine Y f 1 λ_ f=>Z f (Y31 (v:=S G1.2.2.1) rfl (ad:=⟨Q1,3,none⟩) (N11.ownCell 1 rfl 3)) λ_ f=>Z f (Y37 rfl (l:=G1.2.2.1) (m:=[])) λ_ f=>Y f 2 λ_ f=>?_
      rcases cE F23 with⟨B14,F24⟩|⟨B14,F25⟩
      ·have U19: ¬ (G1.2.2.1=[]):=(aM dI).1 B14
       have f:=f.st 57 (cB B14)
       refine Ye f 10 λ_ f=>?_
       exact⟨(true),(sI F24).symm,V1,(mR _),f.kp,N11⟩
      ·have U20: ¬ (¬ (G1.2.2.1=[])):=aq (aM dI) B14
       have f:=f.st 57 (cB B14)
       refine Y f 1 λ_ f=>Z f (Y31 (v:=sL Z3 G1.t3.1 P3) rfl (ad:=⟨Q1,4,none⟩) (N11.ownCell 1 rfl 4)) λ_ f=>Y f 2 λ_ f=>Z f (Y31 (v:=sL Z4 G1.t4 P4) rfl (ad:=⟨Q1,5,none⟩) (N11.ownCell 1 rfl 5)) λ_ f=>Y f 1 λ_ f=>?_
       obtain⟨O1,F26⟩:=nS F25
       refine Y f 1 λ_ f=>?_
       have f:=f.st 64 (iW O1)
       refine Ye f 3 λ_ f=>?_
       exact⟨(decide ((0:Int)<(((G1.t3.1.length:Nat):Int)+ ((G1.t4.length:Nat):Int)))),(sI F26).symm,V1,(mR _),f.kp,N11⟩
   ·rintro a_56 W12 ⟨G2,eZ,V2,J2,f,N12⟩
    subst j_3
    refine aK (RcF f F19 (λB15 F27=>?_) λB15 F29=>?_)
    ·refine RR (Ye f 1 λ_ f=>wp_ret (ed ?_))
     have F28:=bF F27 F18
     refine bC (bC (au f rfl (Lk 2 (iL 2)) ?_))
     cases sI F28
     exact⟨_,rfl,V2,(J1.trans J2),(N12.dropN 2),rfl⟩
    ·refine an ?_
     obtain⟨j_4,hj_4,F30⟩:=bS F29
     refine bD (λa_65 W13=>∃G3:Bool,j_4=G3∧∃V3:Mem,V2.le V3∧Frm 109 [(0,Pa ad0),(4,.map (some o1)),(67,bO G3)] a_65∧Hp w0 V3 ((Ent.obj o1 (jT S Value.bool ([]:List (Bs×Bool))))::(oC Q1 #[iB d0.ab,bO G1.1,iL G1.2.1,S G1.2.2.1,sL Z3 G1.t3.1 P3,sL Z4 G1.t4 P4] 26)::H) W13) ?_ ?_
     ·refine aA (Y f 3 λ_ f=>Y16 f N12 (fzu (J1.trans J2) q0) 2 rfl λ_ f=>Y f 2 λ_ f=>?_)
      rcases cE hj_4 with⟨B16,F31⟩|⟨B16,F32⟩
      ·have U23:=dI.1 B16
       have f:=f.st 73 (cB B16)
       refine Ye f 7 λ_ f=>?_
       exact⟨(true),(sI F31).symm,V2,(mR _),f.kp,N12⟩
      ·have U24:=aq dI B16
       have f:=f.st 73 (cB B16)
       refine Y f 3 λ_ f=>Y16 f N12 (fzu (J1.trans J2) q0) 2 rfl λ_ f=>Ye f 3 λ_ f=>?_
       exact⟨(decide ((9007199254740992:Int)<d0.af)),(sI F32).symm,V2,(mR _),f.kp,N12⟩
     ·rintro a_65 W13 ⟨G3,lb,V3,J3,f,N13⟩
      subst j_4
      refine aK (RcF f F30 (λB17 F33=>?_) λB17 F35=>?_)
      ·refine RR (Ye f 1 λ_ f=>wp_ret (ed ?_))
       have F34:=bF F33 F18
       refine bC (bC (au f rfl (Lk 2 (iL 20)) ?_))
       cases sI F34
       exact⟨_,rfl,V3,((J1.trans J2).trans J3),(N13.dropN 2),rfl⟩
      ·refine RR (Y f 3 λ_ f=>Y16 f N13 (fzu ((J1.trans J2).trans J3) q0) 3 rfl λ_ f=>?_)
       obtain⟨X1,l1,F36⟩:=bS F35
       refine Y19 f N13 (gq n _ (GL.mono ((J1.trans J2).trans J3) hG) d0.aa X1 l1) λW14 N14 _ f=>Y f 2 λ_ f=>?_
       rcases cE F36 with⟨B18,F37⟩|⟨B18,F39⟩
       ·have U27: (X1)=false:=by simpa using B18
        have f:=f.st 87 (cB B18)
        refine Ye f 7 λ_ f=>Y9 f (RR (Ye f 1 λ_ f=>wp_ret (ed ?_)))
        have F38:=bF F37 F18
        refine bC (bC (au f rfl (Lk 2 (iL 10)) ?_))
        cases sI F38
        exact⟨_,rfl,V3,((J1.trans J2).trans J3),(N14.dropN 2),rfl⟩
       ·have U28: (X1)=true:=by simpa using B18
        have f:=f.st 87 (cB B18)
        refine Y f 3 λ_ f=>Y16 f N14 (fzu ((J1.trans J2).trans J3) q0) 5 rfl λ_ f=>?_
        obtain⟨X2,l2,F40⟩:=bS F39
        refine Y19 f N14 (eO n _ (GL.mono ((J1.trans J2).trans J3) hG) Z2 P2 d0.ae (B2.mono ((J1.trans J2).trans J3)) X2 l2) λW15 N15 _ f=>Ye f 2 λ_ f=>RcF f F40 (λB19 F41=>?_) λB19 F43=>?_
        ·refine RR (Ye f 1 λ_ f=>wp_ret (ed ?_))
         have F42:=bF F41 F18
         refine bC (bC (au f rfl (Lk 2 (iL 10)) ?_))
         cases sI F42
         exact⟨_,rfl,V3,((J1.trans J2).trans J3),(N15.dropN 2),rfl⟩
        ·refine wp_skip (dZ (aK ?_))
         exact⟨(),(sI F43).symm,V3,(J2.trans J3),f.kp,N15⟩
  ·rintro a_78 W16 ⟨G4,rfl,V4,J4,f,N16⟩
   refine aK (an (RR (Y f 3 λ_ f=>Y16 f N16 (fzu (J1.trans J4) q0) 5 rfl λ_ f=>Ye f 2 λ_ f=>wp_block ?_)))
   obtain⟨Q2,co,F44⟩:=bS F18
   refine wp_mono (Q:=λe a w=>(e=.ret∧(∃G5: (List (Bs×Bool)),Q2=.inl G5∧∃V6:Mem,V4.le V6∧Frm 109 [(2,iL 41)] a∧Hp w0 V6 ((Ent.obj o1 (jT S Value.bool G5))::(oC Q1 #[iB d0.ab,bO G1.1,iL G1.2.1,S G1.2.2.1,sL Z3 G1.t3.1 P3,sL Z4 G1.t4 P4] 26)::H) w))∨(e=.exit 2∧(∃G6: (List (Bs×Bool)),Q2=.inr G6∧∃V7:Mem,V4.le V7∧Frm 109 [] a∧Hp w0 V7 ((Ent.obj o1 (jT S Value.bool G6))::(oC Q1 #[iB d0.ab,bO G1.1,iL G1.2.1,S G1.2.2.1,sL Z3 G1.t3.1 P3,sL Z4 G1.t4 P4] 26)::H) w))) (bT (n:=109) (w0:=w0) (M:=V4) (λ (I1,K1)=>[(4,.map (some o1)),(97,sL Z2 d0.ae P2),(98,iL ((d0.ae.length:Nat):Int)),(99,iL K1.1)]) (λ (I1,K1)=>((Ent.obj o1 (jT S Value.bool K1.2))::(oC Q1 #[iB d0.ab,bO G1.1,iL G1.2.1,S G1.2.2.1,sL Z3 G1.t3.1 P3,sL Z4 G1.t4 P4] 26)::H)) (λ (I1,K1) MM=>aE (cV n d0) I1 K1=some Q2) (λ (I1,K1)=>I1) (n,((0:Int),([]:List (Bs×Bool)))) (f.kp) N16 co ?_) ?_
   ·rintro⟨I1,K1⟩ V5 _ W17 J5 gM f N17
    have cu:=gM
    obtain⟨I2,lO,rfl,bx,T1⟩:=aZ cu
    unfold cV at bx
    refine RR (Ye f 1 λ_ f=>an (RcF f bx (λB20 F45=>?_) λB20 F50=>?_))
    ·have U31:=dI.1 B20
     refine St (an (wp_block (RR ?_)))
     obtain⟨X3,l3,F46⟩:=bS F45
     obtain⟨C1,cZ,jC,-,D1,R1⟩:=Sli.at_ (B2.mono ((J1.trans J4).trans J5)) l3
     obtain rfl:cZ=[S X3]:=D1
     refine Z f (Y30 jC rfl (len:=d0.ae.length) (cap:=P2) (k:=.i64) (i:=K1.1) (e:=9) (sz:=1) (ax l3) (aw l3)) λ_ f=>Y16 f N17 R1 0 rfl λ_ f=>Ye f 1 λ_ f=>an (RR (Y f 2 λ_ f=>Z (v:=bO ((dz K1.2 X3).getD false)) f (Y33 (ek:=S) (ev:=Value.bool) (m:=K1.2) (k:=X3) (z:=false) (kt:=9) (et:=4) rfl (strKey kr) (N17.ownObj 0 rfl)) λ_ f=>eT (RcF f F46 (λB21 F47=>?_) λB21 F48=>?_)))
     ·refine RR (Ye f 1 λ_ f=>wp_ret (bC (ed (bC (bC ?_)))))
      cases sI F47
      exact .inl ⟨rfl,K1.2,(sI T1).symm,V5,J5,f.kp,N17⟩
     ·refine St (aA (Y f 2 λ_ f=>Y24 (ek:=S) (ev:=Value.bool) (m:=K1.2) (k:=X3) (v:=(true)) (kt:=9) (et:=4) f N17 rfl (.inl rfl) (strKey kr) λW18 N18 _ f=>ap rfl (dZ (aK (aA ?_)))))
      obtain⟨O2,F49⟩:=nS F48
      refine Y f 1 λ_ f=>?_
      have f:=f.st 108 (iW O2)
      refine Ye f 1 λ_ f=>?_
      cases sI F49
      exact⟨⟨I2,(K1.1+1,ez K1.2 X3 (true))⟩,Nat.lt_succ_self _,V5,J5,T1,f.kp,N18⟩
    ·have U34:=aq dI B20
     refine wp_exit (eH (eH ?_))
     cases sI F50
     exact .inr ⟨rfl,K1.2,(sI T1).symm,V5,J5,f.kp,N17⟩
   ·rintro _ _ W21 (⟨rfl,G5,rfl,V6,J6,f,N19⟩|⟨rfl,G6,rfl,V7,J7,f,N20⟩)
    ·refine ed (bC (au f rfl (Lk 2 (iL 41)) ?_))
     cases sI F44
     exact⟨_,rfl,V6,((J1.trans J4).trans J6),(N19.dropN 2),rfl⟩
    ·refine kh (aK (RR (Ye f 1 λ_ f=>wp_ret (au f rfl (Lk 2 (iL 0)) ?_))))
     cases sI F44
     exact⟨_,rfl,V7,((J1.trans J4).trans J7),(N20.dropN 2),rfl⟩
def dW (n:Nat) (K1:Int) (X2:TD0):Option (Lp Int (Int×Int)):=
    (iD n X2).bind λX3=>
    bif(!(decide (X3=0))) then
     (some (.br (K1,X3)))
    else
     aS (inR .i64 (K1+1))<|
     some (.nx (K1+1))
def gL (n:Nat) (d0:TD0):Option Int:=
 (kR n d0 (24:Int)).bind λX1=>
 bif(decide ((24:Int)<X1)) then
  (some ((30:Int)))
 else
  aS ((bY d0).length≤9223372036854775806)<|
  (iY (dW n) (bY d0) (0:Int)).bind λgN=>
  (match gN with
  |.nx K2=>bif(decide ((4096:Int)<K2)) then
   (some ((3:Int)))
   else
    some ((0:Int))
  |.br Q5=>some (Q5.2))
set_option maxRecDepth 20000 in
theorem kF (n:Nat) (M:Mem) (hG:GL M) (c0:Lv) (d0:TD0) (h0:Rep M (ar d0) c0) (r:Int) (hF:gL n d0=some r):Ok Tryz.prog M 16 [.agg c0.toArray] (λ_ v=>v=iL r):=by
 unfold gL at hF
 intro M1 hM0 w0 H w p0
 replace hG:=GL.mono hM0 hG
 replace h0:=Rep.mono hM0 _ _ h0
 obtain⟨Z1,P1,Z2,P2,rfl,B1,B2⟩:=TD0.opn h0
 refine R_enterM 19 Tryz.func16 rfl rfl (by simp) λa0 f0=>RR (Y14 (cs:=(aTD0 d0 Z1 P1 Z2 P2)) (T:=26) f0 p0 λQ1 V1 W1 J1 R1 N1 _ f=>?_)
 have R2:=bj R1
 refine Y13 f N1 (.cells #[iL 0] 32 (0,0)) λQ2 W2 N2 _ f=>eT (an (RR ?_))
 obtain⟨X1,l1,F1⟩:=bS hF
 refine Y19 f N2 (nU n _ (⟨Q1,0,none⟩) (lTD0 d0 Z1 P1 Z2 P2) d0 (TD0.shutx (x:=d0) (B1.mono J1) (B2.mono J1)) (bu (R2) 0 rfl) (24:Int) X1 l1) λW3 N3 _ f=>Ye f 1 λ_ f=>RcF f F1 (λB3 F2=>?_) λB3 F3=>?_
 ·have U1:=dI.1 B3
  refine RR (Y26 f N3 0 rfl rfl (b:=Q2) (j:=0) (v:=iL 30) rfl (by exact rfl) (by simp) (by simp) ((oC Q2 #[iL 30] 32)::H) rfl λW4 N4 _ f=>Er (bC (E_M0 f (V_rv1 rfl (Y10 (v:=iL 30) (ad:=⟨Q2,0,none⟩) f (N4.ownCell 0 rfl 0)) ?_))))
  cases sI F2
  exact⟨_,rfl,V1,J1,(N4.dropN 1),rfl⟩
 ·have U2:=aq dI B3
  refine St (RR (Y13 f N3 (.cells #[iL 0] 3 (0,0)) λQ3 W5 N5 _ f=>Y26 f N5 0 rfl rfl (b:=Q3) (j:=0) (v:=iL 0) rfl (by exact rfl) (by simp) (by simp) ((oC Q3 #[iL 0] 3)::(oC Q2 #[iL 0] 32)::H) rfl λW6 N6 _ f=>eT (an (RR (Z f (Y32 (cs:=(lTD0 d0 Z1 P1 Z2 P2)) rfl (ad:=⟨Q1,0,none⟩) (λj v h=>N6.cell (R2 j v h))) λ_ f=>?_)))))
  obtain⟨O1,F4⟩:=nS F3
  refine Y17 f N6 (walk_ok d0 O1 _ (lTD0 d0 Z1 P1 Z2 P2) (TD0.shutx (x:=d0) (B1.mono J1) (B2.mono J1))) λ_ V2 W7 J2 N7 ej a_9 f=>?_
  obtain⟨fv_1,cp_1,rfl,hit_1⟩:=ej
  refine eT (wp_block ?_)
  have f:Frm 19 [(2,pP Q2),(3,pP Q3),(9,.func (.func fv_1) #[] cp_1.toArray)] a_9:=f.kp
  obtain⟨gN,co,F5⟩:=bS F4
  refine R_range (σ:=Int) (β:=Int×Int) (vals:=valsV) (Y:=(dW n)) (E0:=[oC Q3 #[iL 0] 3,oC Q2 #[iL 0] 32]) (H:=H) (w0:=w0) (M:=V2) (f:=fv_1) (caps:=cp_1) f N7 kr kr kr hit_1.1 (λ (K1:Int) M' E1=>E1=[oC Q3 #[iL K1] 3,oC Q2 #[iL 0] 32]) (λ (G1:Int×Int) M' E1=>E1=[oC Q3 #[iL G1.1] 3,oC Q2 #[iL G1.2] 32]) (λ (_:Int×Int)=>Jmp.ret) (0:Int) gN rfl (λs_ M_ M2_ E_ hM h=>h) (λs_ M_ M2_ E_ hM h=>h) (λM_ x_ vs_ h=>by obtain⟨c_,h,_⟩:=h;exact⟨_,h⟩) (hit_1.2 _ _ _ _ _ co) ?_ ?_ ?_
  ·rintro K1 X2 lO bx l_1 w0 V3 mo H W8 _ v_1 J3 rfl ⟨cc_1,H1,D1⟩ N8 f
   obtain rfl:v_1=.agg cc_1.toArray:=by simpa using H1
   unfold dW at bx
   obtain⟨Z3,P3,Z4,P4,rfl,B4,B5⟩:=TD0.opn D1
   refine mD (dy F_out) kr (Y13 f N8 (.cells #[iB 0,bO false,iL 0,S [],Sn,Sn] 26 (0,0)) λQ4 W9 N9 _ f=>Ys (lTD0 X2 Z3 P3 Z4 P4) (aTD0 X2 Z3 P3 Z4 P4) f N9 rfl rfl λW10 N10 _ f=>eT (⟨V3,[Ent.obj Q4 (.cells (aTD0 X2 Z3 P3 Z4 P4) 26 (0,0)),oC Q3 #[iL K1] 3,oC Q2 #[iL 0] 32],(mR _),N10,λH W11 N11=>?_⟩))
   refine RI_block (RI_seq (RI_seq (mD (dy (dy (kj (RB_out)))) kr ?_)))
   obtain⟨V4,J4,N12,R3⟩:=N11.fzOwn
   obtain⟨X3,l2,F6⟩:=bS bx
   refine Y19 f N12 (nR n _ (GL.mono (((J1.trans J2).trans J3).trans J4) hG) (⟨Q4,0,none⟩) (lTD0 X2 Z3 P3 Z4 P4) X2 (TD0.shutx (x:=X2) (B4.mono J4) (B5.mono J4)) (bu (R3) 0 rfl) X3 l2) λW12 N13 _ f=>Ye f 1 λ_ f=>RI_seq (mD (dy (dy (kj (RB_out)))) kr (Ye f 2 λ_ f=>RI_cond f (b:= !(decide (X3=0))) kr kr (λB6=>?_) λB6=>?_))
   ·have U3: ¬ (X3=0):=(aM dI).1 B6
    have F7:=cnd_t B6 F6
    refine RI_seq (mD (dy (dy (kj (RB_out)))) kr (Y f 1 λ_ f=>Y26 f N13 1 rfl rfl (b:=Q2) (j:=0) (v:=iL X3) rfl (by exact rfl) (by simp) (by simp) ((oC Q3 #[iL K1] 3)::(oC Q2 #[iL X3] 32)::H) rfl λW13 N14 _ f=>eT (RI_ret (bC (ed ?_)))))
    cases sI F7
    exact RB_x rfl ⟨V4,[oC Q3 #[iL K1] 3,oC Q2 #[iL X3] 32],J4,N14,rfl⟩
   ·have U4: ¬ (¬ (X3=0)):=aq (aM dI) B6
    have F8:=cnd_f B6 F6
    refine RI_skip (aK (mD (kj (RB_out)) kr (Z f (Y31 (v:=iL K1) rfl (ad:=⟨Q3,0,none⟩) (N13.ownCell 0 rfl 0)) λ_ f=>?_)))
    obtain⟨O2,F9⟩:=nS F8
    refine Y f 1 λ_ f=>?_
    have f:=f.st 16 (iW O2)
    refine Y26 f N13 0 rfl rfl (b:=Q3) (j:=0) (v:=iL (K1+1)) rfl (by exact rfl) (by simp) (by simp) ((oC Q3 #[iL (K1+1)] 3)::(oC Q2 #[iL 0] 32)::H) rfl λW14 N15 _ f=>ap rfl (dZ ?_)
    cases sI F9
    exact RB_n ⟨V4,[oC Q3 #[iL (K1+1)] 3,oC Q2 #[iL 0] 32],J4,N15,rfl⟩
  ·rintro K2 rfl l_2 D_1 rr_1 V5 E_2 W15 _ J5 rfl N16 f
   replace N16:Hp w0 V5 ((Ent.obj D_1 (.deferred (some [])))::(oC Q3 #[iL K2] 3)::(oC Q2 #[iL 0] 32)::H) W15:=N16.drop
   replace F5: (_:Option _)=some _:=F5
   refine dZ (aK (an (RR (Z f (Y31 (v:=iL K2) rfl (ad:=⟨Q3,0,none⟩) (N16.ownCell 1 rfl 0)) λ_ f=>Ye f 1 λ_ f=>RcF f F5 (λB7 F10=>?_) λB7 F11=>?_))))
   ·have U5:=dI.1 B7
    refine RR (Y26 f N16 2 rfl rfl (b:=Q2) (j:=0) (v:=iL 3) rfl (by exact rfl) (by simp) (by simp) ((Ent.obj D_1 (.deferred (some [])))::(oC Q3 #[iL K2] 3)::(oC Q2 #[iL 3] 32)::H) rfl λW16 N17 _ f=>Er (bC (E_M1 f N17 λW17 N18=>V_rv1 rfl (Y10 (v:=iL 3) (ad:=⟨Q2,0,none⟩) f (N18.ownCell 1 rfl 0)) ?_)))
    cases sI F10
    exact⟨_,rfl,V5,((J1.trans J2).trans J5),(N18.dropN 2),rfl⟩
   ·have U6:=aq dI B7
    refine St (RR (Y26 f N16 2 rfl rfl (b:=Q2) (j:=0) (v:=iL 0) rfl (by exact rfl) (by simp) (by simp) ((Ent.obj D_1 (.deferred (some [])))::(oC Q3 #[iL K2] 3)::(oC Q2 #[iL 0] 32)::H) rfl λW18 N19 _ f=>Er (E_M1 f N19 λW19 N20=>V_rv1 rfl (Y10 (v:=iL 0) (ad:=⟨Q2,0,none⟩) f (N20.ownCell 1 rfl 0)) ?_)))
    cases sI F11
    exact⟨_,rfl,V5,((J1.trans J2).trans J5),(N20.dropN 2),rfl⟩
  ·rintro Q5 rfl l_3 D_2 rr_2 V6 E_3 W20 _ J6 l3 N21 f
   obtain rfl:=l3
   replace N21:Hp w0 V6 ((Ent.obj D_2 (.deferred (some [])))::(oC Q3 #[iL Q5.1] 3)::(oC Q2 #[iL Q5.2] 32)::H) W20:=N21.drop
   refine ed (bC (E_M1 f N21 λW21 N22=>V_rv1 rfl (Y10 (v:=iL Q5.2) (ad:=⟨Q2,0,none⟩) f (N22.ownCell 1 rfl 0)) ?_))
   cases sI F5
   exact⟨_,rfl,V6,((J1.trans J2).trans J6),(N22.dropN 2),rfl⟩
end Go.Proofs.YtkopljikappieaaGreatDoor
end
section
section
namespace Go.Proofs.YtkopljikappieaaGreatDoor
open Go Go.Vc Go.RowKit
def Small:Nat→TD0→Prop
 |0,_=>False
 |d+1,v=>v.ac.length≤3000∧v.ae.length≤3000∧v.aa.length≤5000∧(∀k∈v.ae,k.length≤5000)∧∀x∈v.ac,Small d x
theorem jx: ∀ (l m:List TD0),bh (l++m)=bh l++bh m
 |[],m=>by simp[bh]
 |x::r,m=>by simp[bh,jx r m]
theorem kg {l:List TD0} {i:Nat} {x:TD0} (h:l[i]? =some x):bh (l.take (i+1))=bh (l.take i)++bY x:=by
 rw[List.take_add_one,h,jx]
 simp[bh]
theorem oE {n : Nat} (hn : 3000 < n) : ∀ (k d : Nat) (v : TD0), d < k → d ≤ 1000 → ∃ W : Int, cd n k v (d : Int) = some W ∧ 0 ≤ W ∧ W ≤ 30010001 + 10000 * d ∧ (W ≤ 5000 → Small d v ∧ ((bY v).length : Int) ≤ W)
 | 0, d, v, h, _ => absurd h (by omega)
 | k + 1, d, v, h, hd => by
  show ∃ W : Int, em n (cd n k) v (d : Int) = some W ∧ _
  unfold em
  by_cases h0 : d = 0 ∨ 3000 < v.ac.length ∨ 3000 < v.ae.length
  ·have e : (bif decide ((d : Int) = 0) then some true else bif decide ((3000 : Int) < ((v.ac.length : Nat) : Int)) then some true else some (decide ((3000 : Int) < ((v.ae.length : Nat) : Int))) : Option Bool) = some true := by
    by_cases a : (d : Int) = 0
    ·rw [decide_eq_true a, cT]
    ·rw [decide_eq_false a, cF]
     by_cases b : (3000 : Int) < ((v.ac.length : Nat) : Int)
     ·rw [decide_eq_true b, cT]
     ·rw [decide_eq_false b, cF, decide_eq_true (by omega)]
   rw [e, bnd, cT]
   exact ⟨10000, rfl, by omega, by omega, fun h => absurd h (by omega)⟩
  ·have e : (bif decide ((d : Int) = 0) then some true else bif decide ((3000 : Int) < ((v.ac.length : Nat) : Int)) then some true else some (decide ((3000 : Int) < ((v.ae.length : Nat) : Int))) : Option Bool) = some false := by
    rw [decide_eq_false (by omega), cF, decide_eq_false (by omega), cF, decide_eq_false (by omega)]
   rw [e, bnd, cF]
   obtain ⟨base, hbase⟩ : ∃ base : Int, base = (1 : Int) + (min (v.aa.length : Int) (10000 : Int)) := ⟨_, rfl⟩
   rw [← hbase, aW (by omega) (by omega)]
   obtain ⟨y, hy, hy1, hy2, hy3⟩ := iq (step := cK n v) (n := n) (s0 := (base, (0 : Int)))
    (fun k s => s.2 = (k : Int) ∧ base ≤ s.1 ∧ s.1 ≤ base + 10000 * k ∧ (s.1 ≤ 5000 → ∀ j, j < k → (v.ae.getD j []).length ≤ 5000))
    (fun b => base ≤ b ∧ b ≤ base + 10000 * v.ae.length ∧ (b ≤ 5000 → ∀ j, j < v.ae.length → (v.ae.getD j []).length ≤ 5000)) v.ae.length
    ⟨rfl, Int.le_refl _, by simp, fun _ j hj => absurd hj (by omega)⟩
    (fun q s hq hI => by
     obtain ⟨t, i⟩ := s
     obtain ⟨h1, h2, h3, h4⟩ := hI
     have h1' : i = (q : Int) := h1
     subst h1'
     left
     refine ⟨(t + min ((v.ae.getD q []).length : Int) 10000, (q : Int) + 1), ?_, by simp, ?_, ?_, ?_⟩
     ·show cK n v (t, (q : Int)) = _
      unfold cK
      dsimp only at h2 h3 ⊢
      rw [decide_eq_true (by omega), cT, da [] hq, bnd, aW (by omega) (by omega), aW (by omega) (by omega)]
     ·dsimp only at h2 ⊢; omega
     ·dsimp only at h3 ⊢; push_cast; omega
     ·dsimp only at h4 ⊢
      intro hle j hj
      by_cases hjq : j = q
      ·subst hjq; omega
      ·exact h4 (by omega) j (by omega))
    (fun s hI => by
     obtain ⟨t, i⟩ := s
     obtain ⟨h1, h2, h3, h4⟩ := hI
     have h1' : i = (v.ae.length : Int) := h1
     subst h1'
     refine ⟨t, ?_, h2, h3, h4⟩
     unfold cK
     dsimp only
     rw [decide_eq_false (by omega), cF])
    (by omega)
   rw [hy, bnd]
   obtain ⟨z, hz, hz1, hz2, hz3⟩ := iq (step := cf n (cd n k) v (d : Int)) (n := n) (s0 := (y, (0 : Int)))
    (fun k s => s.2 = (k : Int) ∧ y ≤ s.1 ∧ s.1 ≤ 30010001 + 10000 * d ∧ (s.1 ≤ 5000 → (∀ j x, j < k → v.ac[j]? = some x → Small (d - 1) x) ∧ ((bh (v.ac.take k)).length : Int) + 1 ≤ s.1))
    (fun b => y ≤ b ∧ b ≤ 30010001 + 10000 * d ∧ (b ≤ 5000 → (∀ j x, j < v.ac.length → v.ac[j]? = some x → Small (d - 1) x) ∧ ((bh v.ac).length : Int) + 1 ≤ b)) v.ac.length
    ⟨rfl, Int.le_refl _, by omega, fun _ => ⟨fun j x hj => absurd hj (by omega), by simp [bh]; omega⟩⟩
    (fun q s hq hI => by
     obtain ⟨t, i⟩ := s
     obtain ⟨h1, h2, h3, h4⟩ := hI
     have h1' : i = (q : Int) := h1
     subst h1'
     dsimp only at h2 h3 h4
     by_cases ht : t ≤ 10000
     ·left
      have hx : v.ac[q]? = some v.ac[q] := List.getElem?_eq_getElem hq
      obtain ⟨W, w1, w2, w3, w4⟩ := oE hn k (d - 1) v.ac[q] (by omega) (by omega)
      have hd1 : ((d - 1 : Nat) : Int) = (d : Int) - 1 := by omega
      rw [hd1] at w1
      refine ⟨(t + W, (q : Int) + 1), ?_, by simp, ?_, ?_, ?_⟩
      ·show cf n (cd n k) v (d : Int) (t, (q : Int)) = _
       unfold cf
       dsimp only
       have hg : aQ v.ac (q : Int) = some v.ac[q] := by simp [aQ]
       rw [decide_eq_true (by omega), cT, bnd, decide_eq_true ht, cT, hg, bnd, aW (by omega) (by omega), w1, bnd, aW (by omega) (by omega), aW (by omega) (by omega)]
      ·dsimp only; omega
      ·dsimp only; omega
      ·dsimp only
       intro hle
       obtain ⟨s1, s2⟩ := h4 (by omega)
       obtain ⟨c1, c2⟩ := w4 (by omega)
       refine ⟨fun j x hj hjx => ?_, ?_⟩
       ·by_cases hjq : j = q
        ·subst hjq
         rw [hx] at hjx
         exact Option.some.inj hjx ▸ c1
        ·exact s1 j x (by omega) hjx
       ·rw [kg hx, List.length_append]
        omega
     ·right
      refine ⟨t, ?_, h2, h3, fun hle => absurd hle (by omega)⟩
      unfold cf
      dsimp only
      rw [decide_eq_true (by omega), cT, bnd, decide_eq_false ht, cF])
    (fun s hI => by
     obtain ⟨t, i⟩ := s
     obtain ⟨h1, h2, h3, h4⟩ := hI
     have h1' : i = (v.ac.length : Int) := h1
     subst h1'
     dsimp only at h2 h3 h4
     rw [List.take_length] at h4
     refine ⟨t, ?_, h2, h3, h4⟩
     unfold cf
     dsimp only
     rw [decide_eq_false (by omega), cF, bnd, cF])
    (by omega)
   rw [hz, bnd]
   refine ⟨z, rfl, by omega, hz2, fun hle => ?_⟩
   obtain ⟨s1, s2⟩ := hz3 hle
   have s3 := hy3 (by omega)
   obtain ⟨d, rfl⟩ : ∃ e, d = e + 1 := ⟨d - 1, by omega⟩
   refine ⟨⟨by omega, by omega, by omega, fun q hq => ?_, fun x hx => ?_⟩, ?_⟩
   ·obtain ⟨j, hj, rfl⟩ := List.getElem_of_mem hq
    have := s3 j hj
    simpa [hj] using this
   ·obtain ⟨j, hj, rfl⟩ := List.getElem_of_mem hx
    exact s1 j _ hj (List.getElem?_eq_getElem hj)
   ·rw [eR, List.length_cons]
    push_cast
    omega
end Go.Proofs.YtkopljikappieaaGreatDoor
end
section
namespace Go.Proofs.YtkopljikappieaaGreatDoor
open Go Go.Vc
theorem and_tab: ((List.range 256).all λc=>bAnd .i64 (c:Int) 31== ((c % 32:Nat):Int)&& (bAnd .i64 (c:Int) 15== ((c % 16:Nat):Int)&&bAnd .i64 (c:Int) 7== ((c % 8:Nat):Int)))=true:=by kernel_rfl
theorem and_low (c:UInt8):bAnd .i64 (c.toNat:Int) 31=((c.toNat % 32:Nat):Int)∧bAnd .i64 (c.toNat:Int) 15=((c.toNat % 16:Nat):Int)∧bAnd .i64 (c.toNat:Int) 7=((c.toNat % 8:Nat):Int):=by
 have h:=List.all_eq_true.1 and_tab c.toNat (List.mem_range.2 c.toNat_lt)
 simp only[Bool.and_eq_true,beq_iff_eq] at h
 exact h
theorem lM {n:Nat} {s:Bs} {i k:Nat} {y:Int×Int×Int} {r w:Nat} (hy:y.1=(w:Int)) (hk:k<w) (hi:i+w≤s.length) (hs:s.length<1000000) (hr:r<1000000000):
 ct n s i y ((r:Int),(k:Int))=some (if (s.getD (i+k) 0).toNat / 64=2 then .nx (((64*r+ (s.getD (i+k) 0).toNat % 64:Nat):Int),((k+1:Nat):Int)) else .br (.inl ())):=by
 unfold ct
 dsimp only
 have e: (i:Int)+ (k:Int)=((i+k:Nat):Int):=by omega
 rw[hy,dT (by omega: (k:Int)<(w:Int)),cT,aW (by omega) (by omega),e,da 0 (by omega),bnd]
 have hb:=(s.getD (i+k) 0).toNat_lt
 generalize (s.getD (i+k) 0)=b at hb ⊢
 by_cases h1:b.toNat<128
 ·rw[dT (by omega: (b.toNat:Int)<128),cT,bnd,cT,if_neg (by omega)]
 ·rw[dF (by omega: ¬ (b.toNat:Int)<128),cF,bnd]
  by_cases h2:191<b.toNat
  ·rw[dT (by omega: (191:Int)<(b.toNat:Int)),cT,if_neg (by omega)]
  ·rw[dF (by omega: ¬ (191:Int)<(b.toNat:Int)),cF,if_pos (by omega),aW (by omega) (by omega),aW (by omega) (by omega),aW (by omega) (by omega),aW (by omega) (by omega)]
   congr 3
   ·omega
theorem one_s1e {n:Nat} {s:Bs} {i:Nat} {y:Int×Int×Int} {r:Int} {w:Nat} (hy:y.1=(w:Int)):
 ct n s i y (r,(w:Int))=some (.br (.inr r)):=by
 unfold ct
 dsimp only
 rw[hy,dF (by omega: ¬ (w:Int)<(w:Int)),cF]
def contB (s:Bs) (i:Nat):Bool:=decide ((s.getD i 0).toNat / 64=2)
theorem one_l2 {n:Nat} {s:Bs} {i:Nat} {y:Int×Int×Int} {r:Nat} (hy:y.1=2) (hi:i+2≤s.length) (hs:s.length<1000000) (hr:r<100) (hn:5≤n):
 aE (ct n s i y) n ((r:Int),(1:Int))=some (if contB s (i+1) then .inr (((64*r+ (s.getD (i+1) 0).toNat % 64:Nat):Int)) else .inl ()):=by
 obtain⟨n,rfl⟩: ∃q,n=q+5:=⟨n-5,by omega⟩
 have h1:=lM (n:=n+5) (k:=1) (w:=2) hy (by omega) hi hs (by omega:r<1000000000)
 rw[show((1:Nat):Int)=1 from rfl] at h1
 rw[aE,h1,bnd]
 unfold contB
 by_cases h2: (s.getD (i+1) 0).toNat / 64=2
 ·rw[if_pos h2,if_pos (by simpa using h2)]
  show aE _ (n+4) _=_
  rw[aE,one_s1e (w:=2) hy,bnd]
 ·rw[if_neg h2,if_neg (by simpa using h2)]
theorem one_l3 {n:Nat} {s:Bs} {i:Nat} {y:Int×Int×Int} {r:Nat} (hy:y.1=3) (hi:i+3≤s.length) (hs:s.length<1000000) (hr:r<100) (hn:5≤n):
 aE (ct n s i y) n ((r:Int),(1:Int))=some (if contB s (i+1)&&contB s (i+2) then .inr (((64* (64*r+ (s.getD (i+1) 0).toNat % 64)+ (s.getD (i+2) 0).toNat % 64:Nat):Int)) else .inl ()):=by
 obtain⟨n,rfl⟩: ∃q,n=q+5:=⟨n-5,by omega⟩
 have h1:=lM (n:=n+5) (k:=1) (w:=3) hy (by omega) hi hs (by omega:r<1000000000)
 rw[show((1:Nat):Int)=1 from rfl] at h1
 rw[aE,h1,bnd]
 unfold contB
 by_cases h2: (s.getD (i+1) 0).toNat / 64=2
 ·rw[if_pos h2]
  show aE _ (n+4) _=_
  rw[aE,lM (n:=n+5) (k:=2) (w:=3) hy (by omega) hi hs (by omega),bnd]
  by_cases h3: (s.getD (i+2) 0).toNat / 64=2
  ·rw[if_pos h3,if_pos (by simp only[h2,h3];rfl)]
   show aE _ (n+3) _=_
   rw[aE,one_s1e (w:=3) hy,bnd]
  ·rw[if_neg h3,if_neg (by simp only[h2,h3];decide)]
 ·rw[if_neg h2,if_neg (by simp only[h2];simp)]
theorem one_l4 {n:Nat} {s:Bs} {i:Nat} {y:Int×Int×Int} {r:Nat} (hy:y.1=4) (hi:i+4≤s.length) (hs:s.length<1000000) (hr:r<100) (hn:5≤n):
 aE (ct n s i y) n ((r:Int),(1:Int))=some (if contB s (i+1)&& (contB s (i+2)&&contB s (i+3)) then .inr (((64* (64* (64*r+ (s.getD (i+1) 0).toNat % 64)+ (s.getD (i+2) 0).toNat % 64)+ (s.getD (i+3) 0).toNat % 64:Nat):Int)) else .inl ()):=by
 obtain⟨n,rfl⟩: ∃q,n=q+5:=⟨n-5,by omega⟩
 have h1:=lM (n:=n+5) (k:=1) (w:=4) hy (by omega) hi hs (by omega:r<1000000000)
 rw[show((1:Nat):Int)=1 from rfl] at h1
 rw[aE,h1,bnd]
 unfold contB
 by_cases h2: (s.getD (i+1) 0).toNat / 64=2
 ·rw[if_pos h2]
  show aE _ (n+4) _=_
  rw[aE,lM (n:=n+5) (k:=2) (w:=4) hy (by omega) hi hs (by omega),bnd]
  by_cases h3: (s.getD (i+2) 0).toNat / 64=2
  ·rw[if_pos h3]
   show aE _ (n+3) _=_
   rw[aE,lM (n:=n+5) (k:=3) (w:=4) hy (by omega) hi hs (by omega),bnd]
   by_cases h4: (s.getD (i+3) 0).toNat / 64=2
   ·rw[if_pos h4,if_pos (by simp only[h2,h3,h4];rfl)]
    show aE _ (n+2) _=_
    rw[aE,one_s1e (w:=4) hy,bnd]
   ·rw[if_neg h4,if_neg (by simp only[h2,h3,h4];decide)]
  ·rw[if_neg h3,if_neg (by simp only[h2,h3];simp)]
 ·rw[if_neg h2,if_neg (by simp only[h2];simp)]
theorem one_ref {n:Nat} {s:Bs} {i:Nat} (hi:i<s.length) (hs:s.length<1000000) (hn:5≤n):
 ja n s i=some (if (Lib.decodeL (s.drop i)).1=65533∧(Lib.decodeL (s.drop i)).2=1 then(0,0) else(((Lib.decodeL (s.drop i)).1:Int),((Lib.decodeL (s.drop i)).2:Int))):=by
 rw[Lib.decodeL_N,List.length_drop,Lib.getD_dropU,Lib.getD_dropU,Lib.getD_dropU,Lib.getD_dropU,Nat.add_zero]
 unfold ja
 rw[dF (by omega: ¬ (i:Int)<0),cF,dF (by omega: ¬ (s.length:Int)≤(i:Int)),bnd,cF,da 0 hi,bnd]
 have hb0:=(s.getD i 0).toNat_lt
 have hb1:=(s.getD (i+1) 0).toNat_lt
 have hb2:=(s.getD (i+2) 0).toNat_lt
 have hb3:=(s.getD (i+3) 0).toNat_lt
 obtain⟨a1,a2,a3⟩:=and_low (s.getD i 0)
 by_cases h0: (s.getD i 0).toNat<128
 ·rw[dT (by omega: ((s.getD i 0).toNat:Int)<128),cT,Lib.decodeN_ascii _ _ _ _ _ h0]
  rw[mpS,bnd,jB,if_neg (by dsimp only;omega)]
  rfl
 rw[dF (by omega: ¬ ((s.getD i 0).toNat:Int)<128),cF]
 generalize hD:Lib.decodeN (s.length-i) (s.getD i 0).toNat (s.getD (i+1) 0).toNat (s.getD (i+2) 0).toNat (s.getD (i+3) 0).toNat=D
 have hB:D=(65533,1)→some ((0:Int),(0:Int))=some (if D.1=65533∧D.2=1 then(0,0) else((D.1:Int),(D.2:Int))):=λe=>by rw[e];rfl
 have hG: ∀ (R w:Nat),D=(R,w)→1<w→some ((R:Int),(w:Int))=some (if D.1=65533∧D.2=1 then(0,0) else((D.1:Int),(D.2:Int))):=λR w e hw=>by rw[e,if_neg (by dsimp only;omega)]
 have bad: (s.getD i 0).toNat<192∨248≤(s.getD i 0).toNat→D=(65533,1):=λhb=>by
  rw[←hD]
  unfold Lib.decodeN
  rw[if_neg h0,if_neg (by omega),if_neg (by omega),if_neg (by omega)]
 by_cases h1:192≤(s.getD i 0).toNat
 case neg=>
  rw[dF (by omega: ¬ (192:Int)≤((s.getD i 0).toNat:Int)),cF,bnd,cF,dF (by omega: ¬ (224:Int)≤((s.getD i 0).toNat:Int)),cF,bnd,cF,dF (by omega: ¬ (240:Int)≤((s.getD i 0).toNat:Int)),cF,bnd,cF,mpS,bnd,jB]
  exact hB (bad (by omega))
 rw[dT (by omega: (192:Int)≤((s.getD i 0).toNat:Int)),cT]
 by_cases h2: (s.getD i 0).toNat<224
 ·rw[dT (by omega: ((s.getD i 0).toNat:Int)<224),bnd,cT,a1,bnd]
  rw[jN]
  dsimp only
  rw[aW (by omega) (by omega)]
  unfold Lib.decodeN at hD
  rw[if_neg h0] at hD
  by_cases hl:s.length<i+2
  ·rw[dT (by omega: (s.length:Int)<(i:Int)+2),cT]
   exact hB (by rw[←hD,if_neg (by omega),if_neg (by omega),if_neg (by omega)])
  rw[dF (by omega: ¬ (s.length:Int)<(i:Int)+2),cF,one_l2 rfl (by omega) hs (by omega) hn,bnd]
  unfold contB
  by_cases hc: (s.getD (i+1) 0).toNat / 64=2
  ·rw[if_pos (by simp only[hc];rfl)]
   rw[if_pos ⟨by omega,by omega,hc⟩] at hD
   dsimp only
   generalize hR: (64* ((s.getD i 0).toNat % 32)+ (s.getD (i+1) 0).toNat % 64)=R
   rw[show(s.getD i 0).toNat % 32*64+ (s.getD (i+1) 0).toNat % 64=R by omega] at hD
   have hR2:R<2048:=by omega
   by_cases hv:R≥128
   ·rw[if_pos hv] at hD
    rw[dF (by omega: ¬ (R:Int)<128),cF,dF (by omega: ¬ (1114111:Int)<(R:Int)),cF,dF (by omega: ¬ (55296:Int)≤(R:Int)),cF,bnd,cF]
    exact hG R 2 hD.symm (by omega)
   ·rw[if_neg hv] at hD
    rw[dT (by omega: (R:Int)<128),cT,bnd,cT]
    exact hB hD.symm
  ·rw[if_neg (by simp only[hc];decide)]
   exact hB (by rw[←hD,if_neg (by omega),if_neg (by omega),if_neg (by omega)])
 rw[dF (by omega: ¬ ((s.getD i 0).toNat:Int)<224),bnd,cF,dT (by omega: (224:Int)≤((s.getD i 0).toNat:Int)),cT]
 by_cases h3: (s.getD i 0).toNat<240
 ·rw[dT (by omega: ((s.getD i 0).toNat:Int)<240),bnd,cT,a2,bnd]
  rw[jN]
  dsimp only
  rw[aW (by omega) (by omega)]
  unfold Lib.decodeN at hD
  rw[if_neg h0,if_neg (by omega)] at hD
  by_cases hl:s.length<i+3
  ·rw[dT (by omega: (s.length:Int)<(i:Int)+3),cT]
   exact hB (by rw[←hD,if_neg (by omega),if_neg (by omega)])
  rw[dF (by omega: ¬ (s.length:Int)<(i:Int)+3),cF,one_l3 rfl (by omega) hs (by omega) hn,bnd]
  unfold contB
  by_cases hc: (s.getD (i+1) 0).toNat / 64=2∧(s.getD (i+2) 0).toNat / 64=2
  ·rw[if_pos (by simp only[hc];rfl)]
   rw[if_pos ⟨by omega,⟨by omega,hc.1⟩,by omega,hc.2⟩] at hD
   dsimp only
   generalize hR: (64* (64* ((s.getD i 0).toNat % 16)+ (s.getD (i+1) 0).toNat % 64)+ (s.getD (i+2) 0).toNat % 64)=R
   rw[show(s.getD i 0).toNat % 16*4096+ (s.getD (i+1) 0).toNat % 64*64+ (s.getD (i+2) 0).toNat % 64=R by omega] at hD
   have hR2:R<65536:=by omega
   by_cases hv:R<2048
   ·rw[dT (by omega: (R:Int)<2048),cT,bnd,cT]
    exact hB (by rw[←hD,if_neg (by omega)])
   rw[dF (by omega: ¬ (R:Int)<2048),cF,dF (by omega: ¬ (1114111:Int)<(R:Int)),cF]
   by_cases hv2:55296≤R
   ·rw[dT (by omega: (55296:Int)≤(R:Int)),cT,bnd]
    by_cases hv3:R≤57343
    ·rw[dT (by omega: (R:Int)≤57343),cT]
     exact hB (by rw[←hD,if_neg (by omega)])
    ·rw[dF (by omega: ¬ (R:Int)≤57343),cF]
     exact hG R 3 (by rw[←hD,if_pos (by omega)]) (by omega)
   ·rw[dF (by omega: ¬ (55296:Int)≤(R:Int)),cF,bnd,cF]
    exact hG R 3 (by rw[←hD,if_pos (by omega)]) (by omega)
  ·rw[if_neg (by simp only[Bool.and_eq_true,decide_eq_true_eq];exact hc)]
   exact hB (by rw[←hD,if_neg (by omega),if_neg (by omega)])
 rw[dF (by omega: ¬ ((s.getD i 0).toNat:Int)<240),bnd,cF,dT (by omega: (240:Int)≤((s.getD i 0).toNat:Int)),cT]
 by_cases h4: (s.getD i 0).toNat<248
 ·rw[dT (by omega: ((s.getD i 0).toNat:Int)<248),bnd,cT,a3,bnd]
  rw[jN]
  dsimp only
  rw[aW (by omega) (by omega)]
  unfold Lib.decodeN at hD
  rw[if_neg h0,if_neg (by omega),if_neg (by omega)] at hD
  by_cases hl:s.length<i+4
  ·rw[dT (by omega: (s.length:Int)<(i:Int)+4),cT]
   exact hB (by rw[←hD,if_neg (by omega)])
  rw[dF (by omega: ¬ (s.length:Int)<(i:Int)+4),cF,one_l4 rfl (by omega) hs (by omega) hn,bnd]
  unfold contB
  by_cases hc: (s.getD (i+1) 0).toNat / 64=2∧(s.getD (i+2) 0).toNat / 64=2∧(s.getD (i+3) 0).toNat / 64=2
  ·rw[if_pos (by simp only[hc];rfl)]
   rw[if_pos ⟨by omega,⟨by omega,hc.1⟩,⟨by omega,hc.2.1⟩,by omega,hc.2.2⟩] at hD
   dsimp only
   generalize hR: (64* (64* (64* ((s.getD i 0).toNat % 8)+ (s.getD (i+1) 0).toNat % 64)+ (s.getD (i+2) 0).toNat % 64)+ (s.getD (i+3) 0).toNat % 64)=R
   rw[show(s.getD i 0).toNat % 8*262144+ (s.getD (i+1) 0).toNat % 64*4096+ (s.getD (i+2) 0).toNat % 64*64+ (s.getD (i+3) 0).toNat % 64=R by omega] at hD
   have hR2:R<16777216:=by omega
   by_cases hv:R<65536
   ·rw[dT (by omega: (R:Int)<65536),cT,bnd,cT]
    exact hB (by rw[←hD,if_neg (by omega)])
   rw[dF (by omega: ¬ (R:Int)<65536),cF]
   by_cases hv2:1114111<R
   ·rw[dT (by omega: (1114111:Int)<(R:Int)),cT,bnd,cT]
    exact hB (by rw[←hD,if_neg (by omega)])
   ·rw[dF (by omega: ¬ (1114111:Int)<(R:Int)),cF,dT (by omega: (55296:Int)≤(R:Int)),cT,bnd,dF (by omega: ¬ (R:Int)≤57343),cF]
    exact hG R 4 (by rw[←hD,if_pos (by omega)]) (by omega)
  ·rw[if_neg (by simp only[Bool.and_eq_true,decide_eq_true_eq];exact hc)]
   exact hB (by rw[←hD,if_neg (by omega)])
 rw[dF (by omega: ¬ ((s.getD i 0).toNat:Int)<248),bnd,cF,mpS,bnd,jB]
 exact hB (bad (by omega))
theorem nz {n : Nat} {s : List UInt8} (hs : s.length < 1000000) (hn : 5 ≤ n) : ∀ (m i : Nat), s.length ≤ i + m → i ≤ s.length → ∀ q, m < q → aE (cx n s) q (i : Int) = some (if Lib.validD (s.drop i) then .inr () else .inl ())
 | 0, i, hm, hi, q, hq => by
  obtain ⟨q, rfl⟩ : ∃ r, q = r + 1 := ⟨q - 1, by omega⟩
  have e : s.drop i = [] := List.drop_eq_nil_of_le (by omega)
  rw [aE, e]
  unfold cx
  rw [decide_eq_false (by omega), cF, bnd]
  rfl
 | m + 1, i, hm, hi, q, hq => by
  obtain ⟨q, rfl⟩ : ∃ r, q = r + 1 := ⟨q - 1, by omega⟩
  by_cases hlt : i < s.length
  ·have hne : s.drop i ≠ [] := fun e => by
    have := congrArg List.length e
    rw [List.length_drop] at this
    simp at this
    omega
   have hst : cx n s (i : Int) = some (if (Lib.decodeL (s.drop i)).1 = 65533 ∧ (Lib.decodeL (s.drop i)).2 = 1 then .br (.inl ()) else .nx (((i + (Lib.decodeL (s.drop i)).2 : Nat) : Int))) := by
    unfold cx
    rw [decide_eq_true (by omega : (i : Int) < (s.length : Int)), cT, one_ref hlt hs hn, bnd]
    by_cases hb : (Lib.decodeL (s.drop i)).1 = 65533 ∧ (Lib.decodeL (s.drop i)).2 = 1
    ·rw [if_pos hb, if_pos hb]
     rfl
    ·rw [if_neg hb, if_neg hb]
     have hw := Lib.decodeL_width (s.drop i)
     have hw4 : (Lib.decodeL (s.drop i)).2 ≤ 4 := by
      rcases lB (s.drop i) hne with ⟨e, _⟩ | ⟨r, w, e, h1, h2, h3, _⟩
      ·rw [e]; decide
      ·rw [e]; exact h3
     dsimp only
     rw [decide_eq_false (by omega), cF, aW (by omega) (by omega)]
     rfl
   rw [aE, hst, bnd, Lib.validD_step _ hne]
   by_cases hb : (Lib.decodeL (s.drop i)).1 = 65533 ∧ (Lib.decodeL (s.drop i)).2 = 1
   ·rw [if_pos hb, if_pos hb]
    rfl
   ·rw [if_neg hb, if_neg hb]
    have hw := Lib.decodeL_width (s.drop i)
    have hle : (Lib.decodeL (s.drop i)).2 ≤ s.length - i := by
     rcases lB (s.drop i) hne with ⟨e, _⟩ | ⟨r, w, e, h1, _⟩
     ·rw [e] at hb; exact absurd ⟨rfl, rfl⟩ hb
     ·rw [e]; rw [List.length_drop] at h1; exact h1
    dsimp only
    rw [nz hs hn m _ (by omega) (by omega) q (by omega), List.drop_drop]
  ·have e : s.drop i = [] := List.drop_eq_nil_of_le (by omega)
   rw [aE, e]
   unfold cx
   rw [decide_eq_false (by omega), cF, bnd]
   rfl
theorem kv {n:Nat} {s:Bs} (hs:s.length<1000000) (hn:5≤n) (hl:s.length<n):dA n s=some (Lib.validD s):=by
 unfold dA
 have h:=nz hs hn s.length 0 (by omega) (by omega) n hl
 rw[show((0:Nat):Int)=0 from rfl,List.drop_zero] at h
 rw[h,bnd]
 cases Lib.validD s<;>rfl
end Go.Proofs.YtkopljikappieaaGreatDoor
end
section
namespace Go.Proofs.YtkopljikappieaaGreatDoor
open Go Go.Vc Go.RowKit
theorem great_ok {n:Nat} (hn:3000<n) (v:TD0): ∃g,gd n v=some g∧(g=false→Small 30 v∧(bY v).length≤5000):=by
 obtain⟨W,w1,w2,w3,w4⟩:=oE hn n 30 v (by omega) (by omega)
 refine⟨decide ((5000:Int)<W),?_,λh=>?_⟩
 ·unfold gd jn
  have e: ((30:Nat):Int)=30:=rfl
  rw[e] at w1
  rw[w1,bnd]
 ·have h':=of_decide_eq_false h
  obtain⟨a,b⟩:=w4 (by omega)
  exact⟨a,by omega⟩
theorem wvs_mem: ∀ {l:List TD0} {x:TD0},x∈l→(bY x).length≤(bh l).length
 |y::r,x,h=>by
  rw[bh,List.length_append]
  rcases List.mem_cons.1 h with rfl|h
  ·omega
  ·have:=wvs_mem h
   omega
end Go.Proofs.YtkopljikappieaaGreatDoor
end
section
namespace Go.Proofs.YtkopljikappieaaGreatDoor
open Go Go.Vc Go.RowKit
def PlainV (v:TD0):Prop:=0≤v.ab∧v.ab≤5∧(v.ah=true→v.ab=1)∧(v.af≠0→v.ab=2)∧(v.aa≠ []→v.ab=3)∧(v.ac.length≠0→v.ab=4∨v.ab=5)∧(v.ab=5→v.ae.length=v.ac.length)∧(v.ab≠5→v.ae.length=0)
instance (v:TD0):Decidable (PlainV v):=by unfold PlainV;exact inferInstance
def aloneV (v:TD0):Int:=
 if PlainV v then(if v.af< -9007199254740992∨9007199254740992<v.af then 20 else if Lib.validD v.aa=true∧∀k∈v.ae,Lib.validD k=true then(if v.ae.Nodup then 0 else 41) else 10) else 2
def NumOut (v:TD0):Prop:=v.af< -9007199254740992∨9007199254740992<v.af
def TextsOk (v:TD0):Prop:=Lib.validD v.aa=true∧∀k∈v.ae,Lib.validD k=true
theorem kU {v:TD0} (h: ¬PlainV v):aloneV v=2:=if_neg h
theorem mI {v:TD0} (h:PlainV v) (hn:NumOut v):aloneV v=20:=(if_pos h).trans (if_pos hn)
theorem jE {v:TD0} (h:PlainV v) (hn: ¬NumOut v) (ht: ¬TextsOk v):aloneV v=10:=((if_pos h).trans (if_neg hn)).trans (if_neg ht)
theorem mJ {v:TD0} (h:PlainV v) (hn: ¬NumOut v) (ht:TextsOk v) (hd: ¬v.ae.Nodup):aloneV v=41:=(((if_pos h).trans (if_neg hn)).trans (if_pos ht)).trans (if_neg hd)
theorem alone_0 {v:TD0} (h:PlainV v) (hn: ¬NumOut v) (ht:TextsOk v) (hd:v.ae.Nodup):aloneV v=0:=(((if_pos h).trans (if_neg hn)).trans (if_pos ht)).trans (if_pos hd)
theorem alone_ok {v:TD0} (h:aloneV v=0):PlainV v∧¬NumOut v∧TextsOk v∧v.ae.Nodup:=by
 by_cases h1:PlainV v
 ·by_cases h2:NumOut v
  ·rw[mI h1 h2] at h;omega
  ·by_cases h3:TextsOk v
   ·by_cases h4:v.ae.Nodup
    ·exact⟨h1,h2,h3,h4⟩
    ·rw[mJ h1 h2 h3 h4] at h;omega
   ·rw[jE h1 h2 h3] at h;omega
 ·rw[kU h1] at h;omega
def Wide (v:TD0):Prop:=v.ac.length≤3000∧v.ae.length≤3000∧v.aa.length≤5000∧∀k∈v.ae,k.length≤5000
theorem Small.wide: ∀ {d:Nat} {v:TD0},Small d v→Wide v
 |_+1,_,h=>⟨h.1,h.2.1,h.2.2.1,h.2.2.2.1⟩
theorem plain_ref {n:Nat} (v:TD0):gS n v=some (decide (PlainV v)):=by
 unfold gS
 by_cases h0:v.ab<0
 · rw[dT h0,cT,bnd,cT,dF (λh=>by have:=h.1;omega)]
 rw[dF h0,cF,bnd]
 by_cases h5:5<v.ab
 · rw[dT h5,cT,dF (λh=>by have:=h.2.1;omega)]
 rw[dF h5,cF]
 have key: ((bif v.ah then
  (bif(!(decide (v.ab=1))) then
   (some ((true)))
  else
   bif(!(decide (v.af=0))) then
    (bif(!(decide (v.ab=2))) then
     (some ((true)))
    else
     bif(!(decide (v.aa=[]))) then
      (some ((!(decide (v.ab=3)))))
     else
      some ((false)))
   else
    bif(!(decide (v.aa=[]))) then
     (some ((!(decide (v.ab=3)))))
    else
     some ((false)))
  else
   bif(!(decide (v.af=0))) then
    (bif(!(decide (v.ab=2))) then
     (some ((true)))
    else
     bif(!(decide (v.aa=[]))) then
      (some ((!(decide (v.ab=3)))))
     else
      some ((false)))
   else
    bif(!(decide (v.aa=[]))) then
     (some ((!(decide (v.ab=3)))))
    else
     some ((false)):Option Bool))=some (!decide ((v.ah=true→v.ab=1)∧(v.af≠0→v.ab=2)∧(v.aa≠ []→v.ab=3))):=by
  cases v.ah<;>by_cases h1:v.ab=1<;>by_cases h2:v.ab=2<;>by_cases h3:v.ab=3<;>by_cases hn:v.af=0<;>by_cases ht:v.aa=[]<;>simp[h1,h2,h3,hn,ht]
 rw[key,bnd]
 by_cases hk: (v.ah=true→v.ab=1)∧(v.af≠0→v.ab=2)∧(v.aa≠ []→v.ab=3)
 · rw[dT hk,nT,cF]
   by_cases hl:v.ac.length=0
   · rw[dF (by omega),cF,bnd,cF]
     by_cases e5:v.ab=5
     · rw[dT e5,cT]
       refine congrArg some (decide_eq_decide.2 ?_)
       unfold PlainV
       constructor
       · intro h;exact⟨by omega,by omega,hk.1,hk.2.1,hk.2.2,λh=>absurd hl h,λ_=>by omega,λh=>absurd e5 h⟩
       · intro h;have:=h.2.2.2.2.2.2.1 e5;omega
     · rw[dF e5,cF]
       refine congrArg some (decide_eq_decide.2 ?_)
       unfold PlainV
       constructor
       · intro h;exact⟨by omega,by omega,hk.1,hk.2.1,hk.2.2,λh=>absurd hl h,λh=>absurd h e5,λ_=>by omega⟩
       · intro h;have:=h.2.2.2.2.2.2.2 e5;omega
   · rw[dT (by omega),cT]
     by_cases e4:v.ab=4
     · rw[dT e4,nT,cF,bnd,cF,dF (by omega),cF]
       refine congrArg some (decide_eq_decide.2 ?_)
       unfold PlainV
       constructor
       · intro h;exact⟨by omega,by omega,hk.1,hk.2.1,hk.2.2,λh=>.inl e4,λh=>by omega,λ_=>by omega⟩
       · intro h;have:=h.2.2.2.2.2.2.2 (by omega);omega
     · rw[dF e4,nF,cT]
       by_cases e5:v.ab=5
       · rw[dT e5,nT,bnd,cF,cT]
         refine congrArg some (decide_eq_decide.2 ?_)
         unfold PlainV
         constructor
         · intro h;exact⟨by omega,by omega,hk.1,hk.2.1,hk.2.2,λh=>.inr e5,λ_=>by omega,λh=>absurd e5 h⟩
         · intro h;have:=h.2.2.2.2.2.2.1 e5;omega
       · rw[dF e5,nF,bnd,cT,dF]
         intro h
         have:=h.2.2.2.2.2.1 hl
         omega
 · rw[dF hk,nF,cT,dF]
   intro h
   exact hk ⟨h.2.2.1,h.2.2.2.1,h.2.2.2.2.1⟩
theorem iS {α:Type} {l:List α} {i:Nat} {x:α} (h:l[i]? =some x) (y:α):y∈l.take (i+1)↔y∈l.take i∨y=x:=by
 rw[List.take_add_one,h,List.mem_append]
 simp
theorem eS {α:Type} {l:List α} {i:Nat} {x:α} (h:l[i]? =some x): (l.take (i+1)).Nodup↔ (l.take i).Nodup∧x∉l.take i:=by
 rw[List.take_add_one,h]
 simp only[Option.toList_some,List.nodup_append]
 constructor
 ·rintro⟨h1,_,h3⟩
  exact⟨h1,λhx=>h3 x hx x (by simp) rfl⟩
 ·rintro⟨h1,h2⟩
  refine⟨h1,by simp,λa ha b hb=>?_⟩
  simp only[List.mem_singleton] at hb
  subst hb
  intro e
  exact h2 (e▸ha)
theorem kC {α:Type} {l:List α} (i:Nat) (h:l.Nodup): (l.take i).Nodup:=(List.take_sublist i l).nodup h
theorem keys_ref {n:Nat} (hn:6000<n) {v:TD0} (hw:Wide v):aE (dt n v) n (0:Int)=some (bif v.ae.any (λk=> !Lib.validD k) then .inl () else .inr ()):=by
 rw[←lA [] (λk=> !Lib.validD k) v.ae]
 refine lf (λk=> !Lib.validD (v.ae.getD k [])) v.ae.length _ _ (λk hk=>?_) ?_ (by have:=hw.2.1;omega)
 ·unfold dt
  have hm:v.ae.getD k []∈v.ae:=by simp[List.getD,hk]
  have hl:=hw.2.2.2 _ hm
  rw[dT (by omega),cT,da [] hk,bnd,kv (by omega) (by omega) (by omega),bnd]
  cases Lib.validD (v.ae.getD k []) with
  |true=>rw[nT,cF,aW (by omega) (by have:=hw.2.1;omega)];simp
  |false=>rw[nF,cT];simp
 ·unfold dt
  rw[dF (by omega),cF]
theorem twice_in {n:Nat} (hn:6000<n) {v:TD0} (hw:Wide v) {i:Nat} (hi:i<v.ae.length):aE (du n v (i:Int)) n (0:Int)=some (bif(List.range i).any (λk=>decide (v.ae.getD k []=v.ae.getD i [])) then .inl () else .inr ()):=by
 refine lf (λk=>decide (v.ae.getD k []=v.ae.getD i [])) i _ _ (λk hk=>?_) ?_ (by have:=hw.2.1;omega)
 ·unfold du
  rw[dT (by omega),cT,da [] (by omega),bnd,da [] hi,bnd]
  by_cases h:v.ae.getD k []=v.ae.getD i []
  ·rw[dT h,cT];simp
  ·rw[dF h,cF,aW (by omega) (by have:=hw.2.1;omega)];simp
 ·unfold du
  rw[dF (by omega),cF]
theorem any_take {l:List Bs} {i:Nat} (hi:i<l.length): (List.range i).any (λk=>decide (l.getD k []=l.getD i []))=decide (l[i]∈l.take i):=by
 rw[Bool.eq_iff_iff,List.any_eq_true,decide_eq_true_eq,List.mem_take_iff_getElem]
 constructor
 ·rintro⟨k,hk,h⟩
  have hk':k<i:=by simpa using hk
  refine⟨k,by omega,?_⟩
  have:=of_decide_eq_true h
  simpa [List.getD,hi,(by omega:k<l.length)] using this
 ·rintro⟨k,hk,h⟩
  refine⟨k,List.mem_range.2 (by omega),?_⟩
  simpa [List.getD,hi,(by omega:k<l.length)] using h
theorem twice_ref {n:Nat} (hn:6000<n) {v:TD0} (hw:Wide v):aE (cY n v) n (0:Int)=some (bif decide v.ae.Nodup then .inr () else .inl ()):=by
 obtain⟨b,hb,hp⟩:=iq (step:=cY n v) (n:=n) (s0:=(0:Int)) (λk s=>s=(k:Int)∧(v.ae.take k).Nodup)
  (λb=>b=bif decide v.ae.Nodup then .inr () else .inl ()) v.ae.length ⟨rfl,by simp⟩
  (λq s hq hI=>by
   obtain⟨rfl,hnd⟩:=hI
   unfold cY
   rw[dT (by omega),cT,twice_in hn hw hq,bnd,any_take hq]
   have hx:v.ae[q]? =some v.ae[q]:=List.getElem?_eq_getElem hq
   by_cases hm:v.ae[q]∈v.ae.take q
   ·rw[dT hm,cT]
    refine .inr ⟨_,rfl,?_⟩
    rw[dF,cF]
    intro h
    exact((eS hx).1 (kC (q+1) h)).2 hm
   ·rw[dF hm,cF]
    dsimp only
    rw[aW (by omega) (by have:=hw.2.1;omega)]
    exact .inl ⟨_,rfl,by omega,(eS hx).2 ⟨hnd,hm⟩⟩)
  (λs hI=>by
   obtain⟨rfl,hnd⟩:=hI
   rw[List.take_length] at hnd
   unfold cY
   rw[dF (by omega),cF]
   exact⟨_,rfl,by rw[dT hnd,cT]⟩) (by have:=hw.2.1;omega)
 rw[hb,hp]
def faultL:List TD0→Int
 |[]=>0
 |x::r=>if aloneV x=0 then faultL r else aloneV x
theorem kJ: ∀l m:List TD0,faultL (l++m)=if faultL l=0 then faultL m else faultL l
 |[],m=>by simp[faultL]
 |x::l,m=>by
  rw[List.cons_append,faultL,faultL,kJ l m]
  by_cases h:aloneV x=0
  ·rw[if_pos h,if_pos h]
  ·rw[if_neg h,if_neg h,if_neg h]
theorem lD (v:TD0):faultL (bY v)=if aloneV v=0 then faultL (bh v.ac) else aloneV v:=by rw[eR,faultL]
theorem faultL_take {l:List TD0} {i:Nat} {x:TD0} (h:l[i]? =some x):faultL (bh (l.take (i+1)))=if faultL (bh (l.take i))=0 then faultL (bY x) else faultL (bh (l.take i)):=by rw[kg h,kJ]
theorem oG {n : Nat} (hn : 6000 < n) : ∀ (k d : Nat) (v : TD0), d ≤ k → Small d v → cQ n k v = some (faultL (bY v))
 | _, 0, v, _, h => h.elim
 | 0, d + 1, v, h, _ => absurd h (by omega)
 | k + 1, d + 1, v, hk, hs => by
  have hw := hs.wide
  obtain ⟨h1, h2, h3, h4, h5⟩ := hs
  show eN n (cQ n k) v = _
  unfold eN
  rw [lD, plain_ref, bnd]
  by_cases hp : PlainV v
  ·rw [decide_eq_true hp, Bool.not_true, cF]
   by_cases hnum : NumOut v
   ·rw [mI hp hnum, if_neg (by decide)]
    rcases hnum with hm | hm
    ·rw [decide_eq_true hm, cT, bnd, cT]
    ·by_cases hm' : v.af < -9007199254740992
     ·omega
     ·rw [decide_eq_false hm', cF, bnd, decide_eq_true hm, cT]
   ·have hnum' : ¬ (v.af < -9007199254740992 ∨ 9007199254740992 < v.af) := hnum
    rw [decide_eq_false (by omega), cF, bnd, decide_eq_false (by omega), cF, kv (by omega) (by omega) (by omega), bnd, keys_ref hn hw, twice_ref hn hw]
    cases hv : Lib.validD v.aa with
    | false =>
     rw [Bool.not_false, cT, jE hp hnum (fun h => by rw [h.1] at hv; cases hv), if_neg (by decide)]
    | true =>
     rw [Bool.not_true, cF, bnd]
     by_cases ha : ∀ k ∈ v.ae, Lib.validD k = true
     ·have : v.ae.any (fun k => !Lib.validD k) = false := by
       rw [List.any_eq_false]
       intro x hx
       simp [ha x hx]
      rw [this, cF]
      dsimp only
      rw [bnd]
      by_cases hd : v.ae.Nodup
      ·rw [decide_eq_true hd, cT, alone_0 hp hnum ⟨hv, ha⟩ hd, if_pos rfl]
       dsimp only
       obtain ⟨b, hb, hpost⟩ := iq (step := dv n (cQ n k) v) (n := n) (s0 := (0 : Int)) (fun q s => s = (q : Int) ∧ faultL (bh (v.ac.take q)) = 0)
        (fun b => match b with | .inl e => e = faultL (bh v.ac) | .inr () => faultL (bh v.ac) = 0) v.ac.length ⟨rfl, by simp [bh, faultL]⟩
        (fun q s hq hI => by
         obtain ⟨rfl, hf⟩ := hI
         have hx : v.ac[q]? = some v.ac[q] := List.getElem?_eq_getElem hq
         have hg : aQ v.ac (q : Int) = some v.ac[q] := by simp [aQ]
         have hft := faultL_take hx
         rw [if_pos hf] at hft
         unfold dv
         rw [decide_eq_true (by omega), cT, hg, bnd, oG hn k d _ (by omega) (h5 _ (List.getElem_mem hq)), bnd]
         by_cases he : faultL (bY v.ac[q]) = 0
         ·rw [decide_eq_true he, Bool.not_true, cF, aW (by omega) (by omega)]
          exact .inl ⟨_, rfl, by omega, by rw [hft]; exact he⟩
         ·rw [decide_eq_false he, Bool.not_false, cT]
          refine .inr ⟨_, rfl, ?_⟩
          have hsplit : bh v.ac = bh (v.ac.take (q + 1)) ++ bh (v.ac.drop (q + 1)) := by rw [← jx, List.take_append_drop]
          dsimp only
          rw [hsplit, kJ, hft, if_neg he])
        (fun s hI => by
         obtain ⟨rfl, hf⟩ := hI
         rw [List.take_length] at hf
         unfold dv
         rw [decide_eq_false (by omega), cF]
         exact ⟨_, rfl, hf⟩) (by omega)
       rw [hb, bnd]
       cases b with
       | inl e => dsimp only at hpost ⊢; rw [hpost]
       | inr u => dsimp only at hpost ⊢; rw [hpost]
      ·rw [decide_eq_false hd, cF, mJ hp hnum ⟨hv, ha⟩ hd, if_neg (by decide)]
     ·rw [jE hp hnum (fun h => ha h.2), if_neg (by decide)]
      have : v.ae.any (fun k => !Lib.validD k) = true := by
       rw [List.any_eq_true]
       apply Classical.byContradiction
       intro h
       apply ha
       intro k hk
       cases hvk : Lib.validD k with
       | true => rfl
       | false => exact absurd ⟨k, hk, by simp [hvk]⟩ h
      rw [this, cT]
  ·rw [decide_eq_false hp, Bool.not_false, cT, kU hp, if_neg (by decide)]
end Go.Proofs.YtkopljikappieaaGreatDoor
end
section
namespace Go.Proofs.YtkopljikappieaaGreatDoor
open Go Go.Vc Go.RowKit
theorem lX {n:Nat} {s:Bs} (h:s.length<1000000):cR n s=some (Lib.validD s):=by
 unfold cR eI
 rw[aX (by omega),bnd]
theorem contains_run {n:Nat} (hn:6000<n) {v:TD0} (hw:Wide v):bc n v.ae=some (v.ae.any (λk=> !Lib.validD k)):=by
 unfold bc bQ
 have hl:=hw.2.1
 have hd: ∀k:Nat,k<v.ae.length→aU n v.ae (k:Int)=some (if !Lib.validD (v.ae.getD k []) then .br (.inl (k:Int)) else .nx ((k:Int)+1)):=λk hk=>by
  unfold aU ii
  have hm:v.ae.getD k []∈v.ae:=by simp[List.getD,hk]
  have:=hw.2.2.2 _ hm
  rw[dT (by omega),cT,da [] hk,bnd,lX (by omega),bnd,bnd]
  cases Lib.validD (v.ae.getD k []) with
  |true=>rw[nT,cF,aW (by omega) (by omega)];rfl
  |false=>rw[nF,cT];rfl
 obtain⟨b,hb,hp⟩:=iq (step:=aU n v.ae) (n:=n) (s0:=(0:Int)) (λq s=>s=(q:Int)∧∀k∈v.ae.take q,Lib.validD k=true)
  (λb=>match b with|.inl i=>0≤i∧v.ae.any (λk=> !Lib.validD k)=true|.inr ()=>v.ae.any (λk=> !Lib.validD k)=false) v.ae.length ⟨rfl,by simp⟩
  (λq s hq hI=>by
   obtain⟨rfl,hf⟩:=hI
   have hx:v.ae[q]? =some v.ae[q]:=List.getElem?_eq_getElem hq
   rw[hd q hq]
   have hg:v.ae.getD q []=v.ae[q]:=by simp[List.getD,hq]
   rw[hg]
   cases hv:Lib.validD v.ae[q] with
   |true=>
    refine .inl ⟨_,rfl,by omega,λk hk=>?_⟩
    rcases(iS hx k).1 hk with h|h
    ·exact hf k h
    ·rw[h];exact hv
   |false=>
    refine .inr ⟨_,rfl,by omega,?_⟩
    rw[List.any_eq_true]
    exact⟨_,List.getElem_mem hq,by simp[hv]⟩)
  (λs hI=>by
   obtain⟨rfl,hf⟩:=hI
   rw[List.take_length] at hf
   unfold aU
   rw[dF (by omega),cF]
   refine⟨_,rfl,?_⟩
   dsimp only
   rw[List.any_eq_false]
   intro x hx
   simp[hf x hx]) (by omega)
 rw[hb,bnd]
 cases b with
 |inl i=>dsimp only at hp ⊢;rw[bnd,hp.2,dT hp.1]
 |inr u=>dsimp only at hp ⊢;rw[bnd,hp];rfl
theorem twice_run {n:Nat} (hn:6000<n) {v:TD0} (hw:Wide v): ∃b,aE (cV n v) n ((0:Int),([]:List (Bs×Bool)))=some b∧(match b with|.inl _=>¬v.ae.Nodup|.inr _=>v.ae.Nodup):=by
 have hl:=hw.2.1
 refine iq (step:=cV n v) (n:=n) (λq s=>s.1=(q:Int)∧(∀x,(dz s.2 x).getD false=decide (x∈v.ae.take q))∧(v.ae.take q).Nodup)
  (λb=>match b with|.inl _=>¬v.ae.Nodup|.inr _=>v.ae.Nodup) v.ae.length ⟨rfl,λx=>by simp[dz],by simp⟩
  (λq s hq hI=>?_) (λs hI=>?_) (by omega)
 ·obtain⟨i,m⟩:=s
  obtain⟨h1,h2,h3⟩:=hI
  have h1':i=(q:Int):=h1
  subst h1'
  dsimp only at h2
  have hx:v.ae[q]? =some v.ae[q]:=List.getElem?_eq_getElem hq
  have hg:aQ v.ae (q:Int)=some v.ae[q]:=by simp[aQ]
  unfold cV
  dsimp only
  rw[dT (by omega),cT,hg,bnd,h2]
  by_cases hm:v.ae[q]∈v.ae.take q
  ·rw[dT hm,cT]
   exact .inr ⟨_,rfl,λh=>((eS hx).1 (kC (q+1) h)).2 hm⟩
  ·rw[dF hm,cF,aW (by omega) (by omega)]
   refine .inl ⟨_,rfl,by dsimp only;omega,λx=>?_,(eS hx).2 ⟨h3,hm⟩⟩
   dsimp only
   rw[mget_mput]
   by_cases hxe:v.ae[q]=x
   ·rw[if_pos hxe,dT ((iS hx x).2 (.inr hxe.symm))];rfl
   ·rw[if_neg hxe,h2]
    refine decide_eq_decide.2 ?_
    rw[iS hx]
    exact⟨.inl,λh=>h.elim id λh=>absurd h.symm hxe⟩
 ·obtain⟨i,m⟩:=s
  obtain⟨h1,h2,h3⟩:=hI
  have h1':i=(v.ae.length:Int):=h1
  subst h1'
  rw[List.take_length] at h3
  unfold cV
  dsimp only
  rw[dF (by omega),cF]
  exact⟨_,rfl,h3⟩
theorem alone_run {n : Nat} (hn : 6000 < n) {v : TD0} (hw : Wide v) : iD n v = some (aloneV v) := by
 obtain ⟨hl, hk, ht, hkk⟩ := id hw
 unfold iD
 -- the rest: either 2 at once, or what is left
 have tail : ∀ y : Bool × Int × List UInt8 × List TD0 × List (List UInt8), y.2.2.2.1.length ≤ 3000 → y.2.2.2.2.length ≤ 3000 → (PlainV v ↔ (y.1 = false ∧ y.2.1 = 0 ∧ y.2.2.1 = [] ∧ y.2.2.2.1.length = 0 ∧ y.2.2.2.2.length = 0)) →
   (((((bif y.1 then
    (some ((true)))
   else
    bif (!(decide (y.2.1 = 0))) then
     (some ((true)))
    else
     bif (!(decide (y.2.2.1 = []))) then
      (some ((true)))
     else
      aS (inR .i64 (((y.2.2.2.1.length : Nat) : Int) + ((y.2.2.2.2.length : Nat) : Int))) <|
      some ((decide ((0 : Int) < (((y.2.2.2.1.length : Nat) : Int) + ((y.2.2.2.2.length : Nat) : Int))))) : Option Bool)).bind fun y_2 =>
  bif y_2 then
   (((some ((2 : Int)) : Option Int)).map Lp.br)
  else
   ((bif (decide (v.af < (-9007199254740992))) then
     (some ((true)))
    else
     some ((decide ((9007199254740992 : Int) < v.af))) : Option Bool)).bind fun y_3 =>
   bif y_3 then
    (((some ((20 : Int)) : Option Int)).map Lp.br)
   else
    (cR n v.aa).bind fun x_1 =>
    bif !x_1 then
     (((some ((10 : Int)) : Option Int)).map Lp.br)
    else
     (bc n v.ae).bind fun x_2 =>
     bif x_2 then
      (((some ((10 : Int)) : Option Int)).map Lp.br)
     else
      some (.nx ()) : Option (Lp Unit Int))).bind fun j => joinF j fun _ =>
 (aE (cV n v) n ((0 : Int), ([] : List ((List UInt8) × Bool)))).bind fun b_2 =>
 (match b_2 with 
 | .inl y_5 => some ((41 : Int)) 
 | .inr y_6 => some ((0 : Int)))) = some (aloneV v) := by
  intro y hy1 hy2 hy
  have e : (bif y.1 then
    (some ((true)))
   else
    bif (!(decide (y.2.1 = 0))) then
     (some ((true)))
    else
     bif (!(decide (y.2.2.1 = []))) then
      (some ((true)))
     else
      aS (inR .i64 (((y.2.2.2.1.length : Nat) : Int) + ((y.2.2.2.2.length : Nat) : Int))) <|
      some ((decide ((0 : Int) < (((y.2.2.2.1.length : Nat) : Int) + ((y.2.2.2.2.length : Nat) : Int))))) : Option Bool) = some (!decide (PlainV v)) := by
   rw [aW (by omega) (by omega)]
   by_cases hp : PlainV v
   ·obtain ⟨a1, a2, a3, a4, a5⟩ := hy.1 hp
    rw [a1, cF, decide_eq_true a2, Bool.not_true, cF, decide_eq_true a3, Bool.not_true, cF, decide_eq_false (by omega), decide_eq_true hp]; rfl
   ·rw [decide_eq_false hp, Bool.not_false]
    cases hb : y.1 with
    | true => rw [cT]
    | false =>
     rw [cF]
     by_cases h2 : y.2.1 = 0
     ·rw [decide_eq_true h2, Bool.not_true, cF]
      by_cases h3 : y.2.2.1 = []
      ·rw [decide_eq_true h3, Bool.not_true, cF, decide_eq_true]
       by_cases h4 : y.2.2.2.1.length = 0
       ·by_cases h5 : y.2.2.2.2.length = 0
        ·exact absurd (hy.2 ⟨hb, h2, h3, h4, h5⟩) hp
        ·omega
       ·omega
      ·rw [decide_eq_false h3, Bool.not_false, cT]
     ·rw [decide_eq_false h2, Bool.not_false, cT]
  rw [e, bnd]
  by_cases hp : PlainV v
  ·rw [decide_eq_true hp, Bool.not_true, cF]
   by_cases hnum : NumOut v
   ·rw [mI hp hnum]
    rcases hnum with hm | hm
    ·rw [decide_eq_true hm, cT, bnd, cT, mpS, bnd, jB]
    ·by_cases hm' : v.af < -9007199254740992
     ·omega
     ·rw [decide_eq_false hm', cF, bnd, decide_eq_true hm, cT, mpS, bnd, jB]
   ·have hnum' : ¬ (v.af < -9007199254740992 ∨ 9007199254740992 < v.af) := hnum
    rw [decide_eq_false (by omega), cF, bnd, decide_eq_false (by omega), cF, lX (by omega), bnd, contains_run hn hw]
    cases hv : Lib.validD v.aa with
    | false => rw [Bool.not_false, cT, mpS, bnd, jB, jE hp hnum (fun h => by rw [h.1] at hv; cases hv)]
    | true =>
     rw [Bool.not_true, cF, bnd]
     by_cases ha : ∀ k ∈ v.ae, Lib.validD k = true
     ·have : v.ae.any (fun k => !Lib.validD k) = false := by
       rw [List.any_eq_false]
       intro x hx
       simp [ha x hx]
      rw [this, cF, bnd, jN]
      obtain ⟨b, hb, hpost⟩ := twice_run hn hw
      rw [hb, bnd]
      cases b with
      | inl m => dsimp only at hpost ⊢; rw [mJ hp hnum ⟨hv, ha⟩ hpost]
      | inr m => dsimp only at hpost ⊢; rw [alone_0 hp hnum ⟨hv, ha⟩ hpost]
     ·have : v.ae.any (fun k => !Lib.validD k) = true := by
       rw [List.any_eq_true]
       apply Classical.byContradiction
       intro h
       apply ha
       intro k hk
       cases hvk : Lib.validD k with
       | true => rfl
       | false => exact absurd ⟨k, hk, by simp [hvk]⟩ h
      rw [this, cT, mpS, bnd, jB, jE hp hnum (fun h => ha h.2)]
  ·rw [decide_eq_false hp, Bool.not_false, cT, mpS, bnd, jB, kU hp]
 have len0 : ∀ {α : Type} {l : List α}, l = [] ↔ l.length = 0 := fun {α l} => by simp
 by_cases h0 : v.ab = 0
 ·rw [decide_eq_true h0, cT, bnd, jN]
  refine tail _ hl hk ?_
  unfold PlainV
  dsimp only
  rw [h0]
  constructor
  ·rintro ⟨_, _, a, b, c, d, _, e⟩
   refine ⟨?_, ?_, ?_, ?_, e (by omega)⟩
   ·cases hb : v.ah with
    | false => rfl
    | true => have := a hb; omega
   ·apply Classical.byContradiction; intro h; have := b h; omega
   ·apply Classical.byContradiction; intro h; have := c h; omega
   ·apply Classical.byContradiction; intro h; have := d h; omega
  ·rintro ⟨a, b, c, d, e⟩
   exact ⟨by omega, by omega, fun h => (by rw [a] at h; cases h), fun h => absurd b h, fun h => absurd c h, fun h => absurd d h, fun h => by omega, fun _ => e⟩
 rw [decide_eq_false h0, cF]
 by_cases h1 : v.ab = 1
 ·rw [decide_eq_true h1, cT, bnd, jN]
  refine tail _ hl hk ?_
  unfold PlainV
  dsimp only
  rw [h1]
  constructor
  ·rintro ⟨_, _, a, b, c, d, _, e⟩
   refine ⟨rfl, ?_, ?_, ?_, e (by omega)⟩
   ·apply Classical.byContradiction; intro h; have := b h; omega
   ·apply Classical.byContradiction; intro h; have := c h; omega
   ·apply Classical.byContradiction; intro h; have := d h; omega
  ·rintro ⟨_, b, c, d, e⟩
   exact ⟨by omega, by omega, fun _ => rfl, fun h => absurd b h, fun h => absurd c h, fun h => absurd d h, fun h => by omega, fun _ => e⟩
 rw [decide_eq_false h1, cF]
 by_cases h2 : v.ab = 2
 ·rw [decide_eq_true h2, cT, bnd, jN]
  refine tail _ hl hk ?_
  unfold PlainV
  dsimp only
  rw [h2]
  constructor
  ·rintro ⟨_, _, a, b, c, d, _, e⟩
   refine ⟨?_, rfl, ?_, ?_, e (by omega)⟩
   ·cases hb : v.ah with
    | false => rfl
    | true => have := a hb; omega
   ·apply Classical.byContradiction; intro h; have := c h; omega
   ·apply Classical.byContradiction; intro h; have := d h; omega
  ·rintro ⟨a, _, c, d, e⟩
   exact ⟨by omega, by omega, fun h => (by rw [a] at h; cases h), fun _ => rfl, fun h => absurd c h, fun h => absurd d h, fun h => by omega, fun _ => e⟩
 rw [decide_eq_false h2, cF]
 by_cases h3 : v.ab = 3
 ·rw [decide_eq_true h3, cT, bnd, jN]
  refine tail _ hl hk ?_
  unfold PlainV
  dsimp only
  rw [h3]
  constructor
  ·rintro ⟨_, _, a, b, c, d, _, e⟩
   refine ⟨?_, ?_, rfl, ?_, e (by omega)⟩
   ·cases hb : v.ah with
    | false => rfl
    | true => have := a hb; omega
   ·apply Classical.byContradiction; intro h; have := b h; omega
   ·apply Classical.byContradiction; intro h; have := d h; omega
  ·rintro ⟨a, b, _, d, e⟩
   exact ⟨by omega, by omega, fun h => (by rw [a] at h; cases h), fun h => absurd b h, fun _ => rfl, fun h => absurd d h, fun h => by omega, fun _ => e⟩
 rw [decide_eq_false h3, cF]
 by_cases h4 : v.ab = 4
 ·rw [decide_eq_true h4, cT, bnd, jN]
  refine tail _ (by simp) hk ?_
  unfold PlainV
  dsimp only
  rw [h4]
  constructor
  ·rintro ⟨_, _, a, b, c, d, _, e⟩
   refine ⟨?_, ?_, ?_, rfl, e (by omega)⟩
   ·cases hb : v.ah with
    | false => rfl
    | true => have := a hb; omega
   ·apply Classical.byContradiction; intro h; have := b h; omega
   ·apply Classical.byContradiction; intro h; have := c h; omega
  ·rintro ⟨a, b, c, _, e⟩
   exact ⟨by omega, by omega, fun h => (by rw [a] at h; cases h), fun h => absurd b h, fun h => absurd c h, fun _ => .inl rfl, fun h => by omega, fun _ => e⟩
 rw [decide_eq_false h4, cF]
 by_cases h5 : v.ab = 5
 ·rw [decide_eq_true h5, cT]
  by_cases hkl : v.ae.length = v.ac.length
  ·rw [decide_eq_true (by omega), Bool.not_true, cF, bnd, jN]
   refine tail _ (by simp) (by simp) ?_
   unfold PlainV
   dsimp only
   rw [h5]
   constructor
   ·rintro ⟨_, _, a, b, c, d, _, e⟩
    refine ⟨?_, ?_, ?_, rfl, rfl⟩
    ·cases hb : v.ah with
     | false => rfl
     | true => have := a hb; omega
    ·apply Classical.byContradiction; intro h; have := b h; omega
    ·apply Classical.byContradiction; intro h; have := c h; omega
   ·rintro ⟨a, b, c, _, _⟩
    exact ⟨by omega, by omega, fun h => (by rw [a] at h; cases h), fun h => absurd b h, fun h => absurd c h, fun _ => .inr rfl, fun _ => hkl, fun h => absurd rfl h⟩
  ·rw [decide_eq_false (by omega), Bool.not_false, cT, mpS, bnd, jB, kU (fun h => hkl (h.2.2.2.2.2.2.1 h5))]
 ·rw [decide_eq_false h5, cF, mpS, bnd, jB, kU]
  intro h
  have a := h.1
  have b := h.2.1
  omega
end Go.Proofs.YtkopljikappieaaGreatDoor
end
section
namespace Go.Proofs.YtkopljikappieaaGreatDoor
open Go Go.Vc Go.RowKit
mutual
def depthV:TD0→Nat
 |⟨_,_,_,_,l,_⟩=>depthVs l+1
def depthVs:List TD0→Nat
 |[]=>0
 |x::r=>max (depthV x) (depthVs r)
end
theorem lC (v:TD0):depthV v=depthVs v.ac+1:=by cases v;rw[depthV]
theorem ma: ∀l m:List TD0,depthVs (l++m)=max (depthVs l) (depthVs m)
 |[],m=>by simp[depthVs]
 |x::l,m=>by rw[List.cons_append,depthVs,depthVs,ma l m];omega
theorem kX {l:List TD0} {i:Nat} {x:TD0} (h:l[i]? =some x):depthVs (l.take (i+1))=max (depthVs (l.take i)) (depthV x):=by
 rw[List.take_add_one,h,ma]
 simp[depthVs]
theorem mb: ∀ {l:List TD0} {x:TD0},x∈l→depthV x≤depthVs l
 |y::r,x,h=>by
  rw[depthVs]
  rcases List.mem_cons.1 h with rfl|h
  ·omega
  ·have:=mb h
   omega
theorem depthV_pos (v:TD0):1≤depthV v:=by rw[lC];omega
theorem oa {n:Nat} (hn:6000<n): ∀ (k d:Nat) (v:TD0) (left:Nat),d≤k→Small d v→left≤1000→dj n k v (left:Int)=some ((min (depthV v) (left+1):Nat):Int)
 |_,0,v,_,_,h,_=>h.elim
 |0,d+1,v,_,h,_,_=>absurd h (by omega)
 |k+1,d+1,v,left,hk,hs,hle=>by
  obtain⟨h1,h2,h3,h4,h5⟩:=hs
  show gD n (dj n k) v left=_
  unfold gD
  have:=nb (step:=dX n (dj n k) v (left:Int)) (n:=n) (λq=>(((min (depthVs (v.ac.take q)) left:Nat):Int),(q:Int))) v.ac.length ((min (depthVs v.ac) left:Nat):Int) (λq hq=>by
   have hx:v.ac[q]? =some v.ac[q]:=List.getElem?_eq_getElem hq
   have hg:aQ v.ac (q:Int)=some v.ac[q]:=by simp[aQ]
   unfold dX
   dsimp only
   rw[dT (by omega),cT]
   by_cases hl:left=0
   ·subst hl
    rw[dF (by omega),cF,aW (by omega) (by omega)]
    simp
   ·have hl1: ((left:Nat):Int)-1=((left-1:Nat):Int):=by omega
    rw[dT (by omega),cT,hg,bnd,aW (by omega) (by omega),hl1,oa hn k d _ (left-1) (by omega) (h5 _ (List.getElem_mem hq)) (by omega),bnd,aW (by omega) (by omega),kX hx]
    congr 3
    omega) (by
   unfold dX
   dsimp only
   rw[dF (by omega),cF,List.take_length]) (by omega)
  have e0: ((0:Nat):Int)=0:=rfl
  simp only[List.take_zero,depthVs,Nat.zero_min,e0] at this
  rw[this,bnd,aW (by omega) (by omega),lC]
  congr 1
  omega
theorem mN {n:Nat} (hn:6000<n): ∀ (k d:Nat) (v:TD0) (left:Nat),d≤k→Small d v→left≤1000→cy n k v (left:Int)=some (decide (left<depthV v))
 |_,0,v,_,_,h,_=>h.elim
 |0,d+1,v,_,h,_,_=>absurd h (by omega)
 |k+1,d+1,v,left,hk,hs,hle=>by
  obtain⟨h1,h2,h3,h4,h5⟩:=hs
  show el n (cy n k) v left=_
  unfold el
  by_cases hl:left=0
  ·subst hl
   have:=depthV_pos v
   rw[dT (by omega),cT,dT (by omega)]
  rw[dF (by omega),cF]
  obtain⟨b,hb,hp⟩:=iq (step:=de n (cy n k) v (left:Int)) (n:=n) (s0:=(0:Int)) (λq s=>s=(q:Int)∧depthVs (v.ac.take q)<left) (λb=>match b with|.inl _=>left≤depthVs v.ac|.inr _=>depthVs v.ac<left) v.ac.length ⟨rfl,by simp[depthVs];omega⟩ (λq s hq hI=>by
   obtain⟨rfl,hI⟩:=hI
   have hx:v.ac[q]? =some v.ac[q]:=List.getElem?_eq_getElem hq
   have hg:aQ v.ac (q:Int)=some v.ac[q]:=by simp[aQ]
   have hm:v.ac[q]∈v.ac:=List.getElem_mem hq
   have hdm:=mb hm
   unfold de
   have hl1: ((left:Nat):Int)-1=((left-1:Nat):Int):=by omega
   rw[dT (by omega),cT,hg,bnd,aW (by omega) (by omega),hl1,mN hn k d _ (left-1) (by omega) (h5 _ hm) (by omega),bnd]
   by_cases hd:left-1<depthV v.ac[q]
   ·rw[dT hd,cT]
    refine .inr ⟨_,rfl,?_⟩
    dsimp only
    omega
   ·rw[dF hd,cF,aW (by omega) (by omega)]
    refine .inl ⟨_,rfl,by omega,?_⟩
    rw[kX hx]
    omega) (λs hI=>by
   obtain⟨rfl,hI⟩:=hI
   rw[List.take_length] at hI
   unfold de
   rw[dF (by omega),cF]
   exact⟨_,rfl,hI⟩) (by omega)
  rw[hb,bnd]
  have:=lC v
  cases b with
  |inl u=>dsimp only at hp ⊢;rw[dT (by omega)]
  |inr u=>dsimp only at hp ⊢;rw[dF (by omega)]
theorem nY {n:Nat} (hn:6000<n): ∀ (k d:Nat) (v:TD0),d≤k→Small d v→(bY v).length≤5900→cP n k v=some ((bY v).length:Int)
 |_,0,v,_,h,_=>h.elim
 |0,d+1,v,h,_,_=>absurd h (by omega)
 |k+1,d+1,v,hk,hs,hlen=>by
  obtain⟨h1,h2,h3,h4,h5⟩:=hs
  show eM n (cP n k) v=_
  unfold eM
  have hwl: (bY v).length=(bh v.ac).length+1:=by rw[eR,List.length_cons]
  have:=nb (step:=dr n (cP n k) v) (n:=n) (λq=>(((bh (v.ac.take q)).length:Int)+1,(q:Int))) v.ac.length ((bh v.ac).length+1:Int) (λq hq=>by
   have hx:v.ac[q]? =some v.ac[q]:=List.getElem?_eq_getElem hq
   have hg:aQ v.ac (q:Int)=some v.ac[q]:=by simp[aQ]
   have hm:v.ac[q]∈v.ac:=List.getElem_mem hq
   have hw1:=jy hm
   have hw2: (bh (v.ac.take q)).length≤(bh v.ac).length:=by
    have:=congrArg List.length (jx (v.ac.take q) (v.ac.drop q))
    rw[List.take_append_drop,List.length_append] at this
    omega
   unfold dr
   dsimp only
   rw[dT (by omega),cT,hg,bnd,nY hn k d _ (by omega) (h5 _ hm) (by omega),bnd,aW (by omega) (by omega),aW (by omega) (by omega),kg hx,List.length_append]
   congr 3
   push_cast
   omega) (by
   unfold dr
   dsimp only
   rw[dF (by omega),cF,List.take_length]) (by omega)
  have e0: ((0:Nat):Int)=0:=rfl
  have e1: (0:Int)+1=1:=rfl
  simp only[List.take_zero,bh,List.length_nil,e0,e1] at this
  rw[this,bnd,hwl]
  rfl
structure Fine (v:TD0):Prop where
 small:Small 60 v
 few: (bY v).length≤5900
theorem Small.le: ∀ {d e:Nat} {v:TD0},d≤e→Small d v→Small e v
 |0,_,_,_,h=>h.elim
 |d+1,0,_,hde,_=>absurd hde (by omega)
 |d+1,e+1,_,hde,h=>⟨h.1,h.2.1,h.2.2.1,h.2.2.2.1,λx hx=>Small.le (by omega) (h.2.2.2.2 x hx)⟩
theorem Fine.part {v x:TD0} (h:Fine v) (hx:x∈v.ac):Fine x:=by
 refine⟨Small.le (d:=59) (by omega) (h.small.2.2.2.2 x hx),?_⟩
 have:=jy hx
 have:=h.few
 rw[eR,List.length_cons] at this
 omega
theorem nv : ∀ {d : Nat} {v x : TD0}, Small d v → x ∈ bY v → Small d x
 | d + 1, v, x, h, hx => by
  rw [eR] at hx
  rcases List.mem_cons.1 hx with rfl | hx
  ·exact h
  ·have key : ∀ l : List TD0, (∀ y ∈ l, Small d y) → x ∈ bh l → Small d x := by
    intro l
    induction l with
    | nil => intro _ hx; simp [bh] at hx
    | cons y r ih =>
     intro hl hx
     rw [bh, List.mem_append] at hx
     rcases hx with hx | hx
     ·exact nv (hl y List.mem_cons_self) hx
     ·exact ih (fun z hz => hl z (List.mem_cons_of_mem _ hz)) hx
   exact Small.le (by omega) (key _ h.2.2.2.2 hx)
def checkV (v:TD0):Int:=if 24<depthV v then 30 else if faultL (bY v)=0 then(if 4096<(bY v).length then 3 else 0) else faultL (bY v)
theorem check_ref {n:Nat} (hn:6000<n) {v:TD0} (h:Fine v):gR n v=some (checkV v):=by
 unfold gR jl jX jW checkV
 have e: ((24:Nat):Int)=24:=rfl
 have:=mN hn n 60 v 24 (by omega) h.small (by omega)
 rw[e] at this
 rw[this,bnd]
 by_cases hd:24<depthV v
 ·rw[dT hd,cT,if_pos hd]
 ·rw[dF hd,cF,if_neg hd,oG hn n 60 v (by omega) h.small,bnd]
  by_cases hf:faultL (bY v)=0
  ·rw[if_pos hf,dT hf,nT,cF,nY hn n 60 v (by omega) h.small h.few,bnd]
   by_cases hc:4096<(bY v).length
   ·rw[if_pos hc,dT (by omega),cT]
   ·rw[if_neg hc,dF (by omega),cF]
  ·rw[if_neg hf,dF hf,nF,cT]
theorem mM {n:Nat} (hn:6000<n): ∀ (l:List TD0) (s:Nat),(∀x∈l,Wide x)→s+l.length≤6000→∃j,iY (dW n) l (s:Int)=some j∧(match j with|.nx t=>faultL l=0∧t=((s+l.length:Nat):Int)|.br b=>faultL l≠0∧b.2=faultL l)
 |[],s,_,_=>⟨_,rfl,rfl,by simp⟩
 |x::r,s,hw,hl=>by
  rw[List.length_cons] at hl
  unfold iY faultL
  have e:dW n (s:Int) x=if aloneV x=0 then some (.nx ((s+1:Nat):Int)) else some (.br ((s:Int),aloneV x)):=by
   unfold dW
   have ex: (⟨x.ab,(x.ah),x.af,x.aa,x.ac,x.ae⟩:TD0)=x:=by cases x;rfl
   try rw[ex]
   rw[alone_run hn (hw x List.mem_cons_self),bnd]
   by_cases h:aloneV x=0
   ·rw[if_pos h,dT h,nT,cF,aW (by omega) (by omega)]
    congr 2
   ·rw[if_neg h,dF h,nF,cT]
  rw[e]
  by_cases h:aloneV x=0
  ·rw[if_pos h,if_pos h,bnd]
   obtain⟨j,hj,hp⟩:=mM hn r (s+1) (λy hy=>hw y (List.mem_cons_of_mem _ hy)) (by omega)
   refine⟨j,hj,?_⟩
   cases j with
   |nx t=>dsimp only at hp ⊢;exact⟨hp.1,by rw[hp.2,List.length_cons];omega⟩
   |br b=>exact hp
  ·rw[if_neg h,if_neg h,bnd]
   exact⟨_,rfl,h,rfl⟩
theorem check_run {n:Nat} (hn:6000<n) {v:TD0} (h:Fine v):gL n v=some (checkV v):=by
 unfold gL kR checkV
 have e: ((24:Nat):Int)=24:=rfl
 have hd0:=oa hn n 60 v 24 (by omega) h.small (by omega)
 rw[e] at hd0
 rw[hd0,bnd]
 by_cases hd:24<depthV v
 ·rw[dT (by omega),cT,if_pos hd]
 ·rw[dF (by omega),cF,if_neg hd,aX (by have:=h.few;omega)]
  obtain⟨j,hj,hp⟩:=mM hn (bY v) 0 (λx hx=>(nv h.small hx).wide) (by have:=h.few;omega)
  have e0: ((0:Nat):Int)=0:=rfl
  rw[e0] at hj
  rw[hj,bnd]
  cases j with
  |nx t=>
   dsimp only at hp ⊢
   rw[if_pos hp.1]
   by_cases hc:4096<(bY v).length
   ·rw[if_pos hc,dT (by omega),cT]
   ·rw[if_neg hc,dF (by omega),cF]
  |br b=>
   dsimp only at hp ⊢
   rw[if_neg hp.1,hp.2]
end Go.Proofs.YtkopljikappieaaGreatDoor
end
section
namespace Go.Proofs.YtkopljikappieaaGreatDoor
open Go Go.Vc Go.RowKit
def OkV (v:TD0):Prop:=faultL (bY v)=0
theorem iH: ∀ {l:List TD0},faultL l=0↔ ∀x∈l,aloneV x=0
 |[]=>by simp[faultL]
 |x::r=>by
  rw[faultL]
  by_cases h:aloneV x=0
  ·rw[if_pos h,iH (l:=r)]
   simp[h]
  ·rw[if_neg h]
   constructor
   ·intro e;exact absurd e h
   ·intro e;exact absurd (e x List.mem_cons_self) h
theorem kM {x:TD0}: ∀ {l:List TD0},x∈bh l↔ ∃y∈l,x∈bY y
 |[]=>by simp[bh]
 |y::r=>by
  rw[bh,List.mem_append,kM (l:=r)]
  simp
theorem OkV_iff {v:TD0}:OkV v↔aloneV v=0∧∀x∈v.ac,OkV x:=by
 unfold OkV
 rw[iH,eR]
 constructor
 ·intro h
  refine⟨h v List.mem_cons_self,λx hx=>?_⟩
  rw[iH]
  intro y hy
  exact h y (List.mem_cons_of_mem _ (kM.2 ⟨x,hx,hy⟩))
 ·rintro⟨h1,h2⟩ x hx
  rcases List.mem_cons.1 hx with rfl|hx
  ·exact h1
  ·obtain⟨y,hy,hxy⟩:=kM.1 hx
   exact iH.1 (h2 y hy) x hxy
theorem checkV_ok {v:TD0} (h:checkV v=0):OkV v∧depthV v≤24∧(bY v).length≤4096:=by
 unfold checkV at h
 by_cases h1:24<depthV v
 ·rw[if_pos h1] at h;omega
 ·rw[if_neg h1] at h
  by_cases h2:faultL (bY v)=0
  ·rw[if_pos h2] at h
   by_cases h3:4096<(bY v).length
   ·rw[if_pos h3] at h;omega
   ·exact⟨h2,by omega,by omega⟩
  ·rw[if_neg h2] at h;exact absurd h h2
theorem OkV.plain {v:TD0} (h:OkV v):PlainV v:=(alone_ok (OkV_iff.1 h).1).1
theorem OkV.part {v x:TD0} (h:OkV v) (hx:x∈v.ac):OkV x:=(OkV_iff.1 h).2 x hx
theorem great_fine {n:Nat} (hn:6000<n) (v:TD0): ∃g,gd n v=some g∧(g=false→Fine v∧Small 30 v∧(bY v).length≤5000):=by
 obtain⟨g,h1,h2⟩:=great_ok (n:=n) (by omega) v
 exact⟨g,h1,λh=>⟨⟨Small.le (by omega) (h2 h).1,by have:=(h2 h).2;omega⟩,h2 h⟩⟩
end Go.Proofs.YtkopljikappieaaGreatDoor
end
end
