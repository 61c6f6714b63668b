/-
  Texts of this claim, packed (what nothing names is left out): Q3, Q4, Q6, Q2, SubM, VkG, VkH, VkI, VkP, X0, X0h, X1w, Num, NumC, TextC, Num2, NumH. Own work, partly printed by own programs. No condition.
-/
import Derived.Test.YtkopljikappieaaGreatDoorPkQ1
import Derived.Test.YtkopljikappieaaGreatDoorRows
import Derived.Test.YtkopljikappieaaGreatDoorPkQ2
import Derived.Lib.IndexLaws
import Derived.Laws.StructEq
import GoSem.Op.String
set_option linter.unusedVariables false
set_option linter.unusedSimpArgs false
set_option maxHeartbeats 2000000
section
namespace Go.Proofs.YtkopljikappieaaGreatDoor
open Go Go.Vc Go.RowKit
def dO (n:Nat) (aY:Bs):Option (Int×Bs):=
 some ((((aY.length:Nat):Int),aY))
theorem jF (n:Nat) (M:Mem) (b0:Nat) (Z1:Oa) (gV: (Z1=none∨Z1=some ⟨b0,0,none⟩)) (aY:Bs) (Z2:Oa) (P1:Nat) (L1:Lv) (D1:ag M (aY.map embB) L1) (r:Int×Bs) (hF:dO n aY=some r):OkH Tryz.prog M [oC b0 #[.pointer Z1,sL Z2 aY P1] 142,rO 5 1 Z2 aY P1 L1] 117 [pP b0] (λM' E' v=>∃ (Z3:Oa) (Z4:Oa) (P2:Nat) (L2:Lv),v=iL r.1∧E'=[oC b0 #[.pointer Z3,sL Z4 r.2 P2] 142,rO 5 1 Z4 r.2 P2 L2]∧(Z3=none∨Z3=some ⟨b0,0,none⟩)∧ag M' (r.2.map embB) L2):=by
 unfold dO at hF
 intro M1 hM0 w0 H w p0
 replace D1:=ag.mono hM0 _ _ D1
 refine Re 8 Tryz.func117 rfl λa0 f0=>RR (Ye f0 1 λ_ f=>RR (Y f 3 λ_ f=>Z f (Y30 (v:=sL Z2 aY P1) rfl (ad:=⟨b0,1,none⟩) (p0.ownCell 0 rfl 1)) λ_ f=>Ye f 2 λ_ f=>wp_ret (aJ f rfl (Lk 2 (iL ((aY.length:Nat):Int))) ?_)))
 cases sI hF
 exact⟨_,rfl,M1,_,(mR _),p0,⟨Z1,Z2,P1,L1,rfl,rfl,gV,D1⟩⟩
def dl (n:Nat) (aY:Bs):Option (Bs×Bs):=
 some ((aY,aY))
theorem cc (n:Nat) (M:Mem) (b0:Nat) (Z1:Oa) (gV: (Z1=none∨Z1=some ⟨b0,0,none⟩)) (aY:Bs) (Z2:Oa) (P1:Nat) (L1:Lv) (D1:ag M (aY.map embB) L1) (r:Bs×Bs) (hF:dl n aY=some r):OkH Tryz.prog M [oC b0 #[.pointer Z1,sL Z2 aY P1] 142,rO 5 1 Z2 aY P1 L1] 118 [pP b0] (λM' E' v=>∃ (Z3:Oa) (Z4:Oa) (P2:Nat),v=S r.1∧E'=[oC b0 #[.pointer Z3,sL Z4 r.2 P2] 142]∧(Z3=none∨Z3=some ⟨b0,0,none⟩)∧Sli M' 1 embB Z4 P2 r.2):=by
 unfold dl at hF
 intro M1 hM0 w0 H w p0
 replace D1:=ag.mono hM0 _ _ D1
 refine Re 14 Tryz.func118 rfl λa0 f0=>RR (Ye f0 1 λ_ f=>aq ?_)
 have N1:=p0.pl [1]
 refine ei (E:=[rO 5 1 Z2 aY P1 L1]) (Hr:=((oC b0 #[.pointer Z1,sL Z2 aY P1] 142)::H)) [(0,true),(1,true),(2,true),(3,true),(5,true),(6,true),(7,true),(8,true),(9,true),(4,false),(10,false),(11,true)] N1 kr kr rfl kr (Y0 default f 3 λ_ f=>cg (v:=sL Z2 aY P1) f kr kr rfl rfl (λ_ pq=>Y30 (v:=sL Z2 aY P1) rfl (ad:=⟨b0,1,none⟩) (pq.ownCell 0 rfl 1)) λ_ f=>Y0 default f 3 λ_ f=>cg (v:=sL Z2 aY P1) f kr kr rfl rfl (λ_ pq=>Y30 (v:=sL Z2 aY P1) rfl (ad:=⟨b0,1,none⟩) (pq.ownCell 0 rfl 1)) λ_ f=>Y0 default f 1 λ_ f=>cd (E:=[rO 5 1 Z2 aY P1 L1]) λW1 N2=>W_sliceData (v:=sL Z2 aY P1) f N2 kr kr rfl rfl rfl kr kr λeM W2 N3 hd_1 _ f=>am rfl (dC (M1:=M1) (E:=[rO 5 1 Z2 aY P1 L1]) (mR _) N3 (cd (E:=[rO 5 1 Z2 aY P1 L1]) λW3 N4=>mY (q:=eM) (v:=sL Z2 aY P1) (l:=aY) (A:=Z2) (cap:=P1) rfl f N4 D1 hd_1 kr kr rfl rfl rfl kr kr kr kr λV1 W4 J1 N5 B1 _ f=>am rfl (dC (M1:=V1) (E:=[]) J1 N5 (Y0 default f 1 λ_ f=>eh rfl λW5 N6=>aS (wp_ret (aJ f rfl (Lk 2 (S aY)) ?_)))))))
 cases sI hF
 exact⟨_,rfl,V1,_,J1,N6,⟨Z1,Z2,P1,rfl,rfl,gV,B1⟩⟩
def bQ (n:Nat) (aY:Bs):Option Bs:=
 some (aY)
theorem il (n:Nat) (M:Mem) (b0:Nat) (aY:Bs) (Z1:Oa) (P1:Nat) (L1:Lv) (D1:ag M (aY.map embB) L1) (r:Bs) (hF:bQ n aY=some r):OkH Tryz.prog M [oC b0 #[.pointer none,sL Z1 aY P1] 142,rO 5 1 Z1 aY P1 L1] 140 [pP b0] (λM' E' v=>∃ (Z2:Oa) (Z3:Oa) (P2:Nat) (L2:Lv),v=.tuple #[]∧E'=[oC b0 #[.pointer Z2,sL Z3 r P2] 142,rO 5 1 Z3 r P2 L2]∧(Z2=none∨Z2=some ⟨b0,0,none⟩)∧ag M' (r.map embB) L2):=by
 unfold bQ at hF
 intro M1 hM0 w0 H w p0
 replace D1:=ag.mono hM0 _ _ D1
 refine Re 20 Tryz.func140 rfl λa0 f0=>RR (Y f0 3 λ_ f=>Z f (Y30 (v:=.pointer none) rfl (ad:=⟨b0,0,none⟩) (p0.ownCell 0 rfl 0)) λ_ f=>Z (v:=bO true) f (X_ptrNil (q:=none) (e:=142) rfl kr kr kr _) λ_ f=>eT (Y8 f (aN (Y f 2 λ_ f=>Z (v:=pP b0) f (X_toUnsafe rfl kr (t:=142) kr kr kr p0 (i:=0) rfl (by simp)) λ_ f=>Z (v:=pP b0) f (X_here kr) λ_ f=>Z (v:=pP b0) f (X_fromUnsafe rfl kr (u:=142) kr kr kr p0 (i:=0) rfl kr) λ_ f=>Y f 2 λ_ f=>Y25 f p0 0 rfl rfl (b:=b0) (j:=0) (v:=pP b0) rfl (by exact rfl) (by simp) (by simp) _ rfl λW1 N1 _ f=>am rfl (dK f rfl ?_)))))
 cases sI hF
 exact⟨_,rfl,M1,_,(mR _),N1,⟨(some ⟨b0,0,none⟩),Z1,P1,L1,rfl,rfl,(.inr rfl),D1⟩⟩
def eH (n:Nat) (aY:Bs):Option Bs:=
 some (aY)
theorem hO (n:Nat) (M:Mem) (b0:Nat) (aY:Bs) (Z1:Oa) (P1:Nat) (L1:Lv) (D1:ag M (aY.map embB) L1) (r:Bs) (hF:eH n aY=some r):OkH Tryz.prog M [oC b0 #[pP b0,sL Z1 aY P1] 142,rO 5 1 Z1 aY P1 L1] 140 [pP b0] (λM' E' v=>∃ (Z2:Oa) (Z3:Oa) (P2:Nat) (L2:Lv),v=.tuple #[]∧E'=[oC b0 #[.pointer Z2,sL Z3 r P2] 142,rO 5 1 Z3 r P2 L2]∧(Z2=none∨Z2=some ⟨b0,0,none⟩)∧ag M' (r.map embB) L2):=by
 unfold eH at hF
 intro M1 hM0 w0 H w p0
 replace D1:=ag.mono hM0 _ _ D1
 refine Re 20 Tryz.func140 rfl λa0 f0=>RR (Y f0 3 λ_ f=>Z f (Y30 (v:=pP b0) rfl (ad:=⟨b0,0,none⟩) (p0.ownCell 0 rfl 0)) λ_ f=>Z (v:=bO false) f (X_ptrNil (q:=some (⟨b0,0,none⟩)) (e:=142) rfl kr kr kr _) λ_ f=>eT (Y7 f (RR (Y f 3 λ_ f=>Z f (Y30 (v:=pP b0) rfl (ad:=⟨b0,0,none⟩) (p0.ownCell 0 rfl 0)) λ_ f=>Y f 1 λ_ f=>Z (v:=bO false) f (X_ptrNeSame (a:=⟨b0,0,none⟩) (e:=142) rfl kr kr kr kr _) λ_ f=>eT (Y7 f (wp_skip (dK f rfl ?_)))))))
 cases sI hF
 exact⟨_,rfl,M1,_,(mR _),p0,⟨(some ⟨b0,0,none⟩),Z1,P1,L1,rfl,rfl,(.inr rfl),D1⟩⟩
def bz (n:Nat) (aY:Bs):Option Bs:=bQ n aY
theorem cJ (n:Nat) (M:Mem) (b0:Nat) (Z1:Oa) (gV: (Z1=none∨Z1=some ⟨b0,0,none⟩)) (aY:Bs) (Z2:Oa) (P1:Nat) (L1:Lv) (D1:ag M (aY.map embB) L1) (r:Bs) (hF:bz n aY=some r):OkH Tryz.prog M [oC b0 #[.pointer Z1,sL Z2 aY P1] 142,rO 5 1 Z2 aY P1 L1] 140 [pP b0] (λM' E' v=>∃ (Z3:Oa) (Z4:Oa) (P2:Nat) (L2:Lv),v=.tuple #[]∧E'=[oC b0 #[.pointer Z3,sL Z4 r P2] 142,rO 5 1 Z4 r P2 L2]∧(Z3=none∨Z3=some ⟨b0,0,none⟩)∧ag M' (r.map embB) L2):=by
 rcases gV with rfl|rfl
 ·exact il n M b0 aY Z2 P1 L1 D1 r hF
 ·exact hO n M b0 aY Z2 P1 L1 D1 r hF
def bV (n:Nat) (aY:Bs) (d1:Bs):Option (Int×Unit×Bs):=
 (bz n aY).bind λX1=>
 bb ((X1.length+d1.length)*1≤140737488355328)<|
 some (((d1.length:Int),(),X1++d1))
theorem gZ (n:Nat) (M:Mem) (b0:Nat) (Z1:Oa) (gV: (Z1=none∨Z1=some ⟨b0,0,none⟩)) (aY:Bs) (Z2:Oa) (P1:Nat) (L1:Lv) (D1:ag M (aY.map embB) L1) (d1:Bs) (r:Int×Unit×Bs) (hF:bV n aY d1=some r):OkH Tryz.prog M [oC b0 #[.pointer Z1,sL Z2 aY P1] 142,rO 5 1 Z2 aY P1 L1] 121 [pP b0,S d1] (λM' E' v=>∃ (Z6:Oa) (Z7:Oa) (P4:Nat) (L4:Lv),v=.tuple #[iL r.1,.nilIface]∧E'=[oC b0 #[.pointer Z6,sL Z7 r.2.2 P4] 142,rO 5 1 Z7 r.2.2 P4 L4]∧(Z6=none∨Z6=some ⟨b0,0,none⟩)∧ag M' (r.2.2.map embB) L4):=by
 unfold bV at hF
 intro M1 hM0 w0 H w p0
 replace D1:=ag.mono hM0 _ _ D1
 refine Re 19 Tryz.func121 rfl λa0 f0=>RR (Ye f0 2 λ_ f=>RR (Y f 1 λ_ f=>?_))
 obtain⟨X1,l1,F1⟩:=bS hF
 refine Y17 (E:=[oC b0 #[.pointer Z1,sL Z2 aY P1] 142,rO 5 1 Z2 aY P1 L1]) (H:=(H)) f p0 (cJ n _ b0 Z1 gV aY Z2 P1 L1 D1 X1 l1) λ_ V1 mN W1 J1 N1 eM _ f=>?_
 obtain⟨Z3,Z4,P2,L2,rfl,rfl,lz,D2⟩:=eM
 refine eT (RR (Y f 4 λ_ f=>Z f (Y30 (v:=sL Z4 X1 P2) rfl (ad:=⟨b0,1,none⟩) (N1.ownCell 0 rfl 1)) λ_ f=>Y f 1 λ_ f=>?_))
 have N2:=N1.pl [1]
 obtain⟨O1,F2⟩:=nS F1
 refine Y22 (z:=.int .u8 0) (xs:=X1) (l:=d1) f N2 D2 rfl rfl rfl O1 (by omega) λZ5 P3 L3 W2 N3 D3 _ f=>Y f 2 λ_ f=>Y25 f N3 1 rfl rfl (b:=b0) (j:=1) (v:=sL Z5 (X1++d1) P3) rfl (by exact rfl) (by simp) (by simp) _ rfl λW3 N4 _ f=>eT (RR (Ye f 4 λ_ f=>wp_ret (ij f rfl (Lk 4 (iL (d1.length:Int))) (Lk 5 (.nilIface)) ?_)))
 cases sI F2
 have N5:=N4.pl [1]
 exact⟨_,rfl,V1,_,J1,N5,⟨Z3,Z5,P3,L3,rfl,rfl,lz,D3⟩⟩
def bf (n:Nat) (aY:Bs) (d1:Int):Option (Unit×Bs):=
 (bz n aY).bind λX1=>
 bb (0≤d1∧d1<256)<|
 bb ((X1.length+1)*1≤140737488355328)<|
 some (((),X1++[UInt8.ofNat (d1).toNat]))
theorem di (n:Nat) (M:Mem) (b0:Nat) (Z1:Oa) (gV: (Z1=none∨Z1=some ⟨b0,0,none⟩)) (aY:Bs) (Z2:Oa) (P1:Nat) (L1:Lv) (D1:ag M (aY.map embB) L1) (d1:Int) (r:Unit×Bs) (hF:bf n aY d1=some r):OkH Tryz.prog M [oC b0 #[.pointer Z1,sL Z2 aY P1] 142,rO 5 1 Z2 aY P1 L1] 123 [pP b0,.int .u8 d1] (λM' E' v=>∃ (Z6:Oa) (Z7:Oa) (P4:Nat) (L4:Lv),v=.nilIface∧E'=[oC b0 #[.pointer Z6,sL Z7 r.2 P4] 142,rO 5 1 Z7 r.2 P4 L4]∧(Z6=none∨Z6=some ⟨b0,0,none⟩)∧ag M' (r.2.map embB) L4):=by
 unfold bf at hF
 intro M1 hM0 w0 H w p0
 replace D1:=ag.mono hM0 _ _ D1
 refine Re 17 Tryz.func123 rfl λa0 f0=>RR (Ye f0 1 λ_ f=>RR (Y f 1 λ_ f=>?_))
 obtain⟨X1,l1,F1⟩:=bS hF
 refine Y17 (E:=[oC b0 #[.pointer Z1,sL Z2 aY P1] 142,rO 5 1 Z2 aY P1 L1]) (H:=(H)) f p0 (cJ n _ b0 Z1 gV aY Z2 P1 L1 D1 X1 l1) λ_ V1 mN W1 J1 N1 eM _ f=>?_
 obtain⟨Z3,Z4,P2,L2,rfl,rfl,lz,D2⟩:=eM
 refine eT (RR (Y f 4 λ_ f=>Z f (Y30 (v:=sL Z4 X1 P2) rfl (ad:=⟨b0,1,none⟩) (N1.ownCell 0 rfl 1)) λ_ f=>Y f 1 λ_ f=>aQ (k:=1) (c:=1) f N1 (.cells #[.int .u8 d1] 5 (0,0)) kr (λ_=>by kernel_rfl) λQ1 W2 N2 _ f=>?_))
 obtain⟨O1,F2⟩:=nS F1
 have N3:=N2.pl [2]
 obtain⟨O2,F3⟩:=nS F2
 refine Y20 (z:=.int .u8 0) (f:=embB) (xs:=X1) (ys:=[UInt8.ofNat (d1).toNat]) (news:=[.int .u8 d1]) (ad:=⟨Q1,0,none⟩) (m:=1) (c:=1) f N3 D2 (by exact⟨_,_,rfl,(gC (by omega)),rfl⟩) rfl rfl rfl rfl (an (N3.ownCell 1 rfl) 0 rfl) (by exact O2) (by have hg_:=O2;first|omega|(simp only[List.length_cons,List.length_nil] at*;omega)) λZ5 P3 L3 W3 N4 D3 _ f=>?_
 have N5:=N4.pl [1]
 have N6:=N5.drop
 refine Y f 2 λ_ f=>Y25 f N6 1 rfl rfl (b:=b0) (j:=1) (v:=sL Z5 (X1++[UInt8.ofNat (d1).toNat]) P3) rfl (by exact rfl) (by simp) (by simp) _ rfl λW4 N7 _ f=>eT (RR (Ye f 1 λ_ f=>wp_ret (aJ f rfl (Lk 4 (.nilIface)) ?_)))
 cases sI F3
 have N8:=N7.pl [1]
 exact⟨_,rfl,V1,_,J1,N8,⟨Z3,Z5,P3,L3,rfl,rfl,lz,D3⟩⟩
def bW (n:Nat) (d0:Bs) (d1:Int):Option Bs:=
 bb (inR .u32 (d1))<|
 bif(decide (d1≤2047)) then
  (bb (0≤(bOr .u8 (192:Int) (IntKind.wrap .u8 (bShr .i32 d1 (6:Int))))∧(bOr .u8 (192:Int) (IntKind.wrap .u8 (bShr .i32 d1 (6:Int))))<256)<|
  bb (0≤(bOr .u8 (128:Int) (bAnd .u8 (IntKind.wrap .u8 (d1)) (63:Int)))∧(bOr .u8 (128:Int) (bAnd .u8 (IntKind.wrap .u8 (d1)) (63:Int)))<256)<|
  bb ((d0.length+2)*1≤140737488355328)<|
  some (d0++[UInt8.ofNat (bOr .u8 (192:Int) (IntKind.wrap .u8 (bShr .i32 d1 (6:Int)))).toNat,UInt8.ofNat (bOr .u8 (128:Int) (bAnd .u8 (IntKind.wrap .u8 (d1)) (63:Int))).toNat]))
 else
  ((bif(decide (d1<55296)) then
   (some ((decide (d1<55296))))
    else
     bif(decide ((57343:Int)<d1)) then
      (some ((decide (d1≤65535))))
     else
      some ((false)):Option Bool)).bind λG1=>
  bif G1 then
   (bb (0≤(bOr .u8 (224:Int) (IntKind.wrap .u8 (bShr .i32 d1 (12:Int))))∧(bOr .u8 (224:Int) (IntKind.wrap .u8 (bShr .i32 d1 (12:Int))))<256)<|
   bb (0≤(bOr .u8 (128:Int) (bAnd .u8 (IntKind.wrap .u8 (bShr .i32 d1 (6:Int))) (63:Int)))∧(bOr .u8 (128:Int) (bAnd .u8 (IntKind.wrap .u8 (bShr .i32 d1 (6:Int))) (63:Int)))<256)<|
   bb (0≤(bOr .u8 (128:Int) (bAnd .u8 (IntKind.wrap .u8 (d1)) (63:Int)))∧(bOr .u8 (128:Int) (bAnd .u8 (IntKind.wrap .u8 (d1)) (63:Int)))<256)<|
   bb ((d0.length+3)*1≤140737488355328)<|
   some (d0++[UInt8.ofNat (bOr .u8 (224:Int) (IntKind.wrap .u8 (bShr .i32 d1 (12:Int)))).toNat,UInt8.ofNat (bOr .u8 (128:Int) (bAnd .u8 (IntKind.wrap .u8 (bShr .i32 d1 (6:Int))) (63:Int))).toNat,UInt8.ofNat (bOr .u8 (128:Int) (bAnd .u8 (IntKind.wrap .u8 (d1)) (63:Int))).toNat]))
  else
   ((bif(decide ((65535:Int)<d1)) then
    (some ((decide (d1≤1114111))))
     else
      some ((false)):Option Bool)).bind λG2=>
   bif G2 then
    (bb (0≤(bOr .u8 (240:Int) (IntKind.wrap .u8 (bShr .i32 d1 (18:Int))))∧(bOr .u8 (240:Int) (IntKind.wrap .u8 (bShr .i32 d1 (18:Int))))<256)<|
    bb (0≤(bOr .u8 (128:Int) (bAnd .u8 (IntKind.wrap .u8 (bShr .i32 d1 (12:Int))) (63:Int)))∧(bOr .u8 (128:Int) (bAnd .u8 (IntKind.wrap .u8 (bShr .i32 d1 (12:Int))) (63:Int)))<256)<|
    bb (0≤(bOr .u8 (128:Int) (bAnd .u8 (IntKind.wrap .u8 (bShr .i32 d1 (6:Int))) (63:Int)))∧(bOr .u8 (128:Int) (bAnd .u8 (IntKind.wrap .u8 (bShr .i32 d1 (6:Int))) (63:Int)))<256)<|
    bb (0≤(bOr .u8 (128:Int) (bAnd .u8 (IntKind.wrap .u8 (d1)) (63:Int)))∧(bOr .u8 (128:Int) (bAnd .u8 (IntKind.wrap .u8 (d1)) (63:Int)))<256)<|
    bb ((d0.length+4)*1≤140737488355328)<|
    some (d0++[UInt8.ofNat (bOr .u8 (240:Int) (IntKind.wrap .u8 (bShr .i32 d1 (18:Int)))).toNat,UInt8.ofNat (bOr .u8 (128:Int) (bAnd .u8 (IntKind.wrap .u8 (bShr .i32 d1 (12:Int))) (63:Int))).toNat,UInt8.ofNat (bOr .u8 (128:Int) (bAnd .u8 (IntKind.wrap .u8 (bShr .i32 d1 (6:Int))) (63:Int))).toNat,UInt8.ofNat (bOr .u8 (128:Int) (bAnd .u8 (IntKind.wrap .u8 (d1)) (63:Int))).toNat]))
   else
    bb ((d0.length+3)*1≤140737488355328)<|
    some (d0++[(239:UInt8),(191:UInt8),(189:UInt8)])
set_option maxRecDepth 20000 in
theorem gz (n:Nat) (M:Mem) (d0:Bs) (Z1:Oa) (P1:Nat) (L1:Lv) (D1:ag M (d0.map embB) L1) (d1:Int) (r:Bs) (hF:bW n d0 d1=some r):OkH Tryz.prog M [rO 5 1 Z1 d0 P1 L1] 156 [sL Z1 d0 P1,.int .i32 d1] (λM' E' v=>∃ (A0:Oa) (k0:Nat) (s0:Lv),v=sL A0 r k0∧E'=[.row 5 1 (sL A0 r k0) r.length s0]∧ag M' (r.map embB) s0):=by
 unfold bW at hF
 intro M1 hM0 w0 H w p0
 replace D1:=ag.mono hM0 _ _ D1
 refine Re 78 Tryz.func156 rfl λa0 f0=>RR (Ye f0 1 λ_ f=>RR (Y f 1 λ_ f=>?_))
 obtain⟨O1,F1⟩:=nS hF
 refine Y f 1 λ_ f=>?_
 have f:=f.st 7 (iW O1)
 refine Ye f 1 λ_ f=>wp_block (RR (Ye f 3 λ_ f=>RcF f F1 (λB1 F2=>?_) λB1 F6=>?_))
 ·have U1:=dI.1 B1
  refine RR (Y f 3 λ_ f=>Y f 1 λ_ f=>Y f 2 λ_ f=>Y f 1 λ_ f=>Y f 2 λ_ f=>aQ (k:=2) (c:=2) f p0 (.cells #[.int .u8 (bOr .u8 (192:Int) (IntKind.wrap .u8 (bShr .i32 d1 (6:Int)))),.int .u8 (bOr .u8 (128:Int) (bAnd .u8 (IntKind.wrap .u8 (d1)) (63:Int)))] 5 (0,0)) kr (λ_=>by kernel_rfl) λQ1 W1 N1 _ f=>?_)
  obtain⟨O2,F3⟩:=nS F2
  obtain⟨O3,F4⟩:=nS F3
  have N2:=N1.pl [1]
  obtain⟨O4,F5⟩:=nS F4
  refine Y20 (z:=.int .u8 0) (f:=embB) (xs:=d0) (ys:=[UInt8.ofNat (bOr .u8 (192:Int) (IntKind.wrap .u8 (bShr .i32 d1 (6:Int)))).toNat,UInt8.ofNat (bOr .u8 (128:Int) (bAnd .u8 (IntKind.wrap .u8 (d1)) (63:Int))).toNat]) (news:=[.int .u8 (bOr .u8 (192:Int) (IntKind.wrap .u8 (bShr .i32 d1 (6:Int)))),.int .u8 (bOr .u8 (128:Int) (bAnd .u8 (IntKind.wrap .u8 (d1)) (63:Int)))]) (ad:=⟨Q1,0,none⟩) (m:=2) (c:=2) f N2 D1 (by exact⟨_,_,rfl,(gC (by omega)),⟨_,_,rfl,(gC (by omega)),rfl⟩⟩) rfl rfl rfl rfl (an (N2.ownCell 1 rfl) 0 rfl) (by exact O4) (by have hg_:=O4;first|omega|(simp only[List.length_cons,List.length_nil] at*;omega)) λZ2 P2 L2 W2 N3 D2 _ f=>?_
  have N4:=N3.pl [1]
  have N5:=N4.drop
  refine Ye f 1 λ_ f=>wp_ret (hU (aJ f rfl (Lk 4 (sL Z2 (d0++[UInt8.ofNat (bOr .u8 (192:Int) (IntKind.wrap .u8 (bShr .i32 d1 (6:Int)))).toNat,UInt8.ofNat (bOr .u8 (128:Int) (bAnd .u8 (IntKind.wrap .u8 (d1)) (63:Int))).toNat]) P2)) ?_))
  cases sI F5
  exact⟨_,rfl,M1,_,(mR _),N5,⟨Z2,P2,L2,rfl,rfl,D2⟩⟩
 ·have U2:=aA dI B1
  refine aq (RR (Ye f 3 λ_ f=>?_))
  obtain⟨ip,eD,F7⟩:=bS F6
  refine ct (λa_18 W3=>∃G1:Bool,ip=G1∧∃V1:Mem,M1.le V1∧Frm 78 [(0,sL Z1 d0 P1),(1,.int .i32 d1),(5,.int .u32 d1),(25,bO G1)] a_18∧Hp w0 V1 ((rO 5 1 Z1 d0 P1 L1)::H) W3) ?_ ?_
  ·refine RcF f eD (λB2 F8=>?_) λB2 F9=>?_
   ·have U3:=dI.1 B2
    refine St ?_
    exact⟨(decide (d1<55296)),(sI F8).symm,M1,(mR _),f.kp,p0⟩
   ·have U4:=aA dI B2
    refine aN (Y f 3 λ_ f=>?_)
    rcases cE F9 with⟨B3,F10⟩|⟨B3,F11⟩
    ·have U5:=dI.1 B3
     have f:=f.st 30 (cB B3)
     refine Ye f 4 λ_ f=>?_
     exact⟨(decide (d1≤65535)),(sI F10).symm,M1,(mR _),f.kp,p0⟩
    ·have U6:=aA dI B3
     have f:=f.st 30 (cB B3)
     refine Ye f 4 λ_ f=>?_
     exact⟨(false),(sI F11).symm,M1,(mR _),f.kp,p0⟩
  ·rintro a_18 W3 ⟨G1,dg,V1,J1,f,N6⟩
   subst ip
   refine aS (RcF f F7 (λB4 F12=>?_) λB4 F17=>?_)
   ·refine RR (Y f 3 λ_ f=>Y f 1 λ_ f=>Y f 3 λ_ f=>Y f 1 λ_ f=>Y f 3 λ_ f=>Y f 1 λ_ f=>Y f 2 λ_ f=>aQ (k:=3) (c:=3) f N6 (.cells #[.int .u8 (bOr .u8 (224:Int) (IntKind.wrap .u8 (bShr .i32 d1 (12:Int)))),.int .u8 (bOr .u8 (128:Int) (bAnd .u8 (IntKind.wrap .u8 (bShr .i32 d1 (6:Int))) (63:Int))),.int .u8 (bOr .u8 (128:Int) (bAnd .u8 (IntKind.wrap .u8 (d1)) (63:Int)))] 5 (0,0)) kr (λ_=>by kernel_rfl) λQ2 W4 N7 _ f=>?_)
    obtain⟨O5,F13⟩:=nS F12
    obtain⟨O6,F14⟩:=nS F13
    obtain⟨O7,F15⟩:=nS F14
    have N8:=N7.pl [1]
    obtain⟨O8,F16⟩:=nS F15
    refine Y20 (z:=.int .u8 0) (f:=embB) (xs:=d0) (ys:=[UInt8.ofNat (bOr .u8 (224:Int) (IntKind.wrap .u8 (bShr .i32 d1 (12:Int)))).toNat,UInt8.ofNat (bOr .u8 (128:Int) (bAnd .u8 (IntKind.wrap .u8 (bShr .i32 d1 (6:Int))) (63:Int))).toNat,UInt8.ofNat (bOr .u8 (128:Int) (bAnd .u8 (IntKind.wrap .u8 (d1)) (63:Int))).toNat]) (news:=[.int .u8 (bOr .u8 (224:Int) (IntKind.wrap .u8 (bShr .i32 d1 (12:Int)))),.int .u8 (bOr .u8 (128:Int) (bAnd .u8 (IntKind.wrap .u8 (bShr .i32 d1 (6:Int))) (63:Int))),.int .u8 (bOr .u8 (128:Int) (bAnd .u8 (IntKind.wrap .u8 (d1)) (63:Int)))]) (ad:=⟨Q2,0,none⟩) (m:=3) (c:=3) f N8 (ag.mono J1 _ _ D1) (by exact⟨_,_,rfl,(gC (by omega)),⟨_,_,rfl,(gC (by omega)),⟨_,_,rfl,(gC (by omega)),rfl⟩⟩⟩) rfl rfl rfl rfl (an (N8.ownCell 1 rfl) 0 rfl) (by exact O8) (by have hg_:=O8;first|omega|(simp only[List.length_cons,List.length_nil] at*;omega)) λZ3 P3 L3 W5 N9 D3 _ f=>?_
    have N10:=N9.pl [1]
    have N11:=N10.drop
    refine Ye f 1 λ_ f=>wp_ret (hU (aJ f rfl (Lk 4 (sL Z3 (d0++[UInt8.ofNat (bOr .u8 (224:Int) (IntKind.wrap .u8 (bShr .i32 d1 (12:Int)))).toNat,UInt8.ofNat (bOr .u8 (128:Int) (bAnd .u8 (IntKind.wrap .u8 (bShr .i32 d1 (6:Int))) (63:Int))).toNat,UInt8.ofNat (bOr .u8 (128:Int) (bAnd .u8 (IntKind.wrap .u8 (d1)) (63:Int))).toNat]) P3)) ?_))
    cases sI F16
    exact⟨_,rfl,V1,_,J1,N11,⟨Z3,P3,L3,rfl,rfl,D3⟩⟩
   ·refine aq ?_
    obtain⟨nR,kl,F18⟩:=bS F17
    refine ct (λa_32 W6=>∃G2:Bool,nR=G2∧∃V2:Mem,V1.le V2∧Frm 78 [(0,sL Z1 d0 P1),(1,.int .i32 d1),(50,bO G2)] a_32∧Hp w0 V2 ((rO 5 1 Z1 d0 P1 L1)::H) W6) ?_ ?_
    ·refine aN (Y f 3 λ_ f=>?_)
     rcases cE kl with⟨B5,F19⟩|⟨B5,F20⟩
     ·have U9:=dI.1 B5
      have f:=f.st 53 (cB B5)
      refine Ye f 4 λ_ f=>?_
      exact⟨(decide (d1≤1114111)),(sI F19).symm,V1,(mR _),f.kp,N6⟩
     ·have U10:=aA dI B5
      have f:=f.st 53 (cB B5)
      refine Ye f 4 λ_ f=>?_
      exact⟨(false),(sI F20).symm,V1,(mR _),f.kp,N6⟩
    ·rintro a_32 W6 ⟨G2,dD,V2,J2,f,N12⟩
     subst nR
     refine aS (RcF f F18 (λB6 F21=>?_) λB6 F27=>?_)
     ·refine RR (Y f 3 λ_ f=>Y f 1 λ_ f=>Y f 3 λ_ f=>Y f 1 λ_ f=>Y f 4 λ_ f=>Y f 1 λ_ f=>Y f 3 λ_ f=>Y f 1 λ_ f=>Y f 2 λ_ f=>aQ (k:=4) (c:=4) f N12 (.cells #[.int .u8 (bOr .u8 (240:Int) (IntKind.wrap .u8 (bShr .i32 d1 (18:Int)))),.int .u8 (bOr .u8 (128:Int) (bAnd .u8 (IntKind.wrap .u8 (bShr .i32 d1 (12:Int))) (63:Int))),.int .u8 (bOr .u8 (128:Int) (bAnd .u8 (IntKind.wrap .u8 (bShr .i32 d1 (6:Int))) (63:Int))),.int .u8 (bOr .u8 (128:Int) (bAnd .u8 (IntKind.wrap .u8 (d1)) (63:Int)))] 5 (0,0)) kr (λ_=>by kernel_rfl) λQ3 W7 N13 _ f=>?_)
      obtain⟨O9,F22⟩:=nS F21
      obtain⟨O10,F23⟩:=nS F22
      obtain⟨O11,F24⟩:=nS F23
      obtain⟨O12,F25⟩:=nS F24
      have N14:=N13.pl [1]
      obtain⟨O13,F26⟩:=nS F25
      refine Y20 (z:=.int .u8 0) (f:=embB) (xs:=d0) (ys:=[UInt8.ofNat (bOr .u8 (240:Int) (IntKind.wrap .u8 (bShr .i32 d1 (18:Int)))).toNat,UInt8.ofNat (bOr .u8 (128:Int) (bAnd .u8 (IntKind.wrap .u8 (bShr .i32 d1 (12:Int))) (63:Int))).toNat,UInt8.ofNat (bOr .u8 (128:Int) (bAnd .u8 (IntKind.wrap .u8 (bShr .i32 d1 (6:Int))) (63:Int))).toNat,UInt8.ofNat (bOr .u8 (128:Int) (bAnd .u8 (IntKind.wrap .u8 (d1)) (63:Int))).toNat]) (news:=[.int .u8 (bOr .u8 (240:Int) (IntKind.wrap .u8 (bShr .i32 d1 (18:Int)))),.int .u8 (bOr .u8 (128:Int) (bAnd .u8 (IntKind.wrap .u8 (bShr .i32 d1 (12:Int))) (63:Int))),.int .u8 (bOr .u8 (128:Int) (bAnd .u8 (IntKind.wrap .u8 (bShr .i32 d1 (6:Int))) (63:Int))),.int .u8 (bOr .u8 (128:Int) (bAnd .u8 (IntKind.wrap .u8 (d1)) (63:Int)))]) (ad:=⟨Q3,0,none⟩) (m:=4) (c:=4) f N14 (ag.mono (J1.trans J2) _ _ D1) (by exact⟨_,_,rfl,(gC (by omega)),⟨_,_,rfl,(gC (by omega)),⟨_,_,rfl,(gC (by omega)),⟨_,_,rfl,(gC (by omega)),rfl⟩⟩⟩⟩) rfl rfl rfl rfl (an (N14.ownCell 1 rfl) 0 rfl) (by exact O13) (by have hg_:=O13;first|omega|(simp only[List.length_cons,List.length_nil] at*;omega)) λZ4 P4 L4 W8 N15 D4 _ f=>?_
      have N16:=N15.pl [1]
      have N17:=N16.drop
      refine Ye f 1 λ_ f=>wp_ret (hU (aJ f rfl (Lk 4 (sL Z4 (d0++[UInt8.ofNat (bOr .u8 (240:Int) (IntKind.wrap .u8 (bShr .i32 d1 (18:Int)))).toNat,UInt8.ofNat (bOr .u8 (128:Int) (bAnd .u8 (IntKind.wrap .u8 (bShr .i32 d1 (12:Int))) (63:Int))).toNat,UInt8.ofNat (bOr .u8 (128:Int) (bAnd .u8 (IntKind.wrap .u8 (bShr .i32 d1 (6:Int))) (63:Int))).toNat,UInt8.ofNat (bOr .u8 (128:Int) (bAnd .u8 (IntKind.wrap .u8 (d1)) (63:Int))).toNat]) P4)) ?_))
      cases sI F26
      exact⟨_,rfl,V2,_,(J1.trans J2),N17,⟨Z4,P4,L4,rfl,rfl,D4⟩⟩
     ·refine RR (Y f 1 λ_ f=>aQ (k:=3) (c:=3) f N12 (.cells #[.int .u8 239,.int .u8 191,.int .u8 189] 5 (0,0)) kr (λ_=>by kernel_rfl) λQ4 W9 N18 _ f=>?_)
      have N19:=N18.pl [1]
      obtain⟨O14,F28⟩:=nS F27
      refine Y20 (z:=.int .u8 0) (f:=embB) (xs:=d0) (ys:=[(239:UInt8),(191:UInt8),(189:UInt8)]) (news:=[.int .u8 239,.int .u8 191,.int .u8 189]) (ad:=⟨Q4,0,none⟩) (m:=3) (c:=3) f N19 (ag.mono (J1.trans J2) _ _ D1) (by exact⟨_,_,rfl,rfl,⟨_,_,rfl,rfl,⟨_,_,rfl,rfl,rfl⟩⟩⟩) rfl rfl rfl rfl (an (N19.ownCell 1 rfl) 0 rfl) (by exact O14) (by have hg_:=O14;first|omega|(simp only[List.length_cons,List.length_nil] at*;omega)) λZ5 P5 L5 W10 N20 D5 _ f=>?_
      have N21:=N20.pl [1]
      have N22:=N21.drop
      refine Ye f 1 λ_ f=>wp_ret (hU (aJ f rfl (Lk 4 (sL Z5 (d0++[(239:UInt8),(191:UInt8),(189:UInt8)]) P5)) ?_))
      cases sI F28
      exact⟨_,rfl,V2,_,(J1.trans J2),N22,⟨Z5,P5,L5,rfl,rfl,D5⟩⟩
def cm (n:Nat) (d0:Bs) (d1:Int):Option Bs:=
 bb (inR .u32 (d1))<|
 bif(decide (d1≤127)) then
  (bb (0≤(IntKind.wrap .u8 (d1))∧(IntKind.wrap .u8 (d1))<256)<|
  bb ((d0.length+1)*1≤140737488355328)<|
  some (d0++[UInt8.ofNat (IntKind.wrap .u8 (d1)).toNat]))
 else
  (bW n d0 d1).bind λX1=>
  some (X1)
theorem iO (n:Nat) (M:Mem) (d0:Bs) (Z1:Oa) (P1:Nat) (L1:Lv) (D1:ag M (d0.map embB) L1) (d1:Int) (r:Bs) (hF:cm n d0 d1=some r):OkH Tryz.prog M [rO 5 1 Z1 d0 P1 L1] 142 [sL Z1 d0 P1,.int .i32 d1] (λM' E' v=>∃ (A0:Oa) (k0:Nat) (s0:Lv),v=sL A0 r k0∧E'=[.row 5 1 (sL A0 r k0) r.length s0]∧ag M' (r.map embB) s0):=by
 unfold cm at hF
 intro M1 hM0 w0 H w p0
 replace D1:=ag.mono hM0 _ _ D1
 refine Re 16 Tryz.func142 rfl λa0 f0=>RR (Ye f0 1 λ_ f=>aq (RR (Y f 1 λ_ f=>?_)))
 obtain⟨O1,F1⟩:=nS hF
 refine Y f 1 λ_ f=>?_
 have f:=f.st 6 (iW O1)
 refine Ye f 1 λ_ f=>RcF f F1 (λB1 F2=>?_) λB1 F5=>?_
 ·have U1:=dI.1 B1
  refine RR (Y f 2 λ_ f=>Y f 1 λ_ f=>aQ (k:=1) (c:=1) f p0 (.cells #[.int .u8 (IntKind.wrap .u8 (d1))] 5 (0,0)) kr (λ_=>by kernel_rfl) λQ1 W1 N1 _ f=>?_)
  obtain⟨O2,F3⟩:=nS F2
  have N2:=N1.pl [1]
  obtain⟨O3,F4⟩:=nS F3
  refine Y20 (z:=.int .u8 0) (f:=embB) (xs:=d0) (ys:=[UInt8.ofNat (IntKind.wrap .u8 (d1)).toNat]) (news:=[.int .u8 (IntKind.wrap .u8 (d1))]) (ad:=⟨Q1,0,none⟩) (m:=1) (c:=1) f N2 D1 (by exact⟨_,_,rfl,(gC (by omega)),rfl⟩) rfl rfl rfl rfl (an (N2.ownCell 1 rfl) 0 rfl) (by exact O3) (by have hg_:=O3;first|omega|(simp only[List.length_cons,List.length_nil] at*;omega)) λZ2 P2 L2 W2 N3 D2 _ f=>?_
  have N4:=N3.pl [1]
  have N5:=N4.drop
  refine Ye f 1 λ_ f=>wp_ret (dj (aJ f rfl (Lk 4 (sL Z2 (d0++[UInt8.ofNat (IntKind.wrap .u8 (d1)).toNat]) P2)) ?_))
  cases sI F4
  exact⟨_,rfl,M1,_,(mR _),N5,⟨Z2,P2,L2,rfl,rfl,D2⟩⟩
 ·have U2:=aA dI B1
  refine St (RR (Y f 2 λ_ f=>?_))
  obtain⟨X1,l1,F6⟩:=bS F5
  refine Y17 (E:=[rO 5 1 Z1 d0 P1 L1]) (H:=(H)) f p0 (gz n _ d0 Z1 P1 L1 D1 d1 X1 l1) λ_ V1 mN W3 J1 N6 eM _ f=>?_
  obtain⟨Z3,P3,L3,rfl,rfl,D3⟩:=eM
  refine Ye f 1 λ_ f=>wp_ret (aJ f rfl (Lk 4 (sL Z3 X1 P3)) ?_)
  cases sI F6
  exact⟨_,rfl,V1,_,J1,N6,⟨Z3,P3,L3,rfl,rfl,D3⟩⟩
def bt (n:Nat) (aY:Bs) (d1:Int):Option (Int×Unit×Bs):=
 (bz n aY).bind λX1=>
 (cm n X1 d1).bind λX2=>
 bb (inR .i64 (((X2.length:Nat):Int)- ((X1.length:Nat):Int)))<|
 some ((((X2.length:Nat):Int)- ((X1.length:Nat):Int),(),X2))
theorem er (n:Nat) (M:Mem) (b0:Nat) (Z1:Oa) (gV: (Z1=none∨Z1=some ⟨b0,0,none⟩)) (aY:Bs) (Z2:Oa) (P1:Nat) (L1:Lv) (D1:ag M (aY.map embB) L1) (d1:Int) (r:Int×Unit×Bs) (hF:bt n aY d1=some r):OkH Tryz.prog M [oC b0 #[.pointer Z1,sL Z2 aY P1] 142,rO 5 1 Z2 aY P1 L1] 124 [pP b0,.int .i32 d1] (λM' E' v=>∃ (Z6:Oa) (Z7:Oa) (P4:Nat) (L4:Lv),v=.tuple #[iL r.1,.nilIface]∧E'=[oC b0 #[.pointer Z6,sL Z7 r.2.2 P4] 142,rO 5 1 Z7 r.2.2 P4 L4]∧(Z6=none∨Z6=some ⟨b0,0,none⟩)∧ag M' (r.2.2.map embB) L4):=by
 unfold bt at hF
 intro M1 hM0 w0 H w p0
 replace D1:=ag.mono hM0 _ _ D1
 refine Re 30 Tryz.func124 rfl λa0 f0=>RR (Ye f0 2 λ_ f=>RR (Y f 1 λ_ f=>?_))
 obtain⟨X1,l1,F1⟩:=bS hF
 refine Y17 (E:=[oC b0 #[.pointer Z1,sL Z2 aY P1] 142,rO 5 1 Z2 aY P1 L1]) (H:=(H)) f p0 (cJ n _ b0 Z1 gV aY Z2 P1 L1 D1 X1 l1) λ_ V1 mN W1 J1 N1 eM _ f=>?_
 obtain⟨Z3,Z4,P2,L2,rfl,rfl,lz,D2⟩:=eM
 refine eT (RR (Y f 3 λ_ f=>Z f (Y30 (v:=sL Z4 X1 P2) rfl (ad:=⟨b0,1,none⟩) (N1.ownCell 0 rfl 1)) λ_ f=>Ye f 2 λ_ f=>RR (Y f 4 λ_ f=>Z f (Y30 (v:=sL Z4 X1 P2) rfl (ad:=⟨b0,1,none⟩) (N1.ownCell 0 rfl 1)) λ_ f=>Y f 1 λ_ f=>?_)))
 obtain⟨X2,l2,F2⟩:=bS F1
 have N3:=N1.pl [1]
 refine Y17 (E:=[rO 5 1 Z4 X1 P2 L2]) (H:=((oC b0 #[.pointer Z3,sL Z4 X1 P2] 142)::H)) f N3 (iO n _ X1 Z4 P2 L2 D2 d1 X2 l2) λ_ V2 E_2 W2 J2 N2 iQ _ f=>?_
 obtain⟨Z5,P3,L3,rfl,rfl,D3⟩:=iQ
 refine Y f 2 λ_ f=>Y25 f N2 1 rfl rfl (b:=b0) (j:=1) (v:=sL Z5 X2 P3) rfl (by exact rfl) (by simp) (by simp) ((rO 5 1 Z5 X2 P3 L3)::(oC b0 #[.pointer Z3,sL Z5 X2 P3] 142)::H) rfl λW3 N4 _ f=>eT (RR (Y f 3 λ_ f=>Z f (Y30 (v:=sL Z5 X2 P3) rfl (ad:=⟨b0,1,none⟩) (N4.ownCell 1 rfl 1)) λ_ f=>Y f 2 λ_ f=>?_))
 obtain⟨O1,F3⟩:=nS F2
 refine Y f 1 λ_ f=>?_
 have f:=f.st 29 (iW O1)
 refine Ye f 2 λ_ f=>wp_ret (ij f rfl (Lk 4 (iL (((X2.length:Nat):Int)- ((X1.length:Nat):Int)))) (Lk 5 (.nilIface)) ?_)
 cases sI F3
 have N5:=N4.pl [1]
 exact⟨_,rfl,V2,_,(J1.trans J2),N5,⟨Z3,Z5,P3,L3,rfl,rfl,lz,D3⟩⟩
def ju (n:Nat) (d0:Bs):Option Bool:=
 (kj n d0 [79,117,116,112,117,116,115,46]).bind λX1=>
 bif X1.2 then
  ((ck n X1.1).bind λX2=>
  some ((X2)))
 else
  (ck n d0).bind λX3=>
  some ((X3))
theorem mC (n:Nat) (M:Mem) (hG:GL M) (d0:Bs) (r:Bool) (hF:ju n d0=some r):Ok Tryz.prog M 79 [S d0] (λ_ v=>v=bO r):=by
 unfold ju at hF
 intro M1 hM0 w0 H w p0
 replace hG:=GL.mono hM0 hG
 refine Re 15 Tryz.func79 rfl λa0 f0=>RR (Ye f0 1 λ_ f=>aq (RR (Y f 1 λ_ f=>?_)))
 obtain⟨X1,l1,F1⟩:=bS hF
 refine Y18 f p0 (nn n _ hG d0 [79,117,116,112,117,116,115,46] X1 l1) λW1 N1 _ f=>Ye f 5 λ_ f=>RR (Ye f 1 λ_ f=>RcF f F1 (λB1 F2=>?_) λB1 F4=>?_)
 ·refine RR (Y f 1 λ_ f=>?_)
  obtain⟨X2,l2,F3⟩:=bS F2
  refine Y18 f N1 (cp n _ X1.1 X2 l2) λW2 N2 _ f=>Ye f 1 λ_ f=>wp_ret (dj (aJ f rfl (Lk 2 (bO X2)) ?_))
  cases sI F3
  exact⟨_,rfl,M1,(mR _),N2,rfl⟩
 ·refine St (RR (Y f 1 λ_ f=>?_))
  obtain⟨X3,l3,F5⟩:=bS F4
  refine Y18 f N1 (cp n _ d0 X3 l3) λW3 N3 _ f=>Ye f 1 λ_ f=>wp_ret (aJ f rfl (Lk 2 (bO X3)) ?_)
  cases sI F5
  exact⟨_,rfl,M1,(mR _),N3,rfl⟩
def ku (n:Nat) (d0:Bs):Option (TF0×Bool):=
 (h_Cut n d0 [46]).bind λX1=>
 bif X1.2.2 then
  ((((ck n X1.1).bind λX2=>
    bif X2 then
     ((ju n X1.2.1).bind λX3=>
     some ((X3)))
    else
     some ((false)):Option Bool)).bind λG1=>
  some (((⟨(4:Int),([]:Bs),(0:Int),X1.1,X1.2.1,([]:List TF0)⟩:TF0),(G1))))
 else
  (ck n X1.1).bind λX4=>
  some (((⟨(3:Int),([]:Bs),(0:Int),X1.1,([]:Bs),([]:List TF0)⟩:TF0),(X4)))
theorem sub_hole_ok (n:Nat) (M:Mem) (hG:GL M) (d0:Bs) (r:TF0×Bool) (hF:ku n d0=some r):Ok Tryz.prog M 122 [S d0] (λM' v=>∃ (c0:Lv),v=.tuple #[.agg c0.toArray,bO r.2]∧Rep M' (au r.1) c0):=by
 unfold ku at hF
 intro M1 hM0 w0 H w p0
 replace hG:=GL.mono hM0 hG
 refine Re 27 Tryz.func122 rfl λa0 f0=>RR (Y12 f0 p0 (.cells #[iB 0,S [],iL 0,S [],S [],Sn] 31 (0,0)) λQ1 W1 N1 _ f=>Ye f 1 λ_ f=>RR (Y f 1 λ_ f=>?_))
 obtain⟨X1,l1,F1⟩:=bS hF
 refine Y18 f N1 (h_Cut_ok n _ hG d0 [46] X1 l1) λW2 N2 _ f=>Ye f 7 λ_ f=>aq (RR (Ye f 1 λ_ f=>RcF f F1 (λB1 F2=>?_) λB1 F8=>?_))
 ·refine aq ?_
  obtain⟨ip,eD,F3⟩:=bS F2
  refine ct (λa_18 W7=>∃G1:Bool,ip=G1∧∃V1:Mem,M1.le V1∧Frm 27 [(2,pP Q1),(3,bO G1)] a_18∧Hp w0 V1 ((oC Q1 #[iB 4,S [],iL 0,S X1.1,S X1.2.1,Sn] 31)::H) W7) ?_ ?_
  ·refine aN (Y f 4 λ_ f=>?_)
   obtain⟨X2,l2,F4⟩:=bS eD
   refine Y18 f N2 (cp n _ X1.1 X2 l2) λW3 N3 _ f=>Y f 1 λ_ f=>?_
   rcases cE F4 with⟨B2,F5⟩|⟨B2,F7⟩
   ·have f:=f.st 19 (cB B2)
    refine Y f 1 λ_ f=>?_
    obtain⟨X3,l3,F6⟩:=bS F5
    refine Y18 f N3 (mC n _ hG X1.2.1 X3 l3) λW4 N4 _ f=>Y f 1 λ_ f=>Ys [iB 4,S [],iL 0,S X1.1,S X1.2.1,Sn] #[iB 4,S [],iL 0,S X1.1,S X1.2.1,Sn] f N4 rfl rfl λW5 N5 _ f=>Ye f 1 λ_ f=>?_
    exact⟨(X3),(sI F6).symm,M1,(mR _),f.kp,N5⟩
   ·have f:=f.st 19 (cB B2)
    refine Y f 3 λ_ f=>Ys [iB 4,S [],iL 0,S X1.1,S X1.2.1,Sn] #[iB 4,S [],iL 0,S X1.1,S X1.2.1,Sn] f N3 rfl rfl λW6 N6 _ f=>Ye f 1 λ_ f=>?_
    exact⟨(false),(sI F7).symm,M1,(mR _),f.kp,N6⟩
  ·rintro a_18 W7 ⟨G1,dg,V1,J1,f,N7⟩
   subst ip
   refine aS (wp_ret (dj (E_rv2 f rfl (Y10 (cs:=[iB 4,S [],iL 0,S X1.1,S X1.2.1,Sn]) (ad:=⟨Q1,0,none⟩) f (an (N7.ownCell 0 rfl) 0 rfl)) (Y11 (v:=bO G1) f) ?_)))
   cases sI F3
   exact⟨_,rfl,V1,J1,(N7.dropN 1),⟨[iB 4,S [],iL 0,S X1.1,S X1.2.1,Sn],rfl,(TF0.shut Sli.nil)⟩⟩
 ·refine St (RR (Y f 3 λ_ f=>?_))
  obtain⟨X4,l4,F9⟩:=bS F8
  refine Y18 f N2 (cp n _ X1.1 X4 l4) λW8 N8 _ f=>Ys [iB 3,S [],iL 0,S X1.1,S [],Sn] #[iB 3,S [],iL 0,S X1.1,S [],Sn] f N8 rfl rfl λW9 N9 _ f=>Ye f 1 λ_ f=>wp_ret (E_rv2 f rfl (Y10 (cs:=[iB 3,S [],iL 0,S X1.1,S [],Sn]) (ad:=⟨Q1,0,none⟩) f (an (N9.ownCell 0 rfl) 0 rfl)) (Y11 (v:=bO X4) f) ?_)
  cases sI F9
  exact⟨_,rfl,M1,(mR _),(N9.dropN 1),⟨[iB 3,S [],iL 0,S X1.1,S [],Sn],rfl,(TF0.shut Sli.nil)⟩⟩
def cV (n:Nat) (aY:Bs):Option Bs:=
 some (([]:Bs))
theorem iJ (n:Nat) (M:Mem) (hG:GL M) (b0:Nat) (Z1:Oa) (gV: (Z1=none∨Z1=some ⟨b0,0,none⟩)) (aY:Bs) (Z2:Oa) (P1:Nat) (B1:Sli M 1 embB Z2 P1 aY) (r:Bs) (hF:cV n aY=some r):OkH Tryz.prog M [oC b0 #[.pointer Z1,sL Z2 aY P1] 142] 119 [pP b0] (λM' E' v=>∃ (Z4:Oa) (Z5:Oa) (P3:Nat) (L1:Lv),v=.tuple #[]∧E'=[oC b0 #[.pointer Z4,sL Z5 r P3] 142,rO 5 1 Z5 r P3 L1]∧(Z4=none∨Z4=some ⟨b0,0,none⟩)∧ag M' (r.map embB) L1):=by
 unfold cV at hF
 intro M1 hM0 w0 H w p0
 replace hG:=GL.mono hM0 hG
 replace B1:=B1.mono hM0
 refine Re 8 Tryz.func119 rfl λa0 f0=>RR (Y f0 3 λ_ f=>Y25 f p0 0 rfl rfl (b:=b0) (j:=0) (v:=.pointer none) rfl (by exact rfl) (by simp) (by simp) _ rfl λW1 N1 _ f=>eT (aN (Y f 3 λ_ f=>Y25 f N1 0 rfl rfl (b:=b0) (j:=1) (v:=Sn) rfl (by exact rfl) (by simp) (by simp) _ rfl λW2 N2 _ f=>am rfl ?_)))
 obtain⟨Z3,P2,H1⟩: ∃A cap,Value.slice none 0 0=.slice A ([]:List UInt8).length cap:=⟨none,0,rfl⟩
 have N3:Hp w0 M1 ((Ent.row 5 1 (.slice Z3 ([]:List UInt8).length P2) ([]:List UInt8).length [])::(Ent.obj b0 (.cells #[.pointer none,.slice Z3 ([]:List UInt8).length P2] 142 (0,0)))::H) W2:=by rw[←H1];exact N2.nilRow 5 1
 have D1:ag M1 (([]:Bs).map embB) []:=rfl
 refine dK f rfl ?_
 cases sI hF
 have N4:=N3.pl [1]
 exact⟨_,rfl,M1,_,(mR _),N4,⟨none,Z3,P2,[],rfl,rfl,(.inl rfl),D1⟩⟩
def iy (n:Nat) (aY:Bs) (al:List TF0):Option (Bs×List TF0):=
 (dO n aY).bind λX1=>
 bif(decide ((0:Int)<X1.1)) then
  ((((dl n X1.2).bind λX2=>
    bb ((al.length+1)*88≤140737488355328)<|
    (aU (al++[ae]) ((al.length:Nat):Int)).bind λX3=>
    some ((X2.2,(al++[ae]).set ((al.length:Nat):Int).toNat (⟨(0:Int),X2.1,(0:Int),([]:Bs),([]:Bs),([]:List TF0)⟩:TF0))):Option (Bs×List TF0))).bind λG1=>
  (cV n G1.1).bind λX21=>
  some ((X21,G1.2)))
 else
  some ((X1.2,al))
set_option maxRecDepth 20000 in
theorem lJ (n:Nat) (M:Mem) (hG:GL M) (b0:Nat) (Z1:Option Addr) (gV: (Z1=none∨Z1=some ⟨b0,0,none⟩)) (aY:List UInt8) (Z2:Option Addr) (P1:Nat) (L1:List Value) (D1:ag M (aY.map embB) L1) (b1:Nat) (al:List TF0) (Z3:Option Addr) (P2:Nat) (L2:List Value) (D2:ag M (al.map au) L2) (r:List UInt8×List TF0) (hF:iy n aY al=some r):OkH Tryz.prog M [Ent.obj b0 (.cells #[.pointer Z1,.slice Z2 aY.length P1] 142 (0,0)),Ent.row 5 1 (.slice Z2 aY.length P1) aY.length L1,Ent.obj b1 (.cells #[.slice Z3 al.length P2] 29 (0,0)),Ent.row 31 6 (.slice Z3 al.length P2) al.length L2] 116 [.pointer (some (⟨b0,0,none⟩)),.pointer (some (⟨b1,0,none⟩))] (λM' E' v=>∃ (Z30:Option Addr) (Z31:Option Addr) (P33:Nat) (L32:List Value) (Z32:Option Addr) (P34:Nat) (L33:List Value),v=.tuple #[]∧E'=[Ent.obj b0 (.cells #[.pointer Z30,.slice Z31 r.1.length P33] 142 (0,0)),Ent.row 5 1 (.slice Z31 r.1.length P33) r.1.length L32,Ent.obj b1 (.cells #[.slice Z32 r.2.length P34] 29 (0,0)),Ent.row 31 6 (.slice Z32 r.2.length P34) r.2.length L33]∧(Z30=none∨Z30=some ⟨b0,0,none⟩)∧ag M' (r.1.map embB) L32∧ag M' (r.2.map au) L33):=by
 unfold iy at hF
 intro M1 hM0 w0 H w p0
 replace hG:=GL.mono hM0 hG
 replace D1:=ag.mono hM0 _ _ D1
 replace D2:=ag.mono hM0 _ _ D2
 refine aG 12 Tryz.func116 rfl rfl (by simp) λa0 f0=>RR ?_
 obtain⟨X1,l1,F1⟩:=bS hF
 refine Y17 (E:=[Ent.obj b0 (.cells #[.pointer Z1,.slice Z2 aY.length P1] 142 (0,0)),Ent.row 5 1 (.slice Z2 aY.length P1) aY.length L1]) (H:=((Ent.obj b1 (.cells #[.slice Z3 al.length P2] 29 (0,0)))::(Ent.row 31 6 (.slice Z3 al.length P2) al.length L2)::H)) f0 p0 (jF n _ b0 Z1 gV aY Z2 P1 L1 D1 X1 l1) λ_ V1 mN W1 J1 N1 eM _ f=>?_
 obtain⟨Z4,Z5,P3,L3,rfl,rfl,lz,D3⟩:=eM
 refine Y f 1 λ_ f=>eT (RcF f F1 (λB1 F2=>?_) λB1 F8=>?_)
 ·have U1:=dI.1 B1
  refine aq ?_
  obtain⟨ip,eD,F3⟩:=bS F2
  refine ct (λa_91 W146=>∃G1:List UInt8×List TF0,ip=G1∧∃V8:Mem,V1.le V8∧∃ (Z25:Option Addr),∃ (Z26:Option Addr),∃ (P30:Nat),∃ (Z27:Option Addr),∃ (P31:Nat),∃ (L30:List Value),(Z25=none∨Z25=some ⟨b0,0,none⟩)∧Sli V8 1 embB Z26 P30 G1.1∧ag V8 (G1.2.map au) L30∧Frm 12 [(0,.pointer (some (⟨b0,0,none⟩)))] a_91∧Hp w0 V8 ((Ent.row 31 6 (.slice Z27 G1.2.length P31) G1.2.length L30)::(Ent.obj b0 (.cells #[.pointer Z25,.slice Z26 G1.1.length P30] 142 (0,0)))::(Ent.obj b1 (.cells #[.slice Z27 G1.2.length P31] 29 (0,0)))::H) W146) ?_ ?_
  ·obtain⟨X2,l2,F4⟩:=bS eD
   obtain⟨O1,F5⟩:=nS F4
   obtain⟨X3,l3,F6⟩:=bS F5
   refine kV (ks:=[]) (E:=[Ent.obj b0 (.cells #[.pointer Z4,.slice Z5 X1.2.length P3] 142 (0,0)),Ent.row 5 1 (.slice Z5 X1.2.length P3) X1.2.length L3,Ent.obj b1 (.cells #[.slice Z3 al.length P2] 29 (0,0)),Ent.row 31 6 (.slice Z3 al.length P2) al.length L2]) (Hr:=(H)) (.alt 0 (.quiet 3 (.alt 1 (.quiet 2 (.alt 4 (.alt 5 (.alt 6 (.alt 7 (.alt 8 .done .none) (.alt 8 (.alt 7 .done .none) .none)) (.alt 8 (.alt 6 (.alt 7 .done .none) .none) .none)) .none) .none)) (.alt 4 (.alt 1 (.quiet 2 (.alt 5 (.alt 6 (.alt 7 (.alt 8 .done .none) (.alt 8 (.alt 7 .done .none) .none)) (.alt 8 (.alt 6 (.alt 7 .done .none) .none) .none)) .none)) .none) .none))) (.alt 1 (.quiet 2 (.alt 0 (.quiet 3 (.alt 4 (.alt 5 (.alt 6 (.alt 7 (.alt 8 .done .none) (.alt 8 (.alt 7 .done .none) .none)) (.alt 8 (.alt 6 (.alt 7 .done .none) .none) .none)) .none) .none)) (.alt 4 (.alt 0 (.quiet 3 (.alt 5 (.alt 6 (.alt 7 (.alt 8 .done .none) (.alt 8 (.alt 7 .done .none) .none)) (.alt 8 (.alt 6 (.alt 7 .done .none) .none) .none)) .none)) .none) .none))) (.alt 4 (.alt 0 (.quiet 3 (.alt 1 (.quiet 2 (.alt 5 (.alt 6 (.alt 7 (.alt 8 .done .none) (.alt 8 (.alt 7 .done .none) .none)) (.alt 8 (.alt 6 (.alt 7 .done .none) .none) .none)) .none)) .none)) (.alt 1 (.quiet 2 (.alt 0 (.quiet 3 (.alt 5 (.alt 6 (.alt 7 (.alt 8 .done .none) (.alt 8 (.alt 7 .done .none) .none)) (.alt 8 (.alt 6 (.alt 7 .done .none) .none) .none)) .none)) .none)) .none)) .none))) N1 (by kernel_rfl) (by kernel_rfl) (by kernel_rfl) (av rfl (λW7 N11=>?_) ?_)
   ·refine Z f (Y30 (v:=.slice Z3 al.length P2) rfl (ad:=⟨b1,0,none⟩) (N11.ownCell 2 rfl 0)) λ_ f=>am rfl (aw 4 (mR _) N11 rfl (Y1 (v:=.int .i64 ((al.length:Nat):Int)) rfl f rfl rfl (λ_ _=>by kernel_rfl) λ_ f=>av rfl (λW8 N12=>?_) ?_))
    ·refine Y17 (E:=[Ent.obj b0 (.cells #[.pointer Z4,.slice Z5 X1.2.length P3] 142 (0,0)),Ent.row 5 1 (.slice Z5 X1.2.length P3) X1.2.length L3]) (H:=((Ent.obj b1 (.cells #[.slice Z3 al.length P2] 29 (0,0)))::(Ent.row 31 6 (.slice Z3 al.length P2) al.length L2)::H)) f N12 (cc n _ b0 Z4 lz X1.2 Z5 P3 L3 D3 X2 l2) λ_ V3 E_3 W9 J3 N13 mg _ f=>?_
     obtain⟨Z9,Z10,P7,rfl,rfl,hb_4,B3⟩:=mg
     refine am rfl (aw 3 J3 N13 rfl (Y1 (v:=.agg #[.int .i8 0,S X2.1,.int .i64 0,S [],S [],.slice none 0 0]) rfl f rfl rfl (λ_ _=>by kernel_rfl) λ_ f=>av rfl (λW10 N14=>?_) ?_))
     ·refine aQ (k:=1) (c:=1) f N14 (.cells #[.int .i8 0,S [],.int .i64 0,S [],S [],.slice none 0 0] 31 (0,0)) (by kernel_rfl) (λ_=>by kernel_rfl) λQ3 W11 N15 _ f=>am rfl (aw 4 J3 N15 rfl (av rfl (λW12 N16=>?_) ?_))
      ·have N17:=N16.pl [3]
       refine Y20 (z:=.agg #[.int .i8 0,S [],.int .i64 0,S [],S [],.slice none 0 0]) (f:=au) (xs:=al) (ys:=[ae]) (news:=[.int .i8 0,S [],.int .i64 0,S [],S [],.slice none 0 0]) (ad:=⟨Q3,0,none⟩) (m:=1) (c:=1) f N17 (ag.mono (J1.trans J3) _ _ D2) (by exact⟨_,_,rfl,TF0.shut Sli.nil,rfl⟩) rfl rfl rfl rfl (an (N17.ownCell 1 rfl) 0 rfl) (by exact O1) (by have hg_:=O1;first|omega|(simp only[List.length_cons,List.length_nil] at*;omega)) λZ11 P8 L6 W13 N18 D6 _ f=>?_
       have N19:=N18.pl [1]
       have N20:=N19.drop
       refine am rfl (aw 3 J3 N20 rfl (av rfl (λW14 N21=>?_) ?_))
       ·obtain⟨Q4,P9,H2,hcap_2⟩:=N21.rowAddr 0 rfl (bh l3)
        have f:=f.st 9 (H2)
        refine Z f (Y28 rfl (ad:=⟨Q4,0,none⟩) (len:=(al++[ae]).length) (cap:=P9) (k:=.i64) (i:=((al.length:Nat):Int)) (e:=31) (sz:=6) (az l3) (ay l3)) λ_ f=>?_
        have f:=f.st 9 (H2.symm)
        refine am rfl (aw 3 J3 N21 rfl (av rfl (λW15 N22=>?_) ?_))
        ·refine Y24 (it:=((al.length:Nat):Int)) (d:=al++[ae]) (f:=au) (xv:=(⟨(0:Int),X2.1,(0:Int),([]:List UInt8),([]:List UInt8),([]:List TF0)⟩:TF0)) (vs:=[.int .i8 0,S X2.1,.int .i64 0,S [],S [],.slice none 0 0]) f N22 H2 rfl rfl (by exact TF0.shut Sli.nil) bI l3 D6 λL7 W16 N23 D7 _ f=>?_
         have N24:Hp w0 V3 ((Ent.row 31 6 (.slice Z11 ((al++[ae]).set ((al.length:Nat):Int).toNat (⟨(0:Int),X2.1,(0:Int),([]:List UInt8),([]:List UInt8),([]:List TF0)⟩:TF0)).length P8) ((al++[ae]).set ((al.length:Nat):Int).toNat (⟨(0:Int),X2.1,(0:Int),([]:List UInt8),([]:List UInt8),([]:List TF0)⟩:TF0)).length L7)::(Ent.obj b0 (.cells #[.pointer Z9,.slice Z10 X2.2.length P7] 142 (0,0)))::(Ent.obj b1 (.cells #[.slice Z3 al.length P2] 29 (0,0)))::H) W16:=N23.rowVal (by simp only[List.length_set])
         have f:=Frm.set f 9 (v:=.slice Z11 (al++[ae]).length P8) (v':=.slice Z11 ((al++[ae]).set ((al.length:Nat):Int).toNat (⟨(0:Int),X2.1,(0:Int),([]:List UInt8),([]:List UInt8),([]:List TF0)⟩:TF0)).length P8) (by kernel_rfl) (by simp only[List.length_set])
         refine am rfl (aw 3 J3 N24 rfl (av rfl (λW17 N25=>?_) ?_))
         ·refine Y25 f N25 2 rfl rfl (b:=b1) (j:=0) (v:=.slice Z11 ((al++[ae]).set ((al.length:Nat):Int).toNat (⟨(0:Int),X2.1,(0:Int),([]:List UInt8),([]:List UInt8),([]:List TF0)⟩:TF0)).length P8) rfl (by exact rfl) (by simp) (by simp) ((Ent.row 31 6 (.slice Z11 ((al++[ae]).set ((al.length:Nat):Int).toNat (⟨(0:Int),X2.1,(0:Int),([]:List UInt8),([]:List UInt8),([]:List TF0)⟩:TF0)).length P8) ((al++[ae]).set ((al.length:Nat):Int).toNat (⟨(0:Int),X2.1,(0:Int),([]:List UInt8),([]:List UInt8),([]:List TF0)⟩:TF0)).length L7)::(Ent.obj b0 (.cells #[.pointer Z9,.slice Z10 X2.2.length P7] 142 (0,0)))::(Ent.obj b1 (.cells #[.slice Z11 ((al++[ae]).set ((al.length:Nat):Int).toNat (⟨(0:Int),X2.1,(0:Int),([]:List UInt8),([]:List UInt8),([]:List TF0)⟩:TF0)).length P8] 29 (0,0)))::H) rfl λW18 N26 _ f=>am rfl (aw 3 J3 N26 rfl (ci λW19 N27=>aS ?_))
          exact⟨(X2.2,(al++[ae]).set ((al.length:Nat):Int).toNat (⟨(0:Int),X2.1,(0:Int),([]:List UInt8),([]:List UInt8),([]:List TF0)⟩:TF0)),(sI F6).symm,V3,J3,Z9,Z10,P7,Z11,P8,L7,hb_4,B3,D7,f.kp,N27⟩
         exact ar
        refine av rfl (λW20 N28=>?_) ?_
        ·refine Y25 f N28 2 rfl rfl (b:=b1) (j:=0) (v:=.slice Z11 (al++[ae]).length P8) rfl (by exact rfl) (by simp) (by simp) ((Ent.row 31 6 (.slice Z11 (al++[ae]).length P8) (al++[ae]).length L6)::(Ent.obj b0 (.cells #[.pointer Z9,.slice Z10 X2.2.length P7] 142 (0,0)))::(Ent.obj b1 (.cells #[.slice Z11 (al++[ae]).length P8] 29 (0,0)))::H) rfl λW21 N29 _ f=>am rfl (aw 3 J3 N29 rfl (av rfl (λW22 N30=>?_) ?_))
         ·refine Y24 (it:=((al.length:Nat):Int)) (d:=al++[ae]) (f:=au) (xv:=(⟨(0:Int),X2.1,(0:Int),([]:List UInt8),([]:List UInt8),([]:List TF0)⟩:TF0)) (vs:=[.int .i8 0,S X2.1,.int .i64 0,S [],S [],.slice none 0 0]) f N30 H2 rfl rfl (by exact TF0.shut Sli.nil) bI l3 D6 λL8 W23 N31 D8 _ f=>?_
          have N32:Hp w0 V3 ((Ent.row 31 6 (.slice Z11 ((al++[ae]).set ((al.length:Nat):Int).toNat (⟨(0:Int),X2.1,(0:Int),([]:List UInt8),([]:List UInt8),([]:List TF0)⟩:TF0)).length P8) ((al++[ae]).set ((al.length:Nat):Int).toNat (⟨(0:Int),X2.1,(0:Int),([]:List UInt8),([]:List UInt8),([]:List TF0)⟩:TF0)).length L8)::(Ent.obj b0 (.cells #[.pointer Z9,.slice Z10 X2.2.length P7] 142 (0,0)))::(Ent.obj b1 (.cells #[.slice Z11 (al++[ae]).length P8] 29 (0,0)))::H) W23:=N31.rowVal (by simp only[List.length_set])
          have f:=Frm.set f 9 (v:=.slice Z11 (al++[ae]).length P8) (v':=.slice Z11 ((al++[ae]).set ((al.length:Nat):Int).toNat (⟨(0:Int),X2.1,(0:Int),([]:List UInt8),([]:List UInt8),([]:List TF0)⟩:TF0)).length P8) (by kernel_rfl) (by simp only[List.length_set])
          have N33:Hp w0 V3 ((Ent.row 31 6 (.slice Z11 ((al++[ae]).set ((al.length:Nat):Int).toNat (⟨(0:Int),X2.1,(0:Int),([]:List UInt8),([]:List UInt8),([]:List TF0)⟩:TF0)).length P8) ((al++[ae]).set ((al.length:Nat):Int).toNat (⟨(0:Int),X2.1,(0:Int),([]:List UInt8),([]:List UInt8),([]:List TF0)⟩:TF0)).length L8)::(Ent.obj b0 (.cells #[.pointer Z9,.slice Z10 X2.2.length P7] 142 (0,0)))::(Ent.obj b1 (.cells #[.slice Z11 ((al++[ae]).set ((al.length:Nat):Int).toNat (⟨(0:Int),X2.1,(0:Int),([]:List UInt8),([]:List UInt8),([]:List TF0)⟩:TF0)).length P8] 29 (0,0)))::H) W23:=by simp only[List.length_set];rw[List.length_set] at N32;exact N32
          refine am rfl (aw 3 J3 N33 rfl (ci λW24 N34=>aS ?_))
          exact⟨(X2.2,(al++[ae]).set ((al.length:Nat):Int).toNat (⟨(0:Int),X2.1,(0:Int),([]:List UInt8),([]:List UInt8),([]:List TF0)⟩:TF0)),(sI F6).symm,V3,J3,Z9,Z10,P7,Z11,P8,L8,hb_4,B3,D8,f.kp,N34⟩
         exact ar
        exact ar
       refine av rfl (λW25 N35=>?_) ?_
       ·refine Y25 f N35 2 rfl rfl (b:=b1) (j:=0) (v:=.slice Z11 (al++[ae]).length P8) rfl (by exact rfl) (by simp) (by simp) ((Ent.row 31 6 (.slice Z11 (al++[ae]).length P8) (al++[ae]).length L6)::(Ent.obj b0 (.cells #[.pointer Z9,.slice Z10 X2.2.length P7] 142 (0,0)))::(Ent.obj b1 (.cells #[.slice Z11 (al++[ae]).length P8] 29 (0,0)))::H) rfl λW26 N36 _ f=>am rfl (aw 3 J3 N36 rfl (av rfl (λW27 N37=>?_) ?_))
        ·obtain⟨Q5,P10,H3,hcap_3⟩:=N37.rowAddr 0 rfl (bh l3)
         have f:=f.st 9 (H3)
         refine Z f (Y28 rfl (ad:=⟨Q5,0,none⟩) (len:=(al++[ae]).length) (cap:=P10) (k:=.i64) (i:=((al.length:Nat):Int)) (e:=31) (sz:=6) (az l3) (ay l3)) λ_ f=>?_
         have f:=f.st 9 (H3.symm)
         refine am rfl (aw 3 J3 N37 rfl (av rfl (λW28 N38=>?_) ?_))
         ·refine Y24 (it:=((al.length:Nat):Int)) (d:=al++[ae]) (f:=au) (xv:=(⟨(0:Int),X2.1,(0:Int),([]:List UInt8),([]:List UInt8),([]:List TF0)⟩:TF0)) (vs:=[.int .i8 0,S X2.1,.int .i64 0,S [],S [],.slice none 0 0]) f N38 H3 rfl rfl (by exact TF0.shut Sli.nil) bI l3 D6 λL9 W29 N39 D9 _ f=>?_
          have N40:Hp w0 V3 ((Ent.row 31 6 (.slice Z11 ((al++[ae]).set ((al.length:Nat):Int).toNat (⟨(0:Int),X2.1,(0:Int),([]:List UInt8),([]:List UInt8),([]:List TF0)⟩:TF0)).length P8) ((al++[ae]).set ((al.length:Nat):Int).toNat (⟨(0:Int),X2.1,(0:Int),([]:List UInt8),([]:List UInt8),([]:List TF0)⟩:TF0)).length L9)::(Ent.obj b0 (.cells #[.pointer Z9,.slice Z10 X2.2.length P7] 142 (0,0)))::(Ent.obj b1 (.cells #[.slice Z11 (al++[ae]).length P8] 29 (0,0)))::H) W29:=N39.rowVal (by simp only[List.length_set])
          have f:=Frm.set f 9 (v:=.slice Z11 (al++[ae]).length P8) (v':=.slice Z11 ((al++[ae]).set ((al.length:Nat):Int).toNat (⟨(0:Int),X2.1,(0:Int),([]:List UInt8),([]:List UInt8),([]:List TF0)⟩:TF0)).length P8) (by kernel_rfl) (by simp only[List.length_set])
          have N41:Hp w0 V3 ((Ent.row 31 6 (.slice Z11 ((al++[ae]).set ((al.length:Nat):Int).toNat (⟨(0:Int),X2.1,(0:Int),([]:List UInt8),([]:List UInt8),([]:List TF0)⟩:TF0)).length P8) ((al++[ae]).set ((al.length:Nat):Int).toNat (⟨(0:Int),X2.1,(0:Int),([]:List UInt8),([]:List UInt8),([]:List TF0)⟩:TF0)).length L9)::(Ent.obj b0 (.cells #[.pointer Z9,.slice Z10 X2.2.length P7] 142 (0,0)))::(Ent.obj b1 (.cells #[.slice Z11 ((al++[ae]).set ((al.length:Nat):Int).toNat (⟨(0:Int),X2.1,(0:Int),([]:List UInt8),([]:List UInt8),([]:List TF0)⟩:TF0)).length P8] 29 (0,0)))::H) W29:=by simp only[List.length_set];rw[List.length_set] at N40;exact N40
          refine am rfl (aw 3 J3 N41 rfl (ci λW30 N42=>aS ?_))
          exact⟨(X2.2,(al++[ae]).set ((al.length:Nat):Int).toNat (⟨(0:Int),X2.1,(0:Int),([]:List UInt8),([]:List UInt8),([]:List TF0)⟩:TF0)),(sI F6).symm,V3,J3,Z9,Z10,P7,Z11,P8,L9,hb_4,B3,D9,f.kp,N42⟩
         exact ar
        exact ar
       exact ar
      exact ar
     exact ar
    refine av rfl (λW31 N43=>?_) ?_
    ·refine aQ (k:=1) (c:=1) f N43 (.cells #[.int .i8 0,S [],.int .i64 0,S [],S [],.slice none 0 0] 31 (0,0)) (by kernel_rfl) (λ_=>by kernel_rfl) λQ6 W32 N44 _ f=>am rfl (aw 5 (mR _) N44 rfl (av rfl (λW33 N45=>?_) ?_))
     ·have N48:=N45.pl [2,2]
      refine Y17 (E:=[Ent.obj b0 (.cells #[.pointer Z4,.slice Z5 X1.2.length P3] 142 (0,0)),Ent.row 5 1 (.slice Z5 X1.2.length P3) X1.2.length L3]) (H:=((Ent.obj Q6 (.cells #[.int .i8 0,S [],.int .i64 0,S [],S [],.slice none 0 0] 31 (0,0)))::(Ent.obj b1 (.cells #[.slice Z3 al.length P2] 29 (0,0)))::(Ent.row 31 6 (.slice Z3 al.length P2) al.length L2)::H)) f N48 (cc n _ b0 Z4 lz X1.2 Z5 P3 L3 D3 X2 l2) λ_ V4 E_4 W34 J4 N46 q_4 _ f=>?_
      obtain⟨Z12,Z13,P11,rfl,rfl,hb_5,B4⟩:=q_4
      refine am rfl (aw 4 J4 N46 rfl (Y1 (v:=.agg #[.int .i8 0,S X2.1,.int .i64 0,S [],S [],.slice none 0 0]) rfl f rfl rfl (λ_ _=>by kernel_rfl) λ_ f=>av rfl (λW35 N49=>?_) ?_))
      ·have N50:=N49.pl [3]
       refine Y20 (z:=.agg #[.int .i8 0,S [],.int .i64 0,S [],S [],.slice none 0 0]) (f:=au) (xs:=al) (ys:=[ae]) (news:=[.int .i8 0,S [],.int .i64 0,S [],S [],.slice none 0 0]) (ad:=⟨Q6,0,none⟩) (m:=1) (c:=1) f N50 (ag.mono (J1.trans J4) _ _ D2) (by exact⟨_,_,rfl,TF0.shut Sli.nil,rfl⟩) rfl rfl rfl rfl (an (N50.ownCell 2 rfl) 0 rfl) (by exact O1) (by have hg_:=O1;first|omega|(simp only[List.length_cons,List.length_nil] at*;omega)) λZ14 P12 L10 W36 N51 D10 _ f=>?_
       have N52:=N51.pl [2]
       have N53:=N52.drop
       refine am rfl (aw 3 J4 N53 rfl (av rfl (λW37 N54=>?_) ?_))
       ·obtain⟨Q7,P13,H4,hcap_4⟩:=N54.rowAddr 0 rfl (bh l3)
        have f:=f.st 9 (H4)
        refine Z f (Y28 rfl (ad:=⟨Q7,0,none⟩) (len:=(al++[ae]).length) (cap:=P13) (k:=.i64) (i:=((al.length:Nat):Int)) (e:=31) (sz:=6) (az l3) (ay l3)) λ_ f=>?_
        have f:=f.st 9 (H4.symm)
        refine am rfl (aw 3 J4 N54 rfl (av rfl (λW38 N55=>?_) ?_))
        ·refine Y24 (it:=((al.length:Nat):Int)) (d:=al++[ae]) (f:=au) (xv:=(⟨(0:Int),X2.1,(0:Int),([]:List UInt8),([]:List UInt8),([]:List TF0)⟩:TF0)) (vs:=[.int .i8 0,S X2.1,.int .i64 0,S [],S [],.slice none 0 0]) f N55 H4 rfl rfl (by exact TF0.shut Sli.nil) bI l3 D10 λL11 W39 N56 D11 _ f=>?_
         have N57:Hp w0 V4 ((Ent.row 31 6 (.slice Z14 ((al++[ae]).set ((al.length:Nat):Int).toNat (⟨(0:Int),X2.1,(0:Int),([]:List UInt8),([]:List UInt8),([]:List TF0)⟩:TF0)).length P12) ((al++[ae]).set ((al.length:Nat):Int).toNat (⟨(0:Int),X2.1,(0:Int),([]:List UInt8),([]:List UInt8),([]:List TF0)⟩:TF0)).length L11)::(Ent.obj b0 (.cells #[.pointer Z12,.slice Z13 X2.2.length P11] 142 (0,0)))::(Ent.obj b1 (.cells #[.slice Z3 al.length P2] 29 (0,0)))::H) W39:=N56.rowVal (by simp only[List.length_set])
         have f:=Frm.set f 9 (v:=.slice Z14 (al++[ae]).length P12) (v':=.slice Z14 ((al++[ae]).set ((al.length:Nat):Int).toNat (⟨(0:Int),X2.1,(0:Int),([]:List UInt8),([]:List UInt8),([]:List TF0)⟩:TF0)).length P12) (by kernel_rfl) (by simp only[List.length_set])
         refine am rfl (aw 3 J4 N57 rfl (av rfl (λW40 N58=>?_) ?_))
         ·refine Y25 f N58 2 rfl rfl (b:=b1) (j:=0) (v:=.slice Z14 ((al++[ae]).set ((al.length:Nat):Int).toNat (⟨(0:Int),X2.1,(0:Int),([]:List UInt8),([]:List UInt8),([]:List TF0)⟩:TF0)).length P12) rfl (by exact rfl) (by simp) (by simp) ((Ent.row 31 6 (.slice Z14 ((al++[ae]).set ((al.length:Nat):Int).toNat (⟨(0:Int),X2.1,(0:Int),([]:List UInt8),([]:List UInt8),([]:List TF0)⟩:TF0)).length P12) ((al++[ae]).set ((al.length:Nat):Int).toNat (⟨(0:Int),X2.1,(0:Int),([]:List UInt8),([]:List UInt8),([]:List TF0)⟩:TF0)).length L11)::(Ent.obj b0 (.cells #[.pointer Z12,.slice Z13 X2.2.length P11] 142 (0,0)))::(Ent.obj b1 (.cells #[.slice Z14 ((al++[ae]).set ((al.length:Nat):Int).toNat (⟨(0:Int),X2.1,(0:Int),([]:List UInt8),([]:List UInt8),([]:List TF0)⟩:TF0)).length P12] 29 (0,0)))::H) rfl λW41 N59 _ f=>am rfl (aw 3 J4 N59 rfl (ci λW42 N60=>aS ?_))
          exact⟨(X2.2,(al++[ae]).set ((al.length:Nat):Int).toNat (⟨(0:Int),X2.1,(0:Int),([]:List UInt8),([]:List UInt8),([]:List TF0)⟩:TF0)),(sI F6).symm,V4,J4,Z12,Z13,P11,Z14,P12,L11,hb_5,B4,D11,f.kp,N60⟩
         exact ar
        refine av rfl (λW43 N61=>?_) ?_
        ·refine Y25 f N61 2 rfl rfl (b:=b1) (j:=0) (v:=.slice Z14 (al++[ae]).length P12) rfl (by exact rfl) (by simp) (by simp) ((Ent.row 31 6 (.slice Z14 (al++[ae]).length P12) (al++[ae]).length L10)::(Ent.obj b0 (.cells #[.pointer Z12,.slice Z13 X2.2.length P11] 142 (0,0)))::(Ent.obj b1 (.cells #[.slice Z14 (al++[ae]).length P12] 29 (0,0)))::H) rfl λW44 N62 _ f=>am rfl (aw 3 J4 N62 rfl (av rfl (λW45 N63=>?_) ?_))
         ·refine Y24 (it:=((al.length:Nat):Int)) (d:=al++[ae]) (f:=au) (xv:=(⟨(0:Int),X2.1,(0:Int),([]:List UInt8),([]:List UInt8),([]:List TF0)⟩:TF0)) (vs:=[.int .i8 0,S X2.1,.int .i64 0,S [],S [],.slice none 0 0]) f N63 H4 rfl rfl (by exact TF0.shut Sli.nil) bI l3 D10 λL12 W46 N64 D12 _ f=>?_
          have N65:Hp w0 V4 ((Ent.row 31 6 (.slice Z14 ((al++[ae]).set ((al.length:Nat):Int).toNat (⟨(0:Int),X2.1,(0:Int),([]:List UInt8),([]:List UInt8),([]:List TF0)⟩:TF0)).length P12) ((al++[ae]).set ((al.length:Nat):Int).toNat (⟨(0:Int),X2.1,(0:Int),([]:List UInt8),([]:List UInt8),([]:List TF0)⟩:TF0)).length L12)::(Ent.obj b0 (.cells #[.pointer Z12,.slice Z13 X2.2.length P11] 142 (0,0)))::(Ent.obj b1 (.cells #[.slice Z14 (al++[ae]).length P12] 29 (0,0)))::H) W46:=N64.rowVal (by simp only[List.length_set])
          have f:=Frm.set f 9 (v:=.slice Z14 (al++[ae]).length P12) (v':=.slice Z14 ((al++[ae]).set ((al.length:Nat):Int).toNat (⟨(0:Int),X2.1,(0:Int),([]:List UInt8),([]:List UInt8),([]:List TF0)⟩:TF0)).length P12) (by kernel_rfl) (by simp only[List.length_set])
          have N66:Hp w0 V4 ((Ent.row 31 6 (.slice Z14 ((al++[ae]).set ((al.length:Nat):Int).toNat (⟨(0:Int),X2.1,(0:Int),([]:List UInt8),([]:List UInt8),([]:List TF0)⟩:TF0)).length P12) ((al++[ae]).set ((al.length:Nat):Int).toNat (⟨(0:Int),X2.1,(0:Int),([]:List UInt8),([]:List UInt8),([]:List TF0)⟩:TF0)).length L12)::(Ent.obj b0 (.cells #[.pointer Z12,.slice Z13 X2.2.length P11] 142 (0,0)))::(Ent.obj b1 (.cells #[.slice Z14 ((al++[ae]).set ((al.length:Nat):Int).toNat (⟨(0:Int),X2.1,(0:Int),([]:List UInt8),([]:List UInt8),([]:List TF0)⟩:TF0)).length P12] 29 (0,0)))::H) W46:=by simp only[List.length_set];rw[List.length_set] at N65;exact N65
          refine am rfl (aw 3 J4 N66 rfl (ci λW47 N67=>aS ?_))
          exact⟨(X2.2,(al++[ae]).set ((al.length:Nat):Int).toNat (⟨(0:Int),X2.1,(0:Int),([]:List UInt8),([]:List UInt8),([]:List TF0)⟩:TF0)),(sI F6).symm,V4,J4,Z12,Z13,P11,Z14,P12,L12,hb_5,B4,D12,f.kp,N67⟩
         exact ar
        exact ar
       refine av rfl (λW48 N68=>?_) ?_
       ·refine Y25 f N68 2 rfl rfl (b:=b1) (j:=0) (v:=.slice Z14 (al++[ae]).length P12) rfl (by exact rfl) (by simp) (by simp) ((Ent.row 31 6 (.slice Z14 (al++[ae]).length P12) (al++[ae]).length L10)::(Ent.obj b0 (.cells #[.pointer Z12,.slice Z13 X2.2.length P11] 142 (0,0)))::(Ent.obj b1 (.cells #[.slice Z14 (al++[ae]).length P12] 29 (0,0)))::H) rfl λW49 N69 _ f=>am rfl (aw 3 J4 N69 rfl (av rfl (λW50 N70=>?_) ?_))
        ·obtain⟨Q8,P14,H5,hcap_5⟩:=N70.rowAddr 0 rfl (bh l3)
         have f:=f.st 9 (H5)
         refine Z f (Y28 rfl (ad:=⟨Q8,0,none⟩) (len:=(al++[ae]).length) (cap:=P14) (k:=.i64) (i:=((al.length:Nat):Int)) (e:=31) (sz:=6) (az l3) (ay l3)) λ_ f=>?_
         have f:=f.st 9 (H5.symm)
         refine am rfl (aw 3 J4 N70 rfl (av rfl (λW51 N71=>?_) ?_))
         ·refine Y24 (it:=((al.length:Nat):Int)) (d:=al++[ae]) (f:=au) (xv:=(⟨(0:Int),X2.1,(0:Int),([]:List UInt8),([]:List UInt8),([]:List TF0)⟩:TF0)) (vs:=[.int .i8 0,S X2.1,.int .i64 0,S [],S [],.slice none 0 0]) f N71 H5 rfl rfl (by exact TF0.shut Sli.nil) bI l3 D10 λL13 W52 N72 D13 _ f=>?_
          have N73:Hp w0 V4 ((Ent.row 31 6 (.slice Z14 ((al++[ae]).set ((al.length:Nat):Int).toNat (⟨(0:Int),X2.1,(0:Int),([]:List UInt8),([]:List UInt8),([]:List TF0)⟩:TF0)).length P12) ((al++[ae]).set ((al.length:Nat):Int).toNat (⟨(0:Int),X2.1,(0:Int),([]:List UInt8),([]:List UInt8),([]:List TF0)⟩:TF0)).length L13)::(Ent.obj b0 (.cells #[.pointer Z12,.slice Z13 X2.2.length P11] 142 (0,0)))::(Ent.obj b1 (.cells #[.slice Z14 (al++[ae]).length P12] 29 (0,0)))::H) W52:=N72.rowVal (by simp only[List.length_set])
          have f:=Frm.set f 9 (v:=.slice Z14 (al++[ae]).length P12) (v':=.slice Z14 ((al++[ae]).set ((al.length:Nat):Int).toNat (⟨(0:Int),X2.1,(0:Int),([]:List UInt8),([]:List UInt8),([]:List TF0)⟩:TF0)).length P12) (by kernel_rfl) (by simp only[List.length_set])
          have N74:Hp w0 V4 ((Ent.row 31 6 (.slice Z14 ((al++[ae]).set ((al.length:Nat):Int).toNat (⟨(0:Int),X2.1,(0:Int),([]:List UInt8),([]:List UInt8),([]:List TF0)⟩:TF0)).length P12) ((al++[ae]).set ((al.length:Nat):Int).toNat (⟨(0:Int),X2.1,(0:Int),([]:List UInt8),([]:List UInt8),([]:List TF0)⟩:TF0)).length L13)::(Ent.obj b0 (.cells #[.pointer Z12,.slice Z13 X2.2.length P11] 142 (0,0)))::(Ent.obj b1 (.cells #[.slice Z14 ((al++[ae]).set ((al.length:Nat):Int).toNat (⟨(0:Int),X2.1,(0:Int),([]:List UInt8),([]:List UInt8),([]:List TF0)⟩:TF0)).length P12] 29 (0,0)))::H) W52:=by simp only[List.length_set];rw[List.length_set] at N73;exact N73
          refine am rfl (aw 3 J4 N74 rfl (ci λW53 N75=>aS ?_))
          exact⟨(X2.2,(al++[ae]).set ((al.length:Nat):Int).toNat (⟨(0:Int),X2.1,(0:Int),([]:List UInt8),([]:List UInt8),([]:List TF0)⟩:TF0)),(sI F6).symm,V4,J4,Z12,Z13,P11,Z14,P12,L13,hb_5,B4,D13,f.kp,N75⟩
         exact ar
        exact ar
       exact ar
      exact ar
     exact ar
    exact ar
   refine av rfl (λW54 N76=>?_) ?_
   ·refine Y17 (E:=[Ent.obj b0 (.cells #[.pointer Z4,.slice Z5 X1.2.length P3] 142 (0,0)),Ent.row 5 1 (.slice Z5 X1.2.length P3) X1.2.length L3]) (H:=((Ent.obj b1 (.cells #[.slice Z3 al.length P2] 29 (0,0)))::(Ent.row 31 6 (.slice Z3 al.length P2) al.length L2)::H)) f N76 (cc n _ b0 Z4 lz X1.2 Z5 P3 L3 D3 X2 l2) λ_ V5 E_5 W55 J5 N77 q_5 _ f=>?_
    obtain⟨Z15,Z16,P15,rfl,rfl,hb_6,B5⟩:=q_5
    refine am rfl (aw 3 J5 N77 rfl (Y1 (v:=.agg #[.int .i8 0,S X2.1,.int .i64 0,S [],S [],.slice none 0 0]) rfl f rfl rfl (λ_ _=>by kernel_rfl) λ_ f=>av rfl (λW56 N78=>?_) ?_))
    ·refine Z f (Y30 (v:=.slice Z3 al.length P2) rfl (ad:=⟨b1,0,none⟩) (N78.ownCell 1 rfl 0)) λ_ f=>am rfl (aw 3 J5 N78 rfl (Y1 (v:=.int .i64 ((al.length:Nat):Int)) rfl f rfl rfl (λ_ _=>by kernel_rfl) λ_ f=>av rfl (λW57 N79=>?_) ?_))
     ·refine aQ (k:=1) (c:=1) f N79 (.cells #[.int .i8 0,S [],.int .i64 0,S [],S [],.slice none 0 0] 31 (0,0)) (by kernel_rfl) (λ_=>by kernel_rfl) λQ9 W58 N80 _ f=>am rfl (aw 4 J5 N80 rfl (av rfl (λW59 N81=>?_) ?_))
      ·have N82:=N81.pl [3]
       refine Y20 (z:=.agg #[.int .i8 0,S [],.int .i64 0,S [],S [],.slice none 0 0]) (f:=au) (xs:=al) (ys:=[ae]) (news:=[.int .i8 0,S [],.int .i64 0,S [],S [],.slice none 0 0]) (ad:=⟨Q9,0,none⟩) (m:=1) (c:=1) f N82 (ag.mono (J1.trans J5) _ _ D2) (by exact⟨_,_,rfl,TF0.shut Sli.nil,rfl⟩) rfl rfl rfl rfl (an (N82.ownCell 1 rfl) 0 rfl) (by exact O1) (by have hg_:=O1;first|omega|(simp only[List.length_cons,List.length_nil] at*;omega)) λZ17 P16 L14 W60 N83 D14 _ f=>?_
       have N84:=N83.pl [1]
       have N85:=N84.drop
       refine am rfl (aw 3 J5 N85 rfl (av rfl (λW61 N86=>?_) ?_))
       ·obtain⟨Q10,P17,H6,hcap_6⟩:=N86.rowAddr 0 rfl (bh l3)
        have f:=f.st 9 (H6)
        refine Z f (Y28 rfl (ad:=⟨Q10,0,none⟩) (len:=(al++[ae]).length) (cap:=P17) (k:=.i64) (i:=((al.length:Nat):Int)) (e:=31) (sz:=6) (az l3) (ay l3)) λ_ f=>?_
        have f:=f.st 9 (H6.symm)
        refine am rfl (aw 3 J5 N86 rfl (av rfl (λW62 N87=>?_) ?_))
        ·refine Y24 (it:=((al.length:Nat):Int)) (d:=al++[ae]) (f:=au) (xv:=(⟨(0:Int),X2.1,(0:Int),([]:List UInt8),([]:List UInt8),([]:List TF0)⟩:TF0)) (vs:=[.int .i8 0,S X2.1,.int .i64 0,S [],S [],.slice none 0 0]) f N87 H6 rfl rfl (by exact TF0.shut Sli.nil) bI l3 D14 λL15 W63 N88 D15 _ f=>?_
         have N89:Hp w0 V5 ((Ent.row 31 6 (.slice Z17 ((al++[ae]).set ((al.length:Nat):Int).toNat (⟨(0:Int),X2.1,(0:Int),([]:List UInt8),([]:List UInt8),([]:List TF0)⟩:TF0)).length P16) ((al++[ae]).set ((al.length:Nat):Int).toNat (⟨(0:Int),X2.1,(0:Int),([]:List UInt8),([]:List UInt8),([]:List TF0)⟩:TF0)).length L15)::(Ent.obj b0 (.cells #[.pointer Z15,.slice Z16 X2.2.length P15] 142 (0,0)))::(Ent.obj b1 (.cells #[.slice Z3 al.length P2] 29 (0,0)))::H) W63:=N88.rowVal (by simp only[List.length_set])
         have f:=Frm.set f 9 (v:=.slice Z17 (al++[ae]).length P16) (v':=.slice Z17 ((al++[ae]).set ((al.length:Nat):Int).toNat (⟨(0:Int),X2.1,(0:Int),([]:List UInt8),([]:List UInt8),([]:List TF0)⟩:TF0)).length P16) (by kernel_rfl) (by simp only[List.length_set])
         refine am rfl (aw 3 J5 N89 rfl (av rfl (λW64 N90=>?_) ?_))
         ·refine Y25 f N90 2 rfl rfl (b:=b1) (j:=0) (v:=.slice Z17 ((al++[ae]).set ((al.length:Nat):Int).toNat (⟨(0:Int),X2.1,(0:Int),([]:List UInt8),([]:List UInt8),([]:List TF0)⟩:TF0)).length P16) rfl (by exact rfl) (by simp) (by simp) ((Ent.row 31 6 (.slice Z17 ((al++[ae]).set ((al.length:Nat):Int).toNat (⟨(0:Int),X2.1,(0:Int),([]:List UInt8),([]:List UInt8),([]:List TF0)⟩:TF0)).length P16) ((al++[ae]).set ((al.length:Nat):Int).toNat (⟨(0:Int),X2.1,(0:Int),([]:List UInt8),([]:List UInt8),([]:List TF0)⟩:TF0)).length L15)::(Ent.obj b0 (.cells #[.pointer Z15,.slice Z16 X2.2.length P15] 142 (0,0)))::(Ent.obj b1 (.cells #[.slice Z17 ((al++[ae]).set ((al.length:Nat):Int).toNat (⟨(0:Int),X2.1,(0:Int),([]:List UInt8),([]:List UInt8),([]:List TF0)⟩:TF0)).length P16] 29 (0,0)))::H) rfl λW65 N91 _ f=>am rfl (aw 3 J5 N91 rfl (ci λW66 N92=>aS ?_))
          exact⟨(X2.2,(al++[ae]).set ((al.length:Nat):Int).toNat (⟨(0:Int),X2.1,(0:Int),([]:List UInt8),([]:List UInt8),([]:List TF0)⟩:TF0)),(sI F6).symm,V5,J5,Z15,Z16,P15,Z17,P16,L15,hb_6,B5,D15,f.kp,N92⟩
         exact ar
        refine av rfl (λW67 N93=>?_) ?_
        ·refine Y25 f N93 2 rfl rfl (b:=b1) (j:=0) (v:=.slice Z17 (al++[ae]).length P16) rfl (by exact rfl) (by simp) (by simp) ((Ent.row 31 6 (.slice Z17 (al++[ae]).length P16) (al++[ae]).length L14)::(Ent.obj b0 (.cells #[.pointer Z15,.slice Z16 X2.2.length P15] 142 (0,0)))::(Ent.obj b1 (.cells #[.slice Z17 (al++[ae]).length P16] 29 (0,0)))::H) rfl λW68 N94 _ f=>am rfl (aw 3 J5 N94 rfl (av rfl (λW69 N95=>?_) ?_))
         ·refine Y24 (it:=((al.length:Nat):Int)) (d:=al++[ae]) (f:=au) (xv:=(⟨(0:Int),X2.1,(0:Int),([]:List UInt8),([]:List UInt8),([]:List TF0)⟩:TF0)) (vs:=[.int .i8 0,S X2.1,.int .i64 0,S [],S [],.slice none 0 0]) f N95 H6 rfl rfl (by exact TF0.shut Sli.nil) bI l3 D14 λL16 W70 N96 D16 _ f=>?_
          have N97:Hp w0 V5 ((Ent.row 31 6 (.slice Z17 ((al++[ae]).set ((al.length:Nat):Int).toNat (⟨(0:Int),X2.1,(0:Int),([]:List UInt8),([]:List UInt8),([]:List TF0)⟩:TF0)).length P16) ((al++[ae]).set ((al.length:Nat):Int).toNat (⟨(0:Int),X2.1,(0:Int),([]:List UInt8),([]:List UInt8),([]:List TF0)⟩:TF0)).length L16)::(Ent.obj b0 (.cells #[.pointer Z15,.slice Z16 X2.2.length P15] 142 (0,0)))::(Ent.obj b1 (.cells #[.slice Z17 (al++[ae]).length P16] 29 (0,0)))::H) W70:=N96.rowVal (by simp only[List.length_set])
          have f:=Frm.set f 9 (v:=.slice Z17 (al++[ae]).length P16) (v':=.slice Z17 ((al++[ae]).set ((al.length:Nat):Int).toNat (⟨(0:Int),X2.1,(0:Int),([]:List UInt8),([]:List UInt8),([]:List TF0)⟩:TF0)).length P16) (by kernel_rfl) (by simp only[List.length_set])
          have N98:Hp w0 V5 ((Ent.row 31 6 (.slice Z17 ((al++[ae]).set ((al.length:Nat):Int).toNat (⟨(0:Int),X2.1,(0:Int),([]:List UInt8),([]:List UInt8),([]:List TF0)⟩:TF0)).length P16) ((al++[ae]).set ((al.length:Nat):Int).toNat (⟨(0:Int),X2.1,(0:Int),([]:List UInt8),([]:List UInt8),([]:List TF0)⟩:TF0)).length L16)::(Ent.obj b0 (.cells #[.pointer Z15,.slice Z16 X2.2.length P15] 142 (0,0)))::(Ent.obj b1 (.cells #[.slice Z17 ((al++[ae]).set ((al.length:Nat):Int).toNat (⟨(0:Int),X2.1,(0:Int),([]:List UInt8),([]:List UInt8),([]:List TF0)⟩:TF0)).length P16] 29 (0,0)))::H) W70:=by simp only[List.length_set];rw[List.length_set] at N97;exact N97
          refine am rfl (aw 3 J5 N98 rfl (ci λW71 N99=>aS ?_))
          exact⟨(X2.2,(al++[ae]).set ((al.length:Nat):Int).toNat (⟨(0:Int),X2.1,(0:Int),([]:List UInt8),([]:List UInt8),([]:List TF0)⟩:TF0)),(sI F6).symm,V5,J5,Z15,Z16,P15,Z17,P16,L16,hb_6,B5,D16,f.kp,N99⟩
         exact ar
        exact ar
       refine av rfl (λW72 N100=>?_) ?_
       ·refine Y25 f N100 2 rfl rfl (b:=b1) (j:=0) (v:=.slice Z17 (al++[ae]).length P16) rfl (by exact rfl) (by simp) (by simp) ((Ent.row 31 6 (.slice Z17 (al++[ae]).length P16) (al++[ae]).length L14)::(Ent.obj b0 (.cells #[.pointer Z15,.slice Z16 X2.2.length P15] 142 (0,0)))::(Ent.obj b1 (.cells #[.slice Z17 (al++[ae]).length P16] 29 (0,0)))::H) rfl λW73 N101 _ f=>am rfl (aw 3 J5 N101 rfl (av rfl (λW74 N102=>?_) ?_))
        ·obtain⟨Q11,P18,H7,hcap_7⟩:=N102.rowAddr 0 rfl (bh l3)
         have f:=f.st 9 (H7)
         refine Z f (Y28 rfl (ad:=⟨Q11,0,none⟩) (len:=(al++[ae]).length) (cap:=P18) (k:=.i64) (i:=((al.length:Nat):Int)) (e:=31) (sz:=6) (az l3) (ay l3)) λ_ f=>?_
         have f:=f.st 9 (H7.symm)
         refine am rfl (aw 3 J5 N102 rfl (av rfl (λW75 N103=>?_) ?_))
         ·refine Y24 (it:=((al.length:Nat):Int)) (d:=al++[ae]) (f:=au) (xv:=(⟨(0:Int),X2.1,(0:Int),([]:List UInt8),([]:List UInt8),([]:List TF0)⟩:TF0)) (vs:=[.int .i8 0,S X2.1,.int .i64 0,S [],S [],.slice none 0 0]) f N103 H7 rfl rfl (by exact TF0.shut Sli.nil) bI l3 D14 λL17 W76 N104 D17 _ f=>?_
          have N105:Hp w0 V5 ((Ent.row 31 6 (.slice Z17 ((al++[ae]).set ((al.length:Nat):Int).toNat (⟨(0:Int),X2.1,(0:Int),([]:List UInt8),([]:List UInt8),([]:List TF0)⟩:TF0)).length P16) ((al++[ae]).set ((al.length:Nat):Int).toNat (⟨(0:Int),X2.1,(0:Int),([]:List UInt8),([]:List UInt8),([]:List TF0)⟩:TF0)).length L17)::(Ent.obj b0 (.cells #[.pointer Z15,.slice Z16 X2.2.length P15] 142 (0,0)))::(Ent.obj b1 (.cells #[.slice Z17 (al++[ae]).length P16] 29 (0,0)))::H) W76:=N104.rowVal (by simp only[List.length_set])
          have f:=Frm.set f 9 (v:=.slice Z17 (al++[ae]).length P16) (v':=.slice Z17 ((al++[ae]).set ((al.length:Nat):Int).toNat (⟨(0:Int),X2.1,(0:Int),([]:List UInt8),([]:List UInt8),([]:List TF0)⟩:TF0)).length P16) (by kernel_rfl) (by simp only[List.length_set])
          have N106:Hp w0 V5 ((Ent.row 31 6 (.slice Z17 ((al++[ae]).set ((al.length:Nat):Int).toNat (⟨(0:Int),X2.1,(0:Int),([]:List UInt8),([]:List UInt8),([]:List TF0)⟩:TF0)).length P16) ((al++[ae]).set ((al.length:Nat):Int).toNat (⟨(0:Int),X2.1,(0:Int),([]:List UInt8),([]:List UInt8),([]:List TF0)⟩:TF0)).length L17)::(Ent.obj b0 (.cells #[.pointer Z15,.slice Z16 X2.2.length P15] 142 (0,0)))::(Ent.obj b1 (.cells #[.slice Z17 ((al++[ae]).set ((al.length:Nat):Int).toNat (⟨(0:Int),X2.1,(0:Int),([]:List UInt8),([]:List UInt8),([]:List TF0)⟩:TF0)).length P16] 29 (0,0)))::H) W76:=by simp only[List.length_set];rw[List.length_set] at N105;exact N105
          refine am rfl (aw 3 J5 N106 rfl (ci λW77 N107=>aS ?_))
          exact⟨(X2.2,(al++[ae]).set ((al.length:Nat):Int).toNat (⟨(0:Int),X2.1,(0:Int),([]:List UInt8),([]:List UInt8),([]:List TF0)⟩:TF0)),(sI F6).symm,V5,J5,Z15,Z16,P15,Z17,P16,L17,hb_6,B5,D17,f.kp,N107⟩
         exact ar
        exact ar
       exact ar
      exact ar
     exact ar
    refine av rfl (λW78 N108=>?_) ?_
    ·refine aQ (k:=1) (c:=1) f N108 (.cells #[.int .i8 0,S [],.int .i64 0,S [],S [],.slice none 0 0] 31 (0,0)) (by kernel_rfl) (λ_=>by kernel_rfl) λQ12 W79 N109 _ f=>am rfl (aw 4 J5 N109 rfl (av rfl (λW80 N110=>?_) ?_))
     ·refine Z f (Y30 (v:=.slice Z3 al.length P2) rfl (ad:=⟨b1,0,none⟩) (N110.ownCell 2 rfl 0)) λ_ f=>am rfl (aw 4 J5 N110 rfl (Y1 (v:=.int .i64 ((al.length:Nat):Int)) rfl f rfl rfl (λ_ _=>by kernel_rfl) λ_ f=>av rfl (λW81 N111=>?_) ?_))
      ·have N112:=N111.pl [3]
       refine Y20 (z:=.agg #[.int .i8 0,S [],.int .i64 0,S [],S [],.slice none 0 0]) (f:=au) (xs:=al) (ys:=[ae]) (news:=[.int .i8 0,S [],.int .i64 0,S [],S [],.slice none 0 0]) (ad:=⟨Q12,0,none⟩) (m:=1) (c:=1) f N112 (ag.mono (J1.trans J5) _ _ D2) (by exact⟨_,_,rfl,TF0.shut Sli.nil,rfl⟩) rfl rfl rfl rfl (an (N112.ownCell 1 rfl) 0 rfl) (by exact O1) (by have hg_:=O1;first|omega|(simp only[List.length_cons,List.length_nil] at*;omega)) λZ18 P19 L18 W82 N113 D18 _ f=>?_
       have N114:=N113.pl [1]
       have N115:=N114.drop
       refine am rfl (aw 3 J5 N115 rfl (av rfl (λW83 N116=>?_) ?_))
       ·obtain⟨Q13,P20,H8,hcap_8⟩:=N116.rowAddr 0 rfl (bh l3)
        have f:=f.st 9 (H8)
        refine Z f (Y28 rfl (ad:=⟨Q13,0,none⟩) (len:=(al++[ae]).length) (cap:=P20) (k:=.i64) (i:=((al.length:Nat):Int)) (e:=31) (sz:=6) (az l3) (ay l3)) λ_ f=>?_
        have f:=f.st 9 (H8.symm)
        refine am rfl (aw 3 J5 N116 rfl (av rfl (λW84 N117=>?_) ?_))
        ·refine Y24 (it:=((al.length:Nat):Int)) (d:=al++[ae]) (f:=au) (xv:=(⟨(0:Int),X2.1,(0:Int),([]:List UInt8),([]:List UInt8),([]:List TF0)⟩:TF0)) (vs:=[.int .i8 0,S X2.1,.int .i64 0,S [],S [],.slice none 0 0]) f N117 H8 rfl rfl (by exact TF0.shut Sli.nil) bI l3 D18 λL19 W85 N118 D19 _ f=>?_
         have N119:Hp w0 V5 ((Ent.row 31 6 (.slice Z18 ((al++[ae]).set ((al.length:Nat):Int).toNat (⟨(0:Int),X2.1,(0:Int),([]:List UInt8),([]:List UInt8),([]:List TF0)⟩:TF0)).length P19) ((al++[ae]).set ((al.length:Nat):Int).toNat (⟨(0:Int),X2.1,(0:Int),([]:List UInt8),([]:List UInt8),([]:List TF0)⟩:TF0)).length L19)::(Ent.obj b0 (.cells #[.pointer Z15,.slice Z16 X2.2.length P15] 142 (0,0)))::(Ent.obj b1 (.cells #[.slice Z3 al.length P2] 29 (0,0)))::H) W85:=N118.rowVal (by simp only[List.length_set])
         have f:=Frm.set f 9 (v:=.slice Z18 (al++[ae]).length P19) (v':=.slice Z18 ((al++[ae]).set ((al.length:Nat):Int).toNat (⟨(0:Int),X2.1,(0:Int),([]:List UInt8),([]:List UInt8),([]:List TF0)⟩:TF0)).length P19) (by kernel_rfl) (by simp only[List.length_set])
         refine am rfl (aw 3 J5 N119 rfl (av rfl (λW86 N120=>?_) ?_))
         ·refine Y25 f N120 2 rfl rfl (b:=b1) (j:=0) (v:=.slice Z18 ((al++[ae]).set ((al.length:Nat):Int).toNat (⟨(0:Int),X2.1,(0:Int),([]:List UInt8),([]:List UInt8),([]:List TF0)⟩:TF0)).length P19) rfl (by exact rfl) (by simp) (by simp) ((Ent.row 31 6 (.slice Z18 ((al++[ae]).set ((al.length:Nat):Int).toNat (⟨(0:Int),X2.1,(0:Int),([]:List UInt8),([]:List UInt8),([]:List TF0)⟩:TF0)).length P19) ((al++[ae]).set ((al.length:Nat):Int).toNat (⟨(0:Int),X2.1,(0:Int),([]:List UInt8),([]:List UInt8),([]:List TF0)⟩:TF0)).length L19)::(Ent.obj b0 (.cells #[.pointer Z15,.slice Z16 X2.2.length P15] 142 (0,0)))::(Ent.obj b1 (.cells #[.slice Z18 ((al++[ae]).set ((al.length:Nat):Int).toNat (⟨(0:Int),X2.1,(0:Int),([]:List UInt8),([]:List UInt8),([]:List TF0)⟩:TF0)).length P19] 29 (0,0)))::H) rfl λW87 N121 _ f=>am rfl (aw 3 J5 N121 rfl (ci λW88 N122=>aS ?_))
          exact⟨(X2.2,(al++[ae]).set ((al.length:Nat):Int).toNat (⟨(0:Int),X2.1,(0:Int),([]:List UInt8),([]:List UInt8),([]:List TF0)⟩:TF0)),(sI F6).symm,V5,J5,Z15,Z16,P15,Z18,P19,L19,hb_6,B5,D19,f.kp,N122⟩
         exact ar
        refine av rfl (λW89 N123=>?_) ?_
        ·refine Y25 f N123 2 rfl rfl (b:=b1) (j:=0) (v:=.slice Z18 (al++[ae]).length P19) rfl (by exact rfl) (by simp) (by simp) ((Ent.row 31 6 (.slice Z18 (al++[ae]).length P19) (al++[ae]).length L18)::(Ent.obj b0 (.cells #[.pointer Z15,.slice Z16 X2.2.length P15] 142 (0,0)))::(Ent.obj b1 (.cells #[.slice Z18 (al++[ae]).length P19] 29 (0,0)))::H) rfl λW90 N124 _ f=>am rfl (aw 3 J5 N124 rfl (av rfl (λW91 N125=>?_) ?_))
         ·refine Y24 (it:=((al.length:Nat):Int)) (d:=al++[ae]) (f:=au) (xv:=(⟨(0:Int),X2.1,(0:Int),([]:List UInt8),([]:List UInt8),([]:List TF0)⟩:TF0)) (vs:=[.int .i8 0,S X2.1,.int .i64 0,S [],S [],.slice none 0 0]) f N125 H8 rfl rfl (by exact TF0.shut Sli.nil) bI l3 D18 λL20 W92 N126 D20 _ f=>?_
          have N127:Hp w0 V5 ((Ent.row 31 6 (.slice Z18 ((al++[ae]).set ((al.length:Nat):Int).toNat (⟨(0:Int),X2.1,(0:Int),([]:List UInt8),([]:List UInt8),([]:List TF0)⟩:TF0)).length P19) ((al++[ae]).set ((al.length:Nat):Int).toNat (⟨(0:Int),X2.1,(0:Int),([]:List UInt8),([]:List UInt8),([]:List TF0)⟩:TF0)).length L20)::(Ent.obj b0 (.cells #[.pointer Z15,.slice Z16 X2.2.length P15] 142 (0,0)))::(Ent.obj b1 (.cells #[.slice Z18 (al++[ae]).length P19] 29 (0,0)))::H) W92:=N126.rowVal (by simp only[List.length_set])
          have f:=Frm.set f 9 (v:=.slice Z18 (al++[ae]).length P19) (v':=.slice Z18 ((al++[ae]).set ((al.length:Nat):Int).toNat (⟨(0:Int),X2.1,(0:Int),([]:List UInt8),([]:List UInt8),([]:List TF0)⟩:TF0)).length P19) (by kernel_rfl) (by simp only[List.length_set])
          have N128:Hp w0 V5 ((Ent.row 31 6 (.slice Z18 ((al++[ae]).set ((al.length:Nat):Int).toNat (⟨(0:Int),X2.1,(0:Int),([]:List UInt8),([]:List UInt8),([]:List TF0)⟩:TF0)).length P19) ((al++[ae]).set ((al.length:Nat):Int).toNat (⟨(0:Int),X2.1,(0:Int),([]:List UInt8),([]:List UInt8),([]:List TF0)⟩:TF0)).length L20)::(Ent.obj b0 (.cells #[.pointer Z15,.slice Z16 X2.2.length P15] 142 (0,0)))::(Ent.obj b1 (.cells #[.slice Z18 ((al++[ae]).set ((al.length:Nat):Int).toNat (⟨(0:Int),X2.1,(0:Int),([]:List UInt8),([]:List UInt8),([]:List TF0)⟩:TF0)).length P19] 29 (0,0)))::H) W92:=by simp only[List.length_set];rw[List.length_set] at N127;exact N127
          refine am rfl (aw 3 J5 N128 rfl (ci λW93 N129=>aS ?_))
          exact⟨(X2.2,(al++[ae]).set ((al.length:Nat):Int).toNat (⟨(0:Int),X2.1,(0:Int),([]:List UInt8),([]:List UInt8),([]:List TF0)⟩:TF0)),(sI F6).symm,V5,J5,Z15,Z16,P15,Z18,P19,L20,hb_6,B5,D20,f.kp,N129⟩
         exact ar
        exact ar
       refine av rfl (λW94 N130=>?_) ?_
       ·refine Y25 f N130 2 rfl rfl (b:=b1) (j:=0) (v:=.slice Z18 (al++[ae]).length P19) rfl (by exact rfl) (by simp) (by simp) ((Ent.row 31 6 (.slice Z18 (al++[ae]).length P19) (al++[ae]).length L18)::(Ent.obj b0 (.cells #[.pointer Z15,.slice Z16 X2.2.length P15] 142 (0,0)))::(Ent.obj b1 (.cells #[.slice Z18 (al++[ae]).length P19] 29 (0,0)))::H) rfl λW95 N131 _ f=>am rfl (aw 3 J5 N131 rfl (av rfl (λW96 N132=>?_) ?_))
        ·obtain⟨Q14,P21,H9,hcap_9⟩:=N132.rowAddr 0 rfl (bh l3)
         have f:=f.st 9 (H9)
         refine Z f (Y28 rfl (ad:=⟨Q14,0,none⟩) (len:=(al++[ae]).length) (cap:=P21) (k:=.i64) (i:=((al.length:Nat):Int)) (e:=31) (sz:=6) (az l3) (ay l3)) λ_ f=>?_
         have f:=f.st 9 (H9.symm)
         refine am rfl (aw 3 J5 N132 rfl (av rfl (λW97 N133=>?_) ?_))
         ·refine Y24 (it:=((al.length:Nat):Int)) (d:=al++[ae]) (f:=au) (xv:=(⟨(0:Int),X2.1,(0:Int),([]:List UInt8),([]:List UInt8),([]:List TF0)⟩:TF0)) (vs:=[.int .i8 0,S X2.1,.int .i64 0,S [],S [],.slice none 0 0]) f N133 H9 rfl rfl (by exact TF0.shut Sli.nil) bI l3 D18 λL21 W98 N134 D21 _ f=>?_
          have N135:Hp w0 V5 ((Ent.row 31 6 (.slice Z18 ((al++[ae]).set ((al.length:Nat):Int).toNat (⟨(0:Int),X2.1,(0:Int),([]:List UInt8),([]:List UInt8),([]:List TF0)⟩:TF0)).length P19) ((al++[ae]).set ((al.length:Nat):Int).toNat (⟨(0:Int),X2.1,(0:Int),([]:List UInt8),([]:List UInt8),([]:List TF0)⟩:TF0)).length L21)::(Ent.obj b0 (.cells #[.pointer Z15,.slice Z16 X2.2.length P15] 142 (0,0)))::(Ent.obj b1 (.cells #[.slice Z18 (al++[ae]).length P19] 29 (0,0)))::H) W98:=N134.rowVal (by simp only[List.length_set])
          have f:=Frm.set f 9 (v:=.slice Z18 (al++[ae]).length P19) (v':=.slice Z18 ((al++[ae]).set ((al.length:Nat):Int).toNat (⟨(0:Int),X2.1,(0:Int),([]:List UInt8),([]:List UInt8),([]:List TF0)⟩:TF0)).length P19) (by kernel_rfl) (by simp only[List.length_set])
          have N136:Hp w0 V5 ((Ent.row 31 6 (.slice Z18 ((al++[ae]).set ((al.length:Nat):Int).toNat (⟨(0:Int),X2.1,(0:Int),([]:List UInt8),([]:List UInt8),([]:List TF0)⟩:TF0)).length P19) ((al++[ae]).set ((al.length:Nat):Int).toNat (⟨(0:Int),X2.1,(0:Int),([]:List UInt8),([]:List UInt8),([]:List TF0)⟩:TF0)).length L21)::(Ent.obj b0 (.cells #[.pointer Z15,.slice Z16 X2.2.length P15] 142 (0,0)))::(Ent.obj b1 (.cells #[.slice Z18 ((al++[ae]).set ((al.length:Nat):Int).toNat (⟨(0:Int),X2.1,(0:Int),([]:List UInt8),([]:List UInt8),([]:List TF0)⟩:TF0)).length P19] 29 (0,0)))::H) W98:=by simp only[List.length_set];rw[List.length_set] at N135;exact N135
          refine am rfl (aw 3 J5 N136 rfl (ci λW99 N137=>aS ?_))
          exact⟨(X2.2,(al++[ae]).set ((al.length:Nat):Int).toNat (⟨(0:Int),X2.1,(0:Int),([]:List UInt8),([]:List UInt8),([]:List TF0)⟩:TF0)),(sI F6).symm,V5,J5,Z15,Z16,P15,Z18,P19,L21,hb_6,B5,D21,f.kp,N137⟩
         exact ar
        exact ar
       exact ar
      exact ar
     exact ar
    exact ar
   refine av rfl (λW100 N138=>?_) ?_
   ·refine aQ (k:=1) (c:=1) f N138 (.cells #[.int .i8 0,S [],.int .i64 0,S [],S [],.slice none 0 0] 31 (0,0)) (by kernel_rfl) (λ_=>by kernel_rfl) λQ15 W101 N139 _ f=>am rfl (aw 5 (mR _) N139 rfl (av rfl (λW102 N140=>?_) ?_))
    ·refine Z f (Y30 (v:=.slice Z3 al.length P2) rfl (ad:=⟨b1,0,none⟩) (N140.ownCell 3 rfl 0)) λ_ f=>am rfl (aw 5 (mR _) N140 rfl (Y1 (v:=.int .i64 ((al.length:Nat):Int)) rfl f rfl rfl (λ_ _=>by kernel_rfl) λ_ f=>av rfl (λW103 N141=>?_) ?_))
     ·have N144:=N141.pl [2,2]
      refine Y17 (E:=[Ent.obj b0 (.cells #[.pointer Z4,.slice Z5 X1.2.length P3] 142 (0,0)),Ent.row 5 1 (.slice Z5 X1.2.length P3) X1.2.length L3]) (H:=((Ent.obj Q15 (.cells #[.int .i8 0,S [],.int .i64 0,S [],S [],.slice none 0 0] 31 (0,0)))::(Ent.obj b1 (.cells #[.slice Z3 al.length P2] 29 (0,0)))::(Ent.row 31 6 (.slice Z3 al.length P2) al.length L2)::H)) f N144 (cc n _ b0 Z4 lz X1.2 Z5 P3 L3 D3 X2 l2) λ_ V6 E_6 W104 J6 N142 q_6 _ f=>?_
      obtain⟨Z19,Z20,P22,rfl,rfl,hb_7,B6⟩:=q_6
      refine am rfl (aw 4 J6 N142 rfl (Y1 (v:=.agg #[.int .i8 0,S X2.1,.int .i64 0,S [],S [],.slice none 0 0]) rfl f rfl rfl (λ_ _=>by kernel_rfl) λ_ f=>av rfl (λW105 N145=>?_) ?_))
      ·have N146:=N145.pl [3]
       refine Y20 (z:=.agg #[.int .i8 0,S [],.int .i64 0,S [],S [],.slice none 0 0]) (f:=au) (xs:=al) (ys:=[ae]) (news:=[.int .i8 0,S [],.int .i64 0,S [],S [],.slice none 0 0]) (ad:=⟨Q15,0,none⟩) (m:=1) (c:=1) f N146 (ag.mono (J1.trans J6) _ _ D2) (by exact⟨_,_,rfl,TF0.shut Sli.nil,rfl⟩) rfl rfl rfl rfl (an (N146.ownCell 2 rfl) 0 rfl) (by exact O1) (by have hg_:=O1;first|omega|(simp only[List.length_cons,List.length_nil] at*;omega)) λZ21 P23 L22 W106 N147 D22 _ f=>?_
       have N148:=N147.pl [2]
       have N149:=N148.drop
       refine am rfl (aw 3 J6 N149 rfl (av rfl (λW107 N150=>?_) ?_))
       ·obtain⟨Q16,P24,H10,hcap_10⟩:=N150.rowAddr 0 rfl (bh l3)
        have f:=f.st 9 (H10)
        refine Z f (Y28 rfl (ad:=⟨Q16,0,none⟩) (len:=(al++[ae]).length) (cap:=P24) (k:=.i64) (i:=((al.length:Nat):Int)) (e:=31) (sz:=6) (az l3) (ay l3)) λ_ f=>?_
        have f:=f.st 9 (H10.symm)
        refine am rfl (aw 3 J6 N150 rfl (av rfl (λW108 N151=>?_) ?_))
        ·refine Y24 (it:=((al.length:Nat):Int)) (d:=al++[ae]) (f:=au) (xv:=(⟨(0:Int),X2.1,(0:Int),([]:List UInt8),([]:List UInt8),([]:List TF0)⟩:TF0)) (vs:=[.int .i8 0,S X2.1,.int .i64 0,S [],S [],.slice none 0 0]) f N151 H10 rfl rfl (by exact TF0.shut Sli.nil) bI l3 D22 λL23 W109 N152 D23 _ f=>?_
         have N153:Hp w0 V6 ((Ent.row 31 6 (.slice Z21 ((al++[ae]).set ((al.length:Nat):Int).toNat (⟨(0:Int),X2.1,(0:Int),([]:List UInt8),([]:List UInt8),([]:List TF0)⟩:TF0)).length P23) ((al++[ae]).set ((al.length:Nat):Int).toNat (⟨(0:Int),X2.1,(0:Int),([]:List UInt8),([]:List UInt8),([]:List TF0)⟩:TF0)).length L23)::(Ent.obj b0 (.cells #[.pointer Z19,.slice Z20 X2.2.length P22] 142 (0,0)))::(Ent.obj b1 (.cells #[.slice Z3 al.length P2] 29 (0,0)))::H) W109:=N152.rowVal (by simp only[List.length_set])
         have f:=Frm.set f 9 (v:=.slice Z21 (al++[ae]).length P23) (v':=.slice Z21 ((al++[ae]).set ((al.length:Nat):Int).toNat (⟨(0:Int),X2.1,(0:Int),([]:List UInt8),([]:List UInt8),([]:List TF0)⟩:TF0)).length P23) (by kernel_rfl) (by simp only[List.length_set])
         refine am rfl (aw 3 J6 N153 rfl (av rfl (λW110 N154=>?_) ?_))
         ·refine Y25 f N154 2 rfl rfl (b:=b1) (j:=0) (v:=.slice Z21 ((al++[ae]).set ((al.length:Nat):Int).toNat (⟨(0:Int),X2.1,(0:Int),([]:List UInt8),([]:List UInt8),([]:List TF0)⟩:TF0)).length P23) rfl (by exact rfl) (by simp) (by simp) ((Ent.row 31 6 (.slice Z21 ((al++[ae]).set ((al.length:Nat):Int).toNat (⟨(0:Int),X2.1,(0:Int),([]:List UInt8),([]:List UInt8),([]:List TF0)⟩:TF0)).length P23) ((al++[ae]).set ((al.length:Nat):Int).toNat (⟨(0:Int),X2.1,(0:Int),([]:List UInt8),([]:List UInt8),([]:List TF0)⟩:TF0)).length L23)::(Ent.obj b0 (.cells #[.pointer Z19,.slice Z20 X2.2.length P22] 142 (0,0)))::(Ent.obj b1 (.cells #[.slice Z21 ((al++[ae]).set ((al.length:Nat):Int).toNat (⟨(0:Int),X2.1,(0:Int),([]:List UInt8),([]:List UInt8),([]:List TF0)⟩:TF0)).length P23] 29 (0,0)))::H) rfl λW111 N155 _ f=>am rfl (aw 3 J6 N155 rfl (ci λW112 N156=>aS ?_))
          exact⟨(X2.2,(al++[ae]).set ((al.length:Nat):Int).toNat (⟨(0:Int),X2.1,(0:Int),([]:List UInt8),([]:List UInt8),([]:List TF0)⟩:TF0)),(sI F6).symm,V6,J6,Z19,Z20,P22,Z21,P23,L23,hb_7,B6,D23,f.kp,N156⟩
         exact ar
        refine av rfl (λW113 N157=>?_) ?_
        ·refine Y25 f N157 2 rfl rfl (b:=b1) (j:=0) (v:=.slice Z21 (al++[ae]).length P23) rfl (by exact rfl) (by simp) (by simp) ((Ent.row 31 6 (.slice Z21 (al++[ae]).length P23) (al++[ae]).length L22)::(Ent.obj b0 (.cells #[.pointer Z19,.slice Z20 X2.2.length P22] 142 (0,0)))::(Ent.obj b1 (.cells #[.slice Z21 (al++[ae]).length P23] 29 (0,0)))::H) rfl λW114 N158 _ f=>am rfl (aw 3 J6 N158 rfl (av rfl (λW115 N159=>?_) ?_))
         ·refine Y24 (it:=((al.length:Nat):Int)) (d:=al++[ae]) (f:=au) (xv:=(⟨(0:Int),X2.1,(0:Int),([]:List UInt8),([]:List UInt8),([]:List TF0)⟩:TF0)) (vs:=[.int .i8 0,S X2.1,.int .i64 0,S [],S [],.slice none 0 0]) f N159 H10 rfl rfl (by exact TF0.shut Sli.nil) bI l3 D22 λL24 W116 N160 D24 _ f=>?_
          have N161:Hp w0 V6 ((Ent.row 31 6 (.slice Z21 ((al++[ae]).set ((al.length:Nat):Int).toNat (⟨(0:Int),X2.1,(0:Int),([]:List UInt8),([]:List UInt8),([]:List TF0)⟩:TF0)).length P23) ((al++[ae]).set ((al.length:Nat):Int).toNat (⟨(0:Int),X2.1,(0:Int),([]:List UInt8),([]:List UInt8),([]:List TF0)⟩:TF0)).length L24)::(Ent.obj b0 (.cells #[.pointer Z19,.slice Z20 X2.2.length P22] 142 (0,0)))::(Ent.obj b1 (.cells #[.slice Z21 (al++[ae]).length P23] 29 (0,0)))::H) W116:=N160.rowVal (by simp only[List.length_set])
          have f:=Frm.set f 9 (v:=.slice Z21 (al++[ae]).length P23) (v':=.slice Z21 ((al++[ae]).set ((al.length:Nat):Int).toNat (⟨(0:Int),X2.1,(0:Int),([]:List UInt8),([]:List UInt8),([]:List TF0)⟩:TF0)).length P23) (by kernel_rfl) (by simp only[List.length_set])
          have N162:Hp w0 V6 ((Ent.row 31 6 (.slice Z21 ((al++[ae]).set ((al.length:Nat):Int).toNat (⟨(0:Int),X2.1,(0:Int),([]:List UInt8),([]:List UInt8),([]:List TF0)⟩:TF0)).length P23) ((al++[ae]).set ((al.length:Nat):Int).toNat (⟨(0:Int),X2.1,(0:Int),([]:List UInt8),([]:List UInt8),([]:List TF0)⟩:TF0)).length L24)::(Ent.obj b0 (.cells #[.pointer Z19,.slice Z20 X2.2.length P22] 142 (0,0)))::(Ent.obj b1 (.cells #[.slice Z21 ((al++[ae]).set ((al.length:Nat):Int).toNat (⟨(0:Int),X2.1,(0:Int),([]:List UInt8),([]:List UInt8),([]:List TF0)⟩:TF0)).length P23] 29 (0,0)))::H) W116:=by simp only[List.length_set];rw[List.length_set] at N161;exact N161
          refine am rfl (aw 3 J6 N162 rfl (ci λW117 N163=>aS ?_))
          exact⟨(X2.2,(al++[ae]).set ((al.length:Nat):Int).toNat (⟨(0:Int),X2.1,(0:Int),([]:List UInt8),([]:List UInt8),([]:List TF0)⟩:TF0)),(sI F6).symm,V6,J6,Z19,Z20,P22,Z21,P23,L24,hb_7,B6,D24,f.kp,N163⟩
         exact ar
        exact ar
       refine av rfl (λW118 N164=>?_) ?_
       ·refine Y25 f N164 2 rfl rfl (b:=b1) (j:=0) (v:=.slice Z21 (al++[ae]).length P23) rfl (by exact rfl) (by simp) (by simp) ((Ent.row 31 6 (.slice Z21 (al++[ae]).length P23) (al++[ae]).length L22)::(Ent.obj b0 (.cells #[.pointer Z19,.slice Z20 X2.2.length P22] 142 (0,0)))::(Ent.obj b1 (.cells #[.slice Z21 (al++[ae]).length P23] 29 (0,0)))::H) rfl λW119 N165 _ f=>am rfl (aw 3 J6 N165 rfl (av rfl (λW120 N166=>?_) ?_))
        ·obtain⟨Q17,P25,H11,hcap_11⟩:=N166.rowAddr 0 rfl (bh l3)
         have f:=f.st 9 (H11)
         refine Z f (Y28 rfl (ad:=⟨Q17,0,none⟩) (len:=(al++[ae]).length) (cap:=P25) (k:=.i64) (i:=((al.length:Nat):Int)) (e:=31) (sz:=6) (az l3) (ay l3)) λ_ f=>?_
         have f:=f.st 9 (H11.symm)
         refine am rfl (aw 3 J6 N166 rfl (av rfl (λW121 N167=>?_) ?_))
         ·refine Y24 (it:=((al.length:Nat):Int)) (d:=al++[ae]) (f:=au) (xv:=(⟨(0:Int),X2.1,(0:Int),([]:List UInt8),([]:List UInt8),([]:List TF0)⟩:TF0)) (vs:=[.int .i8 0,S X2.1,.int .i64 0,S [],S [],.slice none 0 0]) f N167 H11 rfl rfl (by exact TF0.shut Sli.nil) bI l3 D22 λL25 W122 N168 D25 _ f=>?_
          have N169:Hp w0 V6 ((Ent.row 31 6 (.slice Z21 ((al++[ae]).set ((al.length:Nat):Int).toNat (⟨(0:Int),X2.1,(0:Int),([]:List UInt8),([]:List UInt8),([]:List TF0)⟩:TF0)).length P23) ((al++[ae]).set ((al.length:Nat):Int).toNat (⟨(0:Int),X2.1,(0:Int),([]:List UInt8),([]:List UInt8),([]:List TF0)⟩:TF0)).length L25)::(Ent.obj b0 (.cells #[.pointer Z19,.slice Z20 X2.2.length P22] 142 (0,0)))::(Ent.obj b1 (.cells #[.slice Z21 (al++[ae]).length P23] 29 (0,0)))::H) W122:=N168.rowVal (by simp only[List.length_set])
          have f:=Frm.set f 9 (v:=.slice Z21 (al++[ae]).length P23) (v':=.slice Z21 ((al++[ae]).set ((al.length:Nat):Int).toNat (⟨(0:Int),X2.1,(0:Int),([]:List UInt8),([]:List UInt8),([]:List TF0)⟩:TF0)).length P23) (by kernel_rfl) (by simp only[List.length_set])
          have N170:Hp w0 V6 ((Ent.row 31 6 (.slice Z21 ((al++[ae]).set ((al.length:Nat):Int).toNat (⟨(0:Int),X2.1,(0:Int),([]:List UInt8),([]:List UInt8),([]:List TF0)⟩:TF0)).length P23) ((al++[ae]).set ((al.length:Nat):Int).toNat (⟨(0:Int),X2.1,(0:Int),([]:List UInt8),([]:List UInt8),([]:List TF0)⟩:TF0)).length L25)::(Ent.obj b0 (.cells #[.pointer Z19,.slice Z20 X2.2.length P22] 142 (0,0)))::(Ent.obj b1 (.cells #[.slice Z21 ((al++[ae]).set ((al.length:Nat):Int).toNat (⟨(0:Int),X2.1,(0:Int),([]:List UInt8),([]:List UInt8),([]:List TF0)⟩:TF0)).length P23] 29 (0,0)))::H) W122:=by simp only[List.length_set];rw[List.length_set] at N169;exact N169
          refine am rfl (aw 3 J6 N170 rfl (ci λW123 N171=>aS ?_))
          exact⟨(X2.2,(al++[ae]).set ((al.length:Nat):Int).toNat (⟨(0:Int),X2.1,(0:Int),([]:List UInt8),([]:List UInt8),([]:List TF0)⟩:TF0)),(sI F6).symm,V6,J6,Z19,Z20,P22,Z21,P23,L25,hb_7,B6,D25,f.kp,N171⟩
         exact ar
        exact ar
       exact ar
      exact ar
     exact ar
    refine av rfl (λW124 N172=>?_) ?_
    ·have N175:=N172.pl [2,2]
     refine Y17 (E:=[Ent.obj b0 (.cells #[.pointer Z4,.slice Z5 X1.2.length P3] 142 (0,0)),Ent.row 5 1 (.slice Z5 X1.2.length P3) X1.2.length L3]) (H:=((Ent.obj Q15 (.cells #[.int .i8 0,S [],.int .i64 0,S [],S [],.slice none 0 0] 31 (0,0)))::(Ent.obj b1 (.cells #[.slice Z3 al.length P2] 29 (0,0)))::(Ent.row 31 6 (.slice Z3 al.length P2) al.length L2)::H)) f N175 (cc n _ b0 Z4 lz X1.2 Z5 P3 L3 D3 X2 l2) λ_ V7 E_7 W125 J7 N173 q_7 _ f=>?_
     obtain⟨Z22,Z23,P26,rfl,rfl,hb_8,B7⟩:=q_7
     refine am rfl (aw 4 J7 N173 rfl (Y1 (v:=.agg #[.int .i8 0,S X2.1,.int .i64 0,S [],S [],.slice none 0 0]) rfl f rfl rfl (λ_ _=>by kernel_rfl) λ_ f=>av rfl (λW126 N176=>?_) ?_))
     ·refine Z f (Y30 (v:=.slice Z3 al.length P2) rfl (ad:=⟨b1,0,none⟩) (N176.ownCell 2 rfl 0)) λ_ f=>am rfl (aw 4 J7 N176 rfl (Y1 (v:=.int .i64 ((al.length:Nat):Int)) rfl f rfl rfl (λ_ _=>by kernel_rfl) λ_ f=>av rfl (λW127 N177=>?_) ?_))
      ·have N178:=N177.pl [3]
       refine Y20 (z:=.agg #[.int .i8 0,S [],.int .i64 0,S [],S [],.slice none 0 0]) (f:=au) (xs:=al) (ys:=[ae]) (news:=[.int .i8 0,S [],.int .i64 0,S [],S [],.slice none 0 0]) (ad:=⟨Q15,0,none⟩) (m:=1) (c:=1) f N178 (ag.mono (J1.trans J7) _ _ D2) (by exact⟨_,_,rfl,TF0.shut Sli.nil,rfl⟩) rfl rfl rfl rfl (an (N178.ownCell 2 rfl) 0 rfl) (by exact O1) (by have hg_:=O1;first|omega|(simp only[List.length_cons,List.length_nil] at*;omega)) λZ24 P27 L26 W128 N179 D26 _ f=>?_
       have N180:=N179.pl [2]
       have N181:=N180.drop
       refine am rfl (aw 3 J7 N181 rfl (av rfl (λW129 N182=>?_) ?_))
       ·obtain⟨Q18,P28,H12,hcap_12⟩:=N182.rowAddr 0 rfl (bh l3)
        have f:=f.st 9 (H12)
        refine Z f (Y28 rfl (ad:=⟨Q18,0,none⟩) (len:=(al++[ae]).length) (cap:=P28) (k:=.i64) (i:=((al.length:Nat):Int)) (e:=31) (sz:=6) (az l3) (ay l3)) λ_ f=>?_
        have f:=f.st 9 (H12.symm)
        refine am rfl (aw 3 J7 N182 rfl (av rfl (λW130 N183=>?_) ?_))
        ·refine Y24 (it:=((al.length:Nat):Int)) (d:=al++[ae]) (f:=au) (xv:=(⟨(0:Int),X2.1,(0:Int),([]:List UInt8),([]:List UInt8),([]:List TF0)⟩:TF0)) (vs:=[.int .i8 0,S X2.1,.int .i64 0,S [],S [],.slice none 0 0]) f N183 H12 rfl rfl (by exact TF0.shut Sli.nil) bI l3 D26 λL27 W131 N184 D27 _ f=>?_
         have N185:Hp w0 V7 ((Ent.row 31 6 (.slice Z24 ((al++[ae]).set ((al.length:Nat):Int).toNat (⟨(0:Int),X2.1,(0:Int),([]:List UInt8),([]:List UInt8),([]:List TF0)⟩:TF0)).length P27) ((al++[ae]).set ((al.length:Nat):Int).toNat (⟨(0:Int),X2.1,(0:Int),([]:List UInt8),([]:List UInt8),([]:List TF0)⟩:TF0)).length L27)::(Ent.obj b0 (.cells #[.pointer Z22,.slice Z23 X2.2.length P26] 142 (0,0)))::(Ent.obj b1 (.cells #[.slice Z3 al.length P2] 29 (0,0)))::H) W131:=N184.rowVal (by simp only[List.length_set])
         have f:=Frm.set f 9 (v:=.slice Z24 (al++[ae]).length P27) (v':=.slice Z24 ((al++[ae]).set ((al.length:Nat):Int).toNat (⟨(0:Int),X2.1,(0:Int),([]:List UInt8),([]:List UInt8),([]:List TF0)⟩:TF0)).length P27) (by kernel_rfl) (by simp only[List.length_set])
         refine am rfl (aw 3 J7 N185 rfl (av rfl (λW132 N186=>?_) ?_))
         ·refine Y25 f N186 2 rfl rfl (b:=b1) (j:=0) (v:=.slice Z24 ((al++[ae]).set ((al.length:Nat):Int).toNat (⟨(0:Int),X2.1,(0:Int),([]:List UInt8),([]:List UInt8),([]:List TF0)⟩:TF0)).length P27) rfl (by exact rfl) (by simp) (by simp) ((Ent.row 31 6 (.slice Z24 ((al++[ae]).set ((al.length:Nat):Int).toNat (⟨(0:Int),X2.1,(0:Int),([]:List UInt8),([]:List UInt8),([]:List TF0)⟩:TF0)).length P27) ((al++[ae]).set ((al.length:Nat):Int).toNat (⟨(0:Int),X2.1,(0:Int),([]:List UInt8),([]:List UInt8),([]:List TF0)⟩:TF0)).length L27)::(Ent.obj b0 (.cells #[.pointer Z22,.slice Z23 X2.2.length P26] 142 (0,0)))::(Ent.obj b1 (.cells #[.slice Z24 ((al++[ae]).set ((al.length:Nat):Int).toNat (⟨(0:Int),X2.1,(0:Int),([]:List UInt8),([]:List UInt8),([]:List TF0)⟩:TF0)).length P27] 29 (0,0)))::H) rfl λW133 N187 _ f=>am rfl (aw 3 J7 N187 rfl (ci λW134 N188=>aS ?_))
          exact⟨(X2.2,(al++[ae]).set ((al.length:Nat):Int).toNat (⟨(0:Int),X2.1,(0:Int),([]:List UInt8),([]:List UInt8),([]:List TF0)⟩:TF0)),(sI F6).symm,V7,J7,Z22,Z23,P26,Z24,P27,L27,hb_8,B7,D27,f.kp,N188⟩
         exact ar
        refine av rfl (λW135 N189=>?_) ?_
        ·refine Y25 f N189 2 rfl rfl (b:=b1) (j:=0) (v:=.slice Z24 (al++[ae]).length P27) rfl (by exact rfl) (by simp) (by simp) ((Ent.row 31 6 (.slice Z24 (al++[ae]).length P27) (al++[ae]).length L26)::(Ent.obj b0 (.cells #[.pointer Z22,.slice Z23 X2.2.length P26] 142 (0,0)))::(Ent.obj b1 (.cells #[.slice Z24 (al++[ae]).length P27] 29 (0,0)))::H) rfl λW136 N190 _ f=>am rfl (aw 3 J7 N190 rfl (av rfl (λW137 N191=>?_) ?_))
         ·refine Y24 (it:=((al.length:Nat):Int)) (d:=al++[ae]) (f:=au) (xv:=(⟨(0:Int),X2.1,(0:Int),([]:List UInt8),([]:List UInt8),([]:List TF0)⟩:TF0)) (vs:=[.int .i8 0,S X2.1,.int .i64 0,S [],S [],.slice none 0 0]) f N191 H12 rfl rfl (by exact TF0.shut Sli.nil) bI l3 D26 λL28 W138 N192 D28 _ f=>?_
          have N193:Hp w0 V7 ((Ent.row 31 6 (.slice Z24 ((al++[ae]).set ((al.length:Nat):Int).toNat (⟨(0:Int),X2.1,(0:Int),([]:List UInt8),([]:List UInt8),([]:List TF0)⟩:TF0)).length P27) ((al++[ae]).set ((al.length:Nat):Int).toNat (⟨(0:Int),X2.1,(0:Int),([]:List UInt8),([]:List UInt8),([]:List TF0)⟩:TF0)).length L28)::(Ent.obj b0 (.cells #[.pointer Z22,.slice Z23 X2.2.length P26] 142 (0,0)))::(Ent.obj b1 (.cells #[.slice Z24 (al++[ae]).length P27] 29 (0,0)))::H) W138:=N192.rowVal (by simp only[List.length_set])
          have f:=Frm.set f 9 (v:=.slice Z24 (al++[ae]).length P27) (v':=.slice Z24 ((al++[ae]).set ((al.length:Nat):Int).toNat (⟨(0:Int),X2.1,(0:Int),([]:List UInt8),([]:List UInt8),([]:List TF0)⟩:TF0)).length P27) (by kernel_rfl) (by simp only[List.length_set])
          have N194:Hp w0 V7 ((Ent.row 31 6 (.slice Z24 ((al++[ae]).set ((al.length:Nat):Int).toNat (⟨(0:Int),X2.1,(0:Int),([]:List UInt8),([]:List UInt8),([]:List TF0)⟩:TF0)).length P27) ((al++[ae]).set ((al.length:Nat):Int).toNat (⟨(0:Int),X2.1,(0:Int),([]:List UInt8),([]:List UInt8),([]:List TF0)⟩:TF0)).length L28)::(Ent.obj b0 (.cells #[.pointer Z22,.slice Z23 X2.2.length P26] 142 (0,0)))::(Ent.obj b1 (.cells #[.slice Z24 ((al++[ae]).set ((al.length:Nat):Int).toNat (⟨(0:Int),X2.1,(0:Int),([]:List UInt8),([]:List UInt8),([]:List TF0)⟩:TF0)).length P27] 29 (0,0)))::H) W138:=by simp only[List.length_set];rw[List.length_set] at N193;exact N193
          refine am rfl (aw 3 J7 N194 rfl (ci λW139 N195=>aS ?_))
          exact⟨(X2.2,(al++[ae]).set ((al.length:Nat):Int).toNat (⟨(0:Int),X2.1,(0:Int),([]:List UInt8),([]:List UInt8),([]:List TF0)⟩:TF0)),(sI F6).symm,V7,J7,Z22,Z23,P26,Z24,P27,L28,hb_8,B7,D28,f.kp,N195⟩
         exact ar
        exact ar
       refine av rfl (λW140 N196=>?_) ?_
       ·refine Y25 f N196 2 rfl rfl (b:=b1) (j:=0) (v:=.slice Z24 (al++[ae]).length P27) rfl (by exact rfl) (by simp) (by simp) ((Ent.row 31 6 (.slice Z24 (al++[ae]).length P27) (al++[ae]).length L26)::(Ent.obj b0 (.cells #[.pointer Z22,.slice Z23 X2.2.length P26] 142 (0,0)))::(Ent.obj b1 (.cells #[.slice Z24 (al++[ae]).length P27] 29 (0,0)))::H) rfl λW141 N197 _ f=>am rfl (aw 3 J7 N197 rfl (av rfl (λW142 N198=>?_) ?_))
        ·obtain⟨Q19,P29,H13,hcap_13⟩:=N198.rowAddr 0 rfl (bh l3)
         have f:=f.st 9 (H13)
         refine Z f (Y28 rfl (ad:=⟨Q19,0,none⟩) (len:=(al++[ae]).length) (cap:=P29) (k:=.i64) (i:=((al.length:Nat):Int)) (e:=31) (sz:=6) (az l3) (ay l3)) λ_ f=>?_
         have f:=f.st 9 (H13.symm)
         refine am rfl (aw 3 J7 N198 rfl (av rfl (λW143 N199=>?_) ?_))
         ·refine Y24 (it:=((al.length:Nat):Int)) (d:=al++[ae]) (f:=au) (xv:=(⟨(0:Int),X2.1,(0:Int),([]:List UInt8),([]:List UInt8),([]:List TF0)⟩:TF0)) (vs:=[.int .i8 0,S X2.1,.int .i64 0,S [],S [],.slice none 0 0]) f N199 H13 rfl rfl (by exact TF0.shut Sli.nil) bI l3 D26 λL29 W144 N200 D29 _ f=>?_
          have N201:Hp w0 V7 ((Ent.row 31 6 (.slice Z24 ((al++[ae]).set ((al.length:Nat):Int).toNat (⟨(0:Int),X2.1,(0:Int),([]:List UInt8),([]:List UInt8),([]:List TF0)⟩:TF0)).length P27) ((al++[ae]).set ((al.length:Nat):Int).toNat (⟨(0:Int),X2.1,(0:Int),([]:List UInt8),([]:List UInt8),([]:List TF0)⟩:TF0)).length L29)::(Ent.obj b0 (.cells #[.pointer Z22,.slice Z23 X2.2.length P26] 142 (0,0)))::(Ent.obj b1 (.cells #[.slice Z24 (al++[ae]).length P27] 29 (0,0)))::H) W144:=N200.rowVal (by simp only[List.length_set])
          have f:=Frm.set f 9 (v:=.slice Z24 (al++[ae]).length P27) (v':=.slice Z24 ((al++[ae]).set ((al.length:Nat):Int).toNat (⟨(0:Int),X2.1,(0:Int),([]:List UInt8),([]:List UInt8),([]:List TF0)⟩:TF0)).length P27) (by kernel_rfl) (by simp only[List.length_set])
          have N202:Hp w0 V7 ((Ent.row 31 6 (.slice Z24 ((al++[ae]).set ((al.length:Nat):Int).toNat (⟨(0:Int),X2.1,(0:Int),([]:List UInt8),([]:List UInt8),([]:List TF0)⟩:TF0)).length P27) ((al++[ae]).set ((al.length:Nat):Int).toNat (⟨(0:Int),X2.1,(0:Int),([]:List UInt8),([]:List UInt8),([]:List TF0)⟩:TF0)).length L29)::(Ent.obj b0 (.cells #[.pointer Z22,.slice Z23 X2.2.length P26] 142 (0,0)))::(Ent.obj b1 (.cells #[.slice Z24 ((al++[ae]).set ((al.length:Nat):Int).toNat (⟨(0:Int),X2.1,(0:Int),([]:List UInt8),([]:List UInt8),([]:List TF0)⟩:TF0)).length P27] 29 (0,0)))::H) W144:=by simp only[List.length_set];rw[List.length_set] at N201;exact N201
          refine am rfl (aw 3 J7 N202 rfl (ci λW145 N203=>aS ?_))
          exact⟨(X2.2,(al++[ae]).set ((al.length:Nat):Int).toNat (⟨(0:Int),X2.1,(0:Int),([]:List UInt8),([]:List UInt8),([]:List TF0)⟩:TF0)),(sI F6).symm,V7,J7,Z22,Z23,P26,Z24,P27,L29,hb_8,B7,D29,f.kp,N203⟩
         exact ar
        exact ar
       exact ar
      exact ar
     exact ar
    exact ar
   exact ar
  ·rintro a_91 W146 ⟨G1,dg,V8,J8,Z25,Z26,P30,Z27,P31,L30,hb_9,B8,D30,f,N204⟩
   subst ip
   refine aS (aN ?_)
   obtain⟨X21,l4,F7⟩:=bS F3
   have N206:=N204.pl [1]
   refine Y17 (E:=[Ent.obj b0 (.cells #[.pointer Z25,.slice Z26 G1.1.length P30] 142 (0,0))]) (H:=((Ent.row 31 6 (.slice Z27 G1.2.length P31) G1.2.length L30)::(Ent.obj b1 (.cells #[.slice Z27 G1.2.length P31] 29 (0,0)))::H)) f N206 (iJ n _ (GL.mono (J1.trans J8) hG) b0 Z25 hb_9 G1.1 Z26 P30 B8 X21 l4) λ_ V9 E_8 W147 J9 N205 q_8 _ f=>?_
   obtain⟨Z28,Z29,P32,L31,rfl,rfl,hb_10,D31⟩:=q_8
   refine am rfl (dK f rfl ?_)
   obtain rfl:=sI F7
   have N210:=N205.pl [2,3,3,3]
   exact⟨_,rfl,V9,_,((J1.trans J8).trans J9),N210,⟨Z28,Z29,P32,L31,Z27,P31,L30,rfl,rfl,hb_10,D31,(ag.mono J9 _ _ D30)⟩⟩
 ·have U2:=aA dI B1
  refine wp_skip (dK f rfl ?_)
  obtain rfl:=sI F8
  exact⟨_,rfl,V1,_,J1,N1,⟨Z4,Z5,P3,L3,Z3,P2,L2,rfl,rfl,lz,D3,(ag.mono J1 _ _ D2)⟩⟩
def iK (n:Nat) (d0:Bs) (K1:Int×Int×List TF0×Bs×Nat):Option (Lp (Int×Int×List TF0×Bs×Nat) (Sum (Int×Bs×Nat) (Int×Int×Bs×List TF0×Nat))):=
    bif(decide (K1.2.2.2.2<d0.length)) then
     ((some (Lib.decodeL (d0.drop K1.2.2.2.2))).bind λX2=>
     ((bif(decide (K1.1=2)) then
      (some ((decide (((X2.1:Nat):Int)=125))))
       else
        some ((false)):Option Bool)).bind λG1=>
     bif G1 then
      (bb (inR .i64 (K1.2.1+2))<|
      bb (0≤(K1.2.1+2)∧(K1.2.1+2)≤((K1.2.2.2.2:Nat):Int)∧((K1.2.2.2.2:Nat):Int)≤d0.length)<|
      (kk n ((d0.take ((K1.2.2.2.2:Nat):Int).toNat).drop (K1.2.1+2).toNat) [33]).bind λX3=>
      bif X3 then
       (bb (0≤(1:Int)∧(1:Int)≤((d0.take ((K1.2.2.2.2:Nat):Int).toNat).drop (K1.2.1+2).toNat).length)<|
       bb ([36,123].length+ (((d0.take ((K1.2.2.2.2:Nat):Int).toNat).drop (K1.2.1+2).toNat).drop (1:Int).toNat).length≤9223372036854775807)<|
       bb (([36,123]++(((d0.take ((K1.2.2.2.2:Nat):Int).toNat).drop (K1.2.1+2).toNat).drop (1:Int).toNat)).length+ [125].length≤9223372036854775807)<|
       (bV n K1.2.2.2.1 (([36,123]++(((d0.take ((K1.2.2.2.2:Nat):Int).toNat).drop (K1.2.1+2).toNat).drop (1:Int).toNat))++[125])).bind λX4=>
       some (.nx ((0:Int),K1.2.1,K1.2.2.1,X4.2.2,K1.2.2.2.2+X2.2)))
      else
       (ku n ((d0.take ((K1.2.2.2.2:Nat):Int).toNat).drop (K1.2.1+2).toNat)).bind λX5=>
       bif X5.2 then
        ((iy n K1.2.2.2.1 K1.2.2.1).bind λX6=>
        ((bb ((X6.2.length+1)*88≤140737488355328)<|
          (aU (X6.2++[ae]) ((X6.2.length:Nat):Int)).bind λX7=>
          some ((X6.2++[ae]).set ((X6.2.length:Nat):Int).toNat X5.1):Option (List TF0))).bind λG2=>
        some (.nx ((0:Int),K1.2.1,G2,X6.1,K1.2.2.2.2+X2.2)))
       else
        some (.br (.inl (K1.2.1,K1.2.2.2.1,K1.2.2.2.2+X2.2))))
     else
      bif(decide (K1.1=2)) then
       (some (.nx (K1.1,K1.2.1,K1.2.2.1,K1.2.2.2.1,K1.2.2.2.2+X2.2)))
      else
       ((bif(decide (K1.1=1)) then
        (some ((decide (((X2.1:Nat):Int)=123))))
         else
          some ((false)):Option Bool)).bind λG3=>
       bif G3 then
        (some (.nx ((2:Int),K1.2.1,K1.2.2.1,K1.2.2.2.1,K1.2.2.2.2+X2.2)))
       else
        bif(decide (((X2.1:Nat):Int)=36)) then
         (bif(decide (K1.1=1)) then
          ((bf n K1.2.2.2.1 (36:Int)).bind λX12=>
          some (.nx ((1:Int),((K1.2.2.2.2:Nat):Int),K1.2.2.1,X12.2,K1.2.2.2.2+X2.2)))
         else
          some (.nx ((1:Int),((K1.2.2.2.2:Nat):Int),K1.2.2.1,K1.2.2.2.1,K1.2.2.2.2+X2.2)))
        else
         bif(decide (K1.1=1)) then
          ((bf n K1.2.2.2.1 (36:Int)).bind λX13=>
          (bt n X13.2 ((X2.1:Nat):Int)).bind λX14=>
          some (.nx ((0:Int),K1.2.1,K1.2.2.1,X14.2.2,K1.2.2.2.2+X2.2)))
         else
          (bt n K1.2.2.2.1 ((X2.1:Nat):Int)).bind λX15=>
          some (.nx ((0:Int),K1.2.1,K1.2.2.1,X15.2.2,K1.2.2.2.2+X2.2)))
    else
     some (.br (.inr (K1.1,K1.2.1,K1.2.2.2.1,K1.2.2.1,K1.2.2.2.2)))
def lI (n:Nat) (d0:Bs):Option (List TF0×Int×Int):=
 (dp n d0).bind λX1=>
 bif !X1 then
  (some ((([]:List TF0),(0:Int),(10:Int))))
 else
  bif(decide ((4096:Int)<(d0.length:Int))) then
   (some ((([]:List TF0),(0:Int),(3:Int))))
  else
   (aL (iK n d0) n ((0:Int),(0:Int),([]:List TF0),([]:Bs),0)).bind λQ4=>
   (match Q4 with
   |.inl G4=>some ((([]:List TF0),G4.1,(130:Int)))
   |.inr G5=>((bif(decide (G5.1=2)) then
    (((some ((([]:List TF0),G5.2.1,(130:Int))):Option (List TF0×Int×Int))).map Lp.br)
    else
     bif(decide (G5.1=1)) then
      ((bf n G5.2.2.1 (36:Int)).bind λX16=>
      some (.nx X16.2))
     else
      some (.nx G5.2.2.1):Option (Lp Bs (List TF0×Int×Int)))).bind λj=>joinF j λG6=>
    (iy n G6 G5.2.2.2.1).bind λX17=>
    some ((X17.2,(0:Int),(0:Int))))
set_option maxRecDepth 20000 in
theorem sub_Lex_ok (n:Nat) (M:Mem) (hG:GL M) (d0:List UInt8) (r:List TF0×Int×Int) (hF:lI n d0=some r):OkH Tryz.prog M [] 81 [S d0] (λM' E' v=>∃ (A0:Option Addr) (k0:Nat) (s0:List Value),v=.tuple #[.slice A0 r.1.length k0,.int .i64 r.2.1,.int .i64 r.2.2]∧E'=[.row 31 6 (.slice A0 r.1.length k0) r.1.length s0]∧ag M' (r.1.map au) s0):=by
 unfold lI at hF
 intro M1 hM0 w0 H w p0
 replace hG:=GL.mono hM0 hG
 refine aG 95 Tryz.func81 rfl rfl (by simp) λa0 f0=>RR (Y12 f0 p0 (.cells #[.slice none 0 0] 29 (0,0)) λQ1 W1 N1 _ f=>Y f 2 λ_ f=>eT (aq (wp_block (RR (Y f 1 λ_ f=>?_)))))
 obtain⟨X1,l1,F1⟩:=bS hF
 refine Y18 f N1 (gL n _ hG d0 X1 l1) λW2 N2 _ f=>Y f 2 λ_ f=>eT (RcF f F1 (λB1 F2=>?_) λB1 F3=>?_)
 ·have U1: (X1)=false:=by simpa using B1
  refine RR (Y25 f N2 0 rfl rfl (b:=Q1) (j:=0) (v:=.slice none 0 0) rfl (by exact rfl) (by simp) (by simp) ((Ent.obj Q1 (.cells #[.slice none 0 0] 29 (0,0)))::H) rfl λW3 N3 _ f=>Y f 2 λ_ f=>eT (wp_ret (hU (dj ?_))))
  have N4:Hp w0 M1 ((Ent.row 31 6 (.slice none 0 0) ([]:List TF0).length [])::(Ent.obj Q1 (.cells #[.slice none 0 0] 29 (0,0)))::H) W3:=N3.nilRow 31 6
  have D1:ag M1 (([]:List TF0).map au) []:=rfl
  refine nZ f rfl (Y9 (v:=.slice none 0 0) (ad:=⟨Q1,0,none⟩) f (N4.ownCell 1 rfl 0)) (Y11 (v:=.int .i64 0) f) (Y11 (v:=.int .i64 10) f) ?_
  obtain rfl:=sI F2
  have N5:=N4.pl [1]
  exact⟨_,rfl,M1,_,(mR _),(N5.dropN 1),⟨none,0,[],rfl,rfl,D1⟩⟩
 ·have U2: (X1)=true:=by simpa using B1
  refine RR (Y f 4 λ_ f=>eT (RcF f F3 (λB2 F4=>?_) λB2 F5=>?_))
  ·have U3:=dI.1 B2
   refine RR (Y25 f N2 0 rfl rfl (b:=Q1) (j:=0) (v:=.slice none 0 0) rfl (by exact rfl) (by simp) (by simp) ((Ent.obj Q1 (.cells #[.slice none 0 0] 29 (0,0)))::H) rfl λW4 N6 _ f=>Y f 2 λ_ f=>eT (wp_ret (hU (dj ?_))))
   have N7:Hp w0 M1 ((Ent.row 31 6 (.slice none 0 0) ([]:List TF0).length [])::(Ent.obj Q1 (.cells #[.slice none 0 0] 29 (0,0)))::H) W4:=N6.nilRow 31 6
   have D2:ag M1 (([]:List TF0).map au) []:=rfl
   refine nZ f rfl (Y9 (v:=.slice none 0 0) (ad:=⟨Q1,0,none⟩) f (N7.ownCell 1 rfl 0)) (Y11 (v:=.int .i64 0) f) (Y11 (v:=.int .i64 3) f) ?_
   obtain rfl:=sI F4
   have N8:=N7.pl [1]
   exact⟨_,rfl,M1,_,(mR _),(N8.dropN 1),⟨none,0,[],rfl,rfl,D2⟩⟩
  ·have U4:=aA dI B2
   refine wp_skip (gh (aS (RR (Y12 f N2 (.cells #[.pointer none,.slice none 0 0] 142 (0,0)) λQ2 W5 N9 _ f=>eT (RR (Y f 2 λ_ f=>eT (RR (Y f 2 λ_ f=>eT (aq (RR (Y f 1 λ_ f=>W_rangeS (l:=d0) f N9 (by kernel_rfl) (by kernel_rfl) rfl rfl rfl (by kernel_rfl) (by kernel_rfl) λQ3 W6 N10 _ f=>eT (wp_block ?_))))))))))))
   obtain⟨Z1,P1,H1⟩: ∃A cap,Value.slice none 0 0=.slice A ([]:List TF0).length cap:=⟨none,0,rfl⟩
   have N11:Hp w0 M1 ((Ent.row 31 6 (.slice Z1 ([]:List TF0).length P1) ([]:List TF0).length [])::(Ent.obj Q3 (.stringIter (mkS d0) 0))::(Ent.obj Q2 (.cells #[.pointer none,.slice none 0 0] 142 (0,0)))::(Ent.obj Q1 (.cells #[.slice Z1 ([]:List TF0).length P1] 29 (0,0)))::H) W6:=by rw[←H1];exact N10.nilRow 31 6
   have D3:ag M1 (([]:List TF0).map au) []:=rfl
   obtain⟨Z2,P2,H2⟩: ∃A cap,Value.slice none 0 0=.slice A ([]:List UInt8).length cap:=⟨none,0,rfl⟩
   have N12:Hp w0 M1 ((Ent.row 5 1 (.slice Z2 ([]:List UInt8).length P2) ([]:List UInt8).length [])::(Ent.row 31 6 (.slice Z1 ([]:List TF0).length P1) ([]:List TF0).length [])::(Ent.obj Q3 (.stringIter (mkS d0) 0))::(Ent.obj Q2 (.cells #[.pointer none,.slice Z2 ([]:List UInt8).length P2] 142 (0,0)))::(Ent.obj Q1 (.cells #[.slice Z1 ([]:List TF0).length P1] 29 (0,0)))::H) W6:=by rw[←H2];exact N11.nilRow 5 1
   have D4:ag M1 (([]:List UInt8).map embB) []:=rfl
   have N17:=N12.pl [4,4,4,3,4]
   obtain⟨Q4,dy,F6⟩:=bS F5
   refine wp_mono (Q:=λe a w=>(e=.ret∧(∃G4:Int×List UInt8×Nat,Q4=.inl G4∧∃V12:Mem,M1.le V12∧∃ (Z24:Option Addr),∃ (Z25:Option Addr),∃ (P22:Nat),∃ (L21:List Value),(Z24=none∨Z24=some ⟨Q2,0,none⟩)∧ag V12 (G4.2.1.map embB) L21∧Frm 95 [(2,.pointer (some (⟨Q1,0,none⟩))),(3,.int .i64 G4.1),(4,.int .i64 130)] a∧Hp w0 V12 ((Ent.row 5 1 (.slice Z25 G4.2.1.length P22) G4.2.1.length L21)::(Ent.obj Q3 (.stringIter (mkS d0) G4.2.2))::(Ent.obj Q2 (.cells #[.pointer Z24,.slice Z25 G4.2.1.length P22] 142 (0,0)))::(Ent.obj Q1 (.cells #[.slice none 0 0] 29 (0,0)))::H) w))∨(e=.exit 1∧(∃G5:Int×Int×List UInt8×List TF0×Nat,Q4=.inr G5∧∃V13:Mem,M1.le V13∧∃ (Z26:Option Addr),∃ (Z27:Option Addr),∃ (P23:Nat),∃ (L22:List Value),∃ (Z28:Option Addr),∃ (P24:Nat),∃ (L23:List Value),(Z26=none∨Z26=some ⟨Q2,0,none⟩)∧ag V13 (G5.2.2.1.map embB) L22∧ag V13 (G5.2.2.2.1.map au) L23∧Frm 95 [(2,.pointer (some (⟨Q1,0,none⟩))),(5,.pointer (some (⟨Q2,0,none⟩))),(6,.func (.func 116) #[] #[.pointer (some (⟨Q2,0,none⟩)),.pointer (some (⟨Q1,0,none⟩))]),(7,.int .i64 G5.1),(8,.int .i64 G5.2.1)] a∧Hp w0 V13 ((Ent.row 5 1 (.slice Z27 G5.2.2.1.length P23) G5.2.2.1.length L22)::(Ent.row 31 6 (.slice Z28 G5.2.2.2.1.length P24) G5.2.2.2.1.length L23)::(Ent.obj Q3 (.stringIter (mkS d0) G5.2.2.2.2))::(Ent.obj Q2 (.cells #[.pointer Z26,.slice Z27 G5.2.2.1.length P23] 142 (0,0)))::(Ent.obj Q1 (.cells #[.slice Z28 G5.2.2.2.1.length P24] 29 (0,0)))::H) w))) (cD (n:=95) (w0:=w0) (M:=M1) (λ (x:Nat× (Int×Int×List TF0×List UInt8×Nat)× (Option Addr)×Nat× (List Value)× (Option Addr)× (Option Addr)×Nat× (List Value))=>match x with|(I1,K1,Z3,P3,L1,Z4,Z5,P4,L2)=>[(0,S d0),(2,.pointer (some (⟨Q1,0,none⟩))),(5,.pointer (some (⟨Q2,0,none⟩))),(6,.func (.func 116) #[] #[.pointer (some (⟨Q2,0,none⟩)),.pointer (some (⟨Q1,0,none⟩))]),(7,.int .i64 K1.1),(8,.int .i64 K1.2.1),(24,.pointer (some (⟨Q3,0,none⟩)))]) (λ (x:Nat× (Int×Int×List TF0×List UInt8×Nat)× (Option Addr)×Nat× (List Value)× (Option Addr)× (Option Addr)×Nat× (List Value))=>match x with|(I1,K1,Z3,P3,L1,Z4,Z5,P4,L2)=>((Ent.row 31 6 (.slice Z3 K1.2.2.1.length P3) K1.2.2.1.length L1)::(Ent.row 5 1 (.slice Z5 K1.2.2.2.1.length P4) K1.2.2.2.1.length L2)::(Ent.obj Q3 (.stringIter (mkS d0) K1.2.2.2.2))::(Ent.obj Q2 (.cells #[.pointer Z4,.slice Z5 K1.2.2.2.1.length P4] 142 (0,0)))::(Ent.obj Q1 (.cells #[.slice Z3 K1.2.2.1.length P3] 29 (0,0)))::H)) (λ (x:Nat× (Int×Int×List TF0×List UInt8×Nat)× (Option Addr)×Nat× (List Value)× (Option Addr)× (Option Addr)×Nat× (List Value)) (MM:Mem)=>match x with|(I1,K1,Z3,P3,L1,Z4,Z5,P4,L2)=>aL (iK n d0) I1 K1=some Q4∧ag MM (K1.2.2.1.map au) L1∧(Z4=none∨Z4=some ⟨Q2,0,none⟩)∧ag MM (K1.2.2.2.1.map embB) L2) (λ (x:Nat× (Int×Int×List TF0×List UInt8×Nat)× (Option Addr)×Nat× (List Value)× (Option Addr)× (Option Addr)×Nat× (List Value))=>match x with|(I1,K1,Z3,P3,L1,Z4,Z5,P4,L2)=>I1) (n,((0:Int),(0:Int),([]:List TF0),([]:List UInt8),0),Z1,P1,[],none,Z2,P2,[]) (f.kp) N17 ⟨dy,D3,(.inl rfl),D4⟩ ?_) ?_
   ·rintro⟨I1,K1,Z3,P3,L1,Z4,Z5,P4,L2⟩ V1 _ W7 J1 je f N18
    obtain⟨dL,D5,gV,D6⟩:=je
    obtain⟨I2,nL,rfl,ca,T1⟩:=bB dL
    unfold iK at ca
    refine RR ?_
    have N19:=N18.pl [2]
    rcases cE ca with⟨B3,F7⟩|⟨B3,F47⟩
    ·obtain⟨X2,l2,F8⟩:=bS F7
     refine W_nextS_go (l:=d0) (p:=K1.2.2.2.2) (v:=X2) f N19 (by kernel_rfl) (by kernel_rfl) rfl rfl rfl (by kernel_rfl) (of_decide_eq_true B3) l2 λW8 N20 _ f=>Y f 1 λ_ f=>eT (aq (Y8 f (wp_skip (aS (wp_block (RR (Y f 4 λ_ f=>eT (wp_block (aq ?_)))))))))
     obtain⟨ip,eD,F9⟩:=bS F8
     refine ct (λa_23 W9=>∃G1:Bool,ip=G1∧∃V2:Mem,V1.le V2∧Frm 95 [(0,S d0),(2,.pointer (some (⟨Q1,0,none⟩))),(5,.pointer (some (⟨Q2,0,none⟩))),(6,.func (.func 116) #[] #[.pointer (some (⟨Q2,0,none⟩)),.pointer (some (⟨Q1,0,none⟩))]),(7,.int .i64 K1.1),(8,.int .i64 K1.2.1),(9,.int .i64 ((K1.2.2.2.2:Nat):Int)),(10,.int .i32 ((X2.1:Nat):Int)),(24,.pointer (some (⟨Q3,0,none⟩))),(34,.bool G1)] a_23∧Hp w0 V2 ((Ent.obj Q3 (.stringIter (mkS d0) (K1.2.2.2.2+X2.2)))::(Ent.row 31 6 (.slice Z3 K1.2.2.1.length P3) K1.2.2.1.length L1)::(Ent.row 5 1 (.slice Z5 K1.2.2.2.1.length P4) K1.2.2.2.1.length L2)::(Ent.obj Q2 (.cells #[.pointer Z4,.slice Z5 K1.2.2.2.1.length P4] 142 (0,0)))::(Ent.obj Q1 (.cells #[.slice Z3 K1.2.2.1.length P3] 29 (0,0)))::H) W9) ?_ ?_
     ·refine aN (Y f 3 λ_ f=>?_)
      rcases cE eD with⟨B4,F10⟩|⟨B4,F11⟩
      ·have U5:=dI.1 B4
       have f:=f.st 37 (cB B4)
       refine Y f 4 λ_ f=>eT ?_
       exact⟨(decide (((X2.1:Nat):Int)=125)),(sI F10).symm,V1,(mR _),f.kp,N20⟩
      ·have U6:=aA dI B4
       have f:=f.st 37 (cB B4)
       refine Y f 4 λ_ f=>eT ?_
       exact⟨(false),(sI F11).symm,V1,(mR _),f.kp,N20⟩
     ·rintro a_23 W9 ⟨G1,dg,V2,J2,f,N21⟩
      subst ip
      refine aS (RcF f F9 (λB5 F12=>?_) λB5 F29=>?_)
      ·refine RR (Y f 1 λ_ f=>eT (RR (Y f 2 λ_ f=>?_)))
       obtain⟨O1,F13⟩:=nS F12
       refine Y f 1 λ_ f=>?_
       have f:=f.st 43 (iW O1)
       refine Y f 1 λ_ f=>?_
       obtain⟨O2,F14⟩:=nS F13
       refine Z (v:=S ((d0.take ((K1.2.2.2.2:Nat):Int).toNat).drop (K1.2.1+2).toNat)) f (X_strSlice rfl (l:=d0) (k:=.i64) (k':=.i64) (a:=K1.2.1+2) (b:=((K1.2.2.2.2:Nat):Int)) (by kernel_rfl) (by kernel_rfl) (by kernel_rfl) (by kernel_rfl) O2.1 O2.2.1 O2.2.2) λ_ f=>Y f 1 λ_ f=>eT (RR (Y f 1 λ_ f=>?_))
       obtain⟨X3,l3,F15⟩:=bS F14
       refine Y18 f N21 (np n _ (GL.mono (J1.trans J2) hG) ((d0.take ((K1.2.2.2.2:Nat):Int).toNat).drop (K1.2.1+2).toNat) [33] X3 l3) λW10 N22 _ f=>eT (RcF f F15 (λB6 F16=>?_) λB6 F21=>?_)
       ·refine aN (Y f 1 λ_ f=>?_)
        obtain⟨O3,F17⟩:=nS F16
        refine Z (v:=S (((d0.take ((K1.2.2.2.2:Nat):Int).toNat).drop (K1.2.1+2).toNat).drop (1:Int).toNat)) f (X_strFrom rfl (l:=(d0.take ((K1.2.2.2.2:Nat):Int).toNat).drop (K1.2.1+2).toNat) (k:=.i64) (a:=(1:Int)) (by kernel_rfl) (by kernel_rfl) (by kernel_rfl) O3.1 O3.2) λ_ f=>?_
        obtain⟨O4,F18⟩:=nS F17
        refine Z f (Y27 rfl (l:=[36,123]) (m:=((d0.take ((K1.2.2.2.2:Nat):Int).toNat).drop (K1.2.1+2).toNat).drop (1:Int).toNat) O4) λ_ f=>?_
        obtain⟨O5,F19⟩:=nS F18
        refine Z f (Y27 rfl (l:=[36,123]++(((d0.take ((K1.2.2.2.2:Nat):Int).toNat).drop (K1.2.1+2).toNat).drop (1:Int).toNat)) (m:=[125]) O5) λ_ f=>?_
        obtain⟨X4,l4,F20⟩:=bS F19
        have N25:=N22.pl [2,3]
        refine Y17 (E:=[Ent.obj Q2 (.cells #[.pointer Z4,.slice Z5 K1.2.2.2.1.length P4] 142 (0,0)),Ent.row 5 1 (.slice Z5 K1.2.2.2.1.length P4) K1.2.2.2.1.length L2]) (H:=((Ent.obj Q3 (.stringIter (mkS d0) (K1.2.2.2.2+X2.2)))::(Ent.row 31 6 (.slice Z3 K1.2.2.1.length P3) K1.2.2.1.length L1)::(Ent.obj Q1 (.cells #[.slice Z3 K1.2.2.1.length P3] 29 (0,0)))::H)) f N25 (gZ n _ Q2 Z4 gV K1.2.2.2.1 Z5 P4 L2 (ag.mono J2 _ _ D6) (([36,123]++(((d0.take ((K1.2.2.2.2:Nat):Int).toNat).drop (K1.2.1+2).toNat).drop (1:Int).toNat))++[125]) X4 l4) λ_ V3 mN W11 J3 N23 eM _ f=>?_
        obtain⟨Z6,Z7,P5,L3,rfl,rfl,lz,D7⟩:=eM
        refine am rfl (gh (gh ?_))
        have N128:=N23.pl [4,1,3,3,4]
        refine aS ?_
        obtain rfl:=sI F20
        exact⟨⟨I2,((0:Int),K1.2.1,K1.2.2.1,X4.2.2,K1.2.2.2.2+X2.2),Z3,P3,L1,Z6,Z7,P5,L3⟩,Nat.lt_succ_self _,V3,((J1.trans J2).trans J3),⟨T1,(ag.mono (J2.trans J3) _ _ D5),lz,D7⟩,f.kp,N128⟩
       ·refine RR (Y f 1 λ_ f=>?_)
        obtain⟨X5,l5,F22⟩:=bS F21
        refine Y16 f N22 (sub_hole_ok n _ (GL.mono (J1.trans J2) hG) ((d0.take ((K1.2.2.2.2:Nat):Int).toNat).drop (K1.2.1+2).toNat) X5 l5) λ_ V4 W12 J4 N26 iQ _ f=>?_
        obtain⟨eF,rfl,D8⟩:=iQ
        obtain⟨Z8,P6,rfl,B7⟩:=TF0.opn D8
        refine Y f 3 λ_ f=>Y12 f N26 (.cells #[.int .i8 0,S [],.int .i64 0,S [],S [],.slice none 0 0] 31 (0,0)) λQ5 W13 N27 _ f=>Y26 (vs:=[.int .i8 X5.1.ab,S X5.1.aa,.int .i64 X5.1.ai,S X5.1.aj,S X5.1.ao,.slice Z8 X5.1.fL.length P6]) (j:=0) f N27 rfl rfl (by simp[Value.oneCell',S]) (by simp) (by decide) (cs':=#[.int .i8 X5.1.ab,S X5.1.aa,.int .i64 X5.1.ai,S X5.1.aj,S X5.1.ao,.slice Z8 X5.1.fL.length P6]) λW14 N28 _ f=>Y f 1 λ_ f=>eT (RR (Y f 1 λ_ f=>eT (RcF f F22 (λB8 F23=>?_) λB8 F28=>?_)))
        ·refine RR (Y f 1 λ_ f=>?_)
         obtain⟨X6,l6,F24⟩:=bS F23
         have N33:=N28.pl [2,5,4,5]
         refine Y17 (E:=[Ent.obj Q2 (.cells #[.pointer Z4,.slice Z5 K1.2.2.2.1.length P4] 142 (0,0)),Ent.row 5 1 (.slice Z5 K1.2.2.2.1.length P4) K1.2.2.2.1.length L2,Ent.obj Q1 (.cells #[.slice Z3 K1.2.2.1.length P3] 29 (0,0)),Ent.row 31 6 (.slice Z3 K1.2.2.1.length P3) K1.2.2.1.length L1]) (H:=((Ent.obj Q5 (.cells #[.int .i8 X5.1.ab,S X5.1.aa,.int .i64 X5.1.ai,S X5.1.aj,S X5.1.ao,.slice Z8 X5.1.fL.length P6] 31 (0,0)))::(Ent.obj Q3 (.stringIter (mkS d0) (K1.2.2.2.2+X2.2)))::H)) f N33 (lJ n _ (GL.mono ((J1.trans J2).trans J4) hG) Q2 Z4 gV K1.2.2.2.1 Z5 P4 L2 (ag.mono (J2.trans J4) _ _ D6) Q1 K1.2.2.1 Z3 P3 L1 (ag.mono (J2.trans J4) _ _ D5) X6 l6) λ_ V5 E_2 W15 J5 N29 mg _ f=>?_
         obtain⟨Z9,Z10,P7,L4,Z11,P8,L5,rfl,rfl,hb_3,D9,D10⟩:=mg
         refine eT ?_
         obtain⟨nR,kl,F25⟩:=bS F24
         refine ct (λa_79 W64=>∃G2:List TF0,nR=G2∧∃V6:Mem,V5.le V6∧∃ (Z15:Option Addr),∃ (P17:Nat),∃ (L16:List Value),ag V6 (G2.map au) L16∧Frm 95 [(0,S d0),(2,.pointer (some (⟨Q1,0,none⟩))),(5,.pointer (some (⟨Q2,0,none⟩))),(6,.func (.func 116) #[] #[.pointer (some (⟨Q2,0,none⟩)),.pointer (some (⟨Q1,0,none⟩))]),(7,.int .i64 0),(8,.int .i64 K1.2.1),(24,.pointer (some (⟨Q3,0,none⟩)))] a_79∧Hp w0 V6 ((Ent.row 31 6 (.slice Z15 G2.length P17) G2.length L16)::(Ent.obj Q1 (.cells #[.slice Z15 G2.length P17] 29 (0,0)))::(Ent.obj Q2 (.cells #[.pointer Z9,.slice Z10 X6.1.length P7] 142 (0,0)))::(Ent.row 5 1 (.slice Z10 X6.1.length P7) X6.1.length L4)::(Ent.obj Q5 (.cells #[.int .i8 X5.1.ab,S X5.1.aa,.int .i64 X5.1.ai,S X5.1.aj,S X5.1.ao,.slice Z8 X5.1.fL.length P6] 31 (0,0)))::(Ent.obj Q3 (.stringIter (mkS d0) (K1.2.2.2.2+X2.2)))::H) W64) ?_ ?_
         ·have N47:=N29.pl [5,5,3,3,5,5]
          obtain⟨O6,F26⟩:=nS kl
          obtain⟨X7,l7,F27⟩:=bS F26
          refine kV (ks:=[]) (E:=[Ent.obj Q1 (.cells #[.slice Z11 X6.2.length P8] 29 (0,0)),Ent.row 31 6 (.slice Z11 X6.2.length P8) X6.2.length L5]) (Hr:=((Ent.obj Q2 (.cells #[.pointer Z9,.slice Z10 X6.1.length P7] 142 (0,0)))::(Ent.row 5 1 (.slice Z10 X6.1.length P7) X6.1.length L4)::(Ent.obj Q5 (.cells #[.int .i8 X5.1.ab,S X5.1.aa,.int .i64 X5.1.ai,S X5.1.aj,S X5.1.ao,.slice Z8 X5.1.fL.length P6] 31 (0,0)))::(Ent.obj Q3 (.stringIter (mkS d0) (K1.2.2.2.2+X2.2)))::H)) (.quiet 1 (.alt 0 (.quiet 2 (.alt 3 (.alt 4 (.alt 5 (.alt 6 (.alt 7 .done .none) (.alt 7 (.alt 6 .done .none) .none)) (.alt 7 (.alt 5 (.alt 6 .done .none) .none) .none)) .none) .none)) (.alt 3 (.alt 0 (.quiet 2 (.alt 4 (.alt 5 (.alt 6 (.alt 7 .done .none) (.alt 7 (.alt 6 .done .none) .none)) (.alt 7 (.alt 5 (.alt 6 .done .none) .none) .none)) .none)) .none) .none))) N47 (by kernel_rfl) (by kernel_rfl) (by kernel_rfl) (Y1 (v:=.agg #[.int .i8 X5.1.ab,S X5.1.aa,.int .i64 X5.1.ai,S X5.1.aj,S X5.1.ao,.slice Z8 X5.1.fL.length P6]) rfl f rfl rfl (λ_ pq=>Y31 (cs:=[.int .i8 X5.1.ab,S X5.1.aa,.int .i64 X5.1.ai,S X5.1.aj,S X5.1.ao,.slice Z8 X5.1.fL.length P6]) rfl (ad:=⟨Q5,0,none⟩) (an (pq.ownCell 2 rfl) 0 rfl)) λ_ f=>av rfl (λW20 N48=>?_) ?_)
          ·refine Z f (Y30 (v:=.slice Z11 X6.2.length P8) rfl (ad:=⟨Q1,0,none⟩) (N48.ownCell 0 rfl 0)) λ_ f=>am rfl (aw 2 (mR _) N48 rfl (Y1 (v:=.int .i64 ((X6.2.length:Nat):Int)) rfl f rfl rfl (λ_ _=>by kernel_rfl) λ_ f=>av rfl (λW21 N49=>?_) ?_))
           ·refine aQ (k:=1) (c:=1) f N49 (.cells #[.int .i8 0,S [],.int .i64 0,S [],S [],.slice none 0 0] 31 (0,0)) (by kernel_rfl) (λ_=>by kernel_rfl) λQ8 W22 N50 _ f=>am rfl (aw 3 (mR _) N50 rfl (av rfl (λW23 N51=>?_) ?_))
            ·have N52:=N51.pl [2]
             refine Y20 (z:=.agg #[.int .i8 0,S [],.int .i64 0,S [],S [],.slice none 0 0]) (f:=au) (xs:=X6.2) (ys:=[ae]) (news:=[.int .i8 0,S [],.int .i64 0,S [],S [],.slice none 0 0]) (ad:=⟨Q8,0,none⟩) (m:=1) (c:=1) f N52 D10 (by exact⟨_,_,rfl,TF0.shut Sli.nil,rfl⟩) rfl rfl rfl rfl (an (N52.ownCell 1 rfl) 0 rfl) (by exact O6) (by have hg_:=O6;first|omega|(simp only[List.length_cons,List.length_nil] at*;omega)) λZ13 P11 L8 W24 N53 D13 _ f=>?_
             have N54:=N53.pl [1]
             have N55:=N54.drop
             refine am rfl (aw 2 (mR _) N55 rfl (av rfl (λW25 N56=>?_) ?_))
             ·obtain⟨Q9,P12,H4,hcap_2⟩:=N56.rowAddr 0 rfl (bh l7)
              have f:=f.st 65 (H4)
              refine Z f (Y28 rfl (ad:=⟨Q9,0,none⟩) (len:=(X6.2++[ae]).length) (cap:=P12) (k:=.i64) (i:=((X6.2.length:Nat):Int)) (e:=31) (sz:=6) (az l7) (ay l7)) λ_ f=>?_
              have f:=f.st 65 (H4.symm)
              refine am rfl (aw 2 (mR _) N56 rfl (av rfl (λW26 N57=>?_) ?_))
              ·refine Y24 (it:=((X6.2.length:Nat):Int)) (d:=X6.2++[ae]) (f:=au) (xv:=X5.1) (vs:=[.int .i8 X5.1.ab,S X5.1.aa,.int .i64 X5.1.ai,S X5.1.aj,S X5.1.ao,.slice Z8 X5.1.fL.length P6]) f N57 H4 rfl rfl (by exact TF0.shutx (x:=X5.1) (B7.mono J5)) bI l7 D13 λL9 W27 N58 D14 _ f=>?_
               have N59:Hp w0 V5 ((Ent.row 31 6 (.slice Z13 ((X6.2++[ae]).set ((X6.2.length:Nat):Int).toNat X5.1).length P11) ((X6.2++[ae]).set ((X6.2.length:Nat):Int).toNat X5.1).length L9)::(Ent.obj Q1 (.cells #[.slice Z11 X6.2.length P8] 29 (0,0)))::(Ent.obj Q2 (.cells #[.pointer Z9,.slice Z10 X6.1.length P7] 142 (0,0)))::(Ent.row 5 1 (.slice Z10 X6.1.length P7) X6.1.length L4)::(Ent.obj Q5 (.cells #[.int .i8 X5.1.ab,S X5.1.aa,.int .i64 X5.1.ai,S X5.1.aj,S X5.1.ao,.slice Z8 X5.1.fL.length P6] 31 (0,0)))::(Ent.obj Q3 (.stringIter (mkS d0) (K1.2.2.2.2+X2.2)))::H) W27:=N58.rowVal (by simp only[List.length_set])
               have f:=Frm.set f 65 (v:=.slice Z13 (X6.2++[ae]).length P11) (v':=.slice Z13 ((X6.2++[ae]).set ((X6.2.length:Nat):Int).toNat X5.1).length P11) (by kernel_rfl) (by simp only[List.length_set])
               refine am rfl (aw 2 (mR _) N59 rfl (av rfl (λW28 N60=>?_) ?_))
               ·refine Y25 f N60 1 rfl rfl (b:=Q1) (j:=0) (v:=.slice Z13 ((X6.2++[ae]).set ((X6.2.length:Nat):Int).toNat X5.1).length P11) rfl (by exact rfl) (by simp) (by simp) ((Ent.row 31 6 (.slice Z13 ((X6.2++[ae]).set ((X6.2.length:Nat):Int).toNat X5.1).length P11) ((X6.2++[ae]).set ((X6.2.length:Nat):Int).toNat X5.1).length L9)::(Ent.obj Q1 (.cells #[.slice Z13 ((X6.2++[ae]).set ((X6.2.length:Nat):Int).toNat X5.1).length P11] 29 (0,0)))::(Ent.obj Q2 (.cells #[.pointer Z9,.slice Z10 X6.1.length P7] 142 (0,0)))::(Ent.row 5 1 (.slice Z10 X6.1.length P7) X6.1.length L4)::(Ent.obj Q5 (.cells #[.int .i8 X5.1.ab,S X5.1.aa,.int .i64 X5.1.ai,S X5.1.aj,S X5.1.ao,.slice Z8 X5.1.fL.length P6] 31 (0,0)))::(Ent.obj Q3 (.stringIter (mkS d0) (K1.2.2.2.2+X2.2)))::H) rfl λW29 N61 _ f=>am rfl (aw 2 (mR _) N61 rfl (ci λW30 N62=>aS ?_))
                exact⟨(X6.2++[ae]).set ((X6.2.length:Nat):Int).toNat X5.1,(sI F27).symm,V5,(mR _),Z13,P11,L9,D14,f.kp,N62⟩
               exact ar
              refine av rfl (λW31 N63=>?_) ?_
              ·refine Y25 f N63 1 rfl rfl (b:=Q1) (j:=0) (v:=.slice Z13 (X6.2++[ae]).length P11) rfl (by exact rfl) (by simp) (by simp) ((Ent.row 31 6 (.slice Z13 (X6.2++[ae]).length P11) (X6.2++[ae]).length L8)::(Ent.obj Q1 (.cells #[.slice Z13 (X6.2++[ae]).length P11] 29 (0,0)))::(Ent.obj Q2 (.cells #[.pointer Z9,.slice Z10 X6.1.length P7] 142 (0,0)))::(Ent.row 5 1 (.slice Z10 X6.1.length P7) X6.1.length L4)::(Ent.obj Q5 (.cells #[.int .i8 X5.1.ab,S X5.1.aa,.int .i64 X5.1.ai,S X5.1.aj,S X5.1.ao,.slice Z8 X5.1.fL.length P6] 31 (0,0)))::(Ent.obj Q3 (.stringIter (mkS d0) (K1.2.2.2.2+X2.2)))::H) rfl λW32 N64 _ f=>am rfl (aw 2 (mR _) N64 rfl (av rfl (λW33 N65=>?_) ?_))
               ·refine Y24 (it:=((X6.2.length:Nat):Int)) (d:=X6.2++[ae]) (f:=au) (xv:=X5.1) (vs:=[.int .i8 X5.1.ab,S X5.1.aa,.int .i64 X5.1.ai,S X5.1.aj,S X5.1.ao,.slice Z8 X5.1.fL.length P6]) f N65 H4 rfl rfl (by exact TF0.shutx (x:=X5.1) (B7.mono J5)) bI l7 D13 λL10 W34 N66 D15 _ f=>?_
                have N67:Hp w0 V5 ((Ent.row 31 6 (.slice Z13 ((X6.2++[ae]).set ((X6.2.length:Nat):Int).toNat X5.1).length P11) ((X6.2++[ae]).set ((X6.2.length:Nat):Int).toNat X5.1).length L10)::(Ent.obj Q1 (.cells #[.slice Z13 (X6.2++[ae]).length P11] 29 (0,0)))::(Ent.obj Q2 (.cells #[.pointer Z9,.slice Z10 X6.1.length P7] 142 (0,0)))::(Ent.row 5 1 (.slice Z10 X6.1.length P7) X6.1.length L4)::(Ent.obj Q5 (.cells #[.int .i8 X5.1.ab,S X5.1.aa,.int .i64 X5.1.ai,S X5.1.aj,S X5.1.ao,.slice Z8 X5.1.fL.length P6] 31 (0,0)))::(Ent.obj Q3 (.stringIter (mkS d0) (K1.2.2.2.2+X2.2)))::H) W34:=N66.rowVal (by simp only[List.length_set])
                have f:=Frm.set f 65 (v:=.slice Z13 (X6.2++[ae]).length P11) (v':=.slice Z13 ((X6.2++[ae]).set ((X6.2.length:Nat):Int).toNat X5.1).length P11) (by kernel_rfl) (by simp only[List.length_set])
                have N68:Hp w0 V5 ((Ent.row 31 6 (.slice Z13 ((X6.2++[ae]).set ((X6.2.length:Nat):Int).toNat X5.1).length P11) ((X6.2++[ae]).set ((X6.2.length:Nat):Int).toNat X5.1).length L10)::(Ent.obj Q1 (.cells #[.slice Z13 ((X6.2++[ae]).set ((X6.2.length:Nat):Int).toNat X5.1).length P11] 29 (0,0)))::(Ent.obj Q2 (.cells #[.pointer Z9,.slice Z10 X6.1.length P7] 142 (0,0)))::(Ent.row 5 1 (.slice Z10 X6.1.length P7) X6.1.length L4)::(Ent.obj Q5 (.cells #[.int .i8 X5.1.ab,S X5.1.aa,.int .i64 X5.1.ai,S X5.1.aj,S X5.1.ao,.slice Z8 X5.1.fL.length P6] 31 (0,0)))::(Ent.obj Q3 (.stringIter (mkS d0) (K1.2.2.2.2+X2.2)))::H) W34:=by simp only[List.length_set];rw[List.length_set] at N67;exact N67
                refine am rfl (aw 2 (mR _) N68 rfl (ci λW35 N69=>aS ?_))
                exact⟨(X6.2++[ae]).set ((X6.2.length:Nat):Int).toNat X5.1,(sI F27).symm,V5,(mR _),Z13,P11,L10,D15,f.kp,N69⟩
               exact ar
              exact ar
             refine av rfl (λW36 N70=>?_) ?_
             ·refine Y25 f N70 1 rfl rfl (b:=Q1) (j:=0) (v:=.slice Z13 (X6.2++[ae]).length P11) rfl (by exact rfl) (by simp) (by simp) ((Ent.row 31 6 (.slice Z13 (X6.2++[ae]).length P11) (X6.2++[ae]).length L8)::(Ent.obj Q1 (.cells #[.slice Z13 (X6.2++[ae]).length P11] 29 (0,0)))::(Ent.obj Q2 (.cells #[.pointer Z9,.slice Z10 X6.1.length P7] 142 (0,0)))::(Ent.row 5 1 (.slice Z10 X6.1.length P7) X6.1.length L4)::(Ent.obj Q5 (.cells #[.int .i8 X5.1.ab,S X5.1.aa,.int .i64 X5.1.ai,S X5.1.aj,S X5.1.ao,.slice Z8 X5.1.fL.length P6] 31 (0,0)))::(Ent.obj Q3 (.stringIter (mkS d0) (K1.2.2.2.2+X2.2)))::H) rfl λW37 N71 _ f=>am rfl (aw 2 (mR _) N71 rfl (av rfl (λW38 N72=>?_) ?_))
              ·obtain⟨Q10,P13,H5,hcap_3⟩:=N72.rowAddr 0 rfl (bh l7)
               have f:=f.st 65 (H5)
               refine Z f (Y28 rfl (ad:=⟨Q10,0,none⟩) (len:=(X6.2++[ae]).length) (cap:=P13) (k:=.i64) (i:=((X6.2.length:Nat):Int)) (e:=31) (sz:=6) (az l7) (ay l7)) λ_ f=>?_
               have f:=f.st 65 (H5.symm)
               refine am rfl (aw 2 (mR _) N72 rfl (av rfl (λW39 N73=>?_) ?_))
               ·refine Y24 (it:=((X6.2.length:Nat):Int)) (d:=X6.2++[ae]) (f:=au) (xv:=X5.1) (vs:=[.int .i8 X5.1.ab,S X5.1.aa,.int .i64 X5.1.ai,S X5.1.aj,S X5.1.ao,.slice Z8 X5.1.fL.length P6]) f N73 H5 rfl rfl (by exact TF0.shutx (x:=X5.1) (B7.mono J5)) bI l7 D13 λL11 W40 N74 D16 _ f=>?_
                have N75:Hp w0 V5 ((Ent.row 31 6 (.slice Z13 ((X6.2++[ae]).set ((X6.2.length:Nat):Int).toNat X5.1).length P11) ((X6.2++[ae]).set ((X6.2.length:Nat):Int).toNat X5.1).length L11)::(Ent.obj Q1 (.cells #[.slice Z13 (X6.2++[ae]).length P11] 29 (0,0)))::(Ent.obj Q2 (.cells #[.pointer Z9,.slice Z10 X6.1.length P7] 142 (0,0)))::(Ent.row 5 1 (.slice Z10 X6.1.length P7) X6.1.length L4)::(Ent.obj Q5 (.cells #[.int .i8 X5.1.ab,S X5.1.aa,.int .i64 X5.1.ai,S X5.1.aj,S X5.1.ao,.slice Z8 X5.1.fL.length P6] 31 (0,0)))::(Ent.obj Q3 (.stringIter (mkS d0) (K1.2.2.2.2+X2.2)))::H) W40:=N74.rowVal (by simp only[List.length_set])
                have f:=Frm.set f 65 (v:=.slice Z13 (X6.2++[ae]).length P11) (v':=.slice Z13 ((X6.2++[ae]).set ((X6.2.length:Nat):Int).toNat X5.1).length P11) (by kernel_rfl) (by simp only[List.length_set])
                have N76:Hp w0 V5 ((Ent.row 31 6 (.slice Z13 ((X6.2++[ae]).set ((X6.2.length:Nat):Int).toNat X5.1).length P11) ((X6.2++[ae]).set ((X6.2.length:Nat):Int).toNat X5.1).length L11)::(Ent.obj Q1 (.cells #[.slice Z13 ((X6.2++[ae]).set ((X6.2.length:Nat):Int).toNat X5.1).length P11] 29 (0,0)))::(Ent.obj Q2 (.cells #[.pointer Z9,.slice Z10 X6.1.length P7] 142 (0,0)))::(Ent.row 5 1 (.slice Z10 X6.1.length P7) X6.1.length L4)::(Ent.obj Q5 (.cells #[.int .i8 X5.1.ab,S X5.1.aa,.int .i64 X5.1.ai,S X5.1.aj,S X5.1.ao,.slice Z8 X5.1.fL.length P6] 31 (0,0)))::(Ent.obj Q3 (.stringIter (mkS d0) (K1.2.2.2.2+X2.2)))::H) W40:=by simp only[List.length_set];rw[List.length_set] at N75;exact N75
                refine am rfl (aw 2 (mR _) N76 rfl (ci λW41 N77=>aS ?_))
                exact⟨(X6.2++[ae]).set ((X6.2.length:Nat):Int).toNat X5.1,(sI F27).symm,V5,(mR _),Z13,P11,L11,D16,f.kp,N77⟩
               exact ar
              exact ar
             exact ar
            exact ar
           exact ar
          refine av rfl (λW42 N78=>?_) ?_
          ·refine aQ (k:=1) (c:=1) f N78 (.cells #[.int .i8 0,S [],.int .i64 0,S [],S [],.slice none 0 0] 31 (0,0)) (by kernel_rfl) (λ_=>by kernel_rfl) λQ11 W43 N79 _ f=>am rfl (aw 3 (mR _) N79 rfl (av rfl (λW44 N80=>?_) ?_))
           ·refine Z f (Y30 (v:=.slice Z11 X6.2.length P8) rfl (ad:=⟨Q1,0,none⟩) (N80.ownCell 1 rfl 0)) λ_ f=>am rfl (aw 3 (mR _) N80 rfl (Y1 (v:=.int .i64 ((X6.2.length:Nat):Int)) rfl f rfl rfl (λ_ _=>by kernel_rfl) λ_ f=>av rfl (λW45 N81=>?_) ?_))
            ·have N82:=N81.pl [2]
             refine Y20 (z:=.agg #[.int .i8 0,S [],.int .i64 0,S [],S [],.slice none 0 0]) (f:=au) (xs:=X6.2) (ys:=[ae]) (news:=[.int .i8 0,S [],.int .i64 0,S [],S [],.slice none 0 0]) (ad:=⟨Q11,0,none⟩) (m:=1) (c:=1) f N82 D10 (by exact⟨_,_,rfl,TF0.shut Sli.nil,rfl⟩) rfl rfl rfl rfl (an (N82.ownCell 1 rfl) 0 rfl) (by exact O6) (by have hg_:=O6;first|omega|(simp only[List.length_cons,List.length_nil] at*;omega)) λZ14 P14 L12 W46 N83 D17 _ f=>?_
             have N84:=N83.pl [1]
             have N85:=N84.drop
             refine am rfl (aw 2 (mR _) N85 rfl (av rfl (λW47 N86=>?_) ?_))
             ·obtain⟨Q12,P15,H6,hcap_4⟩:=N86.rowAddr 0 rfl (bh l7)
              have f:=f.st 65 (H6)
              refine Z f (Y28 rfl (ad:=⟨Q12,0,none⟩) (len:=(X6.2++[ae]).length) (cap:=P15) (k:=.i64) (i:=((X6.2.length:Nat):Int)) (e:=31) (sz:=6) (az l7) (ay l7)) λ_ f=>?_
              have f:=f.st 65 (H6.symm)
              refine am rfl (aw 2 (mR _) N86 rfl (av rfl (λW48 N87=>?_) ?_))
              ·refine Y24 (it:=((X6.2.length:Nat):Int)) (d:=X6.2++[ae]) (f:=au) (xv:=X5.1) (vs:=[.int .i8 X5.1.ab,S X5.1.aa,.int .i64 X5.1.ai,S X5.1.aj,S X5.1.ao,.slice Z8 X5.1.fL.length P6]) f N87 H6 rfl rfl (by exact TF0.shutx (x:=X5.1) (B7.mono J5)) bI l7 D17 λL13 W49 N88 D18 _ f=>?_
               have N89:Hp w0 V5 ((Ent.row 31 6 (.slice Z14 ((X6.2++[ae]).set ((X6.2.length:Nat):Int).toNat X5.1).length P14) ((X6.2++[ae]).set ((X6.2.length:Nat):Int).toNat X5.1).length L13)::(Ent.obj Q1 (.cells #[.slice Z11 X6.2.length P8] 29 (0,0)))::(Ent.obj Q2 (.cells #[.pointer Z9,.slice Z10 X6.1.length P7] 142 (0,0)))::(Ent.row 5 1 (.slice Z10 X6.1.length P7) X6.1.length L4)::(Ent.obj Q5 (.cells #[.int .i8 X5.1.ab,S X5.1.aa,.int .i64 X5.1.ai,S X5.1.aj,S X5.1.ao,.slice Z8 X5.1.fL.length P6] 31 (0,0)))::(Ent.obj Q3 (.stringIter (mkS d0) (K1.2.2.2.2+X2.2)))::H) W49:=N88.rowVal (by simp only[List.length_set])
               have f:=Frm.set f 65 (v:=.slice Z14 (X6.2++[ae]).length P14) (v':=.slice Z14 ((X6.2++[ae]).set ((X6.2.length:Nat):Int).toNat X5.1).length P14) (by kernel_rfl) (by simp only[List.length_set])
               refine am rfl (aw 2 (mR _) N89 rfl (av rfl (λW50 N90=>?_) ?_))
               ·refine Y25 f N90 1 rfl rfl (b:=Q1) (j:=0) (v:=.slice Z14 ((X6.2++[ae]).set ((X6.2.length:Nat):Int).toNat X5.1).length P14) rfl (by exact rfl) (by simp) (by simp) ((Ent.row 31 6 (.slice Z14 ((X6.2++[ae]).set ((X6.2.length:Nat):Int).toNat X5.1).length P14) ((X6.2++[ae]).set ((X6.2.length:Nat):Int).toNat X5.1).length L13)::(Ent.obj Q1 (.cells #[.slice Z14 ((X6.2++[ae]).set ((X6.2.length:Nat):Int).toNat X5.1).length P14] 29 (0,0)))::(Ent.obj Q2 (.cells #[.pointer Z9,.slice Z10 X6.1.length P7] 142 (0,0)))::(Ent.row 5 1 (.slice Z10 X6.1.length P7) X6.1.length L4)::(Ent.obj Q5 (.cells #[.int .i8 X5.1.ab,S X5.1.aa,.int .i64 X5.1.ai,S X5.1.aj,S X5.1.ao,.slice Z8 X5.1.fL.length P6] 31 (0,0)))::(Ent.obj Q3 (.stringIter (mkS d0) (K1.2.2.2.2+X2.2)))::H) rfl λW51 N91 _ f=>am rfl (aw 2 (mR _) N91 rfl (ci λW52 N92=>aS ?_))
                exact⟨(X6.2++[ae]).set ((X6.2.length:Nat):Int).toNat X5.1,(sI F27).symm,V5,(mR _),Z14,P14,L13,D18,f.kp,N92⟩
               exact ar
              refine av rfl (λW53 N93=>?_) ?_
              ·refine Y25 f N93 1 rfl rfl (b:=Q1) (j:=0) (v:=.slice Z14 (X6.2++[ae]).length P14) rfl (by exact rfl) (by simp) (by simp) ((Ent.row 31 6 (.slice Z14 (X6.2++[ae]).length P14) (X6.2++[ae]).length L12)::(Ent.obj Q1 (.cells #[.slice Z14 (X6.2++[ae]).length P14] 29 (0,0)))::(Ent.obj Q2 (.cells #[.pointer Z9,.slice Z10 X6.1.length P7] 142 (0,0)))::(Ent.row 5 1 (.slice Z10 X6.1.length P7) X6.1.length L4)::(Ent.obj Q5 (.cells #[.int .i8 X5.1.ab,S X5.1.aa,.int .i64 X5.1.ai,S X5.1.aj,S X5.1.ao,.slice Z8 X5.1.fL.length P6] 31 (0,0)))::(Ent.obj Q3 (.stringIter (mkS d0) (K1.2.2.2.2+X2.2)))::H) rfl λW54 N94 _ f=>am rfl (aw 2 (mR _) N94 rfl (av rfl (λW55 N95=>?_) ?_))
               ·refine Y24 (it:=((X6.2.length:Nat):Int)) (d:=X6.2++[ae]) (f:=au) (xv:=X5.1) (vs:=[.int .i8 X5.1.ab,S X5.1.aa,.int .i64 X5.1.ai,S X5.1.aj,S X5.1.ao,.slice Z8 X5.1.fL.length P6]) f N95 H6 rfl rfl (by exact TF0.shutx (x:=X5.1) (B7.mono J5)) bI l7 D17 λL14 W56 N96 D19 _ f=>?_
                have N97:Hp w0 V5 ((Ent.row 31 6 (.slice Z14 ((X6.2++[ae]).set ((X6.2.length:Nat):Int).toNat X5.1).length P14) ((X6.2++[ae]).set ((X6.2.length:Nat):Int).toNat X5.1).length L14)::(Ent.obj Q1 (.cells #[.slice Z14 (X6.2++[ae]).length P14] 29 (0,0)))::(Ent.obj Q2 (.cells #[.pointer Z9,.slice Z10 X6.1.length P7] 142 (0,0)))::(Ent.row 5 1 (.slice Z10 X6.1.length P7) X6.1.length L4)::(Ent.obj Q5 (.cells #[.int .i8 X5.1.ab,S X5.1.aa,.int .i64 X5.1.ai,S X5.1.aj,S X5.1.ao,.slice Z8 X5.1.fL.length P6] 31 (0,0)))::(Ent.obj Q3 (.stringIter (mkS d0) (K1.2.2.2.2+X2.2)))::H) W56:=N96.rowVal (by simp only[List.length_set])
                have f:=Frm.set f 65 (v:=.slice Z14 (X6.2++[ae]).length P14) (v':=.slice Z14 ((X6.2++[ae]).set ((X6.2.length:Nat):Int).toNat X5.1).length P14) (by kernel_rfl) (by simp only[List.length_set])
                have N98:Hp w0 V5 ((Ent.row 31 6 (.slice Z14 ((X6.2++[ae]).set ((X6.2.length:Nat):Int).toNat X5.1).length P14) ((X6.2++[ae]).set ((X6.2.length:Nat):Int).toNat X5.1).length L14)::(Ent.obj Q1 (.cells #[.slice Z14 ((X6.2++[ae]).set ((X6.2.length:Nat):Int).toNat X5.1).length P14] 29 (0,0)))::(Ent.obj Q2 (.cells #[.pointer Z9,.slice Z10 X6.1.length P7] 142 (0,0)))::(Ent.row 5 1 (.slice Z10 X6.1.length P7) X6.1.length L4)::(Ent.obj Q5 (.cells #[.int .i8 X5.1.ab,S X5.1.aa,.int .i64 X5.1.ai,S X5.1.aj,S X5.1.ao,.slice Z8 X5.1.fL.length P6] 31 (0,0)))::(Ent.obj Q3 (.stringIter (mkS d0) (K1.2.2.2.2+X2.2)))::H) W56:=by simp only[List.length_set];rw[List.length_set] at N97;exact N97
                refine am rfl (aw 2 (mR _) N98 rfl (ci λW57 N99=>aS ?_))
                exact⟨(X6.2++[ae]).set ((X6.2.length:Nat):Int).toNat X5.1,(sI F27).symm,V5,(mR _),Z14,P14,L14,D19,f.kp,N99⟩
               exact ar
              exact ar
             refine av rfl (λW58 N100=>?_) ?_
             ·refine Y25 f N100 1 rfl rfl (b:=Q1) (j:=0) (v:=.slice Z14 (X6.2++[ae]).length P14) rfl (by exact rfl) (by simp) (by simp) ((Ent.row 31 6 (.slice Z14 (X6.2++[ae]).length P14) (X6.2++[ae]).length L12)::(Ent.obj Q1 (.cells #[.slice Z14 (X6.2++[ae]).length P14] 29 (0,0)))::(Ent.obj Q2 (.cells #[.pointer Z9,.slice Z10 X6.1.length P7] 142 (0,0)))::(Ent.row 5 1 (.slice Z10 X6.1.length P7) X6.1.length L4)::(Ent.obj Q5 (.cells #[.int .i8 X5.1.ab,S X5.1.aa,.int .i64 X5.1.ai,S X5.1.aj,S X5.1.ao,.slice Z8 X5.1.fL.length P6] 31 (0,0)))::(Ent.obj Q3 (.stringIter (mkS d0) (K1.2.2.2.2+X2.2)))::H) rfl λW59 N101 _ f=>am rfl (aw 2 (mR _) N101 rfl (av rfl (λW60 N102=>?_) ?_))
              ·obtain⟨Q13,P16,H7,hcap_5⟩:=N102.rowAddr 0 rfl (bh l7)
               have f:=f.st 65 (H7)
               refine Z f (Y28 rfl (ad:=⟨Q13,0,none⟩) (len:=(X6.2++[ae]).length) (cap:=P16) (k:=.i64) (i:=((X6.2.length:Nat):Int)) (e:=31) (sz:=6) (az l7) (ay l7)) λ_ f=>?_
               have f:=f.st 65 (H7.symm)
               refine am rfl (aw 2 (mR _) N102 rfl (av rfl (λW61 N103=>?_) ?_))
               ·refine Y24 (it:=((X6.2.length:Nat):Int)) (d:=X6.2++[ae]) (f:=au) (xv:=X5.1) (vs:=[.int .i8 X5.1.ab,S X5.1.aa,.int .i64 X5.1.ai,S X5.1.aj,S X5.1.ao,.slice Z8 X5.1.fL.length P6]) f N103 H7 rfl rfl (by exact TF0.shutx (x:=X5.1) (B7.mono J5)) bI l7 D17 λL15 W62 N104 D20 _ f=>?_
                have N105:Hp w0 V5 ((Ent.row 31 6 (.slice Z14 ((X6.2++[ae]).set ((X6.2.length:Nat):Int).toNat X5.1).length P14) ((X6.2++[ae]).set ((X6.2.length:Nat):Int).toNat X5.1).length L15)::(Ent.obj Q1 (.cells #[.slice Z14 (X6.2++[ae]).length P14] 29 (0,0)))::(Ent.obj Q2 (.cells #[.pointer Z9,.slice Z10 X6.1.length P7] 142 (0,0)))::(Ent.row 5 1 (.slice Z10 X6.1.length P7) X6.1.length L4)::(Ent.obj Q5 (.cells #[.int .i8 X5.1.ab,S X5.1.aa,.int .i64 X5.1.ai,S X5.1.aj,S X5.1.ao,.slice Z8 X5.1.fL.length P6] 31 (0,0)))::(Ent.obj Q3 (.stringIter (mkS d0) (K1.2.2.2.2+X2.2)))::H) W62:=N104.rowVal (by simp only[List.length_set])
                have f:=Frm.set f 65 (v:=.slice Z14 (X6.2++[ae]).length P14) (v':=.slice Z14 ((X6.2++[ae]).set ((X6.2.length:Nat):Int).toNat X5.1).length P14) (by kernel_rfl) (by simp only[List.length_set])
                have N106:Hp w0 V5 ((Ent.row 31 6 (.slice Z14 ((X6.2++[ae]).set ((X6.2.length:Nat):Int).toNat X5.1).length P14) ((X6.2++[ae]).set ((X6.2.length:Nat):Int).toNat X5.1).length L15)::(Ent.obj Q1 (.cells #[.slice Z14 ((X6.2++[ae]).set ((X6.2.length:Nat):Int).toNat X5.1).length P14] 29 (0,0)))::(Ent.obj Q2 (.cells #[.pointer Z9,.slice Z10 X6.1.length P7] 142 (0,0)))::(Ent.row 5 1 (.slice Z10 X6.1.length P7) X6.1.length L4)::(Ent.obj Q5 (.cells #[.int .i8 X5.1.ab,S X5.1.aa,.int .i64 X5.1.ai,S X5.1.aj,S X5.1.ao,.slice Z8 X5.1.fL.length P6] 31 (0,0)))::(Ent.obj Q3 (.stringIter (mkS d0) (K1.2.2.2.2+X2.2)))::H) W62:=by simp only[List.length_set];rw[List.length_set] at N105;exact N105
                refine am rfl (aw 2 (mR _) N106 rfl (ci λW63 N107=>aS ?_))
                exact⟨(X6.2++[ae]).set ((X6.2.length:Nat):Int).toNat X5.1,(sI F27).symm,V5,(mR _),Z14,P14,L15,D20,f.kp,N107⟩
               exact ar
              exact ar
             exact ar
            exact ar
           exact ar
          exact ar
         ·rintro a_79 W64 ⟨G2,dD,V6,J6,Z15,P17,L16,D21,f,N108⟩
          subst nR
          refine gh (gh ?_)
          have N134:=N108.pl [1,2,5,4,4,5]
          refine aS ?_
          obtain rfl:=sI F25
          exact⟨⟨I2,((0:Int),K1.2.1,G2,X6.1,K1.2.2.2.2+X2.2),Z15,P17,L16,Z9,Z10,P7,L4⟩,Nat.lt_succ_self _,V6,((((J1.trans J2).trans J4).trans J5).trans J6),⟨T1,D21,hb_3,(ag.mono J6 _ _ D9)⟩,f.kp,(N134.dropN 1)⟩
        ·refine RR (Y f 1 λ_ f=>Y25 f N28 5 rfl rfl (b:=Q1) (j:=0) (v:=.slice none 0 0) rfl (by exact rfl) (by simp) (by simp) ((Ent.obj Q5 (.cells #[.int .i8 X5.1.ab,S X5.1.aa,.int .i64 X5.1.ai,S X5.1.aj,S X5.1.ao,.slice Z8 X5.1.fL.length P6] 31 (0,0)))::(Ent.obj Q3 (.stringIter (mkS d0) (K1.2.2.2.2+X2.2)))::(Ent.row 31 6 (.slice Z3 K1.2.2.1.length P3) K1.2.2.1.length L1)::(Ent.row 5 1 (.slice Z5 K1.2.2.2.1.length P4) K1.2.2.2.1.length L2)::(Ent.obj Q2 (.cells #[.pointer Z4,.slice Z5 K1.2.2.2.1.length P4] 142 (0,0)))::(Ent.obj Q1 (.cells #[.slice none 0 0] 29 (0,0)))::H) rfl λW65 N109 _ f=>Y f 2 λ_ f=>eT (wp_ret (hU (hU ?_))))
         have N140:=N109.pl [5,5,3,5,5,5]
         refine dj ?_
         obtain rfl:=sI F28
         exact .inl ⟨rfl,(K1.2.1,K1.2.2.2.1,K1.2.2.2.2+X2.2),(sI T1).symm,V4,((J1.trans J2).trans J4),Z4,Z5,P4,L2,gV,(ag.mono (J2.trans J4) _ _ D6),f.kp,(N140.dropN 2)⟩
      ·refine RR (Y f 3 λ_ f=>eT (RcF f F29 (λB9 F30=>?_) λB9 F31=>?_))
       ·have U13:=dI.1 B9
        refine wp_skip (gh (gh ?_))
        have N145:=N21.pl [4,4,2,4,4]
        refine aS ?_
        obtain rfl:=sI F30
        exact⟨⟨I2,(K1.1,K1.2.1,K1.2.2.1,K1.2.2.2.1,K1.2.2.2.2+X2.2),Z3,P3,L1,Z4,Z5,P4,L2⟩,Nat.lt_succ_self _,V2,(J1.trans J2),⟨T1,(ag.mono J2 _ _ D5),gV,(ag.mono J2 _ _ D6)⟩,f.kp,N145⟩
       ·have U14:=aA dI B9
        refine aq ?_
        obtain⟨j_3,hj_3,F32⟩:=bS F31
        refine ct (λa_87 W66=>∃G3:Bool,j_3=G3∧∃V7:Mem,V2.le V7∧Frm 95 [(0,S d0),(2,.pointer (some (⟨Q1,0,none⟩))),(5,.pointer (some (⟨Q2,0,none⟩))),(6,.func (.func 116) #[] #[.pointer (some (⟨Q2,0,none⟩)),.pointer (some (⟨Q1,0,none⟩))]),(7,.int .i64 K1.1),(8,.int .i64 K1.2.1),(9,.int .i64 ((K1.2.2.2.2:Nat):Int)),(10,.int .i32 ((X2.1:Nat):Int)),(24,.pointer (some (⟨Q3,0,none⟩))),(71,.bool G3)] a_87∧Hp w0 V7 ((Ent.obj Q3 (.stringIter (mkS d0) (K1.2.2.2.2+X2.2)))::(Ent.row 31 6 (.slice Z3 K1.2.2.1.length P3) K1.2.2.1.length L1)::(Ent.row 5 1 (.slice Z5 K1.2.2.2.1.length P4) K1.2.2.2.1.length L2)::(Ent.obj Q2 (.cells #[.pointer Z4,.slice Z5 K1.2.2.2.1.length P4] 142 (0,0)))::(Ent.obj Q1 (.cells #[.slice Z3 K1.2.2.1.length P3] 29 (0,0)))::H) W66) ?_ ?_
        ·refine aN (Y f 3 λ_ f=>?_)
         rcases cE hj_3 with⟨B10,F33⟩|⟨B10,F34⟩
         ·have U15:=dI.1 B10
          have f:=f.st 74 (cB B10)
          refine Y f 4 λ_ f=>eT ?_
          exact⟨(decide (((X2.1:Nat):Int)=123)),(sI F33).symm,V2,(mR _),f.kp,N21⟩
         ·have U16:=aA dI B10
          have f:=f.st 74 (cB B10)
          refine Y f 4 λ_ f=>eT ?_
          exact⟨(false),(sI F34).symm,V2,(mR _),f.kp,N21⟩
        ·rintro a_87 W66 ⟨G3,kN,V7,J7,f,N110⟩
         subst j_3
         refine aS (RcF f F32 (λB11 F35=>?_) λB11 F36=>?_)
         ·refine aN (Y f 1 λ_ f=>am rfl (gh (gh ?_)))
          have N150:=N110.pl [4,4,2,4,4]
          refine aS ?_
          obtain rfl:=sI F35
          exact⟨⟨I2,((2:Int),K1.2.1,K1.2.2.1,K1.2.2.2.1,K1.2.2.2.2+X2.2),Z3,P3,L1,Z4,Z5,P4,L2⟩,Nat.lt_succ_self _,V7,((J1.trans J2).trans J7),⟨T1,(ag.mono (J2.trans J7) _ _ D5),gV,(ag.mono (J2.trans J7) _ _ D6)⟩,f.kp,N150⟩
         ·refine RR (Y f 3 λ_ f=>eT (RcF f F36 (λB12 F37=>?_) λB12 F41=>?_))
          ·have U19:=dI.1 B12
           refine aq (RR (Y f 2 λ_ f=>eT (RcF f F37 (λB13 F38=>?_) λB13 F40=>?_)))
           ·have U20:=dI.1 B13
            refine aN ?_
            obtain⟨X12,l8,F39⟩:=bS F38
            have N113:=N110.pl [2,3]
            refine Y17 (E:=[Ent.obj Q2 (.cells #[.pointer Z4,.slice Z5 K1.2.2.2.1.length P4] 142 (0,0)),Ent.row 5 1 (.slice Z5 K1.2.2.2.1.length P4) K1.2.2.2.1.length L2]) (H:=((Ent.obj Q3 (.stringIter (mkS d0) (K1.2.2.2.2+X2.2)))::(Ent.row 31 6 (.slice Z3 K1.2.2.1.length P3) K1.2.2.1.length L1)::(Ent.obj Q1 (.cells #[.slice Z3 K1.2.2.1.length P3] 29 (0,0)))::H)) f N113 (di n _ Q2 Z4 gV K1.2.2.2.1 Z5 P4 L2 (ag.mono (J2.trans J7) _ _ D6) (36:Int) X12 l8) λ_ V8 E_3 W67 J8 N111 q_4 _ f=>?_
            obtain⟨Z16,Z17,P18,L17,rfl,rfl,hb_4,D22⟩:=q_4
            refine eT (aN (Y f 3 λ_ f=>am rfl (gh (gh ?_))))
            have N155:=N111.pl [4,1,3,3,4]
            refine aS ?_
            obtain rfl:=sI F39
            exact⟨⟨I2,((1:Int),((K1.2.2.2.2:Nat):Int),K1.2.2.1,X12.2,K1.2.2.2.2+X2.2),Z3,P3,L1,Z16,Z17,P18,L17⟩,Nat.lt_succ_self _,V8,(((J1.trans J2).trans J7).trans J8),⟨T1,(ag.mono ((J2.trans J7).trans J8) _ _ D5),hb_4,D22⟩,f.kp,N155⟩
           ·have U21:=aA dI B13
            refine wp_skip (aS (aN (Y f 3 λ_ f=>am rfl (gh (gh ?_)))))
            have N160:=N110.pl [4,4,2,4,4]
            refine aS ?_
            obtain rfl:=sI F40
            exact⟨⟨I2,((1:Int),((K1.2.2.2.2:Nat):Int),K1.2.2.1,K1.2.2.2.1,K1.2.2.2.2+X2.2),Z3,P3,L1,Z4,Z5,P4,L2⟩,Nat.lt_succ_self _,V7,((J1.trans J2).trans J7),⟨T1,(ag.mono (J2.trans J7) _ _ D5),gV,(ag.mono (J2.trans J7) _ _ D6)⟩,f.kp,N160⟩
          ·have U22:=aA dI B12
           refine aq (RR (Y f 2 λ_ f=>eT (RcF f F41 (λB14 F42=>?_) λB14 F45=>?_)))
           ·have U23:=dI.1 B14
            refine aN ?_
            obtain⟨X13,l9,F43⟩:=bS F42
            have N116:=N110.pl [2,3]
            refine Y17 (E:=[Ent.obj Q2 (.cells #[.pointer Z4,.slice Z5 K1.2.2.2.1.length P4] 142 (0,0)),Ent.row 5 1 (.slice Z5 K1.2.2.2.1.length P4) K1.2.2.2.1.length L2]) (H:=((Ent.obj Q3 (.stringIter (mkS d0) (K1.2.2.2.2+X2.2)))::(Ent.row 31 6 (.slice Z3 K1.2.2.1.length P3) K1.2.2.1.length L1)::(Ent.obj Q1 (.cells #[.slice Z3 K1.2.2.1.length P3] 29 (0,0)))::H)) f N116 (di n _ Q2 Z4 gV K1.2.2.2.1 Z5 P4 L2 (ag.mono (J2.trans J7) _ _ D6) (36:Int) X13 l9) λ_ V9 E_4 W68 J9 N114 q_5 _ f=>?_
            obtain⟨Z18,Z19,P19,L18,rfl,rfl,hb_5,D23⟩:=q_5
            refine eT (RR (Y f 1 λ_ f=>eT (aN (Y f 1 λ_ f=>?_))))
            obtain⟨X14,l10,F44⟩:=bS F43
            refine Y17 (E:=[Ent.obj Q2 (.cells #[.pointer Z18,.slice Z19 X13.2.length P19] 142 (0,0)),Ent.row 5 1 (.slice Z19 X13.2.length P19) X13.2.length L18]) (H:=((Ent.obj Q3 (.stringIter (mkS d0) (K1.2.2.2.2+X2.2)))::(Ent.row 31 6 (.slice Z3 K1.2.2.1.length P3) K1.2.2.1.length L1)::(Ent.obj Q1 (.cells #[.slice Z3 K1.2.2.1.length P3] 29 (0,0)))::H)) f N114 (er n _ Q2 Z18 hb_5 X13.2 Z19 P19 L18 D23 ((X2.1:Nat):Int) X14 l10) λ_ V10 E_5 W69 J10 N117 q_6 _ f=>?_
            obtain⟨Z20,Z21,P20,L19,rfl,rfl,hb_6,D24⟩:=q_6
            refine am rfl (gh (gh ?_))
            have N165:=N117.pl [4,1,3,3,4]
            refine aS ?_
            obtain rfl:=sI F44
            exact⟨⟨I2,((0:Int),K1.2.1,K1.2.2.1,X14.2.2,K1.2.2.2.2+X2.2),Z3,P3,L1,Z20,Z21,P20,L19⟩,Nat.lt_succ_self _,V10,((((J1.trans J2).trans J7).trans J9).trans J10),⟨T1,(ag.mono (((J2.trans J7).trans J9).trans J10) _ _ D5),hb_6,D24⟩,f.kp,N165⟩
           ·have U24:=aA dI B14
            refine wp_skip (aS (RR (Y f 1 λ_ f=>eT (aN (Y f 1 λ_ f=>?_)))))
            obtain⟨X15,l11,F46⟩:=bS F45
            have N120:=N110.pl [2,3]
            refine Y17 (E:=[Ent.obj Q2 (.cells #[.pointer Z4,.slice Z5 K1.2.2.2.1.length P4] 142 (0,0)),Ent.row 5 1 (.slice Z5 K1.2.2.2.1.length P4) K1.2.2.2.1.length L2]) (H:=((Ent.obj Q3 (.stringIter (mkS d0) (K1.2.2.2.2+X2.2)))::(Ent.row 31 6 (.slice Z3 K1.2.2.1.length P3) K1.2.2.1.length L1)::(Ent.obj Q1 (.cells #[.slice Z3 K1.2.2.1.length P3] 29 (0,0)))::H)) f N120 (er n _ Q2 Z4 gV K1.2.2.2.1 Z5 P4 L2 (ag.mono (J2.trans J7) _ _ D6) ((X2.1:Nat):Int) X15 l11) λ_ V11 E_6 W70 J11 N118 q_7 _ f=>?_
            obtain⟨Z22,Z23,P21,L20,rfl,rfl,hb_7,D25⟩:=q_7
            refine am rfl (gh (gh ?_))
            have N170:=N118.pl [4,1,3,3,4]
            refine aS ?_
            obtain rfl:=sI F46
            exact⟨⟨I2,((0:Int),K1.2.1,K1.2.2.1,X15.2.2,K1.2.2.2.2+X2.2),Z3,P3,L1,Z22,Z23,P21,L20⟩,Nat.lt_succ_self _,V11,(((J1.trans J2).trans J7).trans J11),⟨T1,(ag.mono ((J2.trans J7).trans J11) _ _ D5),hb_7,D25⟩,f.kp,N170⟩
    ·refine W_nextS_end (l:=d0) (p:=K1.2.2.2.2) f N19 (by kernel_rfl) (by kernel_rfl) rfl rfl rfl (by kernel_rfl) (of_decide_eq_false B3) λW71 N121 _ f=>Y f 1 λ_ f=>eT (aq (Y7 f (wp_exit (gT ?_))))
     have N175:=N121.pl [4,4,2,3,4]
     refine gT ?_
     obtain rfl:=sI F47
     exact .inr ⟨rfl,(K1.1,K1.2.1,K1.2.2.2.1,K1.2.2.1,K1.2.2.2.2),(sI T1).symm,V1,J1,Z4,Z5,P4,L2,Z3,P3,L1,gV,D6,D5,f.kp,N175⟩
   ·rintro _ _ W74 (⟨rfl,G4,rfl,V12,J12,Z24,Z25,P22,L21,hb_8,D26,f,N122⟩|⟨rfl,G5,rfl,V13,J13,Z26,Z27,P23,L22,Z28,P24,L23,hb_9,D27,D28,f,N123⟩)
    ·refine hU (dj ?_)
     have N176:Hp w0 V12 ((Ent.row 31 6 (.slice none 0 0) ([]:List TF0).length [])::(Ent.row 5 1 (.slice Z25 G4.2.1.length P22) G4.2.1.length L21)::(Ent.obj Q3 (.stringIter (mkS d0) G4.2.2))::(Ent.obj Q2 (.cells #[.pointer Z24,.slice Z25 G4.2.1.length P22] 142 (0,0)))::(Ent.obj Q1 (.cells #[.slice none 0 0] 29 (0,0)))::H) W74:=N122.nilRow 31 6
     have D29:ag V12 (([]:List TF0).map au) []:=rfl
     refine nZ f rfl (Y9 (v:=.slice none 0 0) (ad:=⟨Q1,0,none⟩) f (N176.ownCell 4 rfl 0)) (Y11 (v:=.int .i64 G4.1) f) (Y11 (v:=.int .i64 130) f) ?_
     obtain rfl:=sI F6
     have N180:=N176.pl [4,4,4,4]
     exact⟨_,rfl,V12,_,J12,(N180.dropN 4),⟨none,0,[],rfl,rfl,D29⟩⟩
    ·refine lO (aS (aq (RR (Y f 1 λ_ f=>eT ?_))))
     obtain⟨j_4,hj_4,F48⟩:=bS F6
     refine ct (λa_114 W77=>∃G6:List UInt8,j_4=.nx G6∧∃V15:Mem,V13.le V15∧∃ (Z31:Option Addr),∃ (Z32:Option Addr),∃ (P26:Nat),∃ (L25:List Value),(Z31=none∨Z31=some ⟨Q2,0,none⟩)∧ag V15 (G6.map embB) L25∧Frm 95 [(2,.pointer (some (⟨Q1,0,none⟩))),(6,.func (.func 116) #[] #[.pointer (some (⟨Q2,0,none⟩)),.pointer (some (⟨Q1,0,none⟩))])] a_114∧Hp w0 V15 ((Ent.row 5 1 (.slice Z32 G6.length P26) G6.length L25)::(Ent.obj Q2 (.cells #[.pointer Z31,.slice Z32 G6.length P26] 142 (0,0)))::(Ent.row 31 6 (.slice Z28 G5.2.2.2.1.length P24) G5.2.2.2.1.length L23)::(Ent.obj Q3 (.stringIter (mkS d0) G5.2.2.2.2))::(Ent.obj Q1 (.cells #[.slice Z28 G5.2.2.2.1.length P24] 29 (0,0)))::H) W77) ?_ ?_
     ·refine wp_block (RR (Y f 2 λ_ f=>eT (RcF f hj_4 (λB15 F49=>?_) λB15 F51=>?_)))
      ·have U25:=dI.1 B15
       refine RR (Y f 1 λ_ f=>Y25 f N123 4 rfl rfl (b:=Q1) (j:=0) (v:=.slice none 0 0) rfl (by exact rfl) (by simp) (by simp) ((Ent.row 5 1 (.slice Z27 G5.2.2.1.length P23) G5.2.2.1.length L22)::(Ent.row 31 6 (.slice Z28 G5.2.2.2.1.length P24) G5.2.2.2.1.length L23)::(Ent.obj Q3 (.stringIter (mkS d0) G5.2.2.2.2))::(Ent.obj Q2 (.cells #[.pointer Z26,.slice Z27 G5.2.2.1.length P23] 142 (0,0)))::(Ent.obj Q1 (.cells #[.slice none 0 0] 29 (0,0)))::H) rfl λW75 N181 _ f=>Y f 2 λ_ f=>eT (wp_ret (hU ?_)))
       have F50:=bK F49 F48
       refine dj (dj ?_)
       have N182:Hp w0 V13 ((Ent.row 31 6 (.slice none 0 0) ([]:List TF0).length [])::(Ent.row 5 1 (.slice Z27 G5.2.2.1.length P23) G5.2.2.1.length L22)::(Ent.row 31 6 (.slice Z28 G5.2.2.2.1.length P24) G5.2.2.2.1.length L23)::(Ent.obj Q3 (.stringIter (mkS d0) G5.2.2.2.2))::(Ent.obj Q2 (.cells #[.pointer Z26,.slice Z27 G5.2.2.1.length P23] 142 (0,0)))::(Ent.obj Q1 (.cells #[.slice none 0 0] 29 (0,0)))::H) W75:=N181.nilRow 31 6
       have D30:ag V13 (([]:List TF0).map au) []:=rfl
       refine nZ f rfl (Y9 (v:=.slice none 0 0) (ad:=⟨Q1,0,none⟩) f (N182.ownCell 5 rfl 0)) (Y11 (v:=.int .i64 G5.2.1) f) (Y11 (v:=.int .i64 130) f) ?_
       obtain rfl:=sI F50
       have N187:=N182.pl [5,5,5,5,5]
       exact⟨_,rfl,V13,_,J13,(N187.dropN 5),⟨none,0,[],rfl,rfl,D30⟩⟩
      ·have U26:=aA dI B15
       refine RR (Y f 2 λ_ f=>eT (RcF f F51 (λB16 F52=>?_) λB16 F54=>?_))
       ·have U27:=dI.1 B16
        refine aN ?_
        obtain⟨X16,l12,F53⟩:=bS F52
        have N189:=N123.pl [3]
        refine Y17 (E:=[Ent.obj Q2 (.cells #[.pointer Z26,.slice Z27 G5.2.2.1.length P23] 142 (0,0)),Ent.row 5 1 (.slice Z27 G5.2.2.1.length P23) G5.2.2.1.length L22]) (H:=((Ent.row 31 6 (.slice Z28 G5.2.2.2.1.length P24) G5.2.2.2.1.length L23)::(Ent.obj Q3 (.stringIter (mkS d0) G5.2.2.2.2))::(Ent.obj Q1 (.cells #[.slice Z28 G5.2.2.2.1.length P24] 29 (0,0)))::H)) f N189 (di n _ Q2 Z26 hb_9 G5.2.2.1 Z27 P23 L22 D27 (36:Int) X16 l12) λ_ V14 E_7 W76 J14 N188 q_8 _ f=>?_
        obtain⟨Z29,Z30,P25,L24,rfl,rfl,hb_10,D31⟩:=q_8
        refine am rfl (gh ?_)
        have N195:=N188.pl [4,4,4,3,4]
        refine aS ?_
        exact⟨X16.2,(sI F53).symm,V14,J14,Z29,Z30,P25,L24,hb_10,D31,f.kp,N195⟩
       ·have U28:=aA dI B16
        refine wp_skip (gh ?_)
        have N200:=N123.pl [4,3,3,4,4]
        refine aS ?_
        exact⟨G5.2.2.1,(sI F54).symm,V13,(mR _),Z26,Z27,P23,L22,hb_9,D27,f.kp,N200⟩
     ·rintro a_114 W77 ⟨G6,rfl,V15,J15,Z31,Z32,P26,L25,hb_11,D32,f,N190⟩
      refine aS (RR (Y f 1 λ_ f=>?_))
      obtain⟨X17,l13,F55⟩:=bS F48
      have N205:=N190.pl [2,4,2,3]
      refine Y17 (E:=[Ent.obj Q2 (.cells #[.pointer Z31,.slice Z32 G6.length P26] 142 (0,0)),Ent.row 5 1 (.slice Z32 G6.length P26) G6.length L25,Ent.obj Q1 (.cells #[.slice Z28 G5.2.2.2.1.length P24] 29 (0,0)),Ent.row 31 6 (.slice Z28 G5.2.2.2.1.length P24) G5.2.2.2.1.length L23]) (H:=((Ent.obj Q3 (.stringIter (mkS d0) G5.2.2.2.2))::H)) f N205 (lJ n _ (GL.mono (J13.trans J15) hG) Q2 Z31 hb_11 G6 Z32 P26 L25 D32 Q1 G5.2.2.2.1 Z28 P24 L23 (ag.mono J15 _ _ D28) X17 l13) λ_ V16 E_8 W78 J16 N201 q_9 _ f=>?_
      obtain⟨Z33,Z34,P27,L26,Z35,P28,L27,rfl,rfl,hb_12,D33,D34⟩:=q_9
      refine eT (RR (Z f (Y30 (v:=.slice Z35 X17.2.length P28) rfl (ad:=⟨Q1,0,none⟩) (N201.ownCell 2 rfl 0)) λ_ f=>Y25 f N201 2 rfl rfl (b:=Q1) (j:=0) (v:=.slice Z35 X17.2.length P28) rfl (by exact rfl) (by simp) (by simp) ((Ent.obj Q2 (.cells #[.pointer Z33,.slice Z34 X17.1.length P27] 142 (0,0)))::(Ent.row 5 1 (.slice Z34 X17.1.length P27) X17.1.length L26)::(Ent.obj Q1 (.cells #[.slice Z35 X17.2.length P28] 29 (0,0)))::(Ent.row 31 6 (.slice Z35 X17.2.length P28) X17.2.length L27)::(Ent.obj Q3 (.stringIter (mkS d0) G5.2.2.2.2))::H) rfl λW79 N206 _ f=>Y f 2 λ_ f=>eT (wp_ret (nZ f rfl (Y9 (v:=.slice Z35 X17.2.length P28) (ad:=⟨Q1,0,none⟩) f (N206.ownCell 2 rfl 0)) (Y11 (v:=.int .i64 0) f) (Y11 (v:=.int .i64 0) f) ?_))))
      obtain rfl:=sI F55
      have N211:=N206.pl [3,4,4,4,4]
      exact⟨_,rfl,V16,_,((J13.trans J15).trans J16),(N211.dropN 4),⟨Z35,P28,L27,rfl,rfl,D34⟩⟩
end Go.Proofs.YtkopljikappieaaGreatDoor
end
section
namespace Go.Proofs.YtkopljikappieaaGreatDoor
open Go Go.Vc Go.RowKit
end Go.Proofs.YtkopljikappieaaGreatDoor
end
section
section
namespace Go.Proofs.YtkopljikappieaaGreatDoor
open Go Go.Vc
def isL (c:UInt8):Bool:=(decide (97≤c.toNat)&&decide (c.toNat≤122))|| (decide (65≤c.toNat)&&decide (c.toNat≤90))
def isD (c:UInt8):Bool:=decide (48≤c.toNat)&&decide (c.toNat≤57)
def nameS (s:Bs):Bool:=decide (1≤s.length)&&decide (s.length≤32)&&isL (s.getD 0 0)&&s.all λc=>isL c||isD c
theorem byte_lt (c:UInt8):c.toNat<256:=c.toNat_lt
theorem ot (n:Nat) (c:UInt8):iq n (c.toNat:Int)=some (isL c):=by
 unfold iq isL
 by_cases h1:97≤c.toNat<;>by_cases h2:c.toNat≤122<;>by_cases h3:65≤c.toNat<;>by_cases h4:c.toNat≤90<;>
  simp[h1,h2,h3,h4,show(97:Int)≤(c.toNat:Int)↔97≤c.toNat by omega,show(c.toNat:Int)≤122↔c.toNat≤122 by omega,show(65:Int)≤(c.toNat:Int)↔65≤c.toNat by omega,show(c.toNat:Int)≤90↔c.toNat≤90 by omega]<;>omega
theorem digit_eq (n:Nat) (c:UInt8):ko n (c.toNat:Int)=some (isD c):=by
 unfold ko isD
 by_cases h1:48≤c.toNat<;>by_cases h2:c.toNat≤57<;>
  simp[h1,h2,show(48:Int)≤(c.toNat:Int)↔48≤c.toNat by omega,show(c.toNat:Int)≤57↔c.toNat≤57 by omega]
theorem name_ref {n:Nat} {s:Bs} (hn:s.length<n) (hs:s.length<1000000):ny n s=some (nameS s):=by
 unfold ny
 by_cases h1: (s.length:Int)<1
 ·rw[dT h1,cT,bnd,cT]
  have: ¬1≤s.length:=by omega
  simp[nameS,this]
 ·rw[dF h1,cF]
  by_cases h2: (32:Int)<(s.length:Int)
  ·rw[dT h2,cT,bnd,cT]
   have: ¬s.length≤32:=by omega
   simp[nameS,this]
  ·rw[dF h2,cF,getI_in (i:=0) 0 (by omega) (by omega),bnd,ot,bnd,bnd,Int.toNat_zero]
   have e1:1≤s.length:=by omega
   have e2:s.length≤32:=by omega
   cases hl:isL (s.getD 0 0) with
   |false=>
    rw[nF,cT]
    simp[nameS,hl,-List.getD_eq_getElem?_getD]
   |true=>
    rw[nT,cF]
    have hloop:=lD (n:=n) (step:=hT n s) (λk=> !(isL (s.getD k 0)||isD (s.getD k 0))) s.length (.inl ()) (.inr ()) (λk hk=>by
     unfold hT
     rw[dT (by omega: (k:Int)<(s.length:Int)),cT,gu 0 hk,bnd,ot,bnd]
     cases isL (s.getD k 0) with
     |true=>
      rw[nT,cF,aZ (by omega) (by omega)]
      simp
     |false=>
      rw[nF,cT,bnd,digit_eq,bnd]
      cases isD (s.getD k 0) with
      |true=>
       rw[nT,cF,aZ (by omega) (by omega)]
       simp
      |false=>simp) (by
     unfold hT
     rw[dF (by omega),cF]) hn
    rw[hloop,bnd,lQ 0 (λc=> !(isL c||isD c)) s]
    have e3: (s.any λc=> !(isL c||isD c))= !(s.all λc=>isL c||isD c):=by
     rw[List.not_all_eq_any_not]
    rw[e3]
    cases hq: (s.all λc=>isL c||isD c)<;>simp[nameS,hl,hq,e1,e2,-List.getD_eq_getElem?_getD]
theorem or32 (c:UInt8):bOr .u8 (c.toNat:Int) 32=((c|||32).toNat:Int):=by
 have h:=byte_lt c
 have h2:c.toNat|||32<256:=Nat.or_lt_two_pow (n:=8) h (by decide)
 have e:bOr .u8 (c.toNat:Int) 32=IntKind.wrap .u8 (((c|||32).toNat:Nat):Int):=by
  unfold bOr
  congr 1
  have e2: (BitVec.ofInt IntKind.u8.bits (c.toNat:Int))=BitVec.ofNat 8 c.toNat:=by
   show BitVec.ofInt 8 _=_
   simp
  rw[e2]
  show(((BitVec.ofNat 8 c.toNat|||BitVec.ofInt 8 32).toNat:Nat):Int)=_
  simp
 rw[e,mo _ (by simp) _]
theorem low_all: ((List.range 256).all λm=>(decide (97≤(m|||32))&&decide ((m|||32)≤122))== ((decide (97≤m)&&decide (m≤122))|| (decide (65≤m)&&decide (m≤90))))=true:=by kernel_rfl
theorem low_L (c:UInt8): (decide (97≤(c|||32).toNat)&&decide ((c|||32).toNat≤122))=isL c:=by
 have h:=List.all_eq_true.1 low_all c.toNat (List.mem_range.2 (byte_lt c))
 have e: (c|||32).toNat=c.toNat|||32:=by simp
 rw[e]
 exact eq_of_beq h
theorem iF {n:Nat} {s:Bs} (hn:s.length<n) (hs:s.length<1000000):ck n s=some (nameS s):=by
 unfold ck
 have hloop:=lD (n:=n) (step:=ey n s) (λk=> !(isL (s.getD k 0)|| (!decide (k=0)&&isD (s.getD k 0)))) s.length (.inl ()) (.inr ()) (λk hk=>by
  unfold ey
  rw[dT (by omega: (k:Int)<(s.length:Int)),cT,gu 0 hk,bnd,or32]
  have e1: (bif decide ((97:Int)≤((s.getD k 0|||32).toNat:Int)) then some (decide (((s.getD k 0|||32).toNat:Int)≤122)) else some false)=some (isL (s.getD k 0)):=by
   rw[←low_L]
   by_cases h1:97≤(s.getD k 0|||32).toNat
   ·rw[dT (by omega: (97:Int)≤((s.getD k 0|||32).toNat:Int)),cT,dT h1,Bool.true_and]
    congr 1
    rw[decide_eq_decide]
    omega
   ·rw[dF (by omega: ¬ (97:Int)≤((s.getD k 0|||32).toNat:Int)),cF,dF h1,Bool.false_and]
  rw[e1,bnd]
  cases isL (s.getD k 0) with
  |true=>
   rw[nT,cF,aZ (by omega) (by omega)]
   simp
  |false=>
   rw[nF,cT]
   by_cases h0:k=0
   ·rw[dT (by omega: (k:Int)=0),cT]
    simp[h0]
   ·rw[dF (by omega: ¬ (k:Int)=0),cF,bnd]
    by_cases h1:48≤(s.getD k 0).toNat
    ·rw[dF (by omega: ¬ ((s.getD k 0).toNat:Int)<48),cF,bnd]
     by_cases h2: (s.getD k 0).toNat≤57
     ·rw[dF (by omega: ¬ (57:Int)<((s.getD k 0).toNat:Int)),cF,aZ (by omega) (by omega)]
      simp only[isD,dT h1,dT h2,dF h0]
      simp
     ·rw[dT (by omega: (57:Int)<((s.getD k 0).toNat:Int)),cT]
      simp only[isD,dT h1,dF h2,dF h0]
      simp
    ·rw[dT (by omega: ((s.getD k 0).toNat:Int)<48),cT]
     simp only[isD,dF h1,dF h0]
     simp) (by
  unfold ey
  rw[dF (by omega),cF]) hn
 rw[hloop,bnd]
 have hq: ((List.range s.length).any λk=> !(isL (s.getD k 0)|| (!decide (k=0)&&isD (s.getD k 0))))= !(decide (s.length=0)|| (isL (s.getD 0 0)&&s.all λc=>isL c||isD c)):=by
  cases s with
  |nil=>rfl
  |cons c r=>
   rw[List.length_cons,List.range_succ_eq_map,List.any_cons,List.any_map]
   have h1: ((λk=> !(isL ((c::r).getD k 0)|| (!decide (k=0)&&isD ((c::r).getD k 0)))) ∘ Nat.succ)=λk=> !(isL (r.getD k 0)||isD (r.getD k 0)):=by
    funext k
    simp
   rw[h1,lQ 0 (λc=> !(isL c||isD c)) r]
   have h2: (r.any λc=> !(isL c||isD c))= !(r.all λc=>isL c||isD c):=by rw[List.not_all_eq_any_not]
   rw[h2]
   cases h3:isL c<;>simp[h3]
 rw[hq]
 cases h4: (decide (s.length=0)|| (isL (s.getD 0 0)&&s.all λc=>isL c||isD c)) with
 |false=>
  rw[nF,cT]
  simp only[Bool.or_eq_false_iff] at h4
  simp only[nameS,Bool.and_assoc,h4.2,Bool.and_false]
 |true=>
  rw[nT,cF]
  by_cases h5:0<s.length
  ·rw[dT (by omega: (0:Int)<(s.length:Int)),cT]
   have h6:decide (s.length=0)=false:=dF (by omega)
   rw[h6,Bool.false_or] at h4
   simp only[nameS,Bool.and_assoc,h4,Bool.and_true,dT (show 1≤s.length from h5),Bool.true_and]
   congr 1
   rw[decide_eq_decide]
   omega
  ·rw[dF (by omega: ¬ (0:Int)<(s.length:Int)),cF]
   simp only[nameS,dF (show ¬1≤s.length from h5),Bool.false_and]
end Go.Proofs.YtkopljikappieaaGreatDoor
end
section
namespace Go.Proofs.YtkopljikappieaaGreatDoor
open Go Go.Vc
theorem loop_find {α β:Type} {step:Int→Option (Lp Int β)} (d:α) (xs:List α) (q:α→Bool) (b:Nat→β) (e:β)
 (hs: ∀k:Nat,k<xs.length→step (k:Int)=if q (xs.getD k d) then some (.br (b k)) else some (.nx ((k:Int)+1))) (he:step (xs.length:Int)=some (.br e)):
 ∀ (m k:Nat),k+m=xs.length→∀n,m<n→aL step n (k:Int)=some (match (xs.drop k).findIdx? q with|some i=>b (k+i)|none=>e)
 |0,k,hk,n,hn=>by
  obtain⟨n,rfl⟩: ∃r,n=r+1:=⟨n-1,by omega⟩
  have:k=xs.length:=by omega
  subst this
  simp[aL,he]
 |m+1,k,hk,n,hn=>by
  obtain⟨n,rfl⟩: ∃r,n=r+1:=⟨n-1,by omega⟩
  have hlt:k<xs.length:=by omega
  have h1:=hs k hlt
  have h2:xs.drop k=xs.getD k d::xs.drop (k+1):=by
   rw[List.drop_eq_getElem_cons hlt]
   simp[List.getD,hlt]
  rw[aL,h1,h2,List.findIdx?_cons]
  cases hq:q (xs.getD k d) with
  |true=>simp
  |false=>
   have ih:=loop_find d xs q b e hs he m (k+1) (by omega) n (by omega)
   have e1: (((k+1:Nat)):Int)=(k:Int)+1:=by omega
   rw[e1] at ih
   simp only[Bool.false_eq_true,if_false,Option.bind_some]
   rw[ih]
   cases (xs.drop (k+1)).findIdx? q with
   |none=>rfl
   |some i=>simp[Nat.add_assoc,Nat.add_comm 1 i]
end Go.Proofs.YtkopljikappieaaGreatDoor
end
section
namespace Go.Proofs.YtkopljikappieaaGreatDoor
open Go Go.Vc
theorem oo (c:UInt8): ∀s:Bs,Lib.index s [c]=match s.findIdx? (· ==c) with|some i=>((i:Nat):Int)|none=> -1
 |[]=>by simp[Lib.index]
 |x::s=>by
  have ih:=oo c s
  rw[List.findIdx?_cons]
  by_cases h:x=c
  ·subst h
   simp[Lib.index]
  ·have h1: (x==c)=false:=by simpa using h
   have h2: ¬c=x:=λe=>h e.symm
   simp only[h1,Bool.false_eq_true,if_false]
   simp[Lib.index,h2,ih]
   cases s.findIdx? (· ==c)<;>simp
theorem cut_one (c:UInt8) (s:Bs):Lib.cut s [c]=match s.findIdx? (· ==c) with|some i=>(s.take i,s.drop (i+1),true)|none=>(s,[],false):=by
 unfold Lib.cut
 rw[oo]
 cases s.findIdx? (· ==c) with
 |none=>rfl
 |some i=>
  show(if 0≤((i:Nat):Int) then _ else _)=_
  rw[if_pos (by omega)]
  simp
theorem hole_cut {n:Nat} {s:Bs} (c:UInt8) (hs:s.length<1000000):h_Cut n s [c]=some (match s.findIdx? (· ==c) with|some i=>(s.take i,s.drop (i+1),true)|none=>(s,[],false)):=by
 unfold h_Cut
 rw[bi (by omega),cut_one]
end Go.Proofs.YtkopljikappieaaGreatDoor
end
section
namespace Go.Proofs.YtkopljikappieaaGreatDoor
open Go Go.Vc
def attrS (s:Bs):Bool:=match s.findIdx? (· ==46) with
 |some i=>decide (s.take i=[79,117,116,112,117,116,115])&&nameS (s.drop (i+1))
 |none=>nameS s
theorem nameS_dot {s:Bs} (h: (46:UInt8)∈s):nameS s=false:=by
 have: (s.all λc=>isL c||isD c)=false:=by
  rw[List.all_eq_false]
  exact⟨46,h,by decide⟩
 simp only[nameS,this,Bool.and_false]
end Go.Proofs.YtkopljikappieaaGreatDoor
end
section
namespace Go.Proofs.YtkopljikappieaaGreatDoor
open Go Go.Vc
theorem attr_sub {n:Nat} {s:Bs} (hn:s.length<n) (hs:s.length<1000000):ju n s=some (attrS s):=by
 unfold ju kj
 rw[bnd]
 dsimp only
 cases hp:Lib.hasPrefix s [79,117,116,112,117,116,115,46] with
 |true=>
  obtain⟨r,rfl⟩:=List.isPrefixOf_iff_prefix.1 hp
  rw[cT]
  have e:Lib.trimPrefix ([79,117,116,112,117,116,115,46]++r) [79,117,116,112,117,116,115,46]=r:=by
   unfold Lib.trimPrefix
   rw[if_pos hp]
   rfl
  rw[e,iF (by simp at hn;omega) (by simp at hs;omega),bnd]
  simp[attrS,List.findIdx?_cons]
 |false=>
  rw[cF,iF hn hs,bnd]
  congr 1
  unfold attrS
  cases h:s.findIdx? (· ==46) with
  |none=>rfl
  |some i=>
   obtain⟨hi,h1,_⟩:=List.findIdx?_eq_some_iff_getElem.1 h
   have h2:s[i]=46:=by simpa using h1
   rw[nameS_dot (by rw[←h2];exact List.getElem_mem hi)]
   have h3: ¬s.take i=[79,117,116,112,117,116,115]:=λh3=>by
    have h4:s=[79,117,116,112,117,116,115,46]++s.drop (i+1):=by
     conv=>lhs;rw[←List.take_append_drop i s,h3,List.drop_eq_getElem_cons hi,h2]
     rfl
    have h5:Lib.hasPrefix s [79,117,116,112,117,116,115,46]=true:=List.isPrefixOf_iff_prefix.2 ⟨_,h4.symm⟩
    rw[hp] at h5
    cases h5
   show false=(decide (s.take i=[79,117,116,112,117,116,115])&&nameS (s.drop (i+1)))
   rw[dF h3,Bool.false_and]
end Go.Proofs.YtkopljikappieaaGreatDoor
end
section
namespace Go.Proofs.YtkopljikappieaaGreatDoor
open Go Go.Vc
theorem wrS {n:Nat} {a b:Bs} (h:a.length+b.length≤100000000000):bV n a b=some ((b.length:Int),(),a++b):=by
 unfold bV bz bQ
 rw[bnd,bi (by omega)]
theorem wrB {n:Nat} {a:Bs} (c:UInt8) (h:a.length≤100000000000):bf n a (c.toNat:Int)=some ((),a++[c]):=by
 unfold bf bz bQ
 have hc:=c.toNat_lt
 rw[bnd,bi (by omega),bi (by omega)]
 congr 3
 simp
theorem tabB: ((List.range 256).all λy=>bAnd .u8 (y:Int) 63== ((y % 64:Nat):Int))=true:=by kernel_rfl
theorem tabC: ((List.range 64).all λy=>bOr .u8 128 (y:Int)== ((128+y:Nat):Int))=true:=by kernel_rfl
theorem tabD: ((List.range 32).all λy=>bOr .u8 192 (y:Int)== ((192+y:Nat):Int))=true:=by kernel_rfl
theorem tabE: ((List.range 16).all λy=>bOr .u8 224 (y:Int)== ((224+y:Nat):Int))=true:=by kernel_rfl
theorem tabF: ((List.range 8).all λy=>bOr .u8 240 (y:Int)== ((240+y:Nat):Int))=true:=by kernel_rfl
theorem shr_i32 (c k:Nat) (hk:k≤32):bShr .i32 (c:Int) (k:Int)=((c / 2 ^ k:Nat):Int):=by
 unfold bShr
 have:min ((k:Int).toNat) IntKind.i32.bits=k:=by
  show min _ 32=k
  omega
 rw[this,Int.fdiv_eq_ediv_of_nonneg _ (Int.pow_nonneg (by omega))]
 norm_cast
theorem wrap_u8 (c:Nat):IntKind.wrap .u8 (c:Int)=((c % 256:Nat):Int):=by
 simp[IntKind.wrap,IntKind.bits,IntKind.signed]
theorem lowB (c:Nat):bOr .u8 128 (bAnd .u8 (IntKind.wrap .u8 (c:Int)) 63)=((128+c % 64:Nat):Int):=by
 rw[wrap_u8]
 have h:=List.all_eq_true.1 tabB (c % 256) (List.mem_range.2 (by omega))
 rw[eq_of_beq h]
 have h:=List.all_eq_true.1 tabC (c % 256 % 64) (List.mem_range.2 (by omega))
 rw[eq_of_beq h]
 omega
theorem hdD (c:Nat) (h:c<32):bOr .u8 192 (IntKind.wrap .u8 (c:Int))=((192+c:Nat):Int):=by
 rw[wrap_u8,show c % 256=c by omega]
 exact eq_of_beq (List.all_eq_true.1 tabD c (List.mem_range.2 h))
theorem hdE (c:Nat) (h:c<16):bOr .u8 224 (IntKind.wrap .u8 (c:Int))=((224+c:Nat):Int):=by
 rw[wrap_u8,show c % 256=c by omega]
 exact eq_of_beq (List.all_eq_true.1 tabE c (List.mem_range.2 h))
theorem hdF (c:Nat) (h:c<8):bOr .u8 240 (IntKind.wrap .u8 (c:Int))=((240+c:Nat):Int):=by
 rw[wrap_u8,show c % 256=c by omega]
 exact eq_of_beq (List.all_eq_true.1 tabF c (List.mem_range.2 h))
theorem byt2 (x y z w:Int) (h1:x=z) (h2:y=w): [UInt8.ofNat x.toNat,UInt8.ofNat y.toNat]=List.map (λx:Int=>x.toNat.toUInt8) [z,w]:=by subst h1 h2;rfl
theorem byt3 (x y u z w v:Int) (h1:x=z) (h2:y=w) (h3:u=v): [UInt8.ofNat x.toNat,UInt8.ofNat y.toNat,UInt8.ofNat u.toNat]=List.map (λx:Int=>x.toNat.toUInt8) [z,w,v]:=by subst h1 h2 h3;rfl
theorem byt4 (x y u p z w v q:Int) (h1:x=z) (h2:y=w) (h3:u=v) (h4:p=q): [UInt8.ofNat x.toNat,UInt8.ofNat y.toNat,UInt8.ofNat u.toNat,UInt8.ofNat p.toNat]=List.map (λx:Int=>x.toNat.toUInt8) [z,w,v,q]:=by subst h1 h2 h3 h4;rfl
theorem appR {n:Nat} {a:Bs} {c:Nat} (hc:c≤1114111) (h:a.length≤100000000000):cm n a (c:Int)=some (a++Lib.encodeRune (c:Int)):=by
 unfold cm
 rw[bi (by simp[inR,IntKind.min,IntKind.max,IntKind.signed,IntKind.bits];omega)]
 unfold Lib.encodeRune
 by_cases h1:c≤127
 ·rw[dT (by omega: (c:Int)≤127),cT,wrap_u8,show c % 256=c by omega,bi (by omega),bi (by omega),Lib.encodeRuneZ_one (by omega) (by omega)]
  simp
 rw[dF (by omega: ¬ (c:Int)≤127),cF]
 unfold bW
 rw[bi (by simp[inR,IntKind.min,IntKind.max,IntKind.signed,IntKind.bits];omega)]
 have s6:bShr .i32 (c:Int) 6=((c / 64:Nat):Int):=shr_i32 c 6 (by omega)
 have s12:bShr .i32 (c:Int) 12=((c / 4096:Nat):Int):=shr_i32 c 12 (by omega)
 have s18:bShr .i32 (c:Int) 18=((c / 262144:Nat):Int):=shr_i32 c 18 (by omega)
 rw[s6,s12,s18,lowB c,lowB (c / 64),lowB (c / 4096)]
 by_cases h2:c≤2047
 ·rw[dT (by omega: (c:Int)≤2047),cT,hdD _ (by omega),bi (by omega),bi (by omega),bi (by omega),bnd,Lib.encodeRuneZ_two (by omega) (by omega)]
  exact congrArg some (congrArg (a++ ·) (byt2 _ _ _ _ (by omega) (by omega)))
 rw[dF (by omega: ¬ (c:Int)≤2047),cF]
 have e3:224+c / 4096<240→some (a++[UInt8.ofNat ((((224+c / 4096:Nat):Int)).toNat),UInt8.ofNat ((((128+c / 64 % 64:Nat):Int)).toNat),UInt8.ofNat ((((128+c % 64:Nat):Int)).toNat)])=some (a++List.map (λx=>x.toNat.toUInt8) [224+ (c:Int) / 4096,128+ (c:Int) / 64 % 64,128+ (c:Int) % 64]):=λ_=>by
  exact congrArg some (congrArg (a++ ·) (byt3 _ _ _ _ _ _ (by omega) (by omega) (by omega)))
 by_cases h3:c<55296
 ·rw[dT (by omega: (c:Int)<55296),cT,bnd,cT,hdE _ (by omega),bi (by omega),bi (by omega),bi (by omega),bi (by omega),bnd,Lib.encodeRuneZ_three (by omega)]
  exact e3 (by omega)
 rw[dF (by omega: ¬ (c:Int)<55296),cF]
 by_cases h4:57343<c
 ·rw[dT (by omega: (57343:Int)<c),cT,bnd]
  by_cases h5:c≤65535
  ·rw[dT (by omega: (c:Int)≤65535),cT,hdE _ (by omega),bi (by omega),bi (by omega),bi (by omega),bi (by omega),bnd,Lib.encodeRuneZ_three (by omega)]
   exact e3 (by omega)
  ·rw[dF (by omega: ¬ (c:Int)≤65535),cF,dT (by omega: (65535:Int)<c),cT,dT (by omega: (c:Int)≤1114111),bnd,cT,hdF _ (by omega),bi (by omega),bi (by omega),bi (by omega),bi (by omega),bi (by omega),bnd,Lib.encodeRuneZ_four (by omega) (by omega)]
   exact congrArg some (congrArg (a++ ·) (byt4 _ _ _ _ _ _ _ _ (by omega) (by omega) (by omega) (by omega)))
 ·rw[dF (by omega: ¬ (57343:Int)<c),cF,bnd,cF,dF (by omega: ¬ (65535:Int)<c),cF,bnd,cF,bi (by omega),bnd]
  have:Lib.encodeRuneZ (c:Int)=[239,191,189]:=by
   unfold Lib.encodeRuneZ
   rw[if_neg (by omega),if_neg (by omega),if_neg (by omega),if_neg (by omega)]
  rw[this]
  rfl
theorem wrR {n:Nat} {a:Bs} {c:Nat} (hc:c≤1114111) (h:a.length≤100000000000):bt n a (c:Int)=some (((Lib.encodeRune (c:Int)).length:Int),(),a++Lib.encodeRune (c:Int)):=by
 unfold bt bz bQ
 have hl: (Lib.encodeRune (c:Int)).length≤4:=by
  unfold Lib.encodeRune Lib.encodeRuneZ
  repeat' split
  all_goals simp
 rw[bnd,appR hc h,bnd,List.length_append,aZ (by omega) (by omega)]
 congr 2
 omega
end Go.Proofs.YtkopljikappieaaGreatDoor
end
section
namespace Go.Proofs.YtkopljikappieaaGreatDoor
open Go Go.Vc
def holeS (s:Bs):TF0×Bool:=match s.findIdx? (· ==46) with
 |some i=>(⟨4,[],0,s.take i,s.drop (i+1),[]⟩,nameS (s.take i)&&attrS (s.drop (i+1)))
 |none=>(⟨3,[],0,s,[],[]⟩,nameS s)
theorem hole_sub {n:Nat} {s:Bs} (hn:s.length<n) (hs:s.length<1000000):ku n s=some (holeS s):=by
 unfold ku holeS
 rw[hole_cut 46 hs,bnd]
 cases h:s.findIdx? (· ==46) with
 |none=>
  dsimp only
  rw[cF,iF hn hs,bnd]
 |some i=>
  dsimp only
  rw[cT,iF (by rw[List.length_take];omega) (by rw[List.length_take];omega),bnd]
  cases nameS (s.take i) with
  |true=>rw[cT,attr_sub (by rw[List.length_drop];omega) (by rw[List.length_drop];omega),bnd,bnd,Bool.true_and]
  |false=>rw[cF,bnd,Bool.false_and]
inductive It
 |tx (b:Bs)
 |ho (x:TF0)
def txE (b:Bs):TF0:=⟨0,b,0,[],[],[]⟩
def add (it:It) (k:Nat) (p:List It×Option Nat):List It×Option Nat:=(it::p.1,p.2.map (· +k))
def prs:Bs→List It×Option Nat
 |[]=>([],none)
 |c::r=>
  if c=36∧r.head?=some 123 then
   match (r.drop 1).findIdx? (· ==125) with
   |none=>([],some 0)
   |some i=>
    if ((r.drop 1).take i).head?=some 33 then add (.tx (36::123::((r.drop 1).take i).drop 1++[125])) (i+3) (prs (r.drop (i+2)))
    else if (holeS ((r.drop 1).take i)).2 then add (.ho (holeS ((r.drop 1).take i)).1) (i+3) (prs (r.drop (i+2)))
    else([],some 0)
  else add (.tx [c]) 1 (prs r)
 termination_by s=>s.length
 decreasing_by all_goals simp<;>omega
def fl (b:Bs):List TF0:=if b=[] then [] else [txE b]
def mrg:Bs→List It→List TF0
 |b,[]=>fl b
 |b,.tx a::r=>mrg (b++a) r
 |b,.ho x::r=>fl b++x::mrg [] r
def lexS (s:Bs):List TF0×Int×Int:=
 if Lib.validD s=true then
  if s.length≤4096 then match (prs s).2 with
   |some p=>([],(p:Int),130)
   |none=>(mrg [] (prs s).1,0,0)
  else([],0,3)
 else([],0,10)
theorem prs_nil:prs []=([],none):=by rw[prs]
theorem prs_ch {c:UInt8} {r:Bs} (h: ¬ (c=36∧r.head?=some 123)):prs (c::r)=add (.tx [c]) 1 (prs r):=by rw[prs,if_neg h]
theorem prs_bad {r:Bs} (h:r.findIdx? (· ==125)=none):prs (36::123::r)=([],some 0):=by
 rw[prs,if_pos ⟨rfl,rfl⟩,List.drop_one,List.tail_cons,h]
theorem prs_esc {r:Bs} {i:Nat} (h:r.findIdx? (· ==125)=some i) (h2: (r.take i).head?=some 33):prs (36::123::r)=add (.tx (36::123::(r.take i).drop 1++[125])) (i+3) (prs (r.drop (i+1))):=by
 rw[prs,if_pos ⟨rfl,rfl⟩,List.drop_one,List.tail_cons,h]
 dsimp only
 rw[if_pos h2]
 rfl
theorem prs_hole {r:Bs} {i:Nat} (h:r.findIdx? (· ==125)=some i) (h2: (r.take i).head?≠some 33) (h3: (holeS (r.take i)).2=true):prs (36::123::r)=add (.ho (holeS (r.take i)).1) (i+3) (prs (r.drop (i+1))):=by
 rw[prs,if_pos ⟨rfl,rfl⟩,List.drop_one,List.tail_cons,h]
 dsimp only
 rw[if_neg h2,if_pos h3]
 rfl
theorem prs_none {r:Bs} {i:Nat} (h:r.findIdx? (· ==125)=some i) (h2: (r.take i).head?≠some 33) (h3: (holeS (r.take i)).2=false):prs (36::123::r)=([],some 0):=by
 rw[prs,if_pos ⟨rfl,rfl⟩,List.drop_one,List.tail_cons,h]
 dsimp only
 rw[if_neg h2,if_neg (by rw[h3];simp)]
end Go.Proofs.YtkopljikappieaaGreatDoor
end
section
namespace Go.Proofs.YtkopljikappieaaGreatDoor
open Go Go.Vc
theorem drop_at {s:Bs} {k:Nat} (hk:k<s.length):s.drop k=s.getD k 0::s.drop (k+1):=by
 rw[List.drop_eq_getElem_cons hk]
 simp[List.getD,hk]
theorem take_drop_at {s:Bs} {k e:Nat}: (s.take (k+e)).drop k=(s.drop k).take e:=by
 rw[List.drop_take]
 congr 1
 omega
end Go.Proofs.YtkopljikappieaaGreatDoor
end
section
namespace Go.Proofs.YtkopljikappieaaGreatDoor
open Go Go.Vc
theorem lex1_eq {n:Nat} {b:Bs} {l:List TF0} (h:l.length<1000000):iy n b l=some ([],l++fl b):=by
 unfold iy dO dl cV fl
 rw[bnd]
 dsimp only
 by_cases h0:b=[]
 ·subst h0
  simp
 ·have:0<b.length:=List.length_pos_iff.2 h0
  rw[dT (by omega),cT,bnd,bi (by omega),gu (txE []) (by simp),bnd,bnd,bnd,if_neg h0]
  simp[txE]
theorem fl_len (b:Bs): (fl b).length≤1:=by unfold fl;split<;>simp
theorem prs_app: ∀ (a r:Bs),(∀x∈a,x≠36)→prs (a++r)=(a.map (λx=>It.tx [x])++(prs r).1,(prs r).2.map (· +a.length))
 |[],r,_=>by simp
 |c::a,r,h=>by
  rw[List.cons_append,prs_ch (λe=>h c (by simp) e.1),prs_app a r (λx hx=>h x (by simp[hx]))]
  unfold add
  simp only[List.map_cons,List.cons_append,Option.map_map,List.length_cons]
  refine congrArg (Prod.mk _) (congrFun (congrArg Option.map ?_) _)
  funext x
  simp only[Function.comp]
  omega
theorem mrg_app: ∀ (a b:Bs) (l:List It),mrg b (a.map (λx=>It.tx [x])++l)=mrg (b++a) l
 |[],b,l=>by simp
 |c::a,b,l=>by
  simp only[List.map_cons,List.cons_append,mrg]
  rw[mrg_app a (b++[c]) l]
  simp
def MacPost (s:Bs) (k:Nat) (out:List TF0) (text:Bs) (b:Sum (Int×Bs×Nat) (Int×Int×Bs×List TF0×Nat)):Prop:=
 match (prs (s.drop k)).2 with
 |some p=>(∃t z,b=.inl (((k+p:Nat):Int),t,z))∨∃t o z,b=.inr (2,((k+p:Nat):Int),t,o,z)
 |none=>(∃o t f z,b=.inr (0,f,t,o,z)∧o++fl t=out++mrg text (prs (s.drop k)).1∧t.length≤s.length∧o.length≤s.length)∨
  (∃o t f z,b=.inr (1,f,t,o,z)∧o++fl (t++[36])=out++mrg text (prs (s.drop k)).1∧t.length≤s.length∧o.length≤s.length)
theorem MacPost.of_add {s:Bs} {k j:Nat} {it:List It} {out out':List TF0} {text text':Bs} {b:Sum (Int×Bs×Nat) (Int×Int×Bs×List TF0×Nat)}
 (h:prs (s.drop k)=(it++(prs (s.drop (k+j))).1,(prs (s.drop (k+j))).2.map (· +j))) (hm: ∀l,out'++mrg text' l=out++mrg text (it++l)) (hp:MacPost s (k+j) out' text' b):MacPost s k out text b:=by
 unfold MacPost at hp ⊢
 rw[h]
 cases hq: (prs (s.drop (k+j))).2 with
 |some p=>
  rw[hq] at hp
  have e:k+j+p=k+ (p+j):=by omega
  dsimp only at hp
  rw[e] at hp
  exact hp
 |none=>
  rw[hq] at hp
  rcases hp with⟨o,t,f,z,h1,h2,h3⟩|⟨o,t,f,z,h1,h2,h3⟩
  ·exact .inl ⟨o,t,f,z,h1,by rw[h2,hm],h3⟩
  ·exact .inr ⟨o,t,f,z,h1,by rw[h2,hm],h3⟩
theorem oy {s:Bs} {k:Nat} {a t:Bs} (h:s.drop k=a++t) (ha: ∀x∈a,x≠36):prs (s.drop k)=(a.map (λx=>It.tx [x])++(prs (s.drop (k+a.length))).1,(prs (s.drop (k+a.length))).2.map (· +a.length)):=by
 have e:s.drop (k+a.length)=t:=by rw[←List.drop_drop,h,List.drop_left]
 rw[h,e]
 exact prs_app a t ha
def MacSt (s:Bs) (k i:Nat) (st:Int) (fr:Int):Prop:=
 (st=0∧i=k)∨(st=1∧i=k+1∧fr=(k:Int)∧k<s.length∧s.getD k 0=36)∨
 (st=2∧fr=(k:Int)∧k+2≤i∧s.drop k=36::123::s.drop (k+2)∧∀j,k+2≤j→j<i→s.getD j 0≠125)
theorem ls {s a t:Bs} {i j:Nat} (h:s.drop i=a++t) (h1:i≤j) (h2:j<i+a.length):s.getD j 0∈a:=by
 have e:s.getD j 0=(s.drop i).getD (j-i) 0:=by
  rw[Lib.getD_dropU]
  congr 1
  omega
 rw[e,h]
 have: (a++t).getD (j-i) 0=a[j-i]'(by omega):=by
  simp[List.getD,List.getElem?_append,show j-i<a.length by omega]
 rw[this]
 exact List.getElem_mem _
theorem findIdx_shut {s:Bs} {k i:Nat} (h: ∀j,k≤j→j<i→s.getD j 0≠125) (hki:k≤i) (hi:i<s.length) (hc:s.getD i 0=125): (s.drop k).findIdx? (· ==125)=some (i-k):=by
 rw[List.findIdx?_eq_some_iff_getElem]
 refine⟨by rw[List.length_drop];omega,?_,λj hj=>?_⟩
 ·rw[List.getElem_drop]
  have:s.getD i 0=s[k+ (i-k)]'(by omega):=by simp[List.getD,show k+ (i-k)=i by omega,hi]
  rw[←this,hc]
  rfl
 ·rw[List.getElem_drop]
  have h1:s.getD (k+j) 0=s[k+j]'(by omega):=by simp[List.getD,show k+j<s.length by omega]
  rw[←h1]
  have:=h (k+j) (by omega) (by omega)
  simpa using this
theorem shut_none {s:Bs} {k:Nat} (h: ∀j,k≤j→j<s.length→s.getD j 0≠125): (s.drop k).findIdx? (· ==125)=none:=by
 rw[List.findIdx?_eq_none_iff]
 intro x hx
 obtain⟨j,hj,rfl⟩:=List.mem_iff_getElem.1 hx
 rw[List.length_drop] at hj
 rw[List.getElem_drop]
 have h1:s.getD (k+j) 0=s[k+j]'(by omega):=by simp[List.getD,show k+j<s.length by omega]
 rw[←h1]
 have:=h (k+j) (by omega) (by omega)
 simpa using this
end Go.Proofs.YtkopljikappieaaGreatDoor
end
section
namespace Go.Proofs.YtkopljikappieaaGreatDoor
open Go Go.Vc
theorem gF {n:Nat} {s:Bs} (hs:s.length<100000) (hn:s.length<n): ∀ (m k i:Nat) (st fr:Int) (out:List TF0) (text:Bs),s.length≤i+m→i≤s.length→Lib.validD (s.drop i)=true→MacSt s k i st fr→text.length≤k→out.length≤k→∀q,m<q→
 ∃b,aL (iK n s) q (st,fr,out,text,i)=some b∧MacPost s k out text b
 |m,k,i,st,fr,out,text,hm,hi,hv,hst,ht,ho,q,hq=>by
  have hks:k≤i:=by rcases hst with⟨_,h⟩|⟨_,h,_⟩|⟨_,_,h,_⟩<;>omega
  obtain⟨q,rfl⟩: ∃r,q=r+1:=⟨q-1,by omega⟩
  rw[aL,iK]
  dsimp only
  by_cases hlt:i<s.length
  case neg=>
   rw[dF hlt,cF,bnd]
   refine⟨_,rfl,?_⟩
   have hie:i=s.length:=by omega
   unfold MacPost
   rcases hst with⟨rfl,rfl⟩|⟨rfl,h1,rfl,h2,h3⟩|⟨rfl,rfl,h1,h2,h3⟩
   ·rw[List.drop_eq_nil_of_le (by omega),prs_nil]
    exact .inl ⟨out,text,fr,_,rfl,rfl,by omega,by omega⟩
   ·rw[drop_at h2,h3,List.drop_eq_nil_of_le (by omega),prs_ch (by simp),prs_nil]
    exact .inr ⟨out,text,_,_,rfl,rfl,by omega,by omega⟩
   ·rw[h2,prs_bad (shut_none λj g1 g2=>h3 j g1 (by omega))]
    exact .inr ⟨text,out,_,rfl⟩
  obtain⟨m,rfl⟩: ∃r,m=r+1:=⟨m-1,by omega⟩
  have hne:s.drop i≠ []:=λe=>by
   have:=congrArg List.length e
   rw[List.length_drop] at this
   simp at this
   omega
  rw[dT hlt,cT,bnd]
  obtain⟨r,a,t,hd,hdec,ha0,hr,henc,hvt,ha36,ha125,hr36,hr123,hr125⟩: ∃ (r:Nat) (a t:Bs),s.drop i=a++t∧Lib.decodeL (s.drop i)=(r,a.length)∧a≠ []∧r≤1114111∧Lib.encodeRune (r:Int)=a∧Lib.validD t=true∧
   (r≠36→∀x∈a,x≠36)∧(r≠125→∀x∈a,x≠125)∧(r=36→a=[36])∧(a.head?=some 123→r=123)∧(r=125→a=[125]):=by
   rcases rune_at hne hv with⟨c,t,h1,h2,h3,h4⟩|⟨r,a,t,h1,h2,h3,h4,h5,h6,h7,h8⟩
   ·refine⟨c.toNat,[c],t,h1,h3,by simp,by omega,?_,h4,λh x hx=>?_,λh x hx=>?_,λh=>?_,λh=>?_,λh=>?_⟩
    ·unfold Lib.encodeRune
     rw[Lib.encodeRuneZ_one (by omega) (by omega)]
     simp
    ·simp at hx;subst hx;exact λe=>h (by rw[e];rfl)
    ·simp at hx;subst hx;exact λe=>h (by rw[e];rfl)
    ·exact congrArg (λy=>[y]) (UInt8.toNat_inj.1 h)
    ·simp at h;rw[h];rfl
    ·exact congrArg (λy=>[y]) (UInt8.toNat_inj.1 h)
   ·refine⟨r,a,t,h1,h2,h3,h6,h7,h8,λh x hx e=>?_,λh x hx e=>?_,λh=>by omega,λh=>?_,λh=>by omega⟩
    ·have:=h4 x hx;rw[e] at this;simp at this
    ·have:=h4 x hx;rw[e] at this;simp at this
    ·cases a with
     |nil=>simp at h
     |cons x a=>
      simp at h
      have:=h4 x (by simp)
      rw[h] at this;simp at this
  have hal:0<a.length:=List.length_pos_iff.2 ha0
  have hil:i+a.length≤s.length:=by
   have:=congrArg List.length hd
   rw[List.length_drop,List.length_append] at this
   omega
  have hvt':Lib.validD (s.drop (i+a.length))=true:=by rw[←List.drop_drop,hd,List.drop_left];exact hvt
  rw[hdec]
  dsimp only
  have c36: (decide ((r:Int)=36))=decide (r=36):=by rw[decide_eq_decide];omega
  have c123: (decide ((r:Int)=123))=decide (r=123):=by rw[decide_eq_decide];omega
  have c125: (decide ((r:Int)=125))=decide (r=125):=by rw[decide_eq_decide];omega
  rw[c36,c123,c125]
  have hw:bt n text (r:Int)=some ((a.length:Int),(),text++a):=by
   have:=wrR (n:=n) (a:=text) (c:=r) hr (by omega)
   rw[henc] at this
   exact this
  have hw1:bt n (text++[36]) (r:Int)=some ((a.length:Int),(),text++[36]++a):=by
   have:=wrR (n:=n) (a:=text++[36]) (c:=r) hr (by rw[List.length_append,List.length_singleton];omega)
   rw[henc] at this
   exact this
  have hwb:bf n text 36=some ((),text++[36]):=wrB (n:=n) (a:=text) 36 (by omega)
  rcases hst with⟨rfl,rfl⟩|⟨rfl,h1,rfl,h2,h3⟩|⟨rfl,rfl,h1,h2,h3⟩
  ·
   rw[dF (by omega: ¬ ((0:Int)=2)),cF,bnd,cF,cF,dF (by omega: ¬ ((0:Int)=1)),cF,bnd,cF]
   by_cases hr3:r=36
   ·have ea:=hr36 hr3
    rw[dT hr3,cT,cF,bnd]
    dsimp only
    refine gF hs hn m i (i+a.length) 1 (i:Int) out text (by omega) hil hvt' (.inr (.inl ⟨rfl,by rw[ea];rfl,rfl,hlt,?_⟩)) ht ho q (by omega)
    have:=ls hd (Nat.le_refl i) (by omega)
    rw[ea] at this
    simpa using this
   ·rw[dF hr3,cF,cF,hw,bnd,bnd]
    dsimp only
    obtain⟨b,g1,g2⟩:=gF hs hn m (i+a.length) (i+a.length) 0 fr out (text++a) (by omega) hil hvt' (.inl ⟨rfl,rfl⟩) (by rw[List.length_append];omega) (by omega) q (by omega)
    exact⟨b,g1,MacPost.of_add (oy hd (ha36 hr3)) (λl=>by rw[mrg_app]) g2⟩
  ·
   subst h1
   rw[dF (by omega: ¬ ((1:Int)=2)),cF,bnd,cF,cF,dT (rfl: (1:Int)=1),cT,bnd]
   have hk:s.drop k=36::s.drop (k+1):=by rw[drop_at h2,h3]
   by_cases hr1:r=123
   ·rw[dT hr1,cT,bnd]
    dsimp only
    have hlen:a=[123]:=by
     have:=henc
     rw[hr1] at this
     rw[←this]
     rfl
    refine gF hs hn m k (k+1+a.length) 2 (k:Int) out text (by omega) hil hvt' (.inr (.inr ⟨rfl,rfl,by omega,?_,λj g1 g2=>?_⟩)) ht ho q (by omega)
    ·rw[hk,hd,hlen]
     have:t=s.drop (k+2):=by
      rw[hlen] at hd
      rw[show k+2=k+1+1 by omega,←List.drop_drop,hd]
      rfl
     rw[this]
     rfl
    ·rw[hlen] at g2
     simp only[List.length_cons,List.length_nil] at g2
     omega
   ·rw[dF hr1,cF]
    have hnot: ¬ ((36:UInt8)=36∧(s.drop (k+1)).head?=some 123):=λh=>by
     rw[hd] at h
     cases a with
     |nil=>exact ha0 rfl
     |cons x a=>exact hr1 (hr123 (by simpa using h.2))
    have hpk:prs (s.drop k)=add (.tx [36]) 1 (prs (s.drop (k+1))):=by rw[hk,prs_ch hnot]
    by_cases hr3:r=36
    ·have ea:=hr36 hr3
     rw[dT hr3,cT,cT,hwb,bnd,bnd]
     dsimp only
     obtain⟨b,g1,g2⟩:=gF hs hn m (k+1) (k+1+a.length) 1 ((k+1:Nat):Int) out (text++[36]) (by omega) hil hvt' (.inr (.inl ⟨rfl,by rw[ea];rfl,rfl,by omega,by
      have:=ls hd (Nat.le_refl (k+1)) (by omega)
      rw[ea] at this
      simpa using this⟩)) (by rw[List.length_append,List.length_singleton];omega) (by omega) q (by omega)
     exact⟨b,g1,MacPost.of_add (it:=[.tx [36]]) hpk (λl=>rfl) g2⟩
    ·rw[dF hr3,cF,cT,hwb,bnd]
     dsimp only
     rw[hw1,bnd,bnd]
     dsimp only
     obtain⟨b,g1,g2⟩:=gF hs hn m (k+1+a.length) (k+1+a.length) 0 (k:Int) out (text++[36]++a) (by omega) hil hvt' (.inl ⟨rfl,rfl⟩) (by simp only[List.length_append,List.length_singleton];omega) (by omega) q (by omega)
     refine⟨b,g1,MacPost.of_add (it:=[.tx [36]]) (j:=1) hpk (λl=>rfl) (MacPost.of_add (oy hd (ha36 hr3)) (λl=>by rw[mrg_app]) g2)⟩
  ·
   rw[dT (rfl: (2:Int)=2),cT,bnd]
   by_cases hr5:r=125
   ·have ea:=hr125 hr5
    have hil':i+1≤s.length:=by omega
    have hci:s.getD i 0=125:=by
     have:=ls hd (Nat.le_refl i) (by omega)
     rw[ea] at this
     simpa using this
    have hf:=findIdx_shut h3 h1 hlt hci
    have e2: (k:Int)+2=((k+2:Nat):Int):=by omega
    have ein: (s.take i).drop (k+2)=(s.drop (k+2)).take (i- (k+2)):=by
     have:=take_drop_at (s:=s) (k:=k+2) (e:=i- (k+2))
     rw[show k+2+ (i- (k+2))=i by omega] at this
     exact this
    have hinl: ((s.drop (k+2)).take (i- (k+2))).length=i- (k+2):=by rw[List.length_take,List.length_drop];omega
    have hnext:s.drop (k+ (i- (k+2)+3))=(s.drop (k+2)).drop (i- (k+2)+1):=by
     rw[List.drop_drop]
     congr 1
     omega
    have hki:k+ (i- (k+2)+3)=i+1:=by omega
    rw[dT hr5,cT,aZ (by omega) (by omega),bi (by omega),e2,Int.toNat_natCast,Int.toNat_natCast,ein]
    unfold kk
    rw[bnd]
    generalize hin: (s.drop (k+2)).take (i- (k+2))=inn at hinl ⊢
    have hal1:a.length=1:=by rw[ea];rfl
    rw[hal1] at hvt' ⊢
    cases hp:Lib.hasPrefix inn [33] with
    |true=>
     have h33:inn.head?=some 33:=by
      obtain⟨u,hu⟩:=List.isPrefixOf_iff_prefix.1 hp
      rw[←hu]
      rfl
     have hpos:0<inn.length:=by
      cases inn with
      |nil=>cases h33
      |cons x y=>simp
     have hdl: (inn.drop (1:Int).toNat).length=inn.length-1:=by
      rw[List.length_drop]
      rfl
     rw[cT,bi (by omega),bi (by simp only[List.length_cons,List.length_nil,hdl];omega),bi (by simp only[List.length_append,List.length_cons,List.length_nil,hdl];omega),wrS (by simp only[List.length_append,List.length_cons,List.length_nil,hdl];omega),bnd,bnd]
     dsimp only
     obtain⟨b,g1,g2⟩:=gF hs hn m (i+1) (i+1) 0 (k:Int) out (text++(([36,123]++inn.drop (1:Int).toNat)++[125])) (by omega) hil' hvt' (.inl ⟨rfl,rfl⟩) (by simp only[List.length_append,List.length_cons,List.length_nil,hdl];omega) (by omega) q (by omega)
     refine⟨b,g1,MacPost.of_add (it:=[.tx (36::123::inn.drop 1++[125])]) (j:=i- (k+2)+3) ?_ (λl=>rfl) (by rw[hki];exact g2)⟩
     rw[h2,prs_esc hf (by rw[hin];exact h33),hnext,hin]
     rfl
    |false=>
     have h33:inn.head?≠some 33:=λh=>by
      cases inn with
      |nil=>cases h
      |cons x y=>
       simp at h
       subst h
       simp[Lib.hasPrefix] at hp
     rw[cF,hole_sub (by omega) (by omega),bnd]
     cases hh: (holeS inn).2 with
     |false=>
      rw[cF,bnd]
      refine⟨_,rfl,?_⟩
      unfold MacPost
      rw[h2,prs_none hf (by rw[hin];exact h33) (by rw[hin];exact hh)]
      exact .inl ⟨text,i+1,rfl⟩
     |true=>
      have hfl:=fl_len text
      have hol: (out++fl text).length≤k+1:=by rw[List.length_append];omega
      rw[cT,lex1_eq (by omega),bnd]
      dsimp only
      rw[bi (by omega),gu (txE []) (by simp),bnd,bnd,bnd]
      dsimp only
      have hset: ((out++fl text)++[(⟨(0:Int),([]:Bs),(0:Int),([]:Bs),([]:Bs),([]:List TF0)⟩:TF0)]).set (((out++fl text).length:Nat):Int).toNat (holeS inn).1=(out++fl text)++[(holeS inn).1]:=by
       rw[Int.toNat_natCast]
       simp
      rw[hset]
      obtain⟨b,g1,g2⟩:=gF hs hn m (i+1) (i+1) 0 (k:Int) ((out++fl text)++[(holeS inn).1]) [] (by omega) hil' hvt' (.inl ⟨rfl,rfl⟩) (by simp) (by rw[List.length_append,List.length_singleton];omega) q (by omega)
      refine⟨b,g1,MacPost.of_add (it:=[.ho (holeS inn).1]) (j:=i- (k+2)+3) ?_ (λl=>by show(out++fl text++[(holeS inn).1])++mrg [] l=out++(fl text++(holeS inn).1::mrg [] l);simp only[List.append_assoc,List.cons_append,List.nil_append]) (by rw[hki];exact g2)⟩
      rw[h2,prs_hole hf (by rw[hin];exact h33) (by rw[hin];exact hh),hnext,hin]
      rfl
   ·rw[dF hr5,cF,cT,bnd]
    dsimp only
    refine gF hs hn m k (i+a.length) 2 (k:Int) out text (by omega) hil hvt' (.inr (.inr ⟨rfl,rfl,by omega,h2,λj g1 g2=>?_⟩)) ht ho q (by omega)
    by_cases hj:j<i
    ·exact h3 j g1 hj
    ·exact ha125 hr5 _ (ls hd (by omega) g2)
theorem lex_sub {n:Nat} {s:Bs} (hs:s.length<100000) (hn:s.length+5<n):lI n s=some (lexS s):=by
 unfold lI lexS dp gi
 rw[bi (by omega),bnd,bnd]
 cases hv:Lib.validD s with
 |false=>rfl
 |true=>
  rw[nT,cF,if_pos rfl]
  by_cases h:s.length≤4096
  ·rw[dF (by omega),cF,if_pos h]
   obtain⟨b,h1,h2⟩:=gF (n:=n) hs (by omega) s.length 0 0 0 0 [] [] (by omega) (by omega) (by rw[List.drop_zero];exact hv) (.inl ⟨rfl,rfl⟩) (by simp) (by simp) n (by omega)
   rw[h1,bnd]
   unfold MacPost at h2
   rw[List.drop_zero] at h2
   cases hp: (prs s).2 with
   |some p=>
    rw[hp] at h2
    dsimp only at h2 ⊢
    rw[Nat.zero_add] at h2
    rcases h2 with⟨t,z,rfl⟩|⟨t,o,z,rfl⟩
    ·rfl
    ·dsimp only
     rw[dT (by omega),cT,mpS,bnd,jB]
   |none=>
    rw[hp] at h2
    dsimp only at h2 ⊢
    rw[List.nil_append] at h2
    rcases h2 with⟨o,t,f,z,rfl,h3,h4,h5⟩|⟨o,t,f,z,rfl,h3,h4,h5⟩
    ·dsimp only
     rw[dF (by omega),cF,dF (by omega),cF,bnd,jN,lex1_eq (by omega),bnd,h3]
    ·dsimp only
     have hwb:bf n t 36=some ((),t++[36]):=wrB (n:=n) (a:=t) 36 (by omega)
     rw[dF (by omega),cF,dT rfl,cT,hwb,bnd,bnd,jN,lex1_eq (by omega),bnd,h3]
  ·rw[dT (by omega),cT,if_neg h]
end Go.Proofs.YtkopljikappieaaGreatDoor
end
section
namespace Go.Proofs.YtkopljikappieaaGreatDoor
open Go Go.Vc
end Go.Proofs.YtkopljikappieaaGreatDoor
end
section
namespace Go.Proofs.YtkopljikappieaaGreatDoor
open Go Go.Vc
end Go.Proofs.YtkopljikappieaaGreatDoor
end
section
namespace Go.Proofs.YtkopljikappieaaGreatDoor
open Go Go.Vc
end Go.Proofs.YtkopljikappieaaGreatDoor
end
section
namespace Go.Proofs.YtkopljikappieaaGreatDoor
open Go Go.Vc
def run:Bs→List It→List TF0×Bs
 |b,[]=>([],b)
 |b,.tx a::r=>run (b++a) r
 |b,.ho x::r=>(fl b++x::(run [] r).1,(run [] r).2)
def NoAdj:List TF0→Prop
 |[]=>True
 |[_]=>True
 |x::y::r=>¬ (x.ab=0∧y.ab=0)∧NoAdj (y::r)
theorem NoAdj.at: ∀ {l:List TF0} (k:Nat),NoAdj l→k+1<l.length→¬ ((l.getD k (txE [])).ab=0∧(l.getD (k+1) (txE [])).ab=0)
 |[],k,_,h=>by simp at h
 |[_],k,_,h=>by simp at h
 |x::y::r,0,h,_=>h.1
 |x::y::r,k+1,h,hk=>NoAdj.at (l:=y::r) k h.2 (by simpa using hk)
theorem NoAdj.cons {x:TF0} {l:List TF0} (h:NoAdj l) (hx:x.ab≠0∨(match l with|[]=>True|y::_=>y.ab≠0)):NoAdj (x::l):=by
 cases l with
 |nil=>trivial
 |cons y r=>exact⟨λe=>hx.elim (λg=>g e.1) (λg=>g e.2),h⟩
end Go.Proofs.YtkopljikappieaaGreatDoor
end
end
section
namespace Go.Vc
open Go Go.RowKit
variable {dd:List Deferred}
def RepMap {κ δ:Type} (M:Mem) (emb:δ→Dat):List (κ×δ)→List (κ×Value)→Prop
 |[],m=>m=[]
 |p::r,m=>∃cs m',m=(p.1,Value.agg cs.toArray)::m'∧Rep M (emb p.2) cs∧RepMap M emb r m'
section
variable {κ δ:Type} {M M':Mem} {emb:δ→Dat}
theorem RepMap.mono (h:M.le M'): ∀ {d:List (κ×δ)} {m:List (κ×Value)},RepMap M emb d m→RepMap M' emb d m
 |[],_,hr=>hr
 |p::r,m,⟨cs,m',h1,h2,h3⟩=>⟨cs,m',h1,Rep.mono h _ _ h2,RepMap.mono h h3⟩
theorem RepMap.nil:RepMap M emb ([]:List (κ×δ)) []:=rfl
variable [DecidableEq κ]
theorem RepMap.put {k:κ} {x:δ} {cs:Lv} (hx:Rep M (emb x) cs): ∀ {d:List (κ×δ)} {m:List (κ×Value)},RepMap M emb d m→RepMap M emb (aE d k x) (aE m k (.agg cs.toArray))
 |[],m,h=>by
  have:m=[]:=h
  subst this
  exact⟨cs,[],rfl,hx,rfl⟩
 |p::r,m,⟨c,m',h1,h2,h3⟩=>by
  subst h1
  unfold aE
  by_cases hk:p.1=k
  ·rw[if_pos hk,if_pos hk]
   exact⟨cs,m',rfl,hx,h3⟩
  ·rw[if_neg hk,if_neg hk]
   exact⟨c,_,rfl,h2,RepMap.put hx h3⟩
end
theorem Hp.fzObj {w0 w:World} {M:Mem} {H:List Ent} {b:Nat} {o:Obj} (h:Hp w0 M (.obj b o::H) w): ∃M',M.le M'∧Hp w0 M' H w∧M' b=some o:=
 ⟨_,h.freeze.1,h.freeze.2,by simp[Mem.add]⟩
section
variable {κ:Type} [DecidableEq κ] {P:Program} {ek:κ→Value} {w:World}
end
section
variable {α:Type}
end
section
variable {π σ β:Type}
variable {E:σ→Option (Lp σ β)} {Y:π→σ→Option (Lp σ β)} {m:List π} {seen:Array Nat} {s:σ} {b:β}
end
section
variable {κ V:Type} {ek:κ→Value} {ev:V→Value} {P:Program} {ops:Array Oper} {n:Nat} {Q:Exit→Act→World→Prop} {L:Fr} {a:Act} {w0 w:World} {M:Mem} {H:List Ent}
def KMapAt (M:Mem) (o:Option Nat) (ek:κ→Value) (ev:V→Value) (m:List (κ×V)):Prop:=(∃b,o=some b∧M b=some (eK ek ev m))∨(o=none∧m=[])
theorem KMapAt.mono {M M':Mem} (h:M.le M') {o:Option Nat} {m:List (κ×V)}:KMapAt M o ek ev m→KMapAt M' o ek ev m
 |.inl ⟨b,h1,h2⟩=>.inl ⟨b,h1,h _ _ h2⟩
 |.inr h1=>.inr h1
end
section
variable {P:Program} {w:World} {ρ:Operand→Value} {o:Oper}
end
section
variable {α:Type} {M:Mem} {sz:Nat} {f:α→Dat} {A:Oa} {cap:Nat} {xs:List α}
end
section
variable {α:Type} {P:Program} {ops:Array Oper} {n:Nat} {Q:Exit→Act→World→Prop} {L:Fr} {a:Act} {w0 w:World} {M:Mem} {H:List Ent} {sz:Nat} {f:α→Dat} {dd:List Deferred}
end
section
variable {P:Program} {w:World} {d:Nat} {xs ys:Array Value}
def FEq (P:Program) (d:Nat) (xs ys:Array Value) (w:World):List (TypeId×Nat)→List Bool→Prop
 |[],[]=>True
 |(t,o)::s,r::rs=>(∃a b,(part t xs o).run P w=.ok a w∧(part t ys o).run P w=.ok b w∧(Op.equalIn d t a b).run P w=.ok r w)∧FEq P d xs ys w s rs
 |_,_=>False
def fieldsAre:List Field→List (TypeId×Nat)→Bool
 |[],[]=>true
 |f::fs,(t,o)::s=>f.name != "_"&& (Nat.beq f.type t&& (Nat.beq f.offset o&&fieldsAre fs s))
 |_,_=>false
def andL:List Bool→Bool
 |[]=>true
 |[r]=>r
 |r::rs=>r&&andL rs
theorem andL_cons (r:Bool) (rs:List Bool):andL (r::rs)=(r&&andL rs):=by cases rs<;>simp[andL]
theorem FEq.run: ∀ {fs:List Field} {s:List (TypeId×Nat)} {rs:List Bool},fieldsAre fs s=true→FEq P d xs ys w s rs→(Op.eqFields d xs ys fs).run P w=.ok (andL rs) w
 |[],[],[],_,_=>by simp[Op.eqFields,andL]
 |f::fs,(t,o)::s,r::rs,h,⟨⟨a,b,ha,hb,hr⟩,h2⟩=>by
  simp only[fieldsAre,Bool.and_eq_true,bne_iff_ne] at h
  obtain⟨h1,h3,h4,h5⟩:=h
  have e1:=Nat.eq_of_beq_eq_true h3
  have e2:=Nat.eq_of_beq_eq_true h4
  subst e1;subst e2
  have ih:=FEq.run h5 h2
  rw[andL_cons]
  simp only[Op.eqFields,h1,ne_eq,not_false_eq_true,if_true,Sem.run_bind,ha,hb,hr,Result.andThen_ok]
  cases r
  ·simp
  ·simpa using ih
 |[],[],_::_,_,h=>h.elim
 |[],_::_,_,h,_=>by simp[fieldsAre] at h
 |_::_,[],_,h,_=>by simp[fieldsAre] at h
 |_::_,_::_,[],_,h=>h.elim
end
section
variable {κ V:Type} {P:Program} {w:World} {ek:κ→Value} {ev:V→Value}
end
section
variable {α:Type} {P:Program} {ops:Array Oper} {n:Nat} {Q:Exit→Act→World→Prop} {L:Fr} {a:Act} {w0 w:World} {M:Mem} {H:List Ent} {sz:Nat} {f:α→Dat} {dd:List Deferred}
end
end Go.Vc
end
section
namespace Go.Vc
open Go Go.RowKit
variable {dd:List Deferred}
def flawE (T:Nat) (x:Int×Bs):List PanicEntry:=[{v:=.iface T (.agg #[.int .i64 x.1,S x.2]),recovered:=false}]
def OkX {ρ:Type} (P:Program) (M:Mem) (f:FuncId) (args:Lv) (T:Nat) (r:Sum (Int×Bs) ρ) (Post:ρ→Mem→Value→Prop):Prop:=
 ∀M2,M.le M2→∀w0 H w,Hp w0 M2 H w→Calls P f args.toArray w λe w'=>match r with
  |.inl x=>∃M',M2.le M'∧Hp w0 M' H w'∧e=.panicked (flawE T x)
  |.inr y=>∃v,e=.returned v∧∃M',M2.le M'∧Hp w0 M' H w'∧Post y M' v
def OkXH {ρ:Type} (P:Program) (M:Mem) (E:List Ent) (f:FuncId) (args:Lv) (T:Nat) (r:Sum (Int×Bs) ρ) (Post:ρ→Mem→List Ent→Value→Prop):Prop:=
 ∀M2,M.le M2→∀w0 H w,Hp w0 M2 (E++H) w→Calls P f args.toArray w λe w'=>match r with
  |.inl x=>∃M',M2.le M'∧Hp w0 M' H w'∧e=.panicked (flawE T x)
  |.inr y=>∃v,e=.returned v∧∃M' E',M2.le M'∧Hp w0 M' (E'++H) w'∧Post y M' E' v
section
variable {ρ:Type} {P:Program} {M:Mem} {E:List Ent} {f:FuncId} {args:Lv} {T:Nat}
theorem OkX.ok {y:ρ} {Post:ρ→Mem→Value→Prop} (h:OkX P M f args T (.inr y) Post):Ok P M f args (Post y):=h
theorem OkXH.ok {y:ρ} {Post:ρ→Mem→List Ent→Value→Prop} (h:OkXH P M E f args T (.inr y) Post):OkH P M E f args (Post y):=h
end
section
variable {P:Program} {ops:Array Oper} {n:Nat} {Q:Exit→Act→World→Prop} {L:Fr} {a:Act} {w0 w:World} {M:Mem} {H:List Ent} {ρ:Type} {T:Nat}
theorem W_callP {o:Oper} {rest:List Oper} {f:FuncId} {args:Array Value} {R:List PanicEntry→World→Prop} (hf:Frm n L a dd) (hw:aT ops L o=some true) (hr:bj L o=true)
 (hx: (execOp (ev L) o).run P w=.ok (.enter f args) w) (hc:Calls P f args w λe w'=>∃ch,e=.panicked ch∧R ch w')
 (hk: ∀ch w',R ch w'→Q (.panic ch) a w'):wpList P ops Q (o::rest) a w:=by
 simp only[wpList]
 rw[hf.wanted hw]
 refine .inl ?_
 unfold Oper.wp
 rw[hf.exec hr,hx]
 refine hc.mono λe w' he=>?_
 obtain⟨v,rfl,hR⟩:=he
 exact hk v w' hR
theorem aH {o:Oper} {rest:List Oper} {f:FuncId} {args:Lv} {x:Int×Bs} {Post:ρ→Mem→Value→Prop} (hf:Frm n L a dd) (hp:Hp w0 M H w) (hc:OkX P M f args T (.inl x) Post) (hB:okO ops n L o=true) (hx: ∀w,(execOp (ev L) o).run P w=.ok (.enter f args.toArray) w)
 (hk: ∀M' w',M.le M'→Hp w0 M' H w'→Q (.panic (flawE T x)) a w'):wpList P ops Q (o::rest) a w:=by
 obtain⟨h1,h2,-,-⟩:=gG hB
 refine W_callP (R:=λch w'=>ch=flawE T x∧∃M',M.le M'∧Hp w0 M' H w') hf h1 h2 (hx w) ((hc M (Mem.le_refl M) w0 H w hp).mono λe w' ⟨M',g1,g2,g3⟩=>⟨_,g3,rfl,M',g1,g2⟩) λch w' ⟨g1,M',g2,g3⟩=>?_
 subst g1
 exact hk M' w' g2 g3
theorem ej {o:Oper} {rest:List Oper} {f:FuncId} {args:Lv} {E:List Ent} {x:Int×Bs} {Post:ρ→Mem→List Ent→Value→Prop} (hf:Frm n L a dd) (hp:Hp w0 M (E++H) w) (hc:OkXH P M E f args T (.inl x) Post) (hB:okO ops n L o=true) (hx: ∀w,(execOp (ev L) o).run P w=.ok (.enter f args.toArray) w)
 (hk: ∀M' w',M.le M'→Hp w0 M' H w'→Q (.panic (flawE T x)) a w'):wpList P ops Q (o::rest) a w:=by
 obtain⟨h1,h2,-,-⟩:=gG hB
 refine W_callP (R:=λch w'=>ch=flawE T x∧∃M',M.le M'∧Hp w0 M' H w') hf h1 h2 (hx w) ((hc M (Mem.le_refl M) w0 H w hp).mono λe w' ⟨M',g1,g2,g3⟩=>⟨_,g3,rfl,M',g1,g2⟩) λch w' ⟨g1,M',g2,g3⟩=>?_
 subst g1
 exact hk M' w' g2 g3
theorem W_panic {o:Oper} {rest:List Oper} {v:Value} (hf:Frm n L a dd) (hw:aT ops L o=some true) (hr:bj L o=true) (hx: (execOp (ev L) o).run P w=.halt (.panic v) w) (h:Q (.panic [{v,recovered:=false}]) a w):wpList P ops Q (o::rest) a w:=by
 simp only[wpList]
 rw[hf.wanted hw]
 refine .inl ?_
 unfold Oper.wp
 rw[hf.exec hr,hx]
 exact h
end
section
variable {P:Program} {Q:Exit→Act→World→Prop} {a:Act} {w:World} {ch:List PanicEntry} {fn:Func} {R:Ending→World→Prop} {n:Nat} {L:Fr}
theorem bM {K:Act→World→Prop} (h:Q (.panic ch) a w):Exit.then K Q (.panic ch) a w:=h
theorem kU {i:Nat} (h:Q (.panic ch) a w):Exit.inBlock i Q (.panic ch) a w:=h
theorem aP (hf:Frm n L a) (h:R (.panicked ch) w):bodyPost P fn R (.panic ch) a w:=⟨hf.defers,h⟩
end
end Go.Vc
namespace Go.Vc
open Go Go.RowKit
theorem Frm.sim {n:Nat} {L:Fr} {a a':Act} {dd:List Deferred} (hf:Frm n L a dd) (h1:a'.tmps.size=a.tmps.size) (h2:a'.defers=a.defers):Frm n [] a' dd:=
 ⟨h1.trans hf.size,h2.trans hf.defers,λt v h=>by cases h⟩
theorem lj {n:Nat} {L:Fr} {a:Act} {dd:List Deferred} {Q:Exit→Act→World→Prop} {K:Act→World→Prop} {ch:List PanicEntry} {w:World} (hf:Frm n L a dd) (h: ∀a',Frm n [] a' dd→Q (.panic ch) a' w):mixQ Q K (.panic ch) a w:=
 λa' h1 h2=>h a' (hf.sim h1 h2)
end Go.Vc
namespace Go.Vc
open Go
def fnV:Option Nat→Value
 |some k=>.func (.func k) #[] #[]
 |none=>.nilFunc
end Go.Vc
end
section
namespace Go.Proofs.YtkopljikappieaaGreatDoor
open Go Go.Vc Go.RowKit
def ir (n:Nat):Option (List (Bs× (Option Nat))):=
 some (aE (aE (aE (aE (aE (aE ([]:List (Bs× (Option Nat))) [82,101,102] (some 75)) [71,101,116,65,116,116] (some 77)) [83,117,98] (some 80)) [73,102] (some 82)) [74,111,105,110] (some 83)) [83,101,108,101,99,116] (some 84))
theorem mK (n:Nat) (M:Mem) (r: (List (Bs× (Option Nat)))) (hF:ir n=some r):Ok Tryz.prog M 34 [] (λM' v=>∃ (b0:Nat),v=.map (some b0)∧M' b0=some (eK S fnV r)):=by
 unfold ir at hF
 intro M1 hM0 w0 H w p0
 refine Re 3 Tryz.func34 rfl λa0 f0=>RR (Ye f0 1 λ_ f=>RR (lk S fnV f p0 kr kr rfl rfl rfl λo1 W1 N1 _ f=>Y23 (ek:=S) (ev:=fnV) (m:=([]:List (Bs× (Option Nat)))) (k:=[82,101,102]) (v:=(some 75)) (kt:=9) (et:=51) f N1 rfl (.inr rfl) (strKey kr) λW2 N2 _ f=>Y23 (ek:=S) (ev:=fnV) (m:=aE ([]:List (Bs× (Option Nat))) [82,101,102] (some 75)) (k:=[71,101,116,65,116,116]) (v:=(some 77)) (kt:=9) (et:=51) f N2 rfl (.inr rfl) (strKey kr) λW3 N3 _ f=>Y23 (ek:=S) (ev:=fnV) (m:=aE (aE ([]:List (Bs× (Option Nat))) [82,101,102] (some 75)) [71,101,116,65,116,116] (some 77)) (k:=[83,117,98]) (v:=(some 80)) (kt:=9) (et:=51) f N3 rfl (.inr rfl) (strKey kr) λW4 N4 _ f=>Y23 (ek:=S) (ev:=fnV) (m:=aE (aE (aE ([]:List (Bs× (Option Nat))) [82,101,102] (some 75)) [71,101,116,65,116,116] (some 77)) [83,117,98] (some 80)) (k:=[73,102]) (v:=(some 82)) (kt:=9) (et:=51) f N4 rfl (.inr rfl) (strKey kr) λW5 N5 _ f=>Y23 (ek:=S) (ev:=fnV) (m:=aE (aE (aE (aE ([]:List (Bs× (Option Nat))) [82,101,102] (some 75)) [71,101,116,65,116,116] (some 77)) [83,117,98] (some 80)) [73,102] (some 82)) (k:=[74,111,105,110]) (v:=(some 83)) (kt:=9) (et:=51) f N5 rfl (.inr rfl) (strKey kr) λW6 N6 _ f=>Y23 (ek:=S) (ev:=fnV) (m:=aE (aE (aE (aE (aE ([]:List (Bs× (Option Nat))) [82,101,102] (some 75)) [71,101,116,65,116,116] (some 77)) [83,117,98] (some 80)) [73,102] (some 82)) [74,111,105,110] (some 83)) (k:=[83,101,108,101,99,116]) (v:=(some 84)) (kt:=9) (et:=51) f N6 rfl (.inr rfl) (strKey kr) λW7 N7 _ f=>Ye f 2 λ_ f=>wp_ret ?_))
 obtain⟨V1,J1,N8,B1⟩:=N7.fzObj
 refine aJ f rfl (Lk 0 (.map (some o1))) ?_
 cases sI hF
 exact⟨_,rfl,V1,J1,N8,⟨o1,rfl,B1⟩⟩
def callL:List (Bs×Option Nat):=[([82,101,102],some 75),([71,101,116,65,116,116],some 77),([83,117,98],some 80),([73,102],some 82),([74,111,105,110],some 83),([83,101,108,101,99,116],some 84)]
theorem oc (n:Nat):ir n=some callL:=rfl
theorem callL_none {k:Bs} (h1: ¬k=[82,101,102]) (h2: ¬k=[71,101,116,65,116,116]) (h3: ¬k=[83,117,98]) (h4: ¬k=[73,102]) (h5: ¬k=[74,111,105,110]) (h6: ¬k=[83,101,108,101,99,116]):cb callL k=none:=by
 unfold callL
 simp only[cb,if_neg (Ne.symm h1),if_neg (Ne.symm h2),if_neg (Ne.symm h3),if_neg (Ne.symm h4),if_neg (Ne.symm h5),if_neg (Ne.symm h6)]
def h_fail (_:Nat) (e:Int) (at_:Bs):Option (Sum (Int×Bs) Unit):=some (.inl (e,at_))
theorem ol (n:Nat) (M:Mem) (e:Int) (at_:Bs) (r:Sum (Int×Bs) Unit) (hF:h_fail n e at_=some r):OkX Tryz.prog M 72 [iL e,S at_] 78 r (λ_=>λ_ v=>v=.tuple #[]):=by
 obtain rfl:=Option.some.inj hF
 intro M2 hM w0 H w p0
 refine Re 8 Tryz.func72 rfl (λa0 f0=>?_)
 refine aN ?_
 refine V_run f0 4 kr (λa1 f1=>?_)
 refine W_panic (v:=.iface 78 (.agg #[iL e,S at_])) f1 kr kr kr ?_
 exact aP f1 ⟨M2,Mem.le_refl _,p0,rfl⟩
def mE (n:Nat) (d0:Bool) (d1:Int) (d2:Bs):Option (Sum (Int×Bs) Unit):=
 bif !d0 then
  ((h_fail n d1 d2).bind λX1=>
  (match X1 with
  |.inl X2=>some (.inl X2)
  |.inr X3=>some (.inr ())))
 else
  some (.inr ())
theorem kz (n:Nat) (M:Mem) (d0:Bool) (d1:Int) (d2:Bs) (r:Sum (Int×Bs) Unit) (hF:mE n d0 d1 d2=some r):OkX Tryz.prog M 31 [bO d0,iL d1,S d2] 78 r (λr=>λ_ v=>v=.tuple #[]):=by
 unfold mE at hF
 intro M1 hM0 w0 H w p0
 refine Re 11 Tryz.func31 rfl λa0 f0=>RR (Ye f0 2 λ_ f=>RcF f hF (λB1 F1=>?_) λB1 F3=>?_)
 ·have U1: (d0)=false:=by simpa using B1
  refine aN (Y f 2 λ_ f=>?_)
  obtain⟨X1,l1,F2⟩:=bS F1
  rcases X1 with X2|X3
  ·refine aH f p0 (ol n _ d1 d2 (.inl X2) l1) kr (λ_=>by kernel_rfl) λV1 W1 J1 N1=>aP f ?_
   cases sI F2
   exact⟨V1,J1,N1,rfl⟩
  ·refine Y16 f p0 (OkX.ok (ol n _ d1 d2 (.inr X3) l1)) λ_ V2 W2 J2 N2 eM _ f=>?_
   obtain⟨rfl⟩:=eM
   refine am rfl (dK f rfl ?_)
   cases sI F2
   exact⟨_,rfl,V2,J2,N2,rfl⟩
 ·have U2: (d0)=true:=by simpa using B1
  refine wp_skip (dK f rfl ?_)
  cases sI F3
  exact⟨_,rfl,M1,(mR _),p0,rfl⟩
end Go.Proofs.YtkopljikappieaaGreatDoor
end
section
namespace Go.Num
def dig (c:UInt8):Bool:=48≤c&&c≤57
def nd:Bs→Nat→Nat
 |[],k=>k
 |c::r,k=>if dig c then nd r (k+1) else k
def vl:Bs→Nat→Nat
 |[],v=>v
 |c::r,v=>if dig c then vl r (10*v+ (c.toNat-48)) else v
def neg (l:Bs):Bool:=decide (l.getD 0 0=45)
def fst (l:Bs):Nat:=if neg l then 1 else 0
def big:Nat:=9007199254740992
def scanL (l:Bs) (at_:Int):Int×Int×Int:=
 let f:=fst l
 let k:=nd (l.drop f) f
 let v:=vl (l.drop f) 0
 if l.getD f 0=48∧f+2≤k then(0,at_+ (f+1),20)
 else if k=f∨l.getD k 0=46∨l.getD k 0=101∨l.getD k 0=69 then(0,at_+k,20)
 else if big<v∨(neg l=true∧v=0) then(0,at_,20)
 else(if neg l then-(v:Int) else v,at_+k,0)
theorem kE (l:Bs) (k:Nat) (h:k<l.length):l.drop k=l.getD k 0::l.drop (k+1):=by
 rw[List.drop_eq_getElem_cons h];simp[List.getD,h]
theorem nd_step (l:Bs) (k:Nat) (h:k<l.length) (hd:dig (l.getD k 0)=true):nd (l.drop k) k=nd (l.drop (k+1)) (k+1):=by
 rw[kE l k h];simp only[nd,hd,if_true]
theorem nd_stop (l:Bs) (k:Nat) (hd:dig (l.getD k 0)=false):nd (l.drop k) k=k:=by
 by_cases h:k<l.length
 ·rw[kE l k h];simp only[nd,hd];rfl
 ·rw[List.drop_eq_nil_of_le (by omega)];rfl
theorem vl_step (l:Bs) (k v:Nat) (h:k<l.length) (hd:dig (l.getD k 0)=true):vl (l.drop k) v=vl (l.drop (k+1)) (10*v+ ((l.getD k 0).toNat-48)):=by
 rw[kE l k h];simp only[vl,hd,if_true]
theorem vl_stop (l:Bs) (k v:Nat) (hd:dig (l.getD k 0)=false):vl (l.drop k) v=v:=by
 by_cases h:k<l.length
 ·rw[kE l k h];simp only[vl,hd];rfl
 ·rw[List.drop_eq_nil_of_le (by omega)];rfl
structure ScanI (l:Bs) (k:Nat) (v:Nat):Prop where
 ge:fst l≤k
 le:k≤l.length
 nd:nd (l.drop k) k=nd (l.drop (fst l)) (fst l)
 vl:vl (l.drop k) v=vl (l.drop (fst l)) 0
 zero:fst l+2≤k→l.getD (fst l) 0≠48
 one:fst l+1≤k→dig (l.getD (fst l) 0)=true
theorem ScanI.step {l:Bs} {k v:Nat} (h:ScanI l k v) (hd:dig (l.getD k 0)=true) (hk:k<l.length) (hz: ¬ (k=fst l+1∧l.getD (fst l) 0=48)):ScanI l (k+1) (10*v+ ((l.getD k 0).toNat-48)):=by
 refine⟨by have:=h.ge;omega,by omega,by rw[←nd_step l k hk hd];exact h.nd,by rw[←vl_step l k v hk hd];exact h.vl,λhge h0=>?_,λhge=>?_⟩
 ·rcases Nat.lt_or_ge k (fst l+2) with hlt|hge2
  ·exact hz ⟨by omega,h0⟩
  ·exact h.zero hge2 h0
 ·rcases Nat.lt_or_ge k (fst l+1) with hlt|hge2
  ·have:k=fst l:=by have:=h.ge;omega
   subst this;exact hd
  ·exact h.one hge2
theorem ScanI.lt {l:Bs} {k v:Nat} (_:ScanI l k v) (hd:dig (l.getD k 0)=true):k<l.length:=by
 rcases Nat.lt_or_ge k l.length with h|h
 ·exact h
 ·have:l.getD k 0=0:=by simp[List.getD,List.getElem?_eq_none h]
  rw[this] at hd;simp[dig] at hd
theorem ScanI.stop {l:Bs} {k v:Nat} (h:ScanI l k v) (at_:Int) (hd:dig (l.getD k 0)=false):
 scanL l at_=if k=fst l∨l.getD k 0=46∨l.getD k 0=101∨l.getD k 0=69 then(0,at_+k,20)
  else if big<v∨(neg l=true∧v=0) then(0,at_,20)
  else(if neg l then-(v:Int) else v,at_+k,0):=by
 have h1:=h.nd
 rw[nd_stop l k hd] at h1
 have h2:=h.vl
 rw[vl_stop l k v hd] at h2
 unfold scanL
 simp only[]
 rw[←h1,←h2,if_neg]
 rintro⟨h3,h4⟩
 exact h.zero h4 h3
theorem byte_of {c:UInt8} {n:Int} (d:UInt8) (h: ((c.toNat:Nat):Int)=n) (hd: (d.toNat:Int)=n):c=d:=UInt8.toNat_inj.1 (by omega)
def KeepP (n:Int) (v:Nat):Prop:=0≤n∧n≤90071992547409929∧(v≤9007199254740992→n=v)∧(9007199254740992<v→9007199254740992<n)
theorem KeepP.fits {n:Int} {v:Nat} (h:KeepP n v): (decide (-9007199254740992≤n)&&decide (n≤9007199254740992))=decide (v≤9007199254740992):=by
 obtain⟨h1,h2,h3,h4⟩:=h
 rw[Bool.eq_iff_iff]
 simp only[Bool.and_eq_true,decide_eq_true_eq]
 constructor
 ·rintro⟨_,h⟩
  rcases Nat.lt_or_ge 9007199254740992 v with h'|h'
  ·have:=h4 h';omega
  ·exact h'
 ·intro h;have:=h3 h;omega
def fitsB (n:Int):Bool:=decide (-9007199254740992≤n∧n≤9007199254740992)
theorem fits_eq (n:Int): (decide ((-9007199254740992:Int)≤n)&&decide (n≤9007199254740992))=fitsB n:=by simp[fitsB]
theorem KeepP.fitsEq {n:Int} {v:Nat} (h:KeepP n v):fitsB n=decide (v≤9007199254740992):=by rw[←fits_eq];exact h.fits
section
variable {l:Bs} {k v:Nat} {n at_ sl:Int} (I:ScanI l k v) (hd:dig (l.getD k 0)=false)
include I hd
theorem ScanI.e1 (h: (k:Int)=(fst l:Int)∨(at_+ (k:Int)<sl∧(((l.getD k 0).toNat:Int)=46∨(((l.getD k 0).toNat:Int)=101∨((l.getD k 0).toNat:Int)=69)))):scanL l at_=(0,at_+k,20):=by
 rw[I.stop at_ hd,if_pos]
 rcases h with h|⟨_,h|h|h⟩
 ·exact .inl (by omega)
 ·exact .inr (.inl (byte_of 46 h rfl))
 ·exact .inr (.inr (.inl (byte_of 101 h rfl)))
 ·exact .inr (.inr (.inr (byte_of 69 h rfl)))
theorem ScanI.e2 (hno: ¬ (k=fst l∨l.getD k 0=46∨l.getD k 0=101∨l.getD k 0=69)) (h:9007199254740992<v∨(neg l=true∧v=0)):scanL l at_=(0,at_,20):=by
 rw[I.stop at_ hd,if_neg hno,if_pos (by unfold big;exact h)]
theorem ScanI.e3 (hno: ¬ (k=fst l∨l.getD k 0=46∨l.getD k 0=101∨l.getD k 0=69)) (h: ¬ (9007199254740992<v∨(neg l=true∧v=0))):scanL l at_=(if neg l then-(v:Int) else v,at_+k,0):=by
 rw[I.stop at_ hd,if_neg hno,if_neg (by unfold big;exact h)]
end
theorem KeepP.bad {l:Bs} {n:Int} {v:Nat} (K:KeepP n v): (¬ (fitsB n=true)∨(neg l=true∧n=0))↔ (9007199254740992<v∨(neg l=true∧v=0)):=by
 rw[K.fitsEq]
 obtain⟨h1,h2,h3,h4⟩:=K
 simp only[decide_eq_true_eq]
 constructor
 ·rintro(h|⟨a,h⟩)
  ·exact .inl (by omega)
  ·rcases Nat.lt_or_ge 9007199254740992 v with hv|hv
   ·exact .inl hv
   ·exact .inr ⟨a,by have:=h3 hv;omega⟩
 ·rintro(h|⟨a,h⟩)
  ·exact .inl (by omega)
  ·exact .inr ⟨a,by have:=h3 (by omega);omega⟩
def KeepR (n:Int) (gr:Bool) (v:Nat):Prop:=0≤n∧n≤9007199254740992∧(v≤9007199254740992→n=v∧gr=false)∧(9007199254740992<v→n=9007199254740992∧gr=true)
theorem KeepR.bad {l:Bs} {n:Int} {gr:Bool} {v:Nat} (K:KeepR n gr v): (gr=true∨(neg l=true∧n=0))↔ (9007199254740992<v∨(neg l=true∧v=0)):=by
 obtain⟨h1,h2,h3,h4⟩:=K
 constructor
 ·rintro(h|⟨a,h⟩)
  ·rcases Nat.lt_or_ge 9007199254740992 v with hv|hv
   ·exact .inl hv
   ·rw[(h3 hv).2] at h;cases h
  ·rcases Nat.lt_or_ge 9007199254740992 v with hv|hv
   ·exact .inl hv
   ·exact .inr ⟨a,by have:=(h3 hv).1;omega⟩
 ·rintro(h|⟨a,h⟩)
  ·exact .inl (h4 h).2
  ·exact .inr ⟨a,by have:=(h3 (by omega)).1;omega⟩
def dch (n:Nat):UInt8:=UInt8.ofNat (48+n % 10)
def digsF:Nat→Nat→Bs
 |0,_=>[]
 |f+1,n=>if n<10 then [dch n] else digsF f (n / 10)++[dch n]
def digs (n:Nat):Bs:=digsF (n+1) n
theorem ng: ∀ (f g n:Nat),n<f→n<g→digsF f n=digsF g n
 |0,_,n,h,_=>by omega
 |f+1,0,n,_,h=>by omega
 |f+1,g+1,n,h1,h2=>by
  simp only[digsF]
  split
  ·rfl
  ·rw[ng f g (n / 10) (by omega) (by omega)]
theorem mP {n:Nat} (h:n<10):digs n=[dch n]:=by unfold digs;simp only[digsF];rw[if_pos h]
theorem digs_ge {n:Nat} (h: ¬n<10):digs n=digs (n / 10)++[dch n]:=by
 unfold digs
 rw[digsF,if_neg h,ng n (n / 10+1) (n / 10) (by omega) (by omega)]
theorem dch_toNat (n:Nat): (dch n).toNat=48+n % 10:=by
 unfold dch;rw[UInt8.toNat_ofNat'];omega
theorem dch_int (n:Nat): (48+ (n:Int) % 10) % 256=((dch n).toNat:Int):=by rw[dch_toNat];omega
theorem digs_len: ∀ (k n:Nat),n<10 ^ (k+1)→(digs n).length≤k+1
 |0,n,h=>by rw[mP (by omega)];simp
 |k+1,n,h=>by
  by_cases h10:n<10
  ·rw[mP h10];simp
  ·rw[digs_ge h10]
   have:=digs_len k (n / 10) (by rw[Nat.pow_succ] at h;omega)
   simp;omega
theorem nh {n:Nat} (h:n≤9007199254740992): (digs n).length≤16:=digs_len 15 n (by omega)
def text (n:Int):Bs×Int:=if fitsB n then(if n<0 then 45::digs (-n).toNat else digs n.toNat,0) else([],20)
theorem fitsB_iff {n:Int}:fitsB n=true↔ -9007199254740992≤n∧n≤9007199254740992:=by simp[fitsB]
theorem text_no {n:Int} (h:fitsB n=false):text n=([],20):=by simp[text,h]
theorem text_neg {n:Int} (h:fitsB n=true) (h0:n<0):text n=(45::digs (-n).toNat,0):=by simp[text,h,h0]
theorem text_pos {n:Int} (h:fitsB n=true) (h0: ¬n<0):text n=(digs n.toNat,0):=by simp[text,h,h0]
end Go.Num
end
section
namespace Go.Proofs.YtkopljikappieaaGreatDoor
open Go Go.Vc Go.RowKit Go.Num
theorem fits_ok (M:Mem) (n:Int):Ok Tryz.prog M 136 [iL n] (λ_ v=>v=bO (fitsB n)):=by
 intro M hM0 w0 H w p0
 refine Re 9 Tryz.func136 rfl λa0 f0=>RR (Ye f0 1 λ_ f=>aq (ct (λa_2 W1=>Frm 9 [(2,bO ((decide ((-9007199254740992:Int)≤n))&& (decide (n≤9007199254740992))))] a_2∧Hp w0 M (H) W1) ?_ ?_))
 ·refine aN (Y f 3 λ_ f=>?_)
  rcases bE (decide ((-9007199254740992:Int)≤n)) with B1|B1
  ·have U1:=dI.1 B1
   have f:=f.st 5 (cB B1)
   refine Ye f 4 λ_ f=>?_
   have f:=Frm.set f 2 (v:=.bool (decide (n≤9007199254740992))) (v':=.bool ((decide ((-9007199254740992:Int)≤n))&& (decide (n≤9007199254740992)))) (by kernel_rfl) (by simp only[B1,Bool.and_true,Bool.true_and,Bool.false_and,Bool.and_false,Bool.or_true,Bool.true_or,Bool.or_false,Bool.false_or,nT,nF,cond_true,cond_false])
   exact⟨f.kp,p0⟩
  ·have U2:=aA dI B1
   have f:=f.st 5 (cB B1)
   refine Ye f 4 λ_ f=>?_
   have f:=Frm.set f 2 (v:=.bool false) (v':=.bool ((decide ((-9007199254740992:Int)≤n))&& (decide (n≤9007199254740992)))) (by kernel_rfl) (by simp only[B1,Bool.and_true,Bool.true_and,Bool.false_and,Bool.and_false,Bool.or_true,Bool.true_or,Bool.or_false,Bool.false_or,nT,nF,cond_true,cond_false])
   exact⟨f.kp,p0⟩
 ·rintro a_2 W1 ⟨f,N1⟩
  refine aS (wp_ret (aJ f rfl (Lk 2 (bO ((decide ((-9007199254740992:Int)≤n))&& (decide (n≤9007199254740992))))) (⟨_,rfl,M,(mR _),N1,?_⟩)))
  exact cB (fits_eq _)
theorem oD (M:Mem) (bp bo n:Nat): ∀ (hn:n≤9007199254740992) (v:Value) (k:Nat) (xs:Lv) (hk:k≤1000),OkH Tryz.prog M [oC bp #[.func (.func 137) #[] #[pP bp,pP bo]] 172,oC bo #[v] 140,Ent.row 5 1 v k xs] 137 [iL (n:Int),pP bp,pP bo] (λ_ E2 r=>r=.tuple #[]∧∃v2,E2=[oC bp #[.func (.func 137) #[] #[pP bp,pP bo]] 172,oC bo #[v2] 140,Ent.row 5 1 v2 (k+ (digs n).length) (xs++cG (digs n))]):=by
 induction n using Nat.strongRecOn generalizing M
 rename_i n ih
 intro hn v k xs hk
 have hl1:=nh hn
 have hl2:=nh (n:=n / 10) (by omega)
 intro M hM0 w0 H w p0
 refine Re 17 Tryz.func137 rfl λa0 f0=>aq (RR (Ye f0 2 λ_ f=>Y6 f (b:=decide ((9:Int)<(n:Int))) (λB1=>?_) λB1=>?_))
 ·have U1:=dI.1 B1
  refine aN (Z f (Y30 (v:=.func (.func 137) #[] #[pP bp,pP bo]) rfl (ad:=⟨bp,0,none⟩) (p0.ownCell 0 rfl 0)) λ_ f=>Y f 1 λ_ f=>Y f 1 λ_ f=>?_)
  have f:=Frm.set f 8 (v:=iL (IntKind.wrap .i64 ((n:Int).tdiv 10))) (v':=iL ((n:Int) / 10)) kr (congrArg (Value.int .i64) (quo_i64 (by omega) (by decide) (by omega)))
  have f:=Frm.set f 8 (v:=iL ((n:Int) / 10)) (v':=iL ((n / 10:Nat):Int)) kr (congrArg (Value.int .i64) (by omega))
  refine Y17 (E:=[oC bp #[.func (.func 137) #[] #[pP bp,pP bo]] 172,oC bo #[v] 140,Ent.row 5 1 v k xs]) (H:=(H)) f p0 (ih (n / 10) (by omega) _ (by omega) v k xs hk) λv_1 V1 mN W1 J1 N1 eM _ f=>?_
  obtain⟨rfl,v2,rfl⟩:=eM
  have N2:Hp w0 M ((oC bp #[.func (.func 137) #[] #[pP bp,pP bo]] 172)::(oC bo #[v2] 140)::(Ent.row 5 1 v2 (k+ (digs (n / 10)).length) (xs++cG (digs (n / 10))))::H) W1:=N1.less J1
  refine eT (aN (Z f (Y30 (v:=v2) rfl (ad:=⟨bo,0,none⟩) (N2.ownCell 1 rfl 0)) λ_ f=>Y f 1 λ_ f=>Y f 1 λ_ f=>?_))
  have f:=Frm.set f 12 (v:=iL ((n:Int).tmod 10)) (v':=iL ((n:Int) % 10)) kr (congrArg (Value.int .i64) (rem_nn (by omega)))
  refine Y f 1 λ_ f=>?_
  have f:=Frm.set f 13 (v:=iL (IntKind.wrap .i64 ((48:Int)+ ((n:Int) % 10)))) (v':=iL ((48:Int)+ ((n:Int) % 10))) kr (congrArg (Value.int .i64) (IntWalk.i64_in _ (by omega)))
  refine Y f 1 λ_ f=>?_
  have f:=Frm.set f 14 (v:=.int .u8 (IntKind.wrap .u8 ((48:Int)+ ((n:Int) % 10)))) (v':=.int .u8 (((48:Int)+ ((n:Int) % 10)) % 256)) kr (congrArg (Value.int .u8) (IntKind.wrap_u8 _))
  have f:=Frm.set f 14 (v:=.int .u8 (((48:Int)+ ((n:Int) % 10)) % 256)) (v':=.int .u8 ((dch n).toNat:Int)) kr (congrArg (Value.int .u8) (dch_int n))
  refine aQ (k:=1) (c:=1) f N2 (.cells #[.int .u8 ((dch n).toNat:Int)] 5 (0,0)) kr (λ_=>by kernel_rfl) λQ1 W2 N3 _ f=>?_
  have N4:=N3.pl [3]
  refine jO (d:=16) (t:=140) (e:=5) (z:=.int .u8 0) (v:=v2) (size:=1) (bytes:=1) (k:=k+ (digs (n / 10)).length) (m:=1) (c:=1) (xs:=xs++cG (digs (n / 10))) (news:=[.int .u8 ((dch n).toNat:Int)]) (ad:=⟨Q1,0,none⟩) f N4 kr kr rfl rfl rfl kr kr kr kr (rfl) (an (N4.ownCell 1 rfl) 0 rfl) (all_one kr) (by omega) (by omega) λv_2 W3 N5 _ f=>?_
  have N6:=N5.pl [1]
  have N7:=N6.drop
  refine Y25 f N7 2 rfl rfl (b:=bo) (j:=0) (v:=v_2) (row_one (N7.rowAt 0 rfl)) (by exact rfl) (by simp) (by simp) _ rfl λW4 N8 _ f=>am rfl (dK f rfl ?_)
  have N9:Hp w0 M ((Ent.row 5 1 v_2 (k+ (digs n).length) (xs++cG (digs n)))::(oC bp #[.func (.func 137) #[] #[pP bp,pP bo]] 172)::(oC bo #[v_2] 140)::H) W4:=N8.rowEq (by rw[digs_ge (n:=n) (by omega)];simp;omega) (by rw[digs_ge (n:=n) (by omega),nN,List.append_assoc];rfl)
  have N11:=N9.pl [2,2]
  exact⟨_,rfl,M,[oC bp #[.func (.func 137) #[] #[pP bp,pP bo]] 172,oC bo #[v_2] 140,Ent.row 5 1 v_2 (k+ (digs n).length) (xs++cG (digs n))],mR _,N11,rfl,v_2,rfl⟩
 ·have U2:=aA dI B1
  refine St (aN (Z f (Y30 (v:=v) rfl (ad:=⟨bo,0,none⟩) (p0.ownCell 1 rfl 0)) λ_ f=>Y f 1 λ_ f=>Y f 1 λ_ f=>?_))
  have f:=Frm.set f 12 (v:=iL ((n:Int).tmod 10)) (v':=iL ((n:Int) % 10)) kr (congrArg (Value.int .i64) (rem_nn (by omega)))
  refine Y f 1 λ_ f=>?_
  have f:=Frm.set f 13 (v:=iL (IntKind.wrap .i64 ((48:Int)+ ((n:Int) % 10)))) (v':=iL ((48:Int)+ ((n:Int) % 10))) kr (congrArg (Value.int .i64) (IntWalk.i64_in _ (by omega)))
  refine Y f 1 λ_ f=>?_
  have f:=Frm.set f 14 (v:=.int .u8 (IntKind.wrap .u8 ((48:Int)+ ((n:Int) % 10)))) (v':=.int .u8 (((48:Int)+ ((n:Int) % 10)) % 256)) kr (congrArg (Value.int .u8) (IntKind.wrap_u8 _))
  have f:=Frm.set f 14 (v:=.int .u8 (((48:Int)+ ((n:Int) % 10)) % 256)) (v':=.int .u8 ((dch n).toNat:Int)) kr (congrArg (Value.int .u8) (dch_int n))
  refine aQ (k:=1) (c:=1) f p0 (.cells #[.int .u8 ((dch n).toNat:Int)] 5 (0,0)) kr (λ_=>by kernel_rfl) λQ2 W5 N12 _ f=>?_
  have N13:=N12.pl [3]
  refine jO (d:=16) (t:=140) (e:=5) (z:=.int .u8 0) (v:=v) (size:=1) (bytes:=1) (k:=k) (m:=1) (c:=1) (xs:=xs) (news:=[.int .u8 ((dch n).toNat:Int)]) (ad:=⟨Q2,0,none⟩) f N13 kr kr rfl rfl rfl kr kr kr kr (rfl) (an (N13.ownCell 1 rfl) 0 rfl) (all_one kr) (by omega) (by omega) λv_3 W6 N14 _ f=>?_
  have N15:=N14.pl [1]
  have N16:=N15.drop
  refine Y25 f N16 2 rfl rfl (b:=bo) (j:=0) (v:=v_3) (row_one (N16.rowAt 0 rfl)) (by exact rfl) (by simp) (by simp) _ rfl λW7 N17 _ f=>am rfl (dK f rfl ?_)
  have N18:Hp w0 M ((Ent.row 5 1 v_3 (k+ (digs n).length) (xs++cG (digs n)))::(oC bp #[.func (.func 137) #[] #[pP bp,pP bo]] 172)::(oC bo #[v_3] 140)::H) W7:=N17.rowEq (by rw[mP (n:=n) (by omega)];rfl) (by rw[mP (n:=n) (by omega)];rfl)
  have N20:=N18.pl [2,2]
  exact⟨_,rfl,M,[oC bp #[.func (.func 137) #[] #[pP bp,pP bo]] 172,oC bo #[v_3] 140,Ent.row 5 1 v_3 (k+ (digs n).length) (xs++cG (digs n))],mR _,N20,rfl,v_3,rfl⟩
theorem textP_ok (M:Mem) (n:Int):Ok Tryz.prog M 114 [iL n] (λ_ v=>v=.tuple #[S (text n).1,iL (text n).2]):=by
 intro M hM0 w0 H w p0
 refine Re 25 Tryz.func114 rfl λa0 f0=>RR (Ye f0 2 λ_ f=>aq (RR (Y f 1 λ_ f=>Y18 f p0 (fits_ok _ (n)) λW1 N1 _ f=>Ye f 1 λ_ f=>Y6 f (b:= !(fitsB n)) (λB1=>?_) λB1=>?_)))
 ·have U1: (fitsB n)=false:=by simpa using B1
  refine RR (Ye f 2 λ_ f=>wp_ret (dj (ij f rfl (Lk 2 (S [])) (Lk 3 (iL 20)) (⟨_,rfl,M,(mR _),(N1.dropN 0),?_⟩))))
  rw[text_no U1]
 ·have U2: (fitsB n)=true:=by simpa using B1
  refine St (aq ?_)
  have hfit:=U2
  have hfit2:=fitsB_iff.1 hfit
  refine aN (Y12 f N1 (.cells #[Sn] 140 (0,0)) λQ1 W2 N2 _ f=>eT (RR (Y12 f N2 (.cells #[.nilFunc] 172 (0,0)) λQ2 W3 N3 _ f=>eT (RR (Y f 1 λ_ f=>Y25 f N3 0 rfl rfl (b:=Q2) (j:=0) (v:=.func (.func 137) #[] #[pP Q2,pP Q1]) rfl (by exact rfl) (by simp) (by simp) _ rfl λW4 N4 _ f=>eT (aq (wp_block (RR (Y f 1 λ_ f=>?_)))))))))
  have N5:=N4.nilRow 5 1
  refine Ye f 2 λ_ f=>Y6 f (b:=decide (n<0)) (λB2=>?_) λB2=>?_
  ·have U3:=dI.1 B2
   refine RR (Z f (Y30 (v:=Sn) rfl (ad:=⟨Q1,0,none⟩) (N5.ownCell 2 rfl 0)) λ_ f=>aQ (k:=1) (c:=1) f N5 (.cells #[.int .u8 45] 5 (0,0)) kr (λ_=>by kernel_rfl) λQ3 W5 N6 _ f=>?_)
   have N7:=N6.pl [1]
   refine jO (d:=18) (t:=140) (e:=5) (z:=.int .u8 0) (v:=Sn) (size:=1) (bytes:=1) (k:=0) (m:=1) (c:=1) (xs:=[]) (news:=[.int .u8 45]) (ad:=⟨Q3,0,none⟩) f N7 kr kr rfl rfl rfl kr kr kr kr (rfl) (an (N7.ownCell 1 rfl) 0 rfl) (all_one kr) (by omega) (by omega) λv_1 W6 N8 _ f=>?_
   have N9:=N8.pl [1]
   have N10:=N9.drop
   refine Y25 f N10 2 rfl rfl (b:=Q1) (j:=0) (v:=v_1) (row_one (N10.rowAt 0 rfl)) (by exact rfl) (by simp) (by simp) _ rfl λW7 N11 _ f=>eT (aN (Z f (Y30 (v:=.func (.func 137) #[] #[pP Q2,pP Q1]) rfl (ad:=⟨Q2,0,none⟩) (N11.ownCell 1 rfl 0)) λ_ f=>Y f 1 λ_ f=>Y f 1 λ_ f=>?_))
   have f:=Frm.set f 21 (v:=iL (IntKind.wrap .i64 (0-n))) (v':=iL (-n)) kr (congrArg (Value.int .i64) ((IntWalk.i64_in _ (by omega)).trans (Int.zero_sub _)))
   have f:=Frm.set f 21 (v:=iL (-n)) (v':=iL ((-n).toNat:Int)) kr (congrArg (Value.int .i64) (by omega))
   have N13:=N11.pl [2,2]
   refine Y17 (E:=[oC Q2 #[.func (.func 137) #[] #[pP Q2,pP Q1]] 172,oC Q1 #[v_1] 140,Ent.row 5 1 v_1 (0+1) ([]++[.int .u8 45])]) (H:=(H)) f N13 (oD _ Q2 Q1 ((-n).toNat) (by omega) (v_1) (0+1) ([]++[.int .u8 45]) (by omega)) λv_2 V1 mN W8 J1 N14 eM _ f=>?_
   obtain⟨rfl,v3,rfl⟩:=eM
   have N15:Hp w0 M ((oC Q2 #[.func (.func 137) #[] #[pP Q2,pP Q1]] 172)::(oC Q1 #[v3] 140)::(Ent.row 5 1 v3 ((0+1)+ (digs (-n).toNat).length) (([]++[.int .u8 45])++cG (digs (-n).toNat)))::H) W8:=N14.less J1
   refine am rfl (gh (aS (RR (Z f (Y30 (v:=v3) rfl (ad:=⟨Q1,0,none⟩) (N15.ownCell 1 rfl 0)) λ_ f=>?_))))
   have N16:=N15.pl [2]
   have N17:Hp w0 M ((Ent.row 5 1 v3 (45::digs (-n).toNat).length (cG (45::digs (-n).toNat)))::(oC Q2 #[.func (.func 137) #[] #[pP Q2,pP Q1]] 172)::(oC Q1 #[v3] 140)::H) W8:=N16.rowEq (by simp<;>omega) (by simp[cG])
   refine Z (v:=S (45::digs (-n).toNat)) f (ln rfl (l:=45::digs (-n).toNat) (v:=v3) kr (e:=5) kr kr kr (N17.rowAt 0 rfl)) λ_ f=>Ye f 2 λ_ f=>wp_ret (ij f rfl (Lk 2 (S (45::digs (-n).toNat))) (Lk 3 (iL 0)) (⟨_,rfl,M,(mR _),(N17.dropN 3),?_⟩))
   rw[text_neg hfit U3]
  ·have U4:=aA dI B2
   refine aN (Z f (Y30 (v:=.func (.func 137) #[] #[pP Q2,pP Q1]) rfl (ad:=⟨Q2,0,none⟩) (N5.ownCell 1 rfl 0)) λ_ f=>Y f 1 λ_ f=>?_)
   have f:=Frm.set f 11 (v:=iL n) (v':=iL (n.toNat:Int)) kr (congrArg (Value.int .i64) (by omega))
   have N19:=N5.pl [2,2]
   refine Y17 (E:=[oC Q2 #[.func (.func 137) #[] #[pP Q2,pP Q1]] 172,oC Q1 #[Sn] 140,Ent.row 5 1 Sn 0 []]) (H:=(H)) f N19 (oD _ Q2 Q1 (n.toNat) (by omega) Sn (0) ([]) (by omega)) λv_3 V2 E_2 W9 J2 N20 iQ _ f=>?_
   obtain⟨rfl,v3,rfl⟩:=iQ
   have N21:Hp w0 M ((oC Q2 #[.func (.func 137) #[] #[pP Q2,pP Q1]] 172)::(oC Q1 #[v3] 140)::(Ent.row 5 1 v3 (0+ (digs n.toNat).length) ([]++cG (digs n.toNat)))::H) W9:=N20.less J2
   refine am rfl (gh (aS (RR (Z f (Y30 (v:=v3) rfl (ad:=⟨Q1,0,none⟩) (N21.ownCell 1 rfl 0)) λ_ f=>?_))))
   have N22:=N21.pl [2]
   have N23:Hp w0 M ((Ent.row 5 1 v3 (digs n.toNat).length (cG (digs n.toNat)))::(oC Q2 #[.func (.func 137) #[] #[pP Q2,pP Q1]] 172)::(oC Q1 #[v3] 140)::H) W9:=N22.rowEq (by simp) (by simp)
   refine Z (v:=S (digs n.toNat)) f (ln rfl (l:=digs n.toNat) (v:=v3) kr (e:=5) kr kr kr (N23.rowAt 0 rfl)) λ_ f=>Ye f 2 λ_ f=>wp_ret (ij f rfl (Lk 2 (S (digs n.toNat))) (Lk 3 (iL 0)) (⟨_,rfl,M,(mR _),(N23.dropN 3),?_⟩))
   rw[text_pos hfit U4]
end Go.Proofs.YtkopljikappieaaGreatDoor
end
section
namespace Go.Num
open Go
end Go.Num
namespace Go.Num
open Go
end Go.Num
end
section
namespace Go.Proofs.YtkopljikappieaaGreatDoor
open Go Go.Vc Go.RowKit Go.Num
def lY (_:Nat) (x:Int):Option (Bs×Int):=some (Go.Num.text x)
theorem h_numText_ok (n:Nat) (M:Mem) (x:Int) (r:Bs×Int) (hF:lY n x=some r):Ok Tryz.prog M 114 [iL x] (λ_ v=>v=.tuple #[S r.1,iL r.2]):=by
 obtain rfl:=Option.some.inj hF
 exact textP_ok M x
end Go.Proofs.YtkopljikappieaaGreatDoor
end
