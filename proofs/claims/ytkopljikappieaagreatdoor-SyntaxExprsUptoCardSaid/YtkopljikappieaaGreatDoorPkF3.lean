/-
  Texts of this claim, packed (what nothing names is left out): Q3, Q4, Q6, Q2. Own work, partly printed by own programs. No condition.
-/
import Derived.Test.YtkopljikappieaaGreatDoorPkF1
import Derived.Test.YtkopljikappieaaGreatDoorRows
import Derived.Test.YtkopljikappieaaGreatDoorPkF2
set_option linter.unusedVariables false
set_option linter.unusedSimpArgs false
set_option maxHeartbeats 2000000
namespace Go.Proofs.YtkopljikappieaaGreatDoor
open Go Go.Vc Go.RowKit
def dm (n:Nat) (az:Bs):Option (Int×Bs):=
 some ((((az.length:Nat):Int),az))
theorem jt (n:Nat) (M:Mem) (b0:Nat) (Z1:Oa) (gE: (Z1=none∨Z1=some ⟨b0,0,none⟩)) (az:Bs) (Z2:Oa) (P1:Nat) (L1:Lv) (D1:ag M (az.map embB) L1) (r:Int×Bs) (hF:dm n az=some r):OkH Tryz.prog M [oC b0 #[.pointer Z1,sL Z2 az P1] 142,rO 5 1 Z2 az P1 L1] 117 [pP b0] (λM' E' v=>∃ (Z3:Oa) (Z4:Oa) (P2:Nat) (L2:Lv),v=iL r.1∧E'=[oC b0 #[.pointer Z3,sL Z4 r.2 P2] 142,rO 5 1 Z4 r.2 P2 L2]∧(Z3=none∨Z3=some ⟨b0,0,none⟩)∧ag M' (r.2.map embB) L2):=by
 unfold dm at hF
 intro M1 hM0 w0 H w p0
 replace D1:=ag.mono hM0 _ _ D1
 refine Re 8 Tryz.func117 rfl λa0 f0=>RR (Ye f0 1 λ_ f=>RR (Y f 3 λ_ f=>Z f (Y31 (v:=sL Z2 az P1) rfl (ad:=⟨b0,1,none⟩) (p0.ownCell 0 rfl 1)) λ_ f=>Ye f 2 λ_ f=>wp_ret (au f rfl (Lk 2 (iL ((az.length:Nat):Int))) ?_)))
 cases sI hF
 exact⟨_,rfl,M1,_,(mR _),p0,⟨Z1,Z2,P1,L1,rfl,rfl,gE,D1⟩⟩
def cO (n:Nat) (az:Bs):Option (Bs×Bs):=
 some ((az,az))
theorem bM (n:Nat) (M:Mem) (b0:Nat) (Z1:Oa) (gE: (Z1=none∨Z1=some ⟨b0,0,none⟩)) (az:Bs) (Z2:Oa) (P1:Nat) (L1:Lv) (D1:ag M (az.map embB) L1) (r:Bs×Bs) (hF:cO n az=some r):OkH Tryz.prog M [oC b0 #[.pointer Z1,sL Z2 az P1] 142,rO 5 1 Z2 az P1 L1] 118 [pP b0] (λM' E' v=>∃ (Z3:Oa) (Z4:Oa) (P2:Nat),v=S r.1∧E'=[oC b0 #[.pointer Z3,sL Z4 r.2 P2] 142]∧(Z3=none∨Z3=some ⟨b0,0,none⟩)∧Sli M' 1 embB Z4 P2 r.2):=by
 unfold cO at hF
 intro M1 hM0 w0 H w p0
 replace D1:=ag.mono hM0 _ _ D1
 refine Re 14 Tryz.func118 rfl λa0 f0=>RR (Ye f0 1 λ_ f=>an ?_)
 have N1:=p0.pl [1]
 refine dp (E:=[rO 5 1 Z2 az P1 L1]) (Hr:=((oC b0 #[.pointer Z1,sL Z2 az P1] 142)::H)) [(0,true),(1,true),(2,true),(3,true),(5,true),(6,true),(7,true),(8,true),(9,true),(4,false),(10,false),(11,true)] N1 kr kr rfl kr (Y0 default f 3 λ_ f=>bz (v:=sL Z2 az P1) f kr kr rfl rfl (λ_ pq=>Y31 (v:=sL Z2 az P1) rfl (ad:=⟨b0,1,none⟩) (pq.ownCell 0 rfl 1)) λ_ f=>Y0 default f 3 λ_ f=>bz (v:=sL Z2 az P1) f kr kr rfl rfl (λ_ pq=>Y31 (v:=sL Z2 az P1) rfl (ad:=⟨b0,1,none⟩) (pq.ownCell 0 rfl 1)) λ_ f=>Y0 default f 1 λ_ f=>bL (E:=[rO 5 1 Z2 az P1 L1]) λW1 N2=>W_sliceData (v:=sL Z2 az P1) f N2 kr kr rfl rfl rfl kr kr λej W2 N3 hd_1 _ f=>ap rfl (dl (M1:=M1) (E:=[rO 5 1 Z2 az P1 L1]) (mR _) N3 (bL (E:=[rO 5 1 Z2 az P1 L1]) λW3 N4=>mH (q:=ej) (v:=sL Z2 az P1) (l:=az) (A:=Z2) (cap:=P1) rfl f N4 D1 hd_1 kr kr rfl rfl rfl kr kr kr kr λV1 W4 J1 N5 B1 _ f=>ap rfl (dl (M1:=V1) (E:=[]) J1 N5 (Y0 default f 1 λ_ f=>dL rfl λW5 N6=>aK (wp_ret (au f rfl (Lk 2 (S az)) ?_)))))))
 cases sI hF
 exact⟨_,rfl,V1,_,J1,N6,⟨Z1,Z2,P1,rfl,rfl,gE,B1⟩⟩
def bB (n:Nat) (az:Bs):Option Bs:=
 some (az)
theorem hO (n:Nat) (M:Mem) (b0:Nat) (az:Bs) (Z1:Oa) (P1:Nat) (L1:Lv) (D1:ag M (az.map embB) L1) (r:Bs) (hF:bB n az=some r):OkH Tryz.prog M [oC b0 #[.pointer none,sL Z1 az P1] 142,rO 5 1 Z1 az P1 L1] 140 [pP b0] (λM' E' v=>∃ (Z2:Oa) (Z3:Oa) (P2:Nat) (L2:Lv),v=.tuple #[]∧E'=[oC b0 #[.pointer Z2,sL Z3 r P2] 142,rO 5 1 Z3 r P2 L2]∧(Z2=none∨Z2=some ⟨b0,0,none⟩)∧ag M' (r.map embB) L2):=by
 unfold bB at hF
 intro M1 hM0 w0 H w p0
 replace D1:=ag.mono hM0 _ _ D1
 refine Re 20 Tryz.func140 rfl λa0 f0=>RR (Y f0 3 λ_ f=>Z f (Y31 (v:=.pointer none) rfl (ad:=⟨b0,0,none⟩) (p0.ownCell 0 rfl 0)) λ_ f=>Z (v:=bO true) f (X_ptrNil (q:=none) (e:=142) rfl kr kr kr _) λ_ f=>eT (Y9 f (aA (Y f 2 λ_ f=>Z (v:=pP b0) f (X_toUnsafe rfl kr (t:=142) kr kr kr p0 (i:=0) rfl (by simp)) λ_ f=>Z (v:=pP b0) f (X_here kr) λ_ f=>Z (v:=pP b0) f (X_fromUnsafe rfl kr (u:=142) kr kr kr p0 (i:=0) rfl kr) λ_ f=>Y f 2 λ_ f=>Y26 f p0 0 rfl rfl (b:=b0) (j:=0) (v:=pP b0) rfl (by exact rfl) (by simp) (by simp) _ rfl λW1 N1 _ f=>ap rfl (dn f rfl ?_)))))
 cases sI hF
 exact⟨_,rfl,M1,_,(mR _),N1,⟨(some ⟨b0,0,none⟩),Z1,P1,L1,rfl,rfl,(.inr rfl),D1⟩⟩
def eh (n:Nat) (az:Bs):Option Bs:=
 some (az)
theorem gJ (n:Nat) (M:Mem) (b0:Nat) (az:Bs) (Z1:Oa) (P1:Nat) (L1:Lv) (D1:ag M (az.map embB) L1) (r:Bs) (hF:eh n az=some r):OkH Tryz.prog M [oC b0 #[pP b0,sL Z1 az P1] 142,rO 5 1 Z1 az P1 L1] 140 [pP b0] (λM' E' v=>∃ (Z2:Oa) (Z3:Oa) (P2:Nat) (L2:Lv),v=.tuple #[]∧E'=[oC b0 #[.pointer Z2,sL Z3 r P2] 142,rO 5 1 Z3 r P2 L2]∧(Z2=none∨Z2=some ⟨b0,0,none⟩)∧ag M' (r.map embB) L2):=by
 unfold eh at hF
 intro M1 hM0 w0 H w p0
 replace D1:=ag.mono hM0 _ _ D1
 refine Re 20 Tryz.func140 rfl λa0 f0=>RR (Y f0 3 λ_ f=>Z f (Y31 (v:=pP b0) rfl (ad:=⟨b0,0,none⟩) (p0.ownCell 0 rfl 0)) λ_ f=>Z (v:=bO false) f (X_ptrNil (q:=some (⟨b0,0,none⟩)) (e:=142) rfl kr kr kr _) λ_ f=>eT (Y8 f (RR (Y f 3 λ_ f=>Z f (Y31 (v:=pP b0) rfl (ad:=⟨b0,0,none⟩) (p0.ownCell 0 rfl 0)) λ_ f=>Y f 1 λ_ f=>Z (v:=bO false) f (X_ptrNeSame (a:=⟨b0,0,none⟩) (e:=142) rfl kr kr kr kr _) λ_ f=>eT (Y8 f (wp_skip (dn f rfl ?_)))))))
 cases sI hF
 exact⟨_,rfl,M1,_,(mR _),p0,⟨(some ⟨b0,0,none⟩),Z1,P1,L1,rfl,rfl,(.inr rfl),D1⟩⟩
def bf (n:Nat) (az:Bs):Option Bs:=bB n az
theorem cp (n:Nat) (M:Mem) (b0:Nat) (Z1:Oa) (gE: (Z1=none∨Z1=some ⟨b0,0,none⟩)) (az:Bs) (Z2:Oa) (P1:Nat) (L1:Lv) (D1:ag M (az.map embB) L1) (r:Bs) (hF:bf n az=some r):OkH Tryz.prog M [oC b0 #[.pointer Z1,sL Z2 az P1] 142,rO 5 1 Z2 az P1 L1] 140 [pP b0] (λM' E' v=>∃ (Z3:Oa) (Z4:Oa) (P2:Nat) (L2:Lv),v=.tuple #[]∧E'=[oC b0 #[.pointer Z3,sL Z4 r P2] 142,rO 5 1 Z4 r P2 L2]∧(Z3=none∨Z3=some ⟨b0,0,none⟩)∧ag M' (r.map embB) L2):=by
 rcases gE with rfl|rfl
 ·exact hO n M b0 az Z2 P1 L1 D1 r hF
 ·exact gJ n M b0 az Z2 P1 L1 D1 r hF
def bG (n:Nat) (az:Bs) (d1:Bs):Option (Int×Unit×Bs):=
 (bf n az).bind λX1=>
 aS ((X1.length+d1.length)*1≤140737488355328)<|
 some (((d1.length:Int),(),X1++d1))
theorem gI (n:Nat) (M:Mem) (b0:Nat) (Z1:Oa) (gE: (Z1=none∨Z1=some ⟨b0,0,none⟩)) (az:Bs) (Z2:Oa) (P1:Nat) (L1:Lv) (D1:ag M (az.map embB) L1) (d1:Bs) (r:Int×Unit×Bs) (hF:bG n az d1=some r):OkH Tryz.prog M [oC b0 #[.pointer Z1,sL Z2 az P1] 142,rO 5 1 Z2 az P1 L1] 121 [pP b0,S d1] (λM' E' v=>∃ (Z6:Oa) (Z7:Oa) (P4:Nat) (L4:Lv),v=.tuple #[iL r.1,.nilIface]∧E'=[oC b0 #[.pointer Z6,sL Z7 r.2.2 P4] 142,rO 5 1 Z7 r.2.2 P4 L4]∧(Z6=none∨Z6=some ⟨b0,0,none⟩)∧ag M' (r.2.2.map embB) L4):=by
 unfold bG at hF
 intro M1 hM0 w0 H w p0
 replace D1:=ag.mono hM0 _ _ D1
 refine Re 19 Tryz.func121 rfl λa0 f0=>RR (Ye f0 2 λ_ f=>RR (Y f 1 λ_ f=>?_))
 obtain⟨X1,l1,F1⟩:=bS hF
 refine Y18 (E:=[oC b0 #[.pointer Z1,sL Z2 az P1] 142,rO 5 1 Z2 az P1 L1]) (H:=(H)) f p0 (cp n _ b0 Z1 gE az Z2 P1 L1 D1 X1 l1) λ_ V1 mo W1 J1 N1 ej _ f=>?_
 obtain⟨Z3,Z4,P2,L2,rfl,rfl,la,D2⟩:=ej
 refine eT (RR (Y f 4 λ_ f=>Z f (Y31 (v:=sL Z4 X1 P2) rfl (ad:=⟨b0,1,none⟩) (N1.ownCell 0 rfl 1)) λ_ f=>Y f 1 λ_ f=>?_))
 have N2:=N1.pl [1]
 obtain⟨O1,F2⟩:=nS F1
 refine Y23 (z:=.int .u8 0) (xs:=X1) (l:=d1) f N2 D2 rfl rfl rfl O1 (by omega) λZ5 P3 L3 W2 N3 D3 _ f=>Y f 2 λ_ f=>Y26 f N3 1 rfl rfl (b:=b0) (j:=1) (v:=sL Z5 (X1++d1) P3) rfl (by exact rfl) (by simp) (by simp) _ rfl λW3 N4 _ f=>eT (RR (Ye f 4 λ_ f=>wp_ret (eX f rfl (Lk 4 (iL (d1.length:Int))) (Lk 5 (.nilIface)) ?_)))
 cases sI F2
 have N5:=N4.pl [1]
 exact⟨_,rfl,V1,_,J1,N5,⟨Z3,Z5,P3,L3,rfl,rfl,la,D3⟩⟩
def aV (n:Nat) (az:Bs) (d1:Int):Option (Unit×Bs):=
 (bf n az).bind λX1=>
 aS (0≤d1∧d1<256)<|
 aS ((X1.length+1)*1≤140737488355328)<|
 some (((),X1++[UInt8.ofNat (d1).toNat]))
theorem cM (n:Nat) (M:Mem) (b0:Nat) (Z1:Oa) (gE: (Z1=none∨Z1=some ⟨b0,0,none⟩)) (az:Bs) (Z2:Oa) (P1:Nat) (L1:Lv) (D1:ag M (az.map embB) L1) (d1:Int) (r:Unit×Bs) (hF:aV n az d1=some r):OkH Tryz.prog M [oC b0 #[.pointer Z1,sL Z2 az P1] 142,rO 5 1 Z2 az P1 L1] 123 [pP b0,.int .u8 d1] (λM' E' v=>∃ (Z6:Oa) (Z7:Oa) (P4:Nat) (L4:Lv),v=.nilIface∧E'=[oC b0 #[.pointer Z6,sL Z7 r.2 P4] 142,rO 5 1 Z7 r.2 P4 L4]∧(Z6=none∨Z6=some ⟨b0,0,none⟩)∧ag M' (r.2.map embB) L4):=by
 unfold aV at hF
 intro M1 hM0 w0 H w p0
 replace D1:=ag.mono hM0 _ _ D1
 refine Re 17 Tryz.func123 rfl λa0 f0=>RR (Ye f0 1 λ_ f=>RR (Y f 1 λ_ f=>?_))
 obtain⟨X1,l1,F1⟩:=bS hF
 refine Y18 (E:=[oC b0 #[.pointer Z1,sL Z2 az P1] 142,rO 5 1 Z2 az P1 L1]) (H:=(H)) f p0 (cp n _ b0 Z1 gE az Z2 P1 L1 D1 X1 l1) λ_ V1 mo W1 J1 N1 ej _ f=>?_
 obtain⟨Z3,Z4,P2,L2,rfl,rfl,la,D2⟩:=ej
 refine eT (RR (Y f 4 λ_ f=>Z f (Y31 (v:=sL Z4 X1 P2) rfl (ad:=⟨b0,1,none⟩) (N1.ownCell 0 rfl 1)) λ_ f=>Y f 1 λ_ f=>aP (k:=1) (c:=1) f N1 (.cells #[.int .u8 d1] 5 (0,0)) kr (λ_=>by kernel_rfl) λQ1 W2 N2 _ f=>?_))
 obtain⟨O1,F2⟩:=nS F1
 have N3:=N2.pl [2]
 obtain⟨O2,F3⟩:=nS F2
 refine Y21 (z:=.int .u8 0) (f:=embB) (xs:=X1) (ys:=[UInt8.ofNat (d1).toNat]) (news:=[.int .u8 d1]) (ad:=⟨Q1,0,none⟩) (m:=1) (c:=1) f N3 D2 (by exact⟨_,_,rfl,(gj (by omega)),rfl⟩) rfl rfl rfl rfl (am (N3.ownCell 1 rfl) 0 rfl) (by exact O2) (by have hg_:=O2;first|omega|(simp only[List.length_cons,List.length_nil] at*;omega)) λZ5 P3 L3 W3 N4 D3 _ f=>?_
 have N5:=N4.pl [1]
 have N6:=N5.drop
 refine Y f 2 λ_ f=>Y26 f N6 1 rfl rfl (b:=b0) (j:=1) (v:=sL Z5 (X1++[UInt8.ofNat (d1).toNat]) P3) rfl (by exact rfl) (by simp) (by simp) _ rfl λW4 N7 _ f=>eT (RR (Ye f 1 λ_ f=>wp_ret (au f rfl (Lk 4 (.nilIface)) ?_)))
 cases sI F3
 have N8:=N7.pl [1]
 exact⟨_,rfl,V1,_,J1,N8,⟨Z3,Z5,P3,L3,rfl,rfl,la,D3⟩⟩
def bI (n:Nat) (d0:Bs) (d1:Int):Option Bs:=
 aS (inR .u32 (d1))<|
 bif(decide (d1≤2047)) then
  (aS (0≤(bOr .u8 (192:Int) (IntKind.wrap .u8 (bShr .i32 d1 (6:Int))))∧(bOr .u8 (192:Int) (IntKind.wrap .u8 (bShr .i32 d1 (6:Int))))<256)<|
  aS (0≤(bOr .u8 (128:Int) (bAnd .u8 (IntKind.wrap .u8 (d1)) (63:Int)))∧(bOr .u8 (128:Int) (bAnd .u8 (IntKind.wrap .u8 (d1)) (63:Int)))<256)<|
  aS ((d0.length+2)*1≤140737488355328)<|
  some (d0++[UInt8.ofNat (bOr .u8 (192:Int) (IntKind.wrap .u8 (bShr .i32 d1 (6:Int)))).toNat,UInt8.ofNat (bOr .u8 (128:Int) (bAnd .u8 (IntKind.wrap .u8 (d1)) (63:Int))).toNat]))
 else
  ((bif(decide (d1<55296)) then
   (some ((decide (d1<55296))))
    else
     bif(decide ((57343:Int)<d1)) then
      (some ((decide (d1≤65535))))
     else
      some ((false)):Option Bool)).bind λG1=>
  bif G1 then
   (aS (0≤(bOr .u8 (224:Int) (IntKind.wrap .u8 (bShr .i32 d1 (12:Int))))∧(bOr .u8 (224:Int) (IntKind.wrap .u8 (bShr .i32 d1 (12:Int))))<256)<|
   aS (0≤(bOr .u8 (128:Int) (bAnd .u8 (IntKind.wrap .u8 (bShr .i32 d1 (6:Int))) (63:Int)))∧(bOr .u8 (128:Int) (bAnd .u8 (IntKind.wrap .u8 (bShr .i32 d1 (6:Int))) (63:Int)))<256)<|
   aS (0≤(bOr .u8 (128:Int) (bAnd .u8 (IntKind.wrap .u8 (d1)) (63:Int)))∧(bOr .u8 (128:Int) (bAnd .u8 (IntKind.wrap .u8 (d1)) (63:Int)))<256)<|
   aS ((d0.length+3)*1≤140737488355328)<|
   some (d0++[UInt8.ofNat (bOr .u8 (224:Int) (IntKind.wrap .u8 (bShr .i32 d1 (12:Int)))).toNat,UInt8.ofNat (bOr .u8 (128:Int) (bAnd .u8 (IntKind.wrap .u8 (bShr .i32 d1 (6:Int))) (63:Int))).toNat,UInt8.ofNat (bOr .u8 (128:Int) (bAnd .u8 (IntKind.wrap .u8 (d1)) (63:Int))).toNat]))
  else
   ((bif(decide ((65535:Int)<d1)) then
    (some ((decide (d1≤1114111))))
     else
      some ((false)):Option Bool)).bind λG2=>
   bif G2 then
    (aS (0≤(bOr .u8 (240:Int) (IntKind.wrap .u8 (bShr .i32 d1 (18:Int))))∧(bOr .u8 (240:Int) (IntKind.wrap .u8 (bShr .i32 d1 (18:Int))))<256)<|
    aS (0≤(bOr .u8 (128:Int) (bAnd .u8 (IntKind.wrap .u8 (bShr .i32 d1 (12:Int))) (63:Int)))∧(bOr .u8 (128:Int) (bAnd .u8 (IntKind.wrap .u8 (bShr .i32 d1 (12:Int))) (63:Int)))<256)<|
    aS (0≤(bOr .u8 (128:Int) (bAnd .u8 (IntKind.wrap .u8 (bShr .i32 d1 (6:Int))) (63:Int)))∧(bOr .u8 (128:Int) (bAnd .u8 (IntKind.wrap .u8 (bShr .i32 d1 (6:Int))) (63:Int)))<256)<|
    aS (0≤(bOr .u8 (128:Int) (bAnd .u8 (IntKind.wrap .u8 (d1)) (63:Int)))∧(bOr .u8 (128:Int) (bAnd .u8 (IntKind.wrap .u8 (d1)) (63:Int)))<256)<|
    aS ((d0.length+4)*1≤140737488355328)<|
    some (d0++[UInt8.ofNat (bOr .u8 (240:Int) (IntKind.wrap .u8 (bShr .i32 d1 (18:Int)))).toNat,UInt8.ofNat (bOr .u8 (128:Int) (bAnd .u8 (IntKind.wrap .u8 (bShr .i32 d1 (12:Int))) (63:Int))).toNat,UInt8.ofNat (bOr .u8 (128:Int) (bAnd .u8 (IntKind.wrap .u8 (bShr .i32 d1 (6:Int))) (63:Int))).toNat,UInt8.ofNat (bOr .u8 (128:Int) (bAnd .u8 (IntKind.wrap .u8 (d1)) (63:Int))).toNat]))
   else
    aS ((d0.length+3)*1≤140737488355328)<|
    some (d0++[(239:UInt8),(191:UInt8),(189:UInt8)])
set_option maxRecDepth 20000 in
theorem gc (n:Nat) (M:Mem) (d0:Bs) (Z1:Oa) (P1:Nat) (L1:Lv) (D1:ag M (d0.map embB) L1) (d1:Int) (r:Bs) (hF:bI n d0 d1=some r):OkH Tryz.prog M [rO 5 1 Z1 d0 P1 L1] 156 [sL Z1 d0 P1,.int .i32 d1] (λM' E' v=>∃ (A0:Oa) (k0:Nat) (s0:Lv),v=sL A0 r k0∧E'=[.row 5 1 (sL A0 r k0) r.length s0]∧ag M' (r.map embB) s0):=by
 unfold bI at hF
 intro M1 hM0 w0 H w p0
 replace D1:=ag.mono hM0 _ _ D1
 refine Re 78 Tryz.func156 rfl λa0 f0=>RR (Ye f0 1 λ_ f=>RR (Y f 1 λ_ f=>?_))
 obtain⟨O1,F1⟩:=nS hF
 refine Y f 1 λ_ f=>?_
 have f:=f.st 7 (iW O1)
 refine Ye f 1 λ_ f=>wp_block (RR (Ye f 3 λ_ f=>RcF f F1 (λB1 F2=>?_) λB1 F6=>?_))
 ·have U1:=dI.1 B1
  refine RR (Y f 3 λ_ f=>Y f 1 λ_ f=>Y f 2 λ_ f=>Y f 1 λ_ f=>Y f 2 λ_ f=>aP (k:=2) (c:=2) f p0 (.cells #[.int .u8 (bOr .u8 (192:Int) (IntKind.wrap .u8 (bShr .i32 d1 (6:Int)))),.int .u8 (bOr .u8 (128:Int) (bAnd .u8 (IntKind.wrap .u8 (d1)) (63:Int)))] 5 (0,0)) kr (λ_=>by kernel_rfl) λQ1 W1 N1 _ f=>?_)
  obtain⟨O2,F3⟩:=nS F2
  obtain⟨O3,F4⟩:=nS F3
  have N2:=N1.pl [1]
  obtain⟨O4,F5⟩:=nS F4
  refine Y21 (z:=.int .u8 0) (f:=embB) (xs:=d0) (ys:=[UInt8.ofNat (bOr .u8 (192:Int) (IntKind.wrap .u8 (bShr .i32 d1 (6:Int)))).toNat,UInt8.ofNat (bOr .u8 (128:Int) (bAnd .u8 (IntKind.wrap .u8 (d1)) (63:Int))).toNat]) (news:=[.int .u8 (bOr .u8 (192:Int) (IntKind.wrap .u8 (bShr .i32 d1 (6:Int)))),.int .u8 (bOr .u8 (128:Int) (bAnd .u8 (IntKind.wrap .u8 (d1)) (63:Int)))]) (ad:=⟨Q1,0,none⟩) (m:=2) (c:=2) f N2 D1 (by exact⟨_,_,rfl,(gj (by omega)),⟨_,_,rfl,(gj (by omega)),rfl⟩⟩) rfl rfl rfl rfl (am (N2.ownCell 1 rfl) 0 rfl) (by exact O4) (by have hg_:=O4;first|omega|(simp only[List.length_cons,List.length_nil] at*;omega)) λZ2 P2 L2 W2 N3 D2 _ f=>?_
  have N4:=N3.pl [1]
  have N5:=N4.drop
  refine Ye f 1 λ_ f=>wp_ret (ed (au f rfl (Lk 4 (sL Z2 (d0++[UInt8.ofNat (bOr .u8 (192:Int) (IntKind.wrap .u8 (bShr .i32 d1 (6:Int)))).toNat,UInt8.ofNat (bOr .u8 (128:Int) (bAnd .u8 (IntKind.wrap .u8 (d1)) (63:Int))).toNat]) P2)) ?_))
  cases sI F5
  exact⟨_,rfl,M1,_,(mR _),N5,⟨Z2,P2,L2,rfl,rfl,D2⟩⟩
 ·have U2:=aq dI B1
  refine an (RR (Ye f 3 λ_ f=>?_))
  obtain⟨gN,ec,F7⟩:=bS F6
  refine bD (λa_18 W3=>∃G1:Bool,gN=G1∧∃V1:Mem,M1.le V1∧Frm 78 [(0,sL Z1 d0 P1),(1,.int .i32 d1),(5,.int .u32 d1),(25,bO G1)] a_18∧Hp w0 V1 ((rO 5 1 Z1 d0 P1 L1)::H) W3) ?_ ?_
  ·refine RcF f ec (λB2 F8=>?_) λB2 F9=>?_
   ·have U3:=dI.1 B2
    refine St ?_
    exact⟨(decide (d1<55296)),(sI F8).symm,M1,(mR _),f.kp,p0⟩
   ·have U4:=aq dI B2
    refine aA (Y f 3 λ_ f=>?_)
    rcases cE F9 with⟨B3,F10⟩|⟨B3,F11⟩
    ·have U5:=dI.1 B3
     have f:=f.st 30 (cB B3)
     refine Ye f 4 λ_ f=>?_
     exact⟨(decide (d1≤65535)),(sI F10).symm,M1,(mR _),f.kp,p0⟩
    ·have U6:=aq dI B3
     have f:=f.st 30 (cB B3)
     refine Ye f 4 λ_ f=>?_
     exact⟨(false),(sI F11).symm,M1,(mR _),f.kp,p0⟩
  ·rintro a_18 W3 ⟨G1,dC,V1,J1,f,N6⟩
   subst gN
   refine aK (RcF f F7 (λB4 F12=>?_) λB4 F17=>?_)
   ·refine RR (Y f 3 λ_ f=>Y f 1 λ_ f=>Y f 3 λ_ f=>Y f 1 λ_ f=>Y f 3 λ_ f=>Y f 1 λ_ f=>Y f 2 λ_ f=>aP (k:=3) (c:=3) f N6 (.cells #[.int .u8 (bOr .u8 (224:Int) (IntKind.wrap .u8 (bShr .i32 d1 (12:Int)))),.int .u8 (bOr .u8 (128:Int) (bAnd .u8 (IntKind.wrap .u8 (bShr .i32 d1 (6:Int))) (63:Int))),.int .u8 (bOr .u8 (128:Int) (bAnd .u8 (IntKind.wrap .u8 (d1)) (63:Int)))] 5 (0,0)) kr (λ_=>by kernel_rfl) λQ2 W4 N7 _ f=>?_)
    obtain⟨O5,F13⟩:=nS F12
    obtain⟨O6,F14⟩:=nS F13
    obtain⟨O7,F15⟩:=nS F14
    have N8:=N7.pl [1]
    obtain⟨O8,F16⟩:=nS F15
    refine Y21 (z:=.int .u8 0) (f:=embB) (xs:=d0) (ys:=[UInt8.ofNat (bOr .u8 (224:Int) (IntKind.wrap .u8 (bShr .i32 d1 (12:Int)))).toNat,UInt8.ofNat (bOr .u8 (128:Int) (bAnd .u8 (IntKind.wrap .u8 (bShr .i32 d1 (6:Int))) (63:Int))).toNat,UInt8.ofNat (bOr .u8 (128:Int) (bAnd .u8 (IntKind.wrap .u8 (d1)) (63:Int))).toNat]) (news:=[.int .u8 (bOr .u8 (224:Int) (IntKind.wrap .u8 (bShr .i32 d1 (12:Int)))),.int .u8 (bOr .u8 (128:Int) (bAnd .u8 (IntKind.wrap .u8 (bShr .i32 d1 (6:Int))) (63:Int))),.int .u8 (bOr .u8 (128:Int) (bAnd .u8 (IntKind.wrap .u8 (d1)) (63:Int)))]) (ad:=⟨Q2,0,none⟩) (m:=3) (c:=3) f N8 (ag.mono J1 _ _ D1) (by exact⟨_,_,rfl,(gj (by omega)),⟨_,_,rfl,(gj (by omega)),⟨_,_,rfl,(gj (by omega)),rfl⟩⟩⟩) rfl rfl rfl rfl (am (N8.ownCell 1 rfl) 0 rfl) (by exact O8) (by have hg_:=O8;first|omega|(simp only[List.length_cons,List.length_nil] at*;omega)) λZ3 P3 L3 W5 N9 D3 _ f=>?_
    have N10:=N9.pl [1]
    have N11:=N10.drop
    refine Ye f 1 λ_ f=>wp_ret (ed (au f rfl (Lk 4 (sL Z3 (d0++[UInt8.ofNat (bOr .u8 (224:Int) (IntKind.wrap .u8 (bShr .i32 d1 (12:Int)))).toNat,UInt8.ofNat (bOr .u8 (128:Int) (bAnd .u8 (IntKind.wrap .u8 (bShr .i32 d1 (6:Int))) (63:Int))).toNat,UInt8.ofNat (bOr .u8 (128:Int) (bAnd .u8 (IntKind.wrap .u8 (d1)) (63:Int))).toNat]) P3)) ?_))
    cases sI F16
    exact⟨_,rfl,V1,_,J1,N11,⟨Z3,P3,L3,rfl,rfl,D3⟩⟩
   ·refine an ?_
    obtain⟨mi,ji,F18⟩:=bS F17
    refine bD (λa_32 W6=>∃G2:Bool,mi=G2∧∃V2:Mem,V1.le V2∧Frm 78 [(0,sL Z1 d0 P1),(1,.int .i32 d1),(50,bO G2)] a_32∧Hp w0 V2 ((rO 5 1 Z1 d0 P1 L1)::H) W6) ?_ ?_
    ·refine aA (Y f 3 λ_ f=>?_)
     rcases cE ji with⟨B5,F19⟩|⟨B5,F20⟩
     ·have U9:=dI.1 B5
      have f:=f.st 53 (cB B5)
      refine Ye f 4 λ_ f=>?_
      exact⟨(decide (d1≤1114111)),(sI F19).symm,V1,(mR _),f.kp,N6⟩
     ·have U10:=aq dI B5
      have f:=f.st 53 (cB B5)
      refine Ye f 4 λ_ f=>?_
      exact⟨(false),(sI F20).symm,V1,(mR _),f.kp,N6⟩
    ·rintro a_32 W6 ⟨G2,eZ,V2,J2,f,N12⟩
     subst mi
     refine aK (RcF f F18 (λB6 F21=>?_) λB6 F27=>?_)
     ·refine RR (Y f 3 λ_ f=>Y f 1 λ_ f=>Y f 3 λ_ f=>Y f 1 λ_ f=>Y f 4 λ_ f=>Y f 1 λ_ f=>Y f 3 λ_ f=>Y f 1 λ_ f=>Y f 2 λ_ f=>aP (k:=4) (c:=4) f N12 (.cells #[.int .u8 (bOr .u8 (240:Int) (IntKind.wrap .u8 (bShr .i32 d1 (18:Int)))),.int .u8 (bOr .u8 (128:Int) (bAnd .u8 (IntKind.wrap .u8 (bShr .i32 d1 (12:Int))) (63:Int))),.int .u8 (bOr .u8 (128:Int) (bAnd .u8 (IntKind.wrap .u8 (bShr .i32 d1 (6:Int))) (63:Int))),.int .u8 (bOr .u8 (128:Int) (bAnd .u8 (IntKind.wrap .u8 (d1)) (63:Int)))] 5 (0,0)) kr (λ_=>by kernel_rfl) λQ3 W7 N13 _ f=>?_)
      obtain⟨O9,F22⟩:=nS F21
      obtain⟨O10,F23⟩:=nS F22
      obtain⟨O11,F24⟩:=nS F23
      obtain⟨O12,F25⟩:=nS F24
      have N14:=N13.pl [1]
      obtain⟨O13,F26⟩:=nS F25
      refine Y21 (z:=.int .u8 0) (f:=embB) (xs:=d0) (ys:=[UInt8.ofNat (bOr .u8 (240:Int) (IntKind.wrap .u8 (bShr .i32 d1 (18:Int)))).toNat,UInt8.ofNat (bOr .u8 (128:Int) (bAnd .u8 (IntKind.wrap .u8 (bShr .i32 d1 (12:Int))) (63:Int))).toNat,UInt8.ofNat (bOr .u8 (128:Int) (bAnd .u8 (IntKind.wrap .u8 (bShr .i32 d1 (6:Int))) (63:Int))).toNat,UInt8.ofNat (bOr .u8 (128:Int) (bAnd .u8 (IntKind.wrap .u8 (d1)) (63:Int))).toNat]) (news:=[.int .u8 (bOr .u8 (240:Int) (IntKind.wrap .u8 (bShr .i32 d1 (18:Int)))),.int .u8 (bOr .u8 (128:Int) (bAnd .u8 (IntKind.wrap .u8 (bShr .i32 d1 (12:Int))) (63:Int))),.int .u8 (bOr .u8 (128:Int) (bAnd .u8 (IntKind.wrap .u8 (bShr .i32 d1 (6:Int))) (63:Int))),.int .u8 (bOr .u8 (128:Int) (bAnd .u8 (IntKind.wrap .u8 (d1)) (63:Int)))]) (ad:=⟨Q3,0,none⟩) (m:=4) (c:=4) f N14 (ag.mono (J1.trans J2) _ _ D1) (by exact⟨_,_,rfl,(gj (by omega)),⟨_,_,rfl,(gj (by omega)),⟨_,_,rfl,(gj (by omega)),⟨_,_,rfl,(gj (by omega)),rfl⟩⟩⟩⟩) rfl rfl rfl rfl (am (N14.ownCell 1 rfl) 0 rfl) (by exact O13) (by have hg_:=O13;first|omega|(simp only[List.length_cons,List.length_nil] at*;omega)) λZ4 P4 L4 W8 N15 D4 _ f=>?_
      have N16:=N15.pl [1]
      have N17:=N16.drop
      refine Ye f 1 λ_ f=>wp_ret (ed (au f rfl (Lk 4 (sL Z4 (d0++[UInt8.ofNat (bOr .u8 (240:Int) (IntKind.wrap .u8 (bShr .i32 d1 (18:Int)))).toNat,UInt8.ofNat (bOr .u8 (128:Int) (bAnd .u8 (IntKind.wrap .u8 (bShr .i32 d1 (12:Int))) (63:Int))).toNat,UInt8.ofNat (bOr .u8 (128:Int) (bAnd .u8 (IntKind.wrap .u8 (bShr .i32 d1 (6:Int))) (63:Int))).toNat,UInt8.ofNat (bOr .u8 (128:Int) (bAnd .u8 (IntKind.wrap .u8 (d1)) (63:Int))).toNat]) P4)) ?_))
      cases sI F26
      exact⟨_,rfl,V2,_,(J1.trans J2),N17,⟨Z4,P4,L4,rfl,rfl,D4⟩⟩
     ·refine RR (Y f 1 λ_ f=>aP (k:=3) (c:=3) f N12 (.cells #[.int .u8 239,.int .u8 191,.int .u8 189] 5 (0,0)) kr (λ_=>by kernel_rfl) λQ4 W9 N18 _ f=>?_)
      have N19:=N18.pl [1]
      obtain⟨O14,F28⟩:=nS F27
      refine Y21 (z:=.int .u8 0) (f:=embB) (xs:=d0) (ys:=[(239:UInt8),(191:UInt8),(189:UInt8)]) (news:=[.int .u8 239,.int .u8 191,.int .u8 189]) (ad:=⟨Q4,0,none⟩) (m:=3) (c:=3) f N19 (ag.mono (J1.trans J2) _ _ D1) (by exact⟨_,_,rfl,rfl,⟨_,_,rfl,rfl,⟨_,_,rfl,rfl,rfl⟩⟩⟩) rfl rfl rfl rfl (am (N19.ownCell 1 rfl) 0 rfl) (by exact O14) (by have hg_:=O14;first|omega|(simp only[List.length_cons,List.length_nil] at*;omega)) λZ5 P5 L5 W10 N20 D5 _ f=>?_
      have N21:=N20.pl [1]
      have N22:=N21.drop
      refine Ye f 1 λ_ f=>wp_ret (ed (au f rfl (Lk 4 (sL Z5 (d0++[(239:UInt8),(191:UInt8),(189:UInt8)]) P5)) ?_))
      cases sI F28
      exact⟨_,rfl,V2,_,(J1.trans J2),N22,⟨Z5,P5,L5,rfl,rfl,D5⟩⟩
def bW (n:Nat) (d0:Bs) (d1:Int):Option Bs:=
 aS (inR .u32 (d1))<|
 bif(decide (d1≤127)) then
  (aS (0≤(IntKind.wrap .u8 (d1))∧(IntKind.wrap .u8 (d1))<256)<|
  aS ((d0.length+1)*1≤140737488355328)<|
  some (d0++[UInt8.ofNat (IntKind.wrap .u8 (d1)).toNat]))
 else
  (bI n d0 d1).bind λX1=>
  some (X1)
theorem iE (n:Nat) (M:Mem) (d0:Bs) (Z1:Oa) (P1:Nat) (L1:Lv) (D1:ag M (d0.map embB) L1) (d1:Int) (r:Bs) (hF:bW n d0 d1=some r):OkH Tryz.prog M [rO 5 1 Z1 d0 P1 L1] 142 [sL Z1 d0 P1,.int .i32 d1] (λM' E' v=>∃ (A0:Oa) (k0:Nat) (s0:Lv),v=sL A0 r k0∧E'=[.row 5 1 (sL A0 r k0) r.length s0]∧ag M' (r.map embB) s0):=by
 unfold bW at hF
 intro M1 hM0 w0 H w p0
 replace D1:=ag.mono hM0 _ _ D1
 refine Re 16 Tryz.func142 rfl λa0 f0=>RR (Ye f0 1 λ_ f=>an (RR (Y f 1 λ_ f=>?_)))
 obtain⟨O1,F1⟩:=nS hF
 refine Y f 1 λ_ f=>?_
 have f:=f.st 6 (iW O1)
 refine Ye f 1 λ_ f=>RcF f F1 (λB1 F2=>?_) λB1 F5=>?_
 ·have U1:=dI.1 B1
  refine RR (Y f 2 λ_ f=>Y f 1 λ_ f=>aP (k:=1) (c:=1) f p0 (.cells #[.int .u8 (IntKind.wrap .u8 (d1))] 5 (0,0)) kr (λ_=>by kernel_rfl) λQ1 W1 N1 _ f=>?_)
  obtain⟨O2,F3⟩:=nS F2
  have N2:=N1.pl [1]
  obtain⟨O3,F4⟩:=nS F3
  refine Y21 (z:=.int .u8 0) (f:=embB) (xs:=d0) (ys:=[UInt8.ofNat (IntKind.wrap .u8 (d1)).toNat]) (news:=[.int .u8 (IntKind.wrap .u8 (d1))]) (ad:=⟨Q1,0,none⟩) (m:=1) (c:=1) f N2 D1 (by exact⟨_,_,rfl,(gj (by omega)),rfl⟩) rfl rfl rfl rfl (am (N2.ownCell 1 rfl) 0 rfl) (by exact O3) (by have hg_:=O3;first|omega|(simp only[List.length_cons,List.length_nil] at*;omega)) λZ2 P2 L2 W2 N3 D2 _ f=>?_
  have N4:=N3.pl [1]
  have N5:=N4.drop
  refine Ye f 1 λ_ f=>wp_ret (bC (au f rfl (Lk 4 (sL Z2 (d0++[UInt8.ofNat (IntKind.wrap .u8 (d1)).toNat]) P2)) ?_))
  cases sI F4
  exact⟨_,rfl,M1,_,(mR _),N5,⟨Z2,P2,L2,rfl,rfl,D2⟩⟩
 ·have U2:=aq dI B1
  refine St (RR (Y f 2 λ_ f=>?_))
  obtain⟨X1,l1,F6⟩:=bS F5
  refine Y18 (E:=[rO 5 1 Z1 d0 P1 L1]) (H:=(H)) f p0 (gc n _ d0 Z1 P1 L1 D1 d1 X1 l1) λ_ V1 mo W3 J1 N6 ej _ f=>?_
  obtain⟨Z3,P3,L3,rfl,rfl,D3⟩:=ej
  refine Ye f 1 λ_ f=>wp_ret (au f rfl (Lk 4 (sL Z3 X1 P3)) ?_)
  cases sI F6
  exact⟨_,rfl,V1,_,J1,N6,⟨Z3,P3,L3,rfl,rfl,D3⟩⟩
def be (n:Nat) (az:Bs) (d1:Int):Option (Int×Unit×Bs):=
 (bf n az).bind λX1=>
 (bW n X1 d1).bind λX2=>
 aS (inR .i64 (((X2.length:Nat):Int)- ((X1.length:Nat):Int)))<|
 some ((((X2.length:Nat):Int)- ((X1.length:Nat):Int),(),X2))
theorem dQ (n:Nat) (M:Mem) (b0:Nat) (Z1:Oa) (gE: (Z1=none∨Z1=some ⟨b0,0,none⟩)) (az:Bs) (Z2:Oa) (P1:Nat) (L1:Lv) (D1:ag M (az.map embB) L1) (d1:Int) (r:Int×Unit×Bs) (hF:be n az d1=some r):OkH Tryz.prog M [oC b0 #[.pointer Z1,sL Z2 az P1] 142,rO 5 1 Z2 az P1 L1] 124 [pP b0,.int .i32 d1] (λM' E' v=>∃ (Z6:Oa) (Z7:Oa) (P4:Nat) (L4:Lv),v=.tuple #[iL r.1,.nilIface]∧E'=[oC b0 #[.pointer Z6,sL Z7 r.2.2 P4] 142,rO 5 1 Z7 r.2.2 P4 L4]∧(Z6=none∨Z6=some ⟨b0,0,none⟩)∧ag M' (r.2.2.map embB) L4):=by
 unfold be at hF
 intro M1 hM0 w0 H w p0
 replace D1:=ag.mono hM0 _ _ D1
 refine Re 30 Tryz.func124 rfl λa0 f0=>RR (Ye f0 2 λ_ f=>RR (Y f 1 λ_ f=>?_))
 obtain⟨X1,l1,F1⟩:=bS hF
 refine Y18 (E:=[oC b0 #[.pointer Z1,sL Z2 az P1] 142,rO 5 1 Z2 az P1 L1]) (H:=(H)) f p0 (cp n _ b0 Z1 gE az Z2 P1 L1 D1 X1 l1) λ_ V1 mo W1 J1 N1 ej _ f=>?_
 obtain⟨Z3,Z4,P2,L2,rfl,rfl,la,D2⟩:=ej
 refine eT (RR (Y f 3 λ_ f=>Z f (Y31 (v:=sL Z4 X1 P2) rfl (ad:=⟨b0,1,none⟩) (N1.ownCell 0 rfl 1)) λ_ f=>Ye f 2 λ_ f=>RR (Y f 4 λ_ f=>Z f (Y31 (v:=sL Z4 X1 P2) rfl (ad:=⟨b0,1,none⟩) (N1.ownCell 0 rfl 1)) λ_ f=>Y f 1 λ_ f=>?_)))
 obtain⟨X2,l2,F2⟩:=bS F1
 have N3:=N1.pl [1]
 refine Y18 (E:=[rO 5 1 Z4 X1 P2 L2]) (H:=((oC b0 #[.pointer Z3,sL Z4 X1 P2] 142)::H)) f N3 (iE n _ X1 Z4 P2 L2 D2 d1 X2 l2) λ_ V2 E_2 W2 J2 N2 jk _ f=>?_
 obtain⟨Z5,P3,L3,rfl,rfl,D3⟩:=jk
 refine Y f 2 λ_ f=>Y26 f N2 1 rfl rfl (b:=b0) (j:=1) (v:=sL Z5 X2 P3) rfl (by exact rfl) (by simp) (by simp) ((rO 5 1 Z5 X2 P3 L3)::(oC b0 #[.pointer Z3,sL Z5 X2 P3] 142)::H) rfl λW3 N4 _ f=>eT (RR (Y f 3 λ_ f=>Z f (Y31 (v:=sL Z5 X2 P3) rfl (ad:=⟨b0,1,none⟩) (N4.ownCell 1 rfl 1)) λ_ f=>Y f 2 λ_ f=>?_))
 obtain⟨O1,F3⟩:=nS F2
 refine Y f 1 λ_ f=>?_
 have f:=f.st 29 (iW O1)
 refine Ye f 2 λ_ f=>wp_ret (eX f rfl (Lk 4 (iL (((X2.length:Nat):Int)- ((X1.length:Nat):Int)))) (Lk 5 (.nilIface)) ?_)
 cases sI F3
 have N5:=N4.pl [1]
 exact⟨_,rfl,V2,_,(J1.trans J2),N5,⟨Z3,Z5,P3,L3,rfl,rfl,la,D3⟩⟩
def jd (n:Nat) (d0:Bs):Option Bool:=
 (jP n d0 [79,117,116,112,117,116,115,46]).bind λX1=>
 bif X1.2 then
  ((ce n X1.1).bind λX2=>
  some ((X2)))
 else
  (ce n d0).bind λX3=>
  some ((X3))
theorem mj (n:Nat) (M:Mem) (hG:GL M) (d0:Bs) (r:Bool) (hF:jd n d0=some r):Ok Tryz.prog M 79 [S d0] (λ_ v=>v=bO r):=by
 unfold jd at hF
 intro M1 hM0 w0 H w p0
 replace hG:=GL.mono hM0 hG
 refine Re 15 Tryz.func79 rfl λa0 f0=>RR (Ye f0 1 λ_ f=>an (RR (Y f 1 λ_ f=>?_)))
 obtain⟨X1,l1,F1⟩:=bS hF
 refine Y19 f p0 (mW n _ hG d0 [79,117,116,112,117,116,115,46] X1 l1) λW1 N1 _ f=>Ye f 5 λ_ f=>RR (Ye f 1 λ_ f=>RcF f F1 (λB1 F2=>?_) λB1 F4=>?_)
 ·refine RR (Y f 1 λ_ f=>?_)
  obtain⟨X2,l2,F3⟩:=bS F2
  refine Y19 f N1 (bZ n _ X1.1 X2 l2) λW2 N2 _ f=>Ye f 1 λ_ f=>wp_ret (bC (au f rfl (Lk 2 (bO X2)) ?_))
  cases sI F3
  exact⟨_,rfl,M1,(mR _),N2,rfl⟩
 ·refine St (RR (Y f 1 λ_ f=>?_))
  obtain⟨X3,l3,F5⟩:=bS F4
  refine Y19 f N1 (bZ n _ d0 X3 l3) λW3 N3 _ f=>Ye f 1 λ_ f=>wp_ret (au f rfl (Lk 2 (bO X3)) ?_)
  cases sI F5
  exact⟨_,rfl,M1,(mR _),N3,rfl⟩
def kb (n:Nat) (d0:Bs):Option (TH0×Bool):=
 (h_Cut n d0 [46]).bind λX1=>
 bif X1.2.2 then
  ((((ce n X1.1).bind λX2=>
    bif X2 then
     ((jd n X1.2.1).bind λX3=>
     some ((X3)))
    else
     some ((false)):Option Bool)).bind λG1=>
  some (((⟨(4:Int),([]:Bs),(0:Int),X1.1,X1.2.1,([]:List TH0)⟩:TH0),(G1))))
 else
  (ce n X1.1).bind λX4=>
  some (((⟨(3:Int),([]:Bs),(0:Int),X1.1,([]:Bs),([]:List TH0)⟩:TH0),(X4)))
theorem sub_hole_ok (n:Nat) (M:Mem) (hG:GL M) (d0:Bs) (r:TH0×Bool) (hF:kb n d0=some r):Ok Tryz.prog M 122 [S d0] (λM' v=>∃ (c0:Lv),v=.tuple #[.agg c0.toArray,bO r.2]∧Rep M' (ao r.1) c0):=by
 unfold kb at hF
 intro M1 hM0 w0 H w p0
 replace hG:=GL.mono hM0 hG
 refine Re 27 Tryz.func122 rfl λa0 f0=>RR (Y13 f0 p0 (.cells #[iB 0,S [],iL 0,S [],S [],Sn] 31 (0,0)) λQ1 W1 N1 _ f=>Ye f 1 λ_ f=>RR (Y f 1 λ_ f=>?_))
 obtain⟨X1,l1,F1⟩:=bS hF
 refine Y19 f N1 (h_Cut_ok n _ hG d0 [46] X1 l1) λW2 N2 _ f=>Ye f 7 λ_ f=>an (RR (Ye f 1 λ_ f=>RcF f F1 (λB1 F2=>?_) λB1 F8=>?_))
 ·refine an ?_
  obtain⟨gN,ec,F3⟩:=bS F2
  refine bD (λa_18 W7=>∃G1:Bool,gN=G1∧∃V1:Mem,M1.le V1∧Frm 27 [(2,pP Q1),(3,bO G1)] a_18∧Hp w0 V1 ((oC Q1 #[iB 4,S [],iL 0,S X1.1,S X1.2.1,Sn] 31)::H) W7) ?_ ?_
  ·refine aA (Y f 4 λ_ f=>?_)
   obtain⟨X2,l2,F4⟩:=bS ec
   refine Y19 f N2 (bZ n _ X1.1 X2 l2) λW3 N3 _ f=>Y f 1 λ_ f=>?_
   rcases cE F4 with⟨B2,F5⟩|⟨B2,F7⟩
   ·have f:=f.st 19 (cB B2)
    refine Y f 1 λ_ f=>?_
    obtain⟨X3,l3,F6⟩:=bS F5
    refine Y19 f N3 (mj n _ hG X1.2.1 X3 l3) λW4 N4 _ f=>Y f 1 λ_ f=>Ys [iB 4,S [],iL 0,S X1.1,S X1.2.1,Sn] #[iB 4,S [],iL 0,S X1.1,S X1.2.1,Sn] f N4 rfl rfl λW5 N5 _ f=>Ye f 1 λ_ f=>?_
    exact⟨(X3),(sI F6).symm,M1,(mR _),f.kp,N5⟩
   ·have f:=f.st 19 (cB B2)
    refine Y f 3 λ_ f=>Ys [iB 4,S [],iL 0,S X1.1,S X1.2.1,Sn] #[iB 4,S [],iL 0,S X1.1,S X1.2.1,Sn] f N3 rfl rfl λW6 N6 _ f=>Ye f 1 λ_ f=>?_
    exact⟨(false),(sI F7).symm,M1,(mR _),f.kp,N6⟩
  ·rintro a_18 W7 ⟨G1,dC,V1,J1,f,N7⟩
   subst gN
   refine aK (wp_ret (bC (mC f rfl (Y11 (cs:=[iB 4,S [],iL 0,S X1.1,S X1.2.1,Sn]) (ad:=⟨Q1,0,none⟩) f (am (N7.ownCell 0 rfl) 0 rfl)) (Y12 (v:=bO G1) f) ?_)))
   cases sI F3
   exact⟨_,rfl,V1,J1,(N7.dropN 1),⟨[iB 4,S [],iL 0,S X1.1,S X1.2.1,Sn],rfl,(TH0.shut Sli.nil)⟩⟩
 ·refine St (RR (Y f 3 λ_ f=>?_))
  obtain⟨X4,l4,F9⟩:=bS F8
  refine Y19 f N2 (bZ n _ X1.1 X4 l4) λW8 N8 _ f=>Ys [iB 3,S [],iL 0,S X1.1,S [],Sn] #[iB 3,S [],iL 0,S X1.1,S [],Sn] f N8 rfl rfl λW9 N9 _ f=>Ye f 1 λ_ f=>wp_ret (mC f rfl (Y11 (cs:=[iB 3,S [],iL 0,S X1.1,S [],Sn]) (ad:=⟨Q1,0,none⟩) f (am (N9.ownCell 0 rfl) 0 rfl)) (Y12 (v:=bO X4) f) ?_)
  cases sI F9
  exact⟨_,rfl,M1,(mR _),(N9.dropN 1),⟨[iB 3,S [],iL 0,S X1.1,S [],Sn],rfl,(TH0.shut Sli.nil)⟩⟩
def cI (n:Nat) (az:Bs):Option Bs:=
 some (([]:Bs))
theorem iw (n:Nat) (M:Mem) (hG:GL M) (b0:Nat) (Z1:Oa) (gE: (Z1=none∨Z1=some ⟨b0,0,none⟩)) (az:Bs) (Z2:Oa) (P1:Nat) (B1:Sli M 1 embB Z2 P1 az) (r:Bs) (hF:cI n az=some r):OkH Tryz.prog M [oC b0 #[.pointer Z1,sL Z2 az P1] 142] 119 [pP b0] (λM' E' v=>∃ (Z4:Oa) (Z5:Oa) (P3:Nat) (L1:Lv),v=.tuple #[]∧E'=[oC b0 #[.pointer Z4,sL Z5 r P3] 142,rO 5 1 Z5 r P3 L1]∧(Z4=none∨Z4=some ⟨b0,0,none⟩)∧ag M' (r.map embB) L1):=by
 unfold cI at hF
 intro M1 hM0 w0 H w p0
 replace hG:=GL.mono hM0 hG
 replace B1:=B1.mono hM0
 refine Re 8 Tryz.func119 rfl λa0 f0=>RR (Y f0 3 λ_ f=>Y26 f p0 0 rfl rfl (b:=b0) (j:=0) (v:=.pointer none) rfl (by exact rfl) (by simp) (by simp) _ rfl λW1 N1 _ f=>eT (aA (Y f 3 λ_ f=>Y26 f N1 0 rfl rfl (b:=b0) (j:=1) (v:=Sn) rfl (by exact rfl) (by simp) (by simp) _ rfl λW2 N2 _ f=>ap rfl ?_)))
 obtain⟨Z3,P2,H1⟩: ∃A cap,Value.slice none 0 0=.slice A ([]:List UInt8).length cap:=⟨none,0,rfl⟩
 have N3:Hp w0 M1 ((Ent.row 5 1 (.slice Z3 ([]:List UInt8).length P2) ([]:List UInt8).length [])::(Ent.obj b0 (.cells #[.pointer none,.slice Z3 ([]:List UInt8).length P2] 142 (0,0)))::H) W2:=by rw[←H1];exact N2.nilRow 5 1
 have D1:ag M1 (([]:Bs).map embB) []:=rfl
 refine dn f rfl ?_
 cases sI hF
 have N4:=N3.pl [1]
 exact⟨_,rfl,M1,_,(mR _),N4,⟨none,Z3,P2,[],rfl,rfl,(.inl rfl),D1⟩⟩
def ik (n:Nat) (az:Bs) (aj:List TH0):Option (Bs×List TH0):=
 (dm n az).bind λX1=>
 bif(decide ((0:Int)<X1.1)) then
  ((((cO n X1.2).bind λX2=>
    aS ((aj.length+1)*88≤140737488355328)<|
    (aQ (aj++[ai]) ((aj.length:Nat):Int)).bind λX3=>
    some ((X2.2,(aj++[ai]).set ((aj.length:Nat):Int).toNat (⟨(0:Int),X2.1,(0:Int),([]:Bs),([]:Bs),([]:List TH0)⟩:TH0))):Option (Bs×List TH0))).bind λG1=>
  (cI n G1.1).bind λX21=>
  some ((X21,G1.2)))
 else
  some ((X1.2,aj))
set_option maxRecDepth 20000 in
theorem lx (n:Nat) (M:Mem) (hG:GL M) (b0:Nat) (Z1:Option Addr) (gE: (Z1=none∨Z1=some ⟨b0,0,none⟩)) (az:List UInt8) (Z2:Option Addr) (P1:Nat) (L1:List Value) (D1:ag M (az.map embB) L1) (b1:Nat) (aj:List TH0) (Z3:Option Addr) (P2:Nat) (L2:List Value) (D2:ag M (aj.map ao) L2) (r:List UInt8×List TH0) (hF:ik n az aj=some r):OkH Tryz.prog M [Ent.obj b0 (.cells #[.pointer Z1,.slice Z2 az.length P1] 142 (0,0)),Ent.row 5 1 (.slice Z2 az.length P1) az.length L1,Ent.obj b1 (.cells #[.slice Z3 aj.length P2] 29 (0,0)),Ent.row 31 6 (.slice Z3 aj.length P2) aj.length L2] 116 [.pointer (some (⟨b0,0,none⟩)),.pointer (some (⟨b1,0,none⟩))] (λM' E' v=>∃ (Z30:Option Addr) (Z31:Option Addr) (P33:Nat) (L32:List Value) (Z32:Option Addr) (P34:Nat) (L33:List Value),v=.tuple #[]∧E'=[Ent.obj b0 (.cells #[.pointer Z30,.slice Z31 r.1.length P33] 142 (0,0)),Ent.row 5 1 (.slice Z31 r.1.length P33) r.1.length L32,Ent.obj b1 (.cells #[.slice Z32 r.2.length P34] 29 (0,0)),Ent.row 31 6 (.slice Z32 r.2.length P34) r.2.length L33]∧(Z30=none∨Z30=some ⟨b0,0,none⟩)∧ag M' (r.1.map embB) L32∧ag M' (r.2.map ao) L33):=by
 unfold ik at hF
 intro M1 hM0 w0 H w p0
 replace hG:=GL.mono hM0 hG
 replace D1:=ag.mono hM0 _ _ D1
 replace D2:=ag.mono hM0 _ _ D2
 refine av 12 Tryz.func116 rfl rfl (by simp) λa0 f0=>RR ?_
 obtain⟨X1,l1,F1⟩:=bS hF
 refine Y18 (E:=[Ent.obj b0 (.cells #[.pointer Z1,.slice Z2 az.length P1] 142 (0,0)),Ent.row 5 1 (.slice Z2 az.length P1) az.length L1]) (H:=((Ent.obj b1 (.cells #[.slice Z3 aj.length P2] 29 (0,0)))::(Ent.row 31 6 (.slice Z3 aj.length P2) aj.length L2)::H)) f0 p0 (jt n _ b0 Z1 gE az Z2 P1 L1 D1 X1 l1) λ_ V1 mo W1 J1 N1 ej _ f=>?_
 obtain⟨Z4,Z5,P3,L3,rfl,rfl,la,D3⟩:=ej
 refine Y f 1 λ_ f=>eT (RcF f F1 (λB1 F2=>?_) λB1 F8=>?_)
 ·have U1:=dI.1 B1
  refine an ?_
  obtain⟨gN,ec,F3⟩:=bS F2
  refine bD (λa_91 W146=>∃G1:List UInt8×List TH0,gN=G1∧∃V8:Mem,V1.le V8∧∃ (Z25:Option Addr),∃ (Z26:Option Addr),∃ (P30:Nat),∃ (Z27:Option Addr),∃ (P31:Nat),∃ (L30:List Value),(Z25=none∨Z25=some ⟨b0,0,none⟩)∧Sli V8 1 embB Z26 P30 G1.1∧ag V8 (G1.2.map ao) L30∧Frm 12 [(0,.pointer (some (⟨b0,0,none⟩)))] a_91∧Hp w0 V8 ((Ent.row 31 6 (.slice Z27 G1.2.length P31) G1.2.length L30)::(Ent.obj b0 (.cells #[.pointer Z25,.slice Z26 G1.1.length P30] 142 (0,0)))::(Ent.obj b1 (.cells #[.slice Z27 G1.2.length P31] 29 (0,0)))::H) W146) ?_ ?_
  ·obtain⟨X2,l2,F4⟩:=bS ec
   obtain⟨O1,F5⟩:=nS F4
   obtain⟨X3,l3,F6⟩:=bS F5
   refine je (ks:=[]) (E:=[Ent.obj b0 (.cells #[.pointer Z4,.slice Z5 X1.2.length P3] 142 (0,0)),Ent.row 5 1 (.slice Z5 X1.2.length P3) X1.2.length L3,Ent.obj b1 (.cells #[.slice Z3 aj.length P2] 29 (0,0)),Ent.row 31 6 (.slice Z3 aj.length P2) aj.length L2]) (Hr:=(H)) (.alt 0 (.quiet 3 (.alt 1 (.quiet 2 (.alt 4 (.alt 5 (.alt 6 (.alt 7 (.alt 8 .done .none) (.alt 8 (.alt 7 .done .none) .none)) (.alt 8 (.alt 6 (.alt 7 .done .none) .none) .none)) .none) .none)) (.alt 4 (.alt 1 (.quiet 2 (.alt 5 (.alt 6 (.alt 7 (.alt 8 .done .none) (.alt 8 (.alt 7 .done .none) .none)) (.alt 8 (.alt 6 (.alt 7 .done .none) .none) .none)) .none)) .none) .none))) (.alt 1 (.quiet 2 (.alt 0 (.quiet 3 (.alt 4 (.alt 5 (.alt 6 (.alt 7 (.alt 8 .done .none) (.alt 8 (.alt 7 .done .none) .none)) (.alt 8 (.alt 6 (.alt 7 .done .none) .none) .none)) .none) .none)) (.alt 4 (.alt 0 (.quiet 3 (.alt 5 (.alt 6 (.alt 7 (.alt 8 .done .none) (.alt 8 (.alt 7 .done .none) .none)) (.alt 8 (.alt 6 (.alt 7 .done .none) .none) .none)) .none)) .none) .none))) (.alt 4 (.alt 0 (.quiet 3 (.alt 1 (.quiet 2 (.alt 5 (.alt 6 (.alt 7 (.alt 8 .done .none) (.alt 8 (.alt 7 .done .none) .none)) (.alt 8 (.alt 6 (.alt 7 .done .none) .none) .none)) .none)) .none)) (.alt 1 (.quiet 2 (.alt 0 (.quiet 3 (.alt 5 (.alt 6 (.alt 7 (.alt 8 .done .none) (.alt 8 (.alt 7 .done .none) .none)) (.alt 8 (.alt 6 (.alt 7 .done .none) .none) .none)) .none)) .none)) .none)) .none))) N1 (by kernel_rfl) (by kernel_rfl) (by kernel_rfl) (aC rfl (λW7 N11=>?_) ?_)
   ·refine Z f (Y31 (v:=.slice Z3 aj.length P2) rfl (ad:=⟨b1,0,none⟩) (N11.ownCell 2 rfl 0)) λ_ f=>ap rfl (aD 4 (mR _) N11 rfl (Y1 (v:=.int .i64 ((aj.length:Nat):Int)) rfl f rfl rfl (λ_ _=>by kernel_rfl) λ_ f=>aC rfl (λW8 N12=>?_) ?_))
    ·refine Y18 (E:=[Ent.obj b0 (.cells #[.pointer Z4,.slice Z5 X1.2.length P3] 142 (0,0)),Ent.row 5 1 (.slice Z5 X1.2.length P3) X1.2.length L3]) (H:=((Ent.obj b1 (.cells #[.slice Z3 aj.length P2] 29 (0,0)))::(Ent.row 31 6 (.slice Z3 aj.length P2) aj.length L2)::H)) f N12 (bM n _ b0 Z4 la X1.2 Z5 P3 L3 D3 X2 l2) λ_ V3 E_3 W9 J3 N13 q_3 _ f=>?_
     obtain⟨Z9,Z10,P7,rfl,rfl,hb_4,B3⟩:=q_3
     refine ap rfl (aD 3 J3 N13 rfl (Y1 (v:=.agg #[.int .i8 0,S X2.1,.int .i64 0,S [],S [],.slice none 0 0]) rfl f rfl rfl (λ_ _=>by kernel_rfl) λ_ f=>aC rfl (λW10 N14=>?_) ?_))
     ·refine aP (k:=1) (c:=1) f N14 (.cells #[.int .i8 0,S [],.int .i64 0,S [],S [],.slice none 0 0] 31 (0,0)) (by kernel_rfl) (λ_=>by kernel_rfl) λQ3 W11 N15 _ f=>ap rfl (aD 4 J3 N15 rfl (aC rfl (λW12 N16=>?_) ?_))
      ·have N17:=N16.pl [3]
       refine Y21 (z:=.agg #[.int .i8 0,S [],.int .i64 0,S [],S [],.slice none 0 0]) (f:=ao) (xs:=aj) (ys:=[ai]) (news:=[.int .i8 0,S [],.int .i64 0,S [],S [],.slice none 0 0]) (ad:=⟨Q3,0,none⟩) (m:=1) (c:=1) f N17 (ag.mono (J1.trans J3) _ _ D2) (by exact⟨_,_,rfl,TH0.shut Sli.nil,rfl⟩) rfl rfl rfl rfl (am (N17.ownCell 1 rfl) 0 rfl) (by exact O1) (by have hg_:=O1;first|omega|(simp only[List.length_cons,List.length_nil] at*;omega)) λZ11 P8 L6 W13 N18 D6 _ f=>?_
       have N19:=N18.pl [1]
       have N20:=N19.drop
       refine ap rfl (aD 3 J3 N20 rfl (aC rfl (λW14 N21=>?_) ?_))
       ·obtain⟨Q4,P9,H2,hcap_2⟩:=N21.rowAddr 0 rfl (bJ l3)
        have f:=f.st 9 (H2)
        refine Z f (Y29 rfl (ad:=⟨Q4,0,none⟩) (len:=(aj++[ai]).length) (cap:=P9) (k:=.i64) (i:=((aj.length:Nat):Int)) (e:=31) (sz:=6) (ax l3) (aw l3)) λ_ f=>?_
        have f:=f.st 9 (H2.symm)
        refine ap rfl (aD 3 J3 N21 rfl (aC rfl (λW15 N22=>?_) ?_))
        ·refine Y25 (it:=((aj.length:Nat):Int)) (d:=aj++[ai]) (f:=ao) (xv:=(⟨(0:Int),X2.1,(0:Int),([]:List UInt8),([]:List UInt8),([]:List TH0)⟩:TH0)) (vs:=[.int .i8 0,S X2.1,.int .i64 0,S [],S [],.slice none 0 0]) f N22 H2 rfl rfl (by exact TH0.shut Sli.nil) bg l3 D6 λL7 W16 N23 D7 _ f=>?_
         have N24:Hp w0 V3 ((Ent.row 31 6 (.slice Z11 ((aj++[ai]).set ((aj.length:Nat):Int).toNat (⟨(0:Int),X2.1,(0:Int),([]:List UInt8),([]:List UInt8),([]:List TH0)⟩:TH0)).length P8) ((aj++[ai]).set ((aj.length:Nat):Int).toNat (⟨(0:Int),X2.1,(0:Int),([]:List UInt8),([]:List UInt8),([]:List TH0)⟩:TH0)).length L7)::(Ent.obj b0 (.cells #[.pointer Z9,.slice Z10 X2.2.length P7] 142 (0,0)))::(Ent.obj b1 (.cells #[.slice Z3 aj.length P2] 29 (0,0)))::H) W16:=N23.rowVal (by simp only[List.length_set])
         have f:=Frm.set f 9 (v:=.slice Z11 (aj++[ai]).length P8) (v':=.slice Z11 ((aj++[ai]).set ((aj.length:Nat):Int).toNat (⟨(0:Int),X2.1,(0:Int),([]:List UInt8),([]:List UInt8),([]:List TH0)⟩:TH0)).length P8) (by kernel_rfl) (by simp only[List.length_set])
         refine ap rfl (aD 3 J3 N24 rfl (aC rfl (λW17 N25=>?_) ?_))
         ·refine Y26 f N25 2 rfl rfl (b:=b1) (j:=0) (v:=.slice Z11 ((aj++[ai]).set ((aj.length:Nat):Int).toNat (⟨(0:Int),X2.1,(0:Int),([]:List UInt8),([]:List UInt8),([]:List TH0)⟩:TH0)).length P8) rfl (by exact rfl) (by simp) (by simp) ((Ent.row 31 6 (.slice Z11 ((aj++[ai]).set ((aj.length:Nat):Int).toNat (⟨(0:Int),X2.1,(0:Int),([]:List UInt8),([]:List UInt8),([]:List TH0)⟩:TH0)).length P8) ((aj++[ai]).set ((aj.length:Nat):Int).toNat (⟨(0:Int),X2.1,(0:Int),([]:List UInt8),([]:List UInt8),([]:List TH0)⟩:TH0)).length L7)::(Ent.obj b0 (.cells #[.pointer Z9,.slice Z10 X2.2.length P7] 142 (0,0)))::(Ent.obj b1 (.cells #[.slice Z11 ((aj++[ai]).set ((aj.length:Nat):Int).toNat (⟨(0:Int),X2.1,(0:Int),([]:List UInt8),([]:List UInt8),([]:List TH0)⟩:TH0)).length P8] 29 (0,0)))::H) rfl λW18 N26 _ f=>ap rfl (aD 3 J3 N26 rfl (ee λW19 N27=>aK ?_))
          exact⟨(X2.2,(aj++[ai]).set ((aj.length:Nat):Int).toNat (⟨(0:Int),X2.1,(0:Int),([]:List UInt8),([]:List UInt8),([]:List TH0)⟩:TH0)),(sI F6).symm,V3,J3,Z9,Z10,P7,Z11,P8,L7,hb_4,B3,D7,f.kp,N27⟩
         exact aB
        refine aC rfl (λW20 N28=>?_) ?_
        ·refine Y26 f N28 2 rfl rfl (b:=b1) (j:=0) (v:=.slice Z11 (aj++[ai]).length P8) rfl (by exact rfl) (by simp) (by simp) ((Ent.row 31 6 (.slice Z11 (aj++[ai]).length P8) (aj++[ai]).length L6)::(Ent.obj b0 (.cells #[.pointer Z9,.slice Z10 X2.2.length P7] 142 (0,0)))::(Ent.obj b1 (.cells #[.slice Z11 (aj++[ai]).length P8] 29 (0,0)))::H) rfl λW21 N29 _ f=>ap rfl (aD 3 J3 N29 rfl (aC rfl (λW22 N30=>?_) ?_))
         ·refine Y25 (it:=((aj.length:Nat):Int)) (d:=aj++[ai]) (f:=ao) (xv:=(⟨(0:Int),X2.1,(0:Int),([]:List UInt8),([]:List UInt8),([]:List TH0)⟩:TH0)) (vs:=[.int .i8 0,S X2.1,.int .i64 0,S [],S [],.slice none 0 0]) f N30 H2 rfl rfl (by exact TH0.shut Sli.nil) bg l3 D6 λL8 W23 N31 D8 _ f=>?_
          have N32:Hp w0 V3 ((Ent.row 31 6 (.slice Z11 ((aj++[ai]).set ((aj.length:Nat):Int).toNat (⟨(0:Int),X2.1,(0:Int),([]:List UInt8),([]:List UInt8),([]:List TH0)⟩:TH0)).length P8) ((aj++[ai]).set ((aj.length:Nat):Int).toNat (⟨(0:Int),X2.1,(0:Int),([]:List UInt8),([]:List UInt8),([]:List TH0)⟩:TH0)).length L8)::(Ent.obj b0 (.cells #[.pointer Z9,.slice Z10 X2.2.length P7] 142 (0,0)))::(Ent.obj b1 (.cells #[.slice Z11 (aj++[ai]).length P8] 29 (0,0)))::H) W23:=N31.rowVal (by simp only[List.length_set])
          have f:=Frm.set f 9 (v:=.slice Z11 (aj++[ai]).length P8) (v':=.slice Z11 ((aj++[ai]).set ((aj.length:Nat):Int).toNat (⟨(0:Int),X2.1,(0:Int),([]:List UInt8),([]:List UInt8),([]:List TH0)⟩:TH0)).length P8) (by kernel_rfl) (by simp only[List.length_set])
          have N33:Hp w0 V3 ((Ent.row 31 6 (.slice Z11 ((aj++[ai]).set ((aj.length:Nat):Int).toNat (⟨(0:Int),X2.1,(0:Int),([]:List UInt8),([]:List UInt8),([]:List TH0)⟩:TH0)).length P8) ((aj++[ai]).set ((aj.length:Nat):Int).toNat (⟨(0:Int),X2.1,(0:Int),([]:List UInt8),([]:List UInt8),([]:List TH0)⟩:TH0)).length L8)::(Ent.obj b0 (.cells #[.pointer Z9,.slice Z10 X2.2.length P7] 142 (0,0)))::(Ent.obj b1 (.cells #[.slice Z11 ((aj++[ai]).set ((aj.length:Nat):Int).toNat (⟨(0:Int),X2.1,(0:Int),([]:List UInt8),([]:List UInt8),([]:List TH0)⟩:TH0)).length P8] 29 (0,0)))::H) W23:=by simp only[List.length_set];rw[List.length_set] at N32;exact N32
          refine ap rfl (aD 3 J3 N33 rfl (ee λW24 N34=>aK ?_))
          exact⟨(X2.2,(aj++[ai]).set ((aj.length:Nat):Int).toNat (⟨(0:Int),X2.1,(0:Int),([]:List UInt8),([]:List UInt8),([]:List TH0)⟩:TH0)),(sI F6).symm,V3,J3,Z9,Z10,P7,Z11,P8,L8,hb_4,B3,D8,f.kp,N34⟩
         exact aB
        exact aB
       refine aC rfl (λW25 N35=>?_) ?_
       ·refine Y26 f N35 2 rfl rfl (b:=b1) (j:=0) (v:=.slice Z11 (aj++[ai]).length P8) rfl (by exact rfl) (by simp) (by simp) ((Ent.row 31 6 (.slice Z11 (aj++[ai]).length P8) (aj++[ai]).length L6)::(Ent.obj b0 (.cells #[.pointer Z9,.slice Z10 X2.2.length P7] 142 (0,0)))::(Ent.obj b1 (.cells #[.slice Z11 (aj++[ai]).length P8] 29 (0,0)))::H) rfl λW26 N36 _ f=>ap rfl (aD 3 J3 N36 rfl (aC rfl (λW27 N37=>?_) ?_))
        ·obtain⟨Q5,P10,H3,hcap_3⟩:=N37.rowAddr 0 rfl (bJ l3)
         have f:=f.st 9 (H3)
         refine Z f (Y29 rfl (ad:=⟨Q5,0,none⟩) (len:=(aj++[ai]).length) (cap:=P10) (k:=.i64) (i:=((aj.length:Nat):Int)) (e:=31) (sz:=6) (ax l3) (aw l3)) λ_ f=>?_
         have f:=f.st 9 (H3.symm)
         refine ap rfl (aD 3 J3 N37 rfl (aC rfl (λW28 N38=>?_) ?_))
         ·refine Y25 (it:=((aj.length:Nat):Int)) (d:=aj++[ai]) (f:=ao) (xv:=(⟨(0:Int),X2.1,(0:Int),([]:List UInt8),([]:List UInt8),([]:List TH0)⟩:TH0)) (vs:=[.int .i8 0,S X2.1,.int .i64 0,S [],S [],.slice none 0 0]) f N38 H3 rfl rfl (by exact TH0.shut Sli.nil) bg l3 D6 λL9 W29 N39 D9 _ f=>?_
          have N40:Hp w0 V3 ((Ent.row 31 6 (.slice Z11 ((aj++[ai]).set ((aj.length:Nat):Int).toNat (⟨(0:Int),X2.1,(0:Int),([]:List UInt8),([]:List UInt8),([]:List TH0)⟩:TH0)).length P8) ((aj++[ai]).set ((aj.length:Nat):Int).toNat (⟨(0:Int),X2.1,(0:Int),([]:List UInt8),([]:List UInt8),([]:List TH0)⟩:TH0)).length L9)::(Ent.obj b0 (.cells #[.pointer Z9,.slice Z10 X2.2.length P7] 142 (0,0)))::(Ent.obj b1 (.cells #[.slice Z11 (aj++[ai]).length P8] 29 (0,0)))::H) W29:=N39.rowVal (by simp only[List.length_set])
          have f:=Frm.set f 9 (v:=.slice Z11 (aj++[ai]).length P8) (v':=.slice Z11 ((aj++[ai]).set ((aj.length:Nat):Int).toNat (⟨(0:Int),X2.1,(0:Int),([]:List UInt8),([]:List UInt8),([]:List TH0)⟩:TH0)).length P8) (by kernel_rfl) (by simp only[List.length_set])
          have N41:Hp w0 V3 ((Ent.row 31 6 (.slice Z11 ((aj++[ai]).set ((aj.length:Nat):Int).toNat (⟨(0:Int),X2.1,(0:Int),([]:List UInt8),([]:List UInt8),([]:List TH0)⟩:TH0)).length P8) ((aj++[ai]).set ((aj.length:Nat):Int).toNat (⟨(0:Int),X2.1,(0:Int),([]:List UInt8),([]:List UInt8),([]:List TH0)⟩:TH0)).length L9)::(Ent.obj b0 (.cells #[.pointer Z9,.slice Z10 X2.2.length P7] 142 (0,0)))::(Ent.obj b1 (.cells #[.slice Z11 ((aj++[ai]).set ((aj.length:Nat):Int).toNat (⟨(0:Int),X2.1,(0:Int),([]:List UInt8),([]:List UInt8),([]:List TH0)⟩:TH0)).length P8] 29 (0,0)))::H) W29:=by simp only[List.length_set];rw[List.length_set] at N40;exact N40
          refine ap rfl (aD 3 J3 N41 rfl (ee λW30 N42=>aK ?_))
          exact⟨(X2.2,(aj++[ai]).set ((aj.length:Nat):Int).toNat (⟨(0:Int),X2.1,(0:Int),([]:List UInt8),([]:List UInt8),([]:List TH0)⟩:TH0)),(sI F6).symm,V3,J3,Z9,Z10,P7,Z11,P8,L9,hb_4,B3,D9,f.kp,N42⟩
         exact aB
        exact aB
       exact aB
      exact aB
     exact aB
    refine aC rfl (λW31 N43=>?_) ?_
    ·refine aP (k:=1) (c:=1) f N43 (.cells #[.int .i8 0,S [],.int .i64 0,S [],S [],.slice none 0 0] 31 (0,0)) (by kernel_rfl) (λ_=>by kernel_rfl) λQ6 W32 N44 _ f=>ap rfl (aD 5 (mR _) N44 rfl (aC rfl (λW33 N45=>?_) ?_))
     ·have N48:=N45.pl [2,2]
      refine Y18 (E:=[Ent.obj b0 (.cells #[.pointer Z4,.slice Z5 X1.2.length P3] 142 (0,0)),Ent.row 5 1 (.slice Z5 X1.2.length P3) X1.2.length L3]) (H:=((Ent.obj Q6 (.cells #[.int .i8 0,S [],.int .i64 0,S [],S [],.slice none 0 0] 31 (0,0)))::(Ent.obj b1 (.cells #[.slice Z3 aj.length P2] 29 (0,0)))::(Ent.row 31 6 (.slice Z3 aj.length P2) aj.length L2)::H)) f N48 (bM n _ b0 Z4 la X1.2 Z5 P3 L3 D3 X2 l2) λ_ V4 E_4 W34 J4 N46 q_4 _ f=>?_
      obtain⟨Z12,Z13,P11,rfl,rfl,hb_5,B4⟩:=q_4
      refine ap rfl (aD 4 J4 N46 rfl (Y1 (v:=.agg #[.int .i8 0,S X2.1,.int .i64 0,S [],S [],.slice none 0 0]) rfl f rfl rfl (λ_ _=>by kernel_rfl) λ_ f=>aC rfl (λW35 N49=>?_) ?_))
      ·have N50:=N49.pl [3]
       refine Y21 (z:=.agg #[.int .i8 0,S [],.int .i64 0,S [],S [],.slice none 0 0]) (f:=ao) (xs:=aj) (ys:=[ai]) (news:=[.int .i8 0,S [],.int .i64 0,S [],S [],.slice none 0 0]) (ad:=⟨Q6,0,none⟩) (m:=1) (c:=1) f N50 (ag.mono (J1.trans J4) _ _ D2) (by exact⟨_,_,rfl,TH0.shut Sli.nil,rfl⟩) rfl rfl rfl rfl (am (N50.ownCell 2 rfl) 0 rfl) (by exact O1) (by have hg_:=O1;first|omega|(simp only[List.length_cons,List.length_nil] at*;omega)) λZ14 P12 L10 W36 N51 D10 _ f=>?_
       have N52:=N51.pl [2]
       have N53:=N52.drop
       refine ap rfl (aD 3 J4 N53 rfl (aC rfl (λW37 N54=>?_) ?_))
       ·obtain⟨Q7,P13,H4,hcap_4⟩:=N54.rowAddr 0 rfl (bJ l3)
        have f:=f.st 9 (H4)
        refine Z f (Y29 rfl (ad:=⟨Q7,0,none⟩) (len:=(aj++[ai]).length) (cap:=P13) (k:=.i64) (i:=((aj.length:Nat):Int)) (e:=31) (sz:=6) (ax l3) (aw l3)) λ_ f=>?_
        have f:=f.st 9 (H4.symm)
        refine ap rfl (aD 3 J4 N54 rfl (aC rfl (λW38 N55=>?_) ?_))
        ·refine Y25 (it:=((aj.length:Nat):Int)) (d:=aj++[ai]) (f:=ao) (xv:=(⟨(0:Int),X2.1,(0:Int),([]:List UInt8),([]:List UInt8),([]:List TH0)⟩:TH0)) (vs:=[.int .i8 0,S X2.1,.int .i64 0,S [],S [],.slice none 0 0]) f N55 H4 rfl rfl (by exact TH0.shut Sli.nil) bg l3 D10 λL11 W39 N56 D11 _ f=>?_
         have N57:Hp w0 V4 ((Ent.row 31 6 (.slice Z14 ((aj++[ai]).set ((aj.length:Nat):Int).toNat (⟨(0:Int),X2.1,(0:Int),([]:List UInt8),([]:List UInt8),([]:List TH0)⟩:TH0)).length P12) ((aj++[ai]).set ((aj.length:Nat):Int).toNat (⟨(0:Int),X2.1,(0:Int),([]:List UInt8),([]:List UInt8),([]:List TH0)⟩:TH0)).length L11)::(Ent.obj b0 (.cells #[.pointer Z12,.slice Z13 X2.2.length P11] 142 (0,0)))::(Ent.obj b1 (.cells #[.slice Z3 aj.length P2] 29 (0,0)))::H) W39:=N56.rowVal (by simp only[List.length_set])
         have f:=Frm.set f 9 (v:=.slice Z14 (aj++[ai]).length P12) (v':=.slice Z14 ((aj++[ai]).set ((aj.length:Nat):Int).toNat (⟨(0:Int),X2.1,(0:Int),([]:List UInt8),([]:List UInt8),([]:List TH0)⟩:TH0)).length P12) (by kernel_rfl) (by simp only[List.length_set])
         refine ap rfl (aD 3 J4 N57 rfl (aC rfl (λW40 N58=>?_) ?_))
         ·refine Y26 f N58 2 rfl rfl (b:=b1) (j:=0) (v:=.slice Z14 ((aj++[ai]).set ((aj.length:Nat):Int).toNat (⟨(0:Int),X2.1,(0:Int),([]:List UInt8),([]:List UInt8),([]:List TH0)⟩:TH0)).length P12) rfl (by exact rfl) (by simp) (by simp) ((Ent.row 31 6 (.slice Z14 ((aj++[ai]).set ((aj.length:Nat):Int).toNat (⟨(0:Int),X2.1,(0:Int),([]:List UInt8),([]:List UInt8),([]:List TH0)⟩:TH0)).length P12) ((aj++[ai]).set ((aj.length:Nat):Int).toNat (⟨(0:Int),X2.1,(0:Int),([]:List UInt8),([]:List UInt8),([]:List TH0)⟩:TH0)).length L11)::(Ent.obj b0 (.cells #[.pointer Z12,.slice Z13 X2.2.length P11] 142 (0,0)))::(Ent.obj b1 (.cells #[.slice Z14 ((aj++[ai]).set ((aj.length:Nat):Int).toNat (⟨(0:Int),X2.1,(0:Int),([]:List UInt8),([]:List UInt8),([]:List TH0)⟩:TH0)).length P12] 29 (0,0)))::H) rfl λW41 N59 _ f=>ap rfl (aD 3 J4 N59 rfl (ee λW42 N60=>aK ?_))
          exact⟨(X2.2,(aj++[ai]).set ((aj.length:Nat):Int).toNat (⟨(0:Int),X2.1,(0:Int),([]:List UInt8),([]:List UInt8),([]:List TH0)⟩:TH0)),(sI F6).symm,V4,J4,Z12,Z13,P11,Z14,P12,L11,hb_5,B4,D11,f.kp,N60⟩
         exact aB
        refine aC rfl (λW43 N61=>?_) ?_
        ·refine Y26 f N61 2 rfl rfl (b:=b1) (j:=0) (v:=.slice Z14 (aj++[ai]).length P12) rfl (by exact rfl) (by simp) (by simp) ((Ent.row 31 6 (.slice Z14 (aj++[ai]).length P12) (aj++[ai]).length L10)::(Ent.obj b0 (.cells #[.pointer Z12,.slice Z13 X2.2.length P11] 142 (0,0)))::(Ent.obj b1 (.cells #[.slice Z14 (aj++[ai]).length P12] 29 (0,0)))::H) rfl λW44 N62 _ f=>ap rfl (aD 3 J4 N62 rfl (aC rfl (λW45 N63=>?_) ?_))
         ·refine Y25 (it:=((aj.length:Nat):Int)) (d:=aj++[ai]) (f:=ao) (xv:=(⟨(0:Int),X2.1,(0:Int),([]:List UInt8),([]:List UInt8),([]:List TH0)⟩:TH0)) (vs:=[.int .i8 0,S X2.1,.int .i64 0,S [],S [],.slice none 0 0]) f N63 H4 rfl rfl (by exact TH0.shut Sli.nil) bg l3 D10 λL12 W46 N64 D12 _ f=>?_
          have N65:Hp w0 V4 ((Ent.row 31 6 (.slice Z14 ((aj++[ai]).set ((aj.length:Nat):Int).toNat (⟨(0:Int),X2.1,(0:Int),([]:List UInt8),([]:List UInt8),([]:List TH0)⟩:TH0)).length P12) ((aj++[ai]).set ((aj.length:Nat):Int).toNat (⟨(0:Int),X2.1,(0:Int),([]:List UInt8),([]:List UInt8),([]:List TH0)⟩:TH0)).length L12)::(Ent.obj b0 (.cells #[.pointer Z12,.slice Z13 X2.2.length P11] 142 (0,0)))::(Ent.obj b1 (.cells #[.slice Z14 (aj++[ai]).length P12] 29 (0,0)))::H) W46:=N64.rowVal (by simp only[List.length_set])
          have f:=Frm.set f 9 (v:=.slice Z14 (aj++[ai]).length P12) (v':=.slice Z14 ((aj++[ai]).set ((aj.length:Nat):Int).toNat (⟨(0:Int),X2.1,(0:Int),([]:List UInt8),([]:List UInt8),([]:List TH0)⟩:TH0)).length P12) (by kernel_rfl) (by simp only[List.length_set])
          have N66:Hp w0 V4 ((Ent.row 31 6 (.slice Z14 ((aj++[ai]).set ((aj.length:Nat):Int).toNat (⟨(0:Int),X2.1,(0:Int),([]:List UInt8),([]:List UInt8),([]:List TH0)⟩:TH0)).length P12) ((aj++[ai]).set ((aj.length:Nat):Int).toNat (⟨(0:Int),X2.1,(0:Int),([]:List UInt8),([]:List UInt8),([]:List TH0)⟩:TH0)).length L12)::(Ent.obj b0 (.cells #[.pointer Z12,.slice Z13 X2.2.length P11] 142 (0,0)))::(Ent.obj b1 (.cells #[.slice Z14 ((aj++[ai]).set ((aj.length:Nat):Int).toNat (⟨(0:Int),X2.1,(0:Int),([]:List UInt8),([]:List UInt8),([]:List TH0)⟩:TH0)).length P12] 29 (0,0)))::H) W46:=by simp only[List.length_set];rw[List.length_set] at N65;exact N65
          refine ap rfl (aD 3 J4 N66 rfl (ee λW47 N67=>aK ?_))
          exact⟨(X2.2,(aj++[ai]).set ((aj.length:Nat):Int).toNat (⟨(0:Int),X2.1,(0:Int),([]:List UInt8),([]:List UInt8),([]:List TH0)⟩:TH0)),(sI F6).symm,V4,J4,Z12,Z13,P11,Z14,P12,L12,hb_5,B4,D12,f.kp,N67⟩
         exact aB
        exact aB
       refine aC rfl (λW48 N68=>?_) ?_
       ·refine Y26 f N68 2 rfl rfl (b:=b1) (j:=0) (v:=.slice Z14 (aj++[ai]).length P12) rfl (by exact rfl) (by simp) (by simp) ((Ent.row 31 6 (.slice Z14 (aj++[ai]).length P12) (aj++[ai]).length L10)::(Ent.obj b0 (.cells #[.pointer Z12,.slice Z13 X2.2.length P11] 142 (0,0)))::(Ent.obj b1 (.cells #[.slice Z14 (aj++[ai]).length P12] 29 (0,0)))::H) rfl λW49 N69 _ f=>ap rfl (aD 3 J4 N69 rfl (aC rfl (λW50 N70=>?_) ?_))
        ·obtain⟨Q8,P14,H5,hcap_5⟩:=N70.rowAddr 0 rfl (bJ l3)
         have f:=f.st 9 (H5)
         refine Z f (Y29 rfl (ad:=⟨Q8,0,none⟩) (len:=(aj++[ai]).length) (cap:=P14) (k:=.i64) (i:=((aj.length:Nat):Int)) (e:=31) (sz:=6) (ax l3) (aw l3)) λ_ f=>?_
         have f:=f.st 9 (H5.symm)
         refine ap rfl (aD 3 J4 N70 rfl (aC rfl (λW51 N71=>?_) ?_))
         ·refine Y25 (it:=((aj.length:Nat):Int)) (d:=aj++[ai]) (f:=ao) (xv:=(⟨(0:Int),X2.1,(0:Int),([]:List UInt8),([]:List UInt8),([]:List TH0)⟩:TH0)) (vs:=[.int .i8 0,S X2.1,.int .i64 0,S [],S [],.slice none 0 0]) f N71 H5 rfl rfl (by exact TH0.shut Sli.nil) bg l3 D10 λL13 W52 N72 D13 _ f=>?_
          have N73:Hp w0 V4 ((Ent.row 31 6 (.slice Z14 ((aj++[ai]).set ((aj.length:Nat):Int).toNat (⟨(0:Int),X2.1,(0:Int),([]:List UInt8),([]:List UInt8),([]:List TH0)⟩:TH0)).length P12) ((aj++[ai]).set ((aj.length:Nat):Int).toNat (⟨(0:Int),X2.1,(0:Int),([]:List UInt8),([]:List UInt8),([]:List TH0)⟩:TH0)).length L13)::(Ent.obj b0 (.cells #[.pointer Z12,.slice Z13 X2.2.length P11] 142 (0,0)))::(Ent.obj b1 (.cells #[.slice Z14 (aj++[ai]).length P12] 29 (0,0)))::H) W52:=N72.rowVal (by simp only[List.length_set])
          have f:=Frm.set f 9 (v:=.slice Z14 (aj++[ai]).length P12) (v':=.slice Z14 ((aj++[ai]).set ((aj.length:Nat):Int).toNat (⟨(0:Int),X2.1,(0:Int),([]:List UInt8),([]:List UInt8),([]:List TH0)⟩:TH0)).length P12) (by kernel_rfl) (by simp only[List.length_set])
          have N74:Hp w0 V4 ((Ent.row 31 6 (.slice Z14 ((aj++[ai]).set ((aj.length:Nat):Int).toNat (⟨(0:Int),X2.1,(0:Int),([]:List UInt8),([]:List UInt8),([]:List TH0)⟩:TH0)).length P12) ((aj++[ai]).set ((aj.length:Nat):Int).toNat (⟨(0:Int),X2.1,(0:Int),([]:List UInt8),([]:List UInt8),([]:List TH0)⟩:TH0)).length L13)::(Ent.obj b0 (.cells #[.pointer Z12,.slice Z13 X2.2.length P11] 142 (0,0)))::(Ent.obj b1 (.cells #[.slice Z14 ((aj++[ai]).set ((aj.length:Nat):Int).toNat (⟨(0:Int),X2.1,(0:Int),([]:List UInt8),([]:List UInt8),([]:List TH0)⟩:TH0)).length P12] 29 (0,0)))::H) W52:=by simp only[List.length_set];rw[List.length_set] at N73;exact N73
          refine ap rfl (aD 3 J4 N74 rfl (ee λW53 N75=>aK ?_))
          exact⟨(X2.2,(aj++[ai]).set ((aj.length:Nat):Int).toNat (⟨(0:Int),X2.1,(0:Int),([]:List UInt8),([]:List UInt8),([]:List TH0)⟩:TH0)),(sI F6).symm,V4,J4,Z12,Z13,P11,Z14,P12,L13,hb_5,B4,D13,f.kp,N75⟩
         exact aB
        exact aB
       exact aB
      exact aB
     exact aB
    exact aB
   refine aC rfl (λW54 N76=>?_) ?_
   ·refine Y18 (E:=[Ent.obj b0 (.cells #[.pointer Z4,.slice Z5 X1.2.length P3] 142 (0,0)),Ent.row 5 1 (.slice Z5 X1.2.length P3) X1.2.length L3]) (H:=((Ent.obj b1 (.cells #[.slice Z3 aj.length P2] 29 (0,0)))::(Ent.row 31 6 (.slice Z3 aj.length P2) aj.length L2)::H)) f N76 (bM n _ b0 Z4 la X1.2 Z5 P3 L3 D3 X2 l2) λ_ V5 E_5 W55 J5 N77 q_5 _ f=>?_
    obtain⟨Z15,Z16,P15,rfl,rfl,hb_6,B5⟩:=q_5
    refine ap rfl (aD 3 J5 N77 rfl (Y1 (v:=.agg #[.int .i8 0,S X2.1,.int .i64 0,S [],S [],.slice none 0 0]) rfl f rfl rfl (λ_ _=>by kernel_rfl) λ_ f=>aC rfl (λW56 N78=>?_) ?_))
    ·refine Z f (Y31 (v:=.slice Z3 aj.length P2) rfl (ad:=⟨b1,0,none⟩) (N78.ownCell 1 rfl 0)) λ_ f=>ap rfl (aD 3 J5 N78 rfl (Y1 (v:=.int .i64 ((aj.length:Nat):Int)) rfl f rfl rfl (λ_ _=>by kernel_rfl) λ_ f=>aC rfl (λW57 N79=>?_) ?_))
     ·refine aP (k:=1) (c:=1) f N79 (.cells #[.int .i8 0,S [],.int .i64 0,S [],S [],.slice none 0 0] 31 (0,0)) (by kernel_rfl) (λ_=>by kernel_rfl) λQ9 W58 N80 _ f=>ap rfl (aD 4 J5 N80 rfl (aC rfl (λW59 N81=>?_) ?_))
      ·have N82:=N81.pl [3]
       refine Y21 (z:=.agg #[.int .i8 0,S [],.int .i64 0,S [],S [],.slice none 0 0]) (f:=ao) (xs:=aj) (ys:=[ai]) (news:=[.int .i8 0,S [],.int .i64 0,S [],S [],.slice none 0 0]) (ad:=⟨Q9,0,none⟩) (m:=1) (c:=1) f N82 (ag.mono (J1.trans J5) _ _ D2) (by exact⟨_,_,rfl,TH0.shut Sli.nil,rfl⟩) rfl rfl rfl rfl (am (N82.ownCell 1 rfl) 0 rfl) (by exact O1) (by have hg_:=O1;first|omega|(simp only[List.length_cons,List.length_nil] at*;omega)) λZ17 P16 L14 W60 N83 D14 _ f=>?_
       have N84:=N83.pl [1]
       have N85:=N84.drop
       refine ap rfl (aD 3 J5 N85 rfl (aC rfl (λW61 N86=>?_) ?_))
       ·obtain⟨Q10,P17,H6,hcap_6⟩:=N86.rowAddr 0 rfl (bJ l3)
        have f:=f.st 9 (H6)
        refine Z f (Y29 rfl (ad:=⟨Q10,0,none⟩) (len:=(aj++[ai]).length) (cap:=P17) (k:=.i64) (i:=((aj.length:Nat):Int)) (e:=31) (sz:=6) (ax l3) (aw l3)) λ_ f=>?_
        have f:=f.st 9 (H6.symm)
        refine ap rfl (aD 3 J5 N86 rfl (aC rfl (λW62 N87=>?_) ?_))
        ·refine Y25 (it:=((aj.length:Nat):Int)) (d:=aj++[ai]) (f:=ao) (xv:=(⟨(0:Int),X2.1,(0:Int),([]:List UInt8),([]:List UInt8),([]:List TH0)⟩:TH0)) (vs:=[.int .i8 0,S X2.1,.int .i64 0,S [],S [],.slice none 0 0]) f N87 H6 rfl rfl (by exact TH0.shut Sli.nil) bg l3 D14 λL15 W63 N88 D15 _ f=>?_
         have N89:Hp w0 V5 ((Ent.row 31 6 (.slice Z17 ((aj++[ai]).set ((aj.length:Nat):Int).toNat (⟨(0:Int),X2.1,(0:Int),([]:List UInt8),([]:List UInt8),([]:List TH0)⟩:TH0)).length P16) ((aj++[ai]).set ((aj.length:Nat):Int).toNat (⟨(0:Int),X2.1,(0:Int),([]:List UInt8),([]:List UInt8),([]:List TH0)⟩:TH0)).length L15)::(Ent.obj b0 (.cells #[.pointer Z15,.slice Z16 X2.2.length P15] 142 (0,0)))::(Ent.obj b1 (.cells #[.slice Z3 aj.length P2] 29 (0,0)))::H) W63:=N88.rowVal (by simp only[List.length_set])
         have f:=Frm.set f 9 (v:=.slice Z17 (aj++[ai]).length P16) (v':=.slice Z17 ((aj++[ai]).set ((aj.length:Nat):Int).toNat (⟨(0:Int),X2.1,(0:Int),([]:List UInt8),([]:List UInt8),([]:List TH0)⟩:TH0)).length P16) (by kernel_rfl) (by simp only[List.length_set])
         refine ap rfl (aD 3 J5 N89 rfl (aC rfl (λW64 N90=>?_) ?_))
         ·refine Y26 f N90 2 rfl rfl (b:=b1) (j:=0) (v:=.slice Z17 ((aj++[ai]).set ((aj.length:Nat):Int).toNat (⟨(0:Int),X2.1,(0:Int),([]:List UInt8),([]:List UInt8),([]:List TH0)⟩:TH0)).length P16) rfl (by exact rfl) (by simp) (by simp) ((Ent.row 31 6 (.slice Z17 ((aj++[ai]).set ((aj.length:Nat):Int).toNat (⟨(0:Int),X2.1,(0:Int),([]:List UInt8),([]:List UInt8),([]:List TH0)⟩:TH0)).length P16) ((aj++[ai]).set ((aj.length:Nat):Int).toNat (⟨(0:Int),X2.1,(0:Int),([]:List UInt8),([]:List UInt8),([]:List TH0)⟩:TH0)).length L15)::(Ent.obj b0 (.cells #[.pointer Z15,.slice Z16 X2.2.length P15] 142 (0,0)))::(Ent.obj b1 (.cells #[.slice Z17 ((aj++[ai]).set ((aj.length:Nat):Int).toNat (⟨(0:Int),X2.1,(0:Int),([]:List UInt8),([]:List UInt8),([]:List TH0)⟩:TH0)).length P16] 29 (0,0)))::H) rfl λW65 N91 _ f=>ap rfl (aD 3 J5 N91 rfl (ee λW66 N92=>aK ?_))
          exact⟨(X2.2,(aj++[ai]).set ((aj.length:Nat):Int).toNat (⟨(0:Int),X2.1,(0:Int),([]:List UInt8),([]:List UInt8),([]:List TH0)⟩:TH0)),(sI F6).symm,V5,J5,Z15,Z16,P15,Z17,P16,L15,hb_6,B5,D15,f.kp,N92⟩
         exact aB
        refine aC rfl (λW67 N93=>?_) ?_
        ·refine Y26 f N93 2 rfl rfl (b:=b1) (j:=0) (v:=.slice Z17 (aj++[ai]).length P16) rfl (by exact rfl) (by simp) (by simp) ((Ent.row 31 6 (.slice Z17 (aj++[ai]).length P16) (aj++[ai]).length L14)::(Ent.obj b0 (.cells #[.pointer Z15,.slice Z16 X2.2.length P15] 142 (0,0)))::(Ent.obj b1 (.cells #[.slice Z17 (aj++[ai]).length P16] 29 (0,0)))::H) rfl λW68 N94 _ f=>ap rfl (aD 3 J5 N94 rfl (aC rfl (λW69 N95=>?_) ?_))
         ·refine Y25 (it:=((aj.length:Nat):Int)) (d:=aj++[ai]) (f:=ao) (xv:=(⟨(0:Int),X2.1,(0:Int),([]:List UInt8),([]:List UInt8),([]:List TH0)⟩:TH0)) (vs:=[.int .i8 0,S X2.1,.int .i64 0,S [],S [],.slice none 0 0]) f N95 H6 rfl rfl (by exact TH0.shut Sli.nil) bg l3 D14 λL16 W70 N96 D16 _ f=>?_
          have N97:Hp w0 V5 ((Ent.row 31 6 (.slice Z17 ((aj++[ai]).set ((aj.length:Nat):Int).toNat (⟨(0:Int),X2.1,(0:Int),([]:List UInt8),([]:List UInt8),([]:List TH0)⟩:TH0)).length P16) ((aj++[ai]).set ((aj.length:Nat):Int).toNat (⟨(0:Int),X2.1,(0:Int),([]:List UInt8),([]:List UInt8),([]:List TH0)⟩:TH0)).length L16)::(Ent.obj b0 (.cells #[.pointer Z15,.slice Z16 X2.2.length P15] 142 (0,0)))::(Ent.obj b1 (.cells #[.slice Z17 (aj++[ai]).length P16] 29 (0,0)))::H) W70:=N96.rowVal (by simp only[List.length_set])
          have f:=Frm.set f 9 (v:=.slice Z17 (aj++[ai]).length P16) (v':=.slice Z17 ((aj++[ai]).set ((aj.length:Nat):Int).toNat (⟨(0:Int),X2.1,(0:Int),([]:List UInt8),([]:List UInt8),([]:List TH0)⟩:TH0)).length P16) (by kernel_rfl) (by simp only[List.length_set])
          have N98:Hp w0 V5 ((Ent.row 31 6 (.slice Z17 ((aj++[ai]).set ((aj.length:Nat):Int).toNat (⟨(0:Int),X2.1,(0:Int),([]:List UInt8),([]:List UInt8),([]:List TH0)⟩:TH0)).length P16) ((aj++[ai]).set ((aj.length:Nat):Int).toNat (⟨(0:Int),X2.1,(0:Int),([]:List UInt8),([]:List UInt8),([]:List TH0)⟩:TH0)).length L16)::(Ent.obj b0 (.cells #[.pointer Z15,.slice Z16 X2.2.length P15] 142 (0,0)))::(Ent.obj b1 (.cells #[.slice Z17 ((aj++[ai]).set ((aj.length:Nat):Int).toNat (⟨(0:Int),X2.1,(0:Int),([]:List UInt8),([]:List UInt8),([]:List TH0)⟩:TH0)).length P16] 29 (0,0)))::H) W70:=by simp only[List.length_set];rw[List.length_set] at N97;exact N97
          refine ap rfl (aD 3 J5 N98 rfl (ee λW71 N99=>aK ?_))
          exact⟨(X2.2,(aj++[ai]).set ((aj.length:Nat):Int).toNat (⟨(0:Int),X2.1,(0:Int),([]:List UInt8),([]:List UInt8),([]:List TH0)⟩:TH0)),(sI F6).symm,V5,J5,Z15,Z16,P15,Z17,P16,L16,hb_6,B5,D16,f.kp,N99⟩
         exact aB
        exact aB
       refine aC rfl (λW72 N100=>?_) ?_
       ·refine Y26 f N100 2 rfl rfl (b:=b1) (j:=0) (v:=.slice Z17 (aj++[ai]).length P16) rfl (by exact rfl) (by simp) (by simp) ((Ent.row 31 6 (.slice Z17 (aj++[ai]).length P16) (aj++[ai]).length L14)::(Ent.obj b0 (.cells #[.pointer Z15,.slice Z16 X2.2.length P15] 142 (0,0)))::(Ent.obj b1 (.cells #[.slice Z17 (aj++[ai]).length P16] 29 (0,0)))::H) rfl λW73 N101 _ f=>ap rfl (aD 3 J5 N101 rfl (aC rfl (λW74 N102=>?_) ?_))
        ·obtain⟨Q11,P18,H7,hcap_7⟩:=N102.rowAddr 0 rfl (bJ l3)
         have f:=f.st 9 (H7)
         refine Z f (Y29 rfl (ad:=⟨Q11,0,none⟩) (len:=(aj++[ai]).length) (cap:=P18) (k:=.i64) (i:=((aj.length:Nat):Int)) (e:=31) (sz:=6) (ax l3) (aw l3)) λ_ f=>?_
         have f:=f.st 9 (H7.symm)
         refine ap rfl (aD 3 J5 N102 rfl (aC rfl (λW75 N103=>?_) ?_))
         ·refine Y25 (it:=((aj.length:Nat):Int)) (d:=aj++[ai]) (f:=ao) (xv:=(⟨(0:Int),X2.1,(0:Int),([]:List UInt8),([]:List UInt8),([]:List TH0)⟩:TH0)) (vs:=[.int .i8 0,S X2.1,.int .i64 0,S [],S [],.slice none 0 0]) f N103 H7 rfl rfl (by exact TH0.shut Sli.nil) bg l3 D14 λL17 W76 N104 D17 _ f=>?_
          have N105:Hp w0 V5 ((Ent.row 31 6 (.slice Z17 ((aj++[ai]).set ((aj.length:Nat):Int).toNat (⟨(0:Int),X2.1,(0:Int),([]:List UInt8),([]:List UInt8),([]:List TH0)⟩:TH0)).length P16) ((aj++[ai]).set ((aj.length:Nat):Int).toNat (⟨(0:Int),X2.1,(0:Int),([]:List UInt8),([]:List UInt8),([]:List TH0)⟩:TH0)).length L17)::(Ent.obj b0 (.cells #[.pointer Z15,.slice Z16 X2.2.length P15] 142 (0,0)))::(Ent.obj b1 (.cells #[.slice Z17 (aj++[ai]).length P16] 29 (0,0)))::H) W76:=N104.rowVal (by simp only[List.length_set])
          have f:=Frm.set f 9 (v:=.slice Z17 (aj++[ai]).length P16) (v':=.slice Z17 ((aj++[ai]).set ((aj.length:Nat):Int).toNat (⟨(0:Int),X2.1,(0:Int),([]:List UInt8),([]:List UInt8),([]:List TH0)⟩:TH0)).length P16) (by kernel_rfl) (by simp only[List.length_set])
          have N106:Hp w0 V5 ((Ent.row 31 6 (.slice Z17 ((aj++[ai]).set ((aj.length:Nat):Int).toNat (⟨(0:Int),X2.1,(0:Int),([]:List UInt8),([]:List UInt8),([]:List TH0)⟩:TH0)).length P16) ((aj++[ai]).set ((aj.length:Nat):Int).toNat (⟨(0:Int),X2.1,(0:Int),([]:List UInt8),([]:List UInt8),([]:List TH0)⟩:TH0)).length L17)::(Ent.obj b0 (.cells #[.pointer Z15,.slice Z16 X2.2.length P15] 142 (0,0)))::(Ent.obj b1 (.cells #[.slice Z17 ((aj++[ai]).set ((aj.length:Nat):Int).toNat (⟨(0:Int),X2.1,(0:Int),([]:List UInt8),([]:List UInt8),([]:List TH0)⟩:TH0)).length P16] 29 (0,0)))::H) W76:=by simp only[List.length_set];rw[List.length_set] at N105;exact N105
          refine ap rfl (aD 3 J5 N106 rfl (ee λW77 N107=>aK ?_))
          exact⟨(X2.2,(aj++[ai]).set ((aj.length:Nat):Int).toNat (⟨(0:Int),X2.1,(0:Int),([]:List UInt8),([]:List UInt8),([]:List TH0)⟩:TH0)),(sI F6).symm,V5,J5,Z15,Z16,P15,Z17,P16,L17,hb_6,B5,D17,f.kp,N107⟩
         exact aB
        exact aB
       exact aB
      exact aB
     exact aB
    refine aC rfl (λW78 N108=>?_) ?_
    ·refine aP (k:=1) (c:=1) f N108 (.cells #[.int .i8 0,S [],.int .i64 0,S [],S [],.slice none 0 0] 31 (0,0)) (by kernel_rfl) (λ_=>by kernel_rfl) λQ12 W79 N109 _ f=>ap rfl (aD 4 J5 N109 rfl (aC rfl (λW80 N110=>?_) ?_))
     ·refine Z f (Y31 (v:=.slice Z3 aj.length P2) rfl (ad:=⟨b1,0,none⟩) (N110.ownCell 2 rfl 0)) λ_ f=>ap rfl (aD 4 J5 N110 rfl (Y1 (v:=.int .i64 ((aj.length:Nat):Int)) rfl f rfl rfl (λ_ _=>by kernel_rfl) λ_ f=>aC rfl (λW81 N111=>?_) ?_))
      ·have N112:=N111.pl [3]
       refine Y21 (z:=.agg #[.int .i8 0,S [],.int .i64 0,S [],S [],.slice none 0 0]) (f:=ao) (xs:=aj) (ys:=[ai]) (news:=[.int .i8 0,S [],.int .i64 0,S [],S [],.slice none 0 0]) (ad:=⟨Q12,0,none⟩) (m:=1) (c:=1) f N112 (ag.mono (J1.trans J5) _ _ D2) (by exact⟨_,_,rfl,TH0.shut Sli.nil,rfl⟩) rfl rfl rfl rfl (am (N112.ownCell 1 rfl) 0 rfl) (by exact O1) (by have hg_:=O1;first|omega|(simp only[List.length_cons,List.length_nil] at*;omega)) λZ18 P19 L18 W82 N113 D18 _ f=>?_
       have N114:=N113.pl [1]
       have N115:=N114.drop
       refine ap rfl (aD 3 J5 N115 rfl (aC rfl (λW83 N116=>?_) ?_))
       ·obtain⟨Q13,P20,H8,hcap_8⟩:=N116.rowAddr 0 rfl (bJ l3)
        have f:=f.st 9 (H8)
        refine Z f (Y29 rfl (ad:=⟨Q13,0,none⟩) (len:=(aj++[ai]).length) (cap:=P20) (k:=.i64) (i:=((aj.length:Nat):Int)) (e:=31) (sz:=6) (ax l3) (aw l3)) λ_ f=>?_
        have f:=f.st 9 (H8.symm)
        refine ap rfl (aD 3 J5 N116 rfl (aC rfl (λW84 N117=>?_) ?_))
        ·refine Y25 (it:=((aj.length:Nat):Int)) (d:=aj++[ai]) (f:=ao) (xv:=(⟨(0:Int),X2.1,(0:Int),([]:List UInt8),([]:List UInt8),([]:List TH0)⟩:TH0)) (vs:=[.int .i8 0,S X2.1,.int .i64 0,S [],S [],.slice none 0 0]) f N117 H8 rfl rfl (by exact TH0.shut Sli.nil) bg l3 D18 λL19 W85 N118 D19 _ f=>?_
         have N119:Hp w0 V5 ((Ent.row 31 6 (.slice Z18 ((aj++[ai]).set ((aj.length:Nat):Int).toNat (⟨(0:Int),X2.1,(0:Int),([]:List UInt8),([]:List UInt8),([]:List TH0)⟩:TH0)).length P19) ((aj++[ai]).set ((aj.length:Nat):Int).toNat (⟨(0:Int),X2.1,(0:Int),([]:List UInt8),([]:List UInt8),([]:List TH0)⟩:TH0)).length L19)::(Ent.obj b0 (.cells #[.pointer Z15,.slice Z16 X2.2.length P15] 142 (0,0)))::(Ent.obj b1 (.cells #[.slice Z3 aj.length P2] 29 (0,0)))::H) W85:=N118.rowVal (by simp only[List.length_set])
         have f:=Frm.set f 9 (v:=.slice Z18 (aj++[ai]).length P19) (v':=.slice Z18 ((aj++[ai]).set ((aj.length:Nat):Int).toNat (⟨(0:Int),X2.1,(0:Int),([]:List UInt8),([]:List UInt8),([]:List TH0)⟩:TH0)).length P19) (by kernel_rfl) (by simp only[List.length_set])
         refine ap rfl (aD 3 J5 N119 rfl (aC rfl (λW86 N120=>?_) ?_))
         ·refine Y26 f N120 2 rfl rfl (b:=b1) (j:=0) (v:=.slice Z18 ((aj++[ai]).set ((aj.length:Nat):Int).toNat (⟨(0:Int),X2.1,(0:Int),([]:List UInt8),([]:List UInt8),([]:List TH0)⟩:TH0)).length P19) rfl (by exact rfl) (by simp) (by simp) ((Ent.row 31 6 (.slice Z18 ((aj++[ai]).set ((aj.length:Nat):Int).toNat (⟨(0:Int),X2.1,(0:Int),([]:List UInt8),([]:List UInt8),([]:List TH0)⟩:TH0)).length P19) ((aj++[ai]).set ((aj.length:Nat):Int).toNat (⟨(0:Int),X2.1,(0:Int),([]:List UInt8),([]:List UInt8),([]:List TH0)⟩:TH0)).length L19)::(Ent.obj b0 (.cells #[.pointer Z15,.slice Z16 X2.2.length P15] 142 (0,0)))::(Ent.obj b1 (.cells #[.slice Z18 ((aj++[ai]).set ((aj.length:Nat):Int).toNat (⟨(0:Int),X2.1,(0:Int),([]:List UInt8),([]:List UInt8),([]:List TH0)⟩:TH0)).length P19] 29 (0,0)))::H) rfl λW87 N121 _ f=>ap rfl (aD 3 J5 N121 rfl (ee λW88 N122=>aK ?_))
          exact⟨(X2.2,(aj++[ai]).set ((aj.length:Nat):Int).toNat (⟨(0:Int),X2.1,(0:Int),([]:List UInt8),([]:List UInt8),([]:List TH0)⟩:TH0)),(sI F6).symm,V5,J5,Z15,Z16,P15,Z18,P19,L19,hb_6,B5,D19,f.kp,N122⟩
         exact aB
        refine aC rfl (λW89 N123=>?_) ?_
        ·refine Y26 f N123 2 rfl rfl (b:=b1) (j:=0) (v:=.slice Z18 (aj++[ai]).length P19) rfl (by exact rfl) (by simp) (by simp) ((Ent.row 31 6 (.slice Z18 (aj++[ai]).length P19) (aj++[ai]).length L18)::(Ent.obj b0 (.cells #[.pointer Z15,.slice Z16 X2.2.length P15] 142 (0,0)))::(Ent.obj b1 (.cells #[.slice Z18 (aj++[ai]).length P19] 29 (0,0)))::H) rfl λW90 N124 _ f=>ap rfl (aD 3 J5 N124 rfl (aC rfl (λW91 N125=>?_) ?_))
         ·refine Y25 (it:=((aj.length:Nat):Int)) (d:=aj++[ai]) (f:=ao) (xv:=(⟨(0:Int),X2.1,(0:Int),([]:List UInt8),([]:List UInt8),([]:List TH0)⟩:TH0)) (vs:=[.int .i8 0,S X2.1,.int .i64 0,S [],S [],.slice none 0 0]) f N125 H8 rfl rfl (by exact TH0.shut Sli.nil) bg l3 D18 λL20 W92 N126 D20 _ f=>?_
          have N127:Hp w0 V5 ((Ent.row 31 6 (.slice Z18 ((aj++[ai]).set ((aj.length:Nat):Int).toNat (⟨(0:Int),X2.1,(0:Int),([]:List UInt8),([]:List UInt8),([]:List TH0)⟩:TH0)).length P19) ((aj++[ai]).set ((aj.length:Nat):Int).toNat (⟨(0:Int),X2.1,(0:Int),([]:List UInt8),([]:List UInt8),([]:List TH0)⟩:TH0)).length L20)::(Ent.obj b0 (.cells #[.pointer Z15,.slice Z16 X2.2.length P15] 142 (0,0)))::(Ent.obj b1 (.cells #[.slice Z18 (aj++[ai]).length P19] 29 (0,0)))::H) W92:=N126.rowVal (by simp only[List.length_set])
          have f:=Frm.set f 9 (v:=.slice Z18 (aj++[ai]).length P19) (v':=.slice Z18 ((aj++[ai]).set ((aj.length:Nat):Int).toNat (⟨(0:Int),X2.1,(0:Int),([]:List UInt8),([]:List UInt8),([]:List TH0)⟩:TH0)).length P19) (by kernel_rfl) (by simp only[List.length_set])
          have N128:Hp w0 V5 ((Ent.row 31 6 (.slice Z18 ((aj++[ai]).set ((aj.length:Nat):Int).toNat (⟨(0:Int),X2.1,(0:Int),([]:List UInt8),([]:List UInt8),([]:List TH0)⟩:TH0)).length P19) ((aj++[ai]).set ((aj.length:Nat):Int).toNat (⟨(0:Int),X2.1,(0:Int),([]:List UInt8),([]:List UInt8),([]:List TH0)⟩:TH0)).length L20)::(Ent.obj b0 (.cells #[.pointer Z15,.slice Z16 X2.2.length P15] 142 (0,0)))::(Ent.obj b1 (.cells #[.slice Z18 ((aj++[ai]).set ((aj.length:Nat):Int).toNat (⟨(0:Int),X2.1,(0:Int),([]:List UInt8),([]:List UInt8),([]:List TH0)⟩:TH0)).length P19] 29 (0,0)))::H) W92:=by simp only[List.length_set];rw[List.length_set] at N127;exact N127
          refine ap rfl (aD 3 J5 N128 rfl (ee λW93 N129=>aK ?_))
          exact⟨(X2.2,(aj++[ai]).set ((aj.length:Nat):Int).toNat (⟨(0:Int),X2.1,(0:Int),([]:List UInt8),([]:List UInt8),([]:List TH0)⟩:TH0)),(sI F6).symm,V5,J5,Z15,Z16,P15,Z18,P19,L20,hb_6,B5,D20,f.kp,N129⟩
         exact aB
        exact aB
       refine aC rfl (λW94 N130=>?_) ?_
       ·refine Y26 f N130 2 rfl rfl (b:=b1) (j:=0) (v:=.slice Z18 (aj++[ai]).length P19) rfl (by exact rfl) (by simp) (by simp) ((Ent.row 31 6 (.slice Z18 (aj++[ai]).length P19) (aj++[ai]).length L18)::(Ent.obj b0 (.cells #[.pointer Z15,.slice Z16 X2.2.length P15] 142 (0,0)))::(Ent.obj b1 (.cells #[.slice Z18 (aj++[ai]).length P19] 29 (0,0)))::H) rfl λW95 N131 _ f=>ap rfl (aD 3 J5 N131 rfl (aC rfl (λW96 N132=>?_) ?_))
        ·obtain⟨Q14,P21,H9,hcap_9⟩:=N132.rowAddr 0 rfl (bJ l3)
         have f:=f.st 9 (H9)
         refine Z f (Y29 rfl (ad:=⟨Q14,0,none⟩) (len:=(aj++[ai]).length) (cap:=P21) (k:=.i64) (i:=((aj.length:Nat):Int)) (e:=31) (sz:=6) (ax l3) (aw l3)) λ_ f=>?_
         have f:=f.st 9 (H9.symm)
         refine ap rfl (aD 3 J5 N132 rfl (aC rfl (λW97 N133=>?_) ?_))
         ·refine Y25 (it:=((aj.length:Nat):Int)) (d:=aj++[ai]) (f:=ao) (xv:=(⟨(0:Int),X2.1,(0:Int),([]:List UInt8),([]:List UInt8),([]:List TH0)⟩:TH0)) (vs:=[.int .i8 0,S X2.1,.int .i64 0,S [],S [],.slice none 0 0]) f N133 H9 rfl rfl (by exact TH0.shut Sli.nil) bg l3 D18 λL21 W98 N134 D21 _ f=>?_
          have N135:Hp w0 V5 ((Ent.row 31 6 (.slice Z18 ((aj++[ai]).set ((aj.length:Nat):Int).toNat (⟨(0:Int),X2.1,(0:Int),([]:List UInt8),([]:List UInt8),([]:List TH0)⟩:TH0)).length P19) ((aj++[ai]).set ((aj.length:Nat):Int).toNat (⟨(0:Int),X2.1,(0:Int),([]:List UInt8),([]:List UInt8),([]:List TH0)⟩:TH0)).length L21)::(Ent.obj b0 (.cells #[.pointer Z15,.slice Z16 X2.2.length P15] 142 (0,0)))::(Ent.obj b1 (.cells #[.slice Z18 (aj++[ai]).length P19] 29 (0,0)))::H) W98:=N134.rowVal (by simp only[List.length_set])
          have f:=Frm.set f 9 (v:=.slice Z18 (aj++[ai]).length P19) (v':=.slice Z18 ((aj++[ai]).set ((aj.length:Nat):Int).toNat (⟨(0:Int),X2.1,(0:Int),([]:List UInt8),([]:List UInt8),([]:List TH0)⟩:TH0)).length P19) (by kernel_rfl) (by simp only[List.length_set])
          have N136:Hp w0 V5 ((Ent.row 31 6 (.slice Z18 ((aj++[ai]).set ((aj.length:Nat):Int).toNat (⟨(0:Int),X2.1,(0:Int),([]:List UInt8),([]:List UInt8),([]:List TH0)⟩:TH0)).length P19) ((aj++[ai]).set ((aj.length:Nat):Int).toNat (⟨(0:Int),X2.1,(0:Int),([]:List UInt8),([]:List UInt8),([]:List TH0)⟩:TH0)).length L21)::(Ent.obj b0 (.cells #[.pointer Z15,.slice Z16 X2.2.length P15] 142 (0,0)))::(Ent.obj b1 (.cells #[.slice Z18 ((aj++[ai]).set ((aj.length:Nat):Int).toNat (⟨(0:Int),X2.1,(0:Int),([]:List UInt8),([]:List UInt8),([]:List TH0)⟩:TH0)).length P19] 29 (0,0)))::H) W98:=by simp only[List.length_set];rw[List.length_set] at N135;exact N135
          refine ap rfl (aD 3 J5 N136 rfl (ee λW99 N137=>aK ?_))
          exact⟨(X2.2,(aj++[ai]).set ((aj.length:Nat):Int).toNat (⟨(0:Int),X2.1,(0:Int),([]:List UInt8),([]:List UInt8),([]:List TH0)⟩:TH0)),(sI F6).symm,V5,J5,Z15,Z16,P15,Z18,P19,L21,hb_6,B5,D21,f.kp,N137⟩
         exact aB
        exact aB
       exact aB
      exact aB
     exact aB
    exact aB
   refine aC rfl (λW100 N138=>?_) ?_
   ·refine aP (k:=1) (c:=1) f N138 (.cells #[.int .i8 0,S [],.int .i64 0,S [],S [],.slice none 0 0] 31 (0,0)) (by kernel_rfl) (λ_=>by kernel_rfl) λQ15 W101 N139 _ f=>ap rfl (aD 5 (mR _) N139 rfl (aC rfl (λW102 N140=>?_) ?_))
    ·refine Z f (Y31 (v:=.slice Z3 aj.length P2) rfl (ad:=⟨b1,0,none⟩) (N140.ownCell 3 rfl 0)) λ_ f=>ap rfl (aD 5 (mR _) N140 rfl (Y1 (v:=.int .i64 ((aj.length:Nat):Int)) rfl f rfl rfl (λ_ _=>by kernel_rfl) λ_ f=>aC rfl (λW103 N141=>?_) ?_))
     ·have N144:=N141.pl [2,2]
      refine Y18 (E:=[Ent.obj b0 (.cells #[.pointer Z4,.slice Z5 X1.2.length P3] 142 (0,0)),Ent.row 5 1 (.slice Z5 X1.2.length P3) X1.2.length L3]) (H:=((Ent.obj Q15 (.cells #[.int .i8 0,S [],.int .i64 0,S [],S [],.slice none 0 0] 31 (0,0)))::(Ent.obj b1 (.cells #[.slice Z3 aj.length P2] 29 (0,0)))::(Ent.row 31 6 (.slice Z3 aj.length P2) aj.length L2)::H)) f N144 (bM n _ b0 Z4 la X1.2 Z5 P3 L3 D3 X2 l2) λ_ V6 E_6 W104 J6 N142 q_6 _ f=>?_
      obtain⟨Z19,Z20,P22,rfl,rfl,hb_7,B6⟩:=q_6
      refine ap rfl (aD 4 J6 N142 rfl (Y1 (v:=.agg #[.int .i8 0,S X2.1,.int .i64 0,S [],S [],.slice none 0 0]) rfl f rfl rfl (λ_ _=>by kernel_rfl) λ_ f=>aC rfl (λW105 N145=>?_) ?_))
      ·have N146:=N145.pl [3]
       refine Y21 (z:=.agg #[.int .i8 0,S [],.int .i64 0,S [],S [],.slice none 0 0]) (f:=ao) (xs:=aj) (ys:=[ai]) (news:=[.int .i8 0,S [],.int .i64 0,S [],S [],.slice none 0 0]) (ad:=⟨Q15,0,none⟩) (m:=1) (c:=1) f N146 (ag.mono (J1.trans J6) _ _ D2) (by exact⟨_,_,rfl,TH0.shut Sli.nil,rfl⟩) rfl rfl rfl rfl (am (N146.ownCell 2 rfl) 0 rfl) (by exact O1) (by have hg_:=O1;first|omega|(simp only[List.length_cons,List.length_nil] at*;omega)) λZ21 P23 L22 W106 N147 D22 _ f=>?_
       have N148:=N147.pl [2]
       have N149:=N148.drop
       refine ap rfl (aD 3 J6 N149 rfl (aC rfl (λW107 N150=>?_) ?_))
       ·obtain⟨Q16,P24,H10,hcap_10⟩:=N150.rowAddr 0 rfl (bJ l3)
        have f:=f.st 9 (H10)
        refine Z f (Y29 rfl (ad:=⟨Q16,0,none⟩) (len:=(aj++[ai]).length) (cap:=P24) (k:=.i64) (i:=((aj.length:Nat):Int)) (e:=31) (sz:=6) (ax l3) (aw l3)) λ_ f=>?_
        have f:=f.st 9 (H10.symm)
        refine ap rfl (aD 3 J6 N150 rfl (aC rfl (λW108 N151=>?_) ?_))
        ·refine Y25 (it:=((aj.length:Nat):Int)) (d:=aj++[ai]) (f:=ao) (xv:=(⟨(0:Int),X2.1,(0:Int),([]:List UInt8),([]:List UInt8),([]:List TH0)⟩:TH0)) (vs:=[.int .i8 0,S X2.1,.int .i64 0,S [],S [],.slice none 0 0]) f N151 H10 rfl rfl (by exact TH0.shut Sli.nil) bg l3 D22 λL23 W109 N152 D23 _ f=>?_
         have N153:Hp w0 V6 ((Ent.row 31 6 (.slice Z21 ((aj++[ai]).set ((aj.length:Nat):Int).toNat (⟨(0:Int),X2.1,(0:Int),([]:List UInt8),([]:List UInt8),([]:List TH0)⟩:TH0)).length P23) ((aj++[ai]).set ((aj.length:Nat):Int).toNat (⟨(0:Int),X2.1,(0:Int),([]:List UInt8),([]:List UInt8),([]:List TH0)⟩:TH0)).length L23)::(Ent.obj b0 (.cells #[.pointer Z19,.slice Z20 X2.2.length P22] 142 (0,0)))::(Ent.obj b1 (.cells #[.slice Z3 aj.length P2] 29 (0,0)))::H) W109:=N152.rowVal (by simp only[List.length_set])
         have f:=Frm.set f 9 (v:=.slice Z21 (aj++[ai]).length P23) (v':=.slice Z21 ((aj++[ai]).set ((aj.length:Nat):Int).toNat (⟨(0:Int),X2.1,(0:Int),([]:List UInt8),([]:List UInt8),([]:List TH0)⟩:TH0)).length P23) (by kernel_rfl) (by simp only[List.length_set])
         refine ap rfl (aD 3 J6 N153 rfl (aC rfl (λW110 N154=>?_) ?_))
         ·refine Y26 f N154 2 rfl rfl (b:=b1) (j:=0) (v:=.slice Z21 ((aj++[ai]).set ((aj.length:Nat):Int).toNat (⟨(0:Int),X2.1,(0:Int),([]:List UInt8),([]:List UInt8),([]:List TH0)⟩:TH0)).length P23) rfl (by exact rfl) (by simp) (by simp) ((Ent.row 31 6 (.slice Z21 ((aj++[ai]).set ((aj.length:Nat):Int).toNat (⟨(0:Int),X2.1,(0:Int),([]:List UInt8),([]:List UInt8),([]:List TH0)⟩:TH0)).length P23) ((aj++[ai]).set ((aj.length:Nat):Int).toNat (⟨(0:Int),X2.1,(0:Int),([]:List UInt8),([]:List UInt8),([]:List TH0)⟩:TH0)).length L23)::(Ent.obj b0 (.cells #[.pointer Z19,.slice Z20 X2.2.length P22] 142 (0,0)))::(Ent.obj b1 (.cells #[.slice Z21 ((aj++[ai]).set ((aj.length:Nat):Int).toNat (⟨(0:Int),X2.1,(0:Int),([]:List UInt8),([]:List UInt8),([]:List TH0)⟩:TH0)).length P23] 29 (0,0)))::H) rfl λW111 N155 _ f=>ap rfl (aD 3 J6 N155 rfl (ee λW112 N156=>aK ?_))
          exact⟨(X2.2,(aj++[ai]).set ((aj.length:Nat):Int).toNat (⟨(0:Int),X2.1,(0:Int),([]:List UInt8),([]:List UInt8),([]:List TH0)⟩:TH0)),(sI F6).symm,V6,J6,Z19,Z20,P22,Z21,P23,L23,hb_7,B6,D23,f.kp,N156⟩
         exact aB
        refine aC rfl (λW113 N157=>?_) ?_
        ·refine Y26 f N157 2 rfl rfl (b:=b1) (j:=0) (v:=.slice Z21 (aj++[ai]).length P23) rfl (by exact rfl) (by simp) (by simp) ((Ent.row 31 6 (.slice Z21 (aj++[ai]).length P23) (aj++[ai]).length L22)::(Ent.obj b0 (.cells #[.pointer Z19,.slice Z20 X2.2.length P22] 142 (0,0)))::(Ent.obj b1 (.cells #[.slice Z21 (aj++[ai]).length P23] 29 (0,0)))::H) rfl λW114 N158 _ f=>ap rfl (aD 3 J6 N158 rfl (aC rfl (λW115 N159=>?_) ?_))
         ·refine Y25 (it:=((aj.length:Nat):Int)) (d:=aj++[ai]) (f:=ao) (xv:=(⟨(0:Int),X2.1,(0:Int),([]:List UInt8),([]:List UInt8),([]:List TH0)⟩:TH0)) (vs:=[.int .i8 0,S X2.1,.int .i64 0,S [],S [],.slice none 0 0]) f N159 H10 rfl rfl (by exact TH0.shut Sli.nil) bg l3 D22 λL24 W116 N160 D24 _ f=>?_
          have N161:Hp w0 V6 ((Ent.row 31 6 (.slice Z21 ((aj++[ai]).set ((aj.length:Nat):Int).toNat (⟨(0:Int),X2.1,(0:Int),([]:List UInt8),([]:List UInt8),([]:List TH0)⟩:TH0)).length P23) ((aj++[ai]).set ((aj.length:Nat):Int).toNat (⟨(0:Int),X2.1,(0:Int),([]:List UInt8),([]:List UInt8),([]:List TH0)⟩:TH0)).length L24)::(Ent.obj b0 (.cells #[.pointer Z19,.slice Z20 X2.2.length P22] 142 (0,0)))::(Ent.obj b1 (.cells #[.slice Z21 (aj++[ai]).length P23] 29 (0,0)))::H) W116:=N160.rowVal (by simp only[List.length_set])
          have f:=Frm.set f 9 (v:=.slice Z21 (aj++[ai]).length P23) (v':=.slice Z21 ((aj++[ai]).set ((aj.length:Nat):Int).toNat (⟨(0:Int),X2.1,(0:Int),([]:List UInt8),([]:List UInt8),([]:List TH0)⟩:TH0)).length P23) (by kernel_rfl) (by simp only[List.length_set])
          have N162:Hp w0 V6 ((Ent.row 31 6 (.slice Z21 ((aj++[ai]).set ((aj.length:Nat):Int).toNat (⟨(0:Int),X2.1,(0:Int),([]:List UInt8),([]:List UInt8),([]:List TH0)⟩:TH0)).length P23) ((aj++[ai]).set ((aj.length:Nat):Int).toNat (⟨(0:Int),X2.1,(0:Int),([]:List UInt8),([]:List UInt8),([]:List TH0)⟩:TH0)).length L24)::(Ent.obj b0 (.cells #[.pointer Z19,.slice Z20 X2.2.length P22] 142 (0,0)))::(Ent.obj b1 (.cells #[.slice Z21 ((aj++[ai]).set ((aj.length:Nat):Int).toNat (⟨(0:Int),X2.1,(0:Int),([]:List UInt8),([]:List UInt8),([]:List TH0)⟩:TH0)).length P23] 29 (0,0)))::H) W116:=by simp only[List.length_set];rw[List.length_set] at N161;exact N161
          refine ap rfl (aD 3 J6 N162 rfl (ee λW117 N163=>aK ?_))
          exact⟨(X2.2,(aj++[ai]).set ((aj.length:Nat):Int).toNat (⟨(0:Int),X2.1,(0:Int),([]:List UInt8),([]:List UInt8),([]:List TH0)⟩:TH0)),(sI F6).symm,V6,J6,Z19,Z20,P22,Z21,P23,L24,hb_7,B6,D24,f.kp,N163⟩
         exact aB
        exact aB
       refine aC rfl (λW118 N164=>?_) ?_
       ·refine Y26 f N164 2 rfl rfl (b:=b1) (j:=0) (v:=.slice Z21 (aj++[ai]).length P23) rfl (by exact rfl) (by simp) (by simp) ((Ent.row 31 6 (.slice Z21 (aj++[ai]).length P23) (aj++[ai]).length L22)::(Ent.obj b0 (.cells #[.pointer Z19,.slice Z20 X2.2.length P22] 142 (0,0)))::(Ent.obj b1 (.cells #[.slice Z21 (aj++[ai]).length P23] 29 (0,0)))::H) rfl λW119 N165 _ f=>ap rfl (aD 3 J6 N165 rfl (aC rfl (λW120 N166=>?_) ?_))
        ·obtain⟨Q17,P25,H11,hcap_11⟩:=N166.rowAddr 0 rfl (bJ l3)
         have f:=f.st 9 (H11)
         refine Z f (Y29 rfl (ad:=⟨Q17,0,none⟩) (len:=(aj++[ai]).length) (cap:=P25) (k:=.i64) (i:=((aj.length:Nat):Int)) (e:=31) (sz:=6) (ax l3) (aw l3)) λ_ f=>?_
         have f:=f.st 9 (H11.symm)
         refine ap rfl (aD 3 J6 N166 rfl (aC rfl (λW121 N167=>?_) ?_))
         ·refine Y25 (it:=((aj.length:Nat):Int)) (d:=aj++[ai]) (f:=ao) (xv:=(⟨(0:Int),X2.1,(0:Int),([]:List UInt8),([]:List UInt8),([]:List TH0)⟩:TH0)) (vs:=[.int .i8 0,S X2.1,.int .i64 0,S [],S [],.slice none 0 0]) f N167 H11 rfl rfl (by exact TH0.shut Sli.nil) bg l3 D22 λL25 W122 N168 D25 _ f=>?_
          have N169:Hp w0 V6 ((Ent.row 31 6 (.slice Z21 ((aj++[ai]).set ((aj.length:Nat):Int).toNat (⟨(0:Int),X2.1,(0:Int),([]:List UInt8),([]:List UInt8),([]:List TH0)⟩:TH0)).length P23) ((aj++[ai]).set ((aj.length:Nat):Int).toNat (⟨(0:Int),X2.1,(0:Int),([]:List UInt8),([]:List UInt8),([]:List TH0)⟩:TH0)).length L25)::(Ent.obj b0 (.cells #[.pointer Z19,.slice Z20 X2.2.length P22] 142 (0,0)))::(Ent.obj b1 (.cells #[.slice Z21 (aj++[ai]).length P23] 29 (0,0)))::H) W122:=N168.rowVal (by simp only[List.length_set])
          have f:=Frm.set f 9 (v:=.slice Z21 (aj++[ai]).length P23) (v':=.slice Z21 ((aj++[ai]).set ((aj.length:Nat):Int).toNat (⟨(0:Int),X2.1,(0:Int),([]:List UInt8),([]:List UInt8),([]:List TH0)⟩:TH0)).length P23) (by kernel_rfl) (by simp only[List.length_set])
          have N170:Hp w0 V6 ((Ent.row 31 6 (.slice Z21 ((aj++[ai]).set ((aj.length:Nat):Int).toNat (⟨(0:Int),X2.1,(0:Int),([]:List UInt8),([]:List UInt8),([]:List TH0)⟩:TH0)).length P23) ((aj++[ai]).set ((aj.length:Nat):Int).toNat (⟨(0:Int),X2.1,(0:Int),([]:List UInt8),([]:List UInt8),([]:List TH0)⟩:TH0)).length L25)::(Ent.obj b0 (.cells #[.pointer Z19,.slice Z20 X2.2.length P22] 142 (0,0)))::(Ent.obj b1 (.cells #[.slice Z21 ((aj++[ai]).set ((aj.length:Nat):Int).toNat (⟨(0:Int),X2.1,(0:Int),([]:List UInt8),([]:List UInt8),([]:List TH0)⟩:TH0)).length P23] 29 (0,0)))::H) W122:=by simp only[List.length_set];rw[List.length_set] at N169;exact N169
          refine ap rfl (aD 3 J6 N170 rfl (ee λW123 N171=>aK ?_))
          exact⟨(X2.2,(aj++[ai]).set ((aj.length:Nat):Int).toNat (⟨(0:Int),X2.1,(0:Int),([]:List UInt8),([]:List UInt8),([]:List TH0)⟩:TH0)),(sI F6).symm,V6,J6,Z19,Z20,P22,Z21,P23,L25,hb_7,B6,D25,f.kp,N171⟩
         exact aB
        exact aB
       exact aB
      exact aB
     exact aB
    refine aC rfl (λW124 N172=>?_) ?_
    ·have N175:=N172.pl [2,2]
     refine Y18 (E:=[Ent.obj b0 (.cells #[.pointer Z4,.slice Z5 X1.2.length P3] 142 (0,0)),Ent.row 5 1 (.slice Z5 X1.2.length P3) X1.2.length L3]) (H:=((Ent.obj Q15 (.cells #[.int .i8 0,S [],.int .i64 0,S [],S [],.slice none 0 0] 31 (0,0)))::(Ent.obj b1 (.cells #[.slice Z3 aj.length P2] 29 (0,0)))::(Ent.row 31 6 (.slice Z3 aj.length P2) aj.length L2)::H)) f N175 (bM n _ b0 Z4 la X1.2 Z5 P3 L3 D3 X2 l2) λ_ V7 E_7 W125 J7 N173 q_7 _ f=>?_
     obtain⟨Z22,Z23,P26,rfl,rfl,hb_8,B7⟩:=q_7
     refine ap rfl (aD 4 J7 N173 rfl (Y1 (v:=.agg #[.int .i8 0,S X2.1,.int .i64 0,S [],S [],.slice none 0 0]) rfl f rfl rfl (λ_ _=>by kernel_rfl) λ_ f=>aC rfl (λW126 N176=>?_) ?_))
     ·refine Z f (Y31 (v:=.slice Z3 aj.length P2) rfl (ad:=⟨b1,0,none⟩) (N176.ownCell 2 rfl 0)) λ_ f=>ap rfl (aD 4 J7 N176 rfl (Y1 (v:=.int .i64 ((aj.length:Nat):Int)) rfl f rfl rfl (λ_ _=>by kernel_rfl) λ_ f=>aC rfl (λW127 N177=>?_) ?_))
      ·have N178:=N177.pl [3]
       refine Y21 (z:=.agg #[.int .i8 0,S [],.int .i64 0,S [],S [],.slice none 0 0]) (f:=ao) (xs:=aj) (ys:=[ai]) (news:=[.int .i8 0,S [],.int .i64 0,S [],S [],.slice none 0 0]) (ad:=⟨Q15,0,none⟩) (m:=1) (c:=1) f N178 (ag.mono (J1.trans J7) _ _ D2) (by exact⟨_,_,rfl,TH0.shut Sli.nil,rfl⟩) rfl rfl rfl rfl (am (N178.ownCell 2 rfl) 0 rfl) (by exact O1) (by have hg_:=O1;first|omega|(simp only[List.length_cons,List.length_nil] at*;omega)) λZ24 P27 L26 W128 N179 D26 _ f=>?_
       have N180:=N179.pl [2]
       have N181:=N180.drop
       refine ap rfl (aD 3 J7 N181 rfl (aC rfl (λW129 N182=>?_) ?_))
       ·obtain⟨Q18,P28,H12,hcap_12⟩:=N182.rowAddr 0 rfl (bJ l3)
        have f:=f.st 9 (H12)
        refine Z f (Y29 rfl (ad:=⟨Q18,0,none⟩) (len:=(aj++[ai]).length) (cap:=P28) (k:=.i64) (i:=((aj.length:Nat):Int)) (e:=31) (sz:=6) (ax l3) (aw l3)) λ_ f=>?_
        have f:=f.st 9 (H12.symm)
        refine ap rfl (aD 3 J7 N182 rfl (aC rfl (λW130 N183=>?_) ?_))
        ·refine Y25 (it:=((aj.length:Nat):Int)) (d:=aj++[ai]) (f:=ao) (xv:=(⟨(0:Int),X2.1,(0:Int),([]:List UInt8),([]:List UInt8),([]:List TH0)⟩:TH0)) (vs:=[.int .i8 0,S X2.1,.int .i64 0,S [],S [],.slice none 0 0]) f N183 H12 rfl rfl (by exact TH0.shut Sli.nil) bg l3 D26 λL27 W131 N184 D27 _ f=>?_
         have N185:Hp w0 V7 ((Ent.row 31 6 (.slice Z24 ((aj++[ai]).set ((aj.length:Nat):Int).toNat (⟨(0:Int),X2.1,(0:Int),([]:List UInt8),([]:List UInt8),([]:List TH0)⟩:TH0)).length P27) ((aj++[ai]).set ((aj.length:Nat):Int).toNat (⟨(0:Int),X2.1,(0:Int),([]:List UInt8),([]:List UInt8),([]:List TH0)⟩:TH0)).length L27)::(Ent.obj b0 (.cells #[.pointer Z22,.slice Z23 X2.2.length P26] 142 (0,0)))::(Ent.obj b1 (.cells #[.slice Z3 aj.length P2] 29 (0,0)))::H) W131:=N184.rowVal (by simp only[List.length_set])
         have f:=Frm.set f 9 (v:=.slice Z24 (aj++[ai]).length P27) (v':=.slice Z24 ((aj++[ai]).set ((aj.length:Nat):Int).toNat (⟨(0:Int),X2.1,(0:Int),([]:List UInt8),([]:List UInt8),([]:List TH0)⟩:TH0)).length P27) (by kernel_rfl) (by simp only[List.length_set])
         refine ap rfl (aD 3 J7 N185 rfl (aC rfl (λW132 N186=>?_) ?_))
         ·refine Y26 f N186 2 rfl rfl (b:=b1) (j:=0) (v:=.slice Z24 ((aj++[ai]).set ((aj.length:Nat):Int).toNat (⟨(0:Int),X2.1,(0:Int),([]:List UInt8),([]:List UInt8),([]:List TH0)⟩:TH0)).length P27) rfl (by exact rfl) (by simp) (by simp) ((Ent.row 31 6 (.slice Z24 ((aj++[ai]).set ((aj.length:Nat):Int).toNat (⟨(0:Int),X2.1,(0:Int),([]:List UInt8),([]:List UInt8),([]:List TH0)⟩:TH0)).length P27) ((aj++[ai]).set ((aj.length:Nat):Int).toNat (⟨(0:Int),X2.1,(0:Int),([]:List UInt8),([]:List UInt8),([]:List TH0)⟩:TH0)).length L27)::(Ent.obj b0 (.cells #[.pointer Z22,.slice Z23 X2.2.length P26] 142 (0,0)))::(Ent.obj b1 (.cells #[.slice Z24 ((aj++[ai]).set ((aj.length:Nat):Int).toNat (⟨(0:Int),X2.1,(0:Int),([]:List UInt8),([]:List UInt8),([]:List TH0)⟩:TH0)).length P27] 29 (0,0)))::H) rfl λW133 N187 _ f=>ap rfl (aD 3 J7 N187 rfl (ee λW134 N188=>aK ?_))
          exact⟨(X2.2,(aj++[ai]).set ((aj.length:Nat):Int).toNat (⟨(0:Int),X2.1,(0:Int),([]:List UInt8),([]:List UInt8),([]:List TH0)⟩:TH0)),(sI F6).symm,V7,J7,Z22,Z23,P26,Z24,P27,L27,hb_8,B7,D27,f.kp,N188⟩
         exact aB
        refine aC rfl (λW135 N189=>?_) ?_
        ·refine Y26 f N189 2 rfl rfl (b:=b1) (j:=0) (v:=.slice Z24 (aj++[ai]).length P27) rfl (by exact rfl) (by simp) (by simp) ((Ent.row 31 6 (.slice Z24 (aj++[ai]).length P27) (aj++[ai]).length L26)::(Ent.obj b0 (.cells #[.pointer Z22,.slice Z23 X2.2.length P26] 142 (0,0)))::(Ent.obj b1 (.cells #[.slice Z24 (aj++[ai]).length P27] 29 (0,0)))::H) rfl λW136 N190 _ f=>ap rfl (aD 3 J7 N190 rfl (aC rfl (λW137 N191=>?_) ?_))
         ·refine Y25 (it:=((aj.length:Nat):Int)) (d:=aj++[ai]) (f:=ao) (xv:=(⟨(0:Int),X2.1,(0:Int),([]:List UInt8),([]:List UInt8),([]:List TH0)⟩:TH0)) (vs:=[.int .i8 0,S X2.1,.int .i64 0,S [],S [],.slice none 0 0]) f N191 H12 rfl rfl (by exact TH0.shut Sli.nil) bg l3 D26 λL28 W138 N192 D28 _ f=>?_
          have N193:Hp w0 V7 ((Ent.row 31 6 (.slice Z24 ((aj++[ai]).set ((aj.length:Nat):Int).toNat (⟨(0:Int),X2.1,(0:Int),([]:List UInt8),([]:List UInt8),([]:List TH0)⟩:TH0)).length P27) ((aj++[ai]).set ((aj.length:Nat):Int).toNat (⟨(0:Int),X2.1,(0:Int),([]:List UInt8),([]:List UInt8),([]:List TH0)⟩:TH0)).length L28)::(Ent.obj b0 (.cells #[.pointer Z22,.slice Z23 X2.2.length P26] 142 (0,0)))::(Ent.obj b1 (.cells #[.slice Z24 (aj++[ai]).length P27] 29 (0,0)))::H) W138:=N192.rowVal (by simp only[List.length_set])
          have f:=Frm.set f 9 (v:=.slice Z24 (aj++[ai]).length P27) (v':=.slice Z24 ((aj++[ai]).set ((aj.length:Nat):Int).toNat (⟨(0:Int),X2.1,(0:Int),([]:List UInt8),([]:List UInt8),([]:List TH0)⟩:TH0)).length P27) (by kernel_rfl) (by simp only[List.length_set])
          have N194:Hp w0 V7 ((Ent.row 31 6 (.slice Z24 ((aj++[ai]).set ((aj.length:Nat):Int).toNat (⟨(0:Int),X2.1,(0:Int),([]:List UInt8),([]:List UInt8),([]:List TH0)⟩:TH0)).length P27) ((aj++[ai]).set ((aj.length:Nat):Int).toNat (⟨(0:Int),X2.1,(0:Int),([]:List UInt8),([]:List UInt8),([]:List TH0)⟩:TH0)).length L28)::(Ent.obj b0 (.cells #[.pointer Z22,.slice Z23 X2.2.length P26] 142 (0,0)))::(Ent.obj b1 (.cells #[.slice Z24 ((aj++[ai]).set ((aj.length:Nat):Int).toNat (⟨(0:Int),X2.1,(0:Int),([]:List UInt8),([]:List UInt8),([]:List TH0)⟩:TH0)).length P27] 29 (0,0)))::H) W138:=by simp only[List.length_set];rw[List.length_set] at N193;exact N193
          refine ap rfl (aD 3 J7 N194 rfl (ee λW139 N195=>aK ?_))
          exact⟨(X2.2,(aj++[ai]).set ((aj.length:Nat):Int).toNat (⟨(0:Int),X2.1,(0:Int),([]:List UInt8),([]:List UInt8),([]:List TH0)⟩:TH0)),(sI F6).symm,V7,J7,Z22,Z23,P26,Z24,P27,L28,hb_8,B7,D28,f.kp,N195⟩
         exact aB
        exact aB
       refine aC rfl (λW140 N196=>?_) ?_
       ·refine Y26 f N196 2 rfl rfl (b:=b1) (j:=0) (v:=.slice Z24 (aj++[ai]).length P27) rfl (by exact rfl) (by simp) (by simp) ((Ent.row 31 6 (.slice Z24 (aj++[ai]).length P27) (aj++[ai]).length L26)::(Ent.obj b0 (.cells #[.pointer Z22,.slice Z23 X2.2.length P26] 142 (0,0)))::(Ent.obj b1 (.cells #[.slice Z24 (aj++[ai]).length P27] 29 (0,0)))::H) rfl λW141 N197 _ f=>ap rfl (aD 3 J7 N197 rfl (aC rfl (λW142 N198=>?_) ?_))
        ·obtain⟨Q19,P29,H13,hcap_13⟩:=N198.rowAddr 0 rfl (bJ l3)
         have f:=f.st 9 (H13)
         refine Z f (Y29 rfl (ad:=⟨Q19,0,none⟩) (len:=(aj++[ai]).length) (cap:=P29) (k:=.i64) (i:=((aj.length:Nat):Int)) (e:=31) (sz:=6) (ax l3) (aw l3)) λ_ f=>?_
         have f:=f.st 9 (H13.symm)
         refine ap rfl (aD 3 J7 N198 rfl (aC rfl (λW143 N199=>?_) ?_))
         ·refine Y25 (it:=((aj.length:Nat):Int)) (d:=aj++[ai]) (f:=ao) (xv:=(⟨(0:Int),X2.1,(0:Int),([]:List UInt8),([]:List UInt8),([]:List TH0)⟩:TH0)) (vs:=[.int .i8 0,S X2.1,.int .i64 0,S [],S [],.slice none 0 0]) f N199 H13 rfl rfl (by exact TH0.shut Sli.nil) bg l3 D26 λL29 W144 N200 D29 _ f=>?_
          have N201:Hp w0 V7 ((Ent.row 31 6 (.slice Z24 ((aj++[ai]).set ((aj.length:Nat):Int).toNat (⟨(0:Int),X2.1,(0:Int),([]:List UInt8),([]:List UInt8),([]:List TH0)⟩:TH0)).length P27) ((aj++[ai]).set ((aj.length:Nat):Int).toNat (⟨(0:Int),X2.1,(0:Int),([]:List UInt8),([]:List UInt8),([]:List TH0)⟩:TH0)).length L29)::(Ent.obj b0 (.cells #[.pointer Z22,.slice Z23 X2.2.length P26] 142 (0,0)))::(Ent.obj b1 (.cells #[.slice Z24 (aj++[ai]).length P27] 29 (0,0)))::H) W144:=N200.rowVal (by simp only[List.length_set])
          have f:=Frm.set f 9 (v:=.slice Z24 (aj++[ai]).length P27) (v':=.slice Z24 ((aj++[ai]).set ((aj.length:Nat):Int).toNat (⟨(0:Int),X2.1,(0:Int),([]:List UInt8),([]:List UInt8),([]:List TH0)⟩:TH0)).length P27) (by kernel_rfl) (by simp only[List.length_set])
          have N202:Hp w0 V7 ((Ent.row 31 6 (.slice Z24 ((aj++[ai]).set ((aj.length:Nat):Int).toNat (⟨(0:Int),X2.1,(0:Int),([]:List UInt8),([]:List UInt8),([]:List TH0)⟩:TH0)).length P27) ((aj++[ai]).set ((aj.length:Nat):Int).toNat (⟨(0:Int),X2.1,(0:Int),([]:List UInt8),([]:List UInt8),([]:List TH0)⟩:TH0)).length L29)::(Ent.obj b0 (.cells #[.pointer Z22,.slice Z23 X2.2.length P26] 142 (0,0)))::(Ent.obj b1 (.cells #[.slice Z24 ((aj++[ai]).set ((aj.length:Nat):Int).toNat (⟨(0:Int),X2.1,(0:Int),([]:List UInt8),([]:List UInt8),([]:List TH0)⟩:TH0)).length P27] 29 (0,0)))::H) W144:=by simp only[List.length_set];rw[List.length_set] at N201;exact N201
          refine ap rfl (aD 3 J7 N202 rfl (ee λW145 N203=>aK ?_))
          exact⟨(X2.2,(aj++[ai]).set ((aj.length:Nat):Int).toNat (⟨(0:Int),X2.1,(0:Int),([]:List UInt8),([]:List UInt8),([]:List TH0)⟩:TH0)),(sI F6).symm,V7,J7,Z22,Z23,P26,Z24,P27,L29,hb_8,B7,D29,f.kp,N203⟩
         exact aB
        exact aB
       exact aB
      exact aB
     exact aB
    exact aB
   exact aB
  ·rintro a_91 W146 ⟨G1,dC,V8,J8,Z25,Z26,P30,Z27,P31,L30,hb_9,B8,D30,f,N204⟩
   subst gN
   refine aK (aA ?_)
   obtain⟨X21,l4,F7⟩:=bS F3
   have N206:=N204.pl [1]
   refine Y18 (E:=[Ent.obj b0 (.cells #[.pointer Z25,.slice Z26 G1.1.length P30] 142 (0,0))]) (H:=((Ent.row 31 6 (.slice Z27 G1.2.length P31) G1.2.length L30)::(Ent.obj b1 (.cells #[.slice Z27 G1.2.length P31] 29 (0,0)))::H)) f N206 (iw n _ (GL.mono (J1.trans J8) hG) b0 Z25 hb_9 G1.1 Z26 P30 B8 X21 l4) λ_ V9 E_8 W147 J9 N205 q_8 _ f=>?_
   obtain⟨Z28,Z29,P32,L31,rfl,rfl,hb_10,D31⟩:=q_8
   refine ap rfl (dn f rfl ?_)
   obtain rfl:=sI F7
   have N210:=N205.pl [2,3,3,3]
   exact⟨_,rfl,V9,_,((J1.trans J8).trans J9),N210,⟨Z28,Z29,P32,L31,Z27,P31,L30,rfl,rfl,hb_10,D31,(ag.mono J9 _ _ D30)⟩⟩
 ·have U2:=aq dI B1
  refine wp_skip (dn f rfl ?_)
  obtain rfl:=sI F8
  exact⟨_,rfl,V1,_,J1,N1,⟨Z4,Z5,P3,L3,Z3,P2,L2,rfl,rfl,la,D3,(ag.mono J1 _ _ D2)⟩⟩
def iy (n:Nat) (d0:Bs) (K1:Int×Int×List TH0×Bs×Nat):Option (Lp (Int×Int×List TH0×Bs×Nat) (Sum (Int×Bs×Nat) (Int×Int×Bs×List TH0×Nat))):=
    bif(decide (K1.2.2.2.2<d0.length)) then
     ((some (Lib.decodeL (d0.drop K1.2.2.2.2))).bind λX2=>
     ((bif(decide (K1.1=2)) then
      (some ((decide (((X2.1:Nat):Int)=125))))
       else
        some ((false)):Option Bool)).bind λG1=>
     bif G1 then
      (aS (inR .i64 (K1.2.1+2))<|
      aS (0≤(K1.2.1+2)∧(K1.2.1+2)≤((K1.2.2.2.2:Nat):Int)∧((K1.2.2.2.2:Nat):Int)≤d0.length)<|
      (jQ n ((d0.take ((K1.2.2.2.2:Nat):Int).toNat).drop (K1.2.1+2).toNat) [33]).bind λX3=>
      bif X3 then
       (aS (0≤(1:Int)∧(1:Int)≤((d0.take ((K1.2.2.2.2:Nat):Int).toNat).drop (K1.2.1+2).toNat).length)<|
       aS ([36,123].length+ (((d0.take ((K1.2.2.2.2:Nat):Int).toNat).drop (K1.2.1+2).toNat).drop (1:Int).toNat).length≤9223372036854775807)<|
       aS (([36,123]++(((d0.take ((K1.2.2.2.2:Nat):Int).toNat).drop (K1.2.1+2).toNat).drop (1:Int).toNat)).length+ [125].length≤9223372036854775807)<|
       (bG n K1.2.2.2.1 (([36,123]++(((d0.take ((K1.2.2.2.2:Nat):Int).toNat).drop (K1.2.1+2).toNat).drop (1:Int).toNat))++[125])).bind λX4=>
       some (.nx ((0:Int),K1.2.1,K1.2.2.1,X4.2.2,K1.2.2.2.2+X2.2)))
      else
       (kb n ((d0.take ((K1.2.2.2.2:Nat):Int).toNat).drop (K1.2.1+2).toNat)).bind λX5=>
       bif X5.2 then
        ((ik n K1.2.2.2.1 K1.2.2.1).bind λX6=>
        ((aS ((X6.2.length+1)*88≤140737488355328)<|
          (aQ (X6.2++[ai]) ((X6.2.length:Nat):Int)).bind λX7=>
          some ((X6.2++[ai]).set ((X6.2.length:Nat):Int).toNat X5.1):Option (List TH0))).bind λG2=>
        some (.nx ((0:Int),K1.2.1,G2,X6.1,K1.2.2.2.2+X2.2)))
       else
        some (.br (.inl (K1.2.1,K1.2.2.2.1,K1.2.2.2.2+X2.2))))
     else
      bif(decide (K1.1=2)) then
       (some (.nx (K1.1,K1.2.1,K1.2.2.1,K1.2.2.2.1,K1.2.2.2.2+X2.2)))
      else
       ((bif(decide (K1.1=1)) then
        (some ((decide (((X2.1:Nat):Int)=123))))
         else
          some ((false)):Option Bool)).bind λG3=>
       bif G3 then
        (some (.nx ((2:Int),K1.2.1,K1.2.2.1,K1.2.2.2.1,K1.2.2.2.2+X2.2)))
       else
        bif(decide (((X2.1:Nat):Int)=36)) then
         (bif(decide (K1.1=1)) then
          ((aV n K1.2.2.2.1 (36:Int)).bind λX12=>
          some (.nx ((1:Int),((K1.2.2.2.2:Nat):Int),K1.2.2.1,X12.2,K1.2.2.2.2+X2.2)))
         else
          some (.nx ((1:Int),((K1.2.2.2.2:Nat):Int),K1.2.2.1,K1.2.2.2.1,K1.2.2.2.2+X2.2)))
        else
         bif(decide (K1.1=1)) then
          ((aV n K1.2.2.2.1 (36:Int)).bind λX13=>
          (be n X13.2 ((X2.1:Nat):Int)).bind λX14=>
          some (.nx ((0:Int),K1.2.1,K1.2.2.1,X14.2.2,K1.2.2.2.2+X2.2)))
         else
          (be n K1.2.2.2.1 ((X2.1:Nat):Int)).bind λX15=>
          some (.nx ((0:Int),K1.2.1,K1.2.2.1,X15.2.2,K1.2.2.2.2+X2.2)))
    else
     some (.br (.inr (K1.1,K1.2.1,K1.2.2.2.1,K1.2.2.1,K1.2.2.2.2)))
def lw (n:Nat) (d0:Bs):Option (List TH0×Int×Int):=
 (cR n d0).bind λX1=>
 bif !X1 then
  (some ((([]:List TH0),(0:Int),(10:Int))))
 else
  bif(decide ((4096:Int)<(d0.length:Int))) then
   (some ((([]:List TH0),(0:Int),(3:Int))))
  else
   (aE (iy n d0) n ((0:Int),(0:Int),([]:List TH0),([]:Bs),0)).bind λQ4=>
   (match Q4 with
   |.inl G4=>some ((([]:List TH0),G4.1,(130:Int)))
   |.inr G5=>((bif(decide (G5.1=2)) then
    (((some ((([]:List TH0),G5.2.1,(130:Int))):Option (List TH0×Int×Int))).map Lp.br)
    else
     bif(decide (G5.1=1)) then
      ((aV n G5.2.2.1 (36:Int)).bind λX16=>
      some (.nx X16.2))
     else
      some (.nx G5.2.2.1):Option (Lp Bs (List TH0×Int×Int)))).bind λj=>joinF j λG6=>
    (ik n G6 G5.2.2.2.1).bind λX17=>
    some ((X17.2,(0:Int),(0:Int))))
set_option maxRecDepth 20000 in
theorem sub_Lex_ok (n:Nat) (M:Mem) (hG:GL M) (d0:List UInt8) (r:List TH0×Int×Int) (hF:lw n d0=some r):OkH Tryz.prog M [] 81 [S d0] (λM' E' v=>∃ (A0:Option Addr) (k0:Nat) (s0:List Value),v=.tuple #[.slice A0 r.1.length k0,.int .i64 r.2.1,.int .i64 r.2.2]∧E'=[.row 31 6 (.slice A0 r.1.length k0) r.1.length s0]∧ag M' (r.1.map ao) s0):=by
 unfold lw at hF
 intro M1 hM0 w0 H w p0
 replace hG:=GL.mono hM0 hG
 refine av 95 Tryz.func81 rfl rfl (by simp) λa0 f0=>RR (Y13 f0 p0 (.cells #[.slice none 0 0] 29 (0,0)) λQ1 W1 N1 _ f=>Y f 2 λ_ f=>eT (an (wp_block (RR (Y f 1 λ_ f=>?_)))))
 obtain⟨X1,l1,F1⟩:=bS hF
 refine Y19 f N1 (gq n _ hG d0 X1 l1) λW2 N2 _ f=>Y f 2 λ_ f=>eT (RcF f F1 (λB1 F2=>?_) λB1 F3=>?_)
 ·have U1: (X1)=false:=by simpa using B1
  refine RR (Y26 f N2 0 rfl rfl (b:=Q1) (j:=0) (v:=.slice none 0 0) rfl (by exact rfl) (by simp) (by simp) ((Ent.obj Q1 (.cells #[.slice none 0 0] 29 (0,0)))::H) rfl λW3 N3 _ f=>Y f 2 λ_ f=>eT (wp_ret (ed (bC ?_))))
  have N4:Hp w0 M1 ((Ent.row 31 6 (.slice none 0 0) ([]:List TH0).length [])::(Ent.obj Q1 (.cells #[.slice none 0 0] 29 (0,0)))::H) W3:=N3.nilRow 31 6
  have D1:ag M1 (([]:List TH0).map ao) []:=rfl
  refine kS f rfl (Y10 (v:=.slice none 0 0) (ad:=⟨Q1,0,none⟩) f (N4.ownCell 1 rfl 0)) (Y12 (v:=.int .i64 0) f) (Y12 (v:=.int .i64 10) f) ?_
  obtain rfl:=sI F2
  have N5:=N4.pl [1]
  exact⟨_,rfl,M1,_,(mR _),(N5.dropN 1),⟨none,0,[],rfl,rfl,D1⟩⟩
 ·have U2: (X1)=true:=by simpa using B1
  refine RR (Y f 4 λ_ f=>eT (RcF f F3 (λB2 F4=>?_) λB2 F5=>?_))
  ·have U3:=dI.1 B2
   refine RR (Y26 f N2 0 rfl rfl (b:=Q1) (j:=0) (v:=.slice none 0 0) rfl (by exact rfl) (by simp) (by simp) ((Ent.obj Q1 (.cells #[.slice none 0 0] 29 (0,0)))::H) rfl λW4 N6 _ f=>Y f 2 λ_ f=>eT (wp_ret (ed (bC ?_))))
   have N7:Hp w0 M1 ((Ent.row 31 6 (.slice none 0 0) ([]:List TH0).length [])::(Ent.obj Q1 (.cells #[.slice none 0 0] 29 (0,0)))::H) W4:=N6.nilRow 31 6
   have D2:ag M1 (([]:List TH0).map ao) []:=rfl
   refine kS f rfl (Y10 (v:=.slice none 0 0) (ad:=⟨Q1,0,none⟩) f (N7.ownCell 1 rfl 0)) (Y12 (v:=.int .i64 0) f) (Y12 (v:=.int .i64 3) f) ?_
   obtain rfl:=sI F4
   have N8:=N7.pl [1]
   exact⟨_,rfl,M1,_,(mR _),(N8.dropN 1),⟨none,0,[],rfl,rfl,D2⟩⟩
  ·have U4:=aq dI B2
   refine wp_skip (dZ (aK (RR (Y13 f N2 (.cells #[.pointer none,.slice none 0 0] 142 (0,0)) λQ2 W5 N9 _ f=>eT (RR (Y f 2 λ_ f=>eT (RR (Y f 2 λ_ f=>eT (an (RR (Y f 1 λ_ f=>W_rangeS (l:=d0) f N9 (by kernel_rfl) (by kernel_rfl) rfl rfl rfl (by kernel_rfl) (by kernel_rfl) λQ3 W6 N10 _ f=>eT (wp_block ?_))))))))))))
   obtain⟨Z1,P1,H1⟩: ∃A cap,Value.slice none 0 0=.slice A ([]:List TH0).length cap:=⟨none,0,rfl⟩
   have N11:Hp w0 M1 ((Ent.row 31 6 (.slice Z1 ([]:List TH0).length P1) ([]:List TH0).length [])::(Ent.obj Q3 (.stringIter (mkS d0) 0))::(Ent.obj Q2 (.cells #[.pointer none,.slice none 0 0] 142 (0,0)))::(Ent.obj Q1 (.cells #[.slice Z1 ([]:List TH0).length P1] 29 (0,0)))::H) W6:=by rw[←H1];exact N10.nilRow 31 6
   have D3:ag M1 (([]:List TH0).map ao) []:=rfl
   obtain⟨Z2,P2,H2⟩: ∃A cap,Value.slice none 0 0=.slice A ([]:List UInt8).length cap:=⟨none,0,rfl⟩
   have N12:Hp w0 M1 ((Ent.row 5 1 (.slice Z2 ([]:List UInt8).length P2) ([]:List UInt8).length [])::(Ent.row 31 6 (.slice Z1 ([]:List TH0).length P1) ([]:List TH0).length [])::(Ent.obj Q3 (.stringIter (mkS d0) 0))::(Ent.obj Q2 (.cells #[.pointer none,.slice Z2 ([]:List UInt8).length P2] 142 (0,0)))::(Ent.obj Q1 (.cells #[.slice Z1 ([]:List TH0).length P1] 29 (0,0)))::H) W6:=by rw[←H2];exact N11.nilRow 5 1
   have D4:ag M1 (([]:List UInt8).map embB) []:=rfl
   have N17:=N12.pl [4,4,4,3,4]
   obtain⟨Q4,co,F6⟩:=bS F5
   refine wp_mono (Q:=λe a w=>(e=.ret∧(∃G4:Int×List UInt8×Nat,Q4=.inl G4∧∃V12:Mem,M1.le V12∧∃ (Z24:Option Addr),∃ (Z25:Option Addr),∃ (P22:Nat),∃ (L21:List Value),(Z24=none∨Z24=some ⟨Q2,0,none⟩)∧ag V12 (G4.2.1.map embB) L21∧Frm 95 [(2,.pointer (some (⟨Q1,0,none⟩))),(3,.int .i64 G4.1),(4,.int .i64 130)] a∧Hp w0 V12 ((Ent.row 5 1 (.slice Z25 G4.2.1.length P22) G4.2.1.length L21)::(Ent.obj Q3 (.stringIter (mkS d0) G4.2.2))::(Ent.obj Q2 (.cells #[.pointer Z24,.slice Z25 G4.2.1.length P22] 142 (0,0)))::(Ent.obj Q1 (.cells #[.slice none 0 0] 29 (0,0)))::H) w))∨(e=.exit 1∧(∃G5:Int×Int×List UInt8×List TH0×Nat,Q4=.inr G5∧∃V13:Mem,M1.le V13∧∃ (Z26:Option Addr),∃ (Z27:Option Addr),∃ (P23:Nat),∃ (L22:List Value),∃ (Z28:Option Addr),∃ (P24:Nat),∃ (L23:List Value),(Z26=none∨Z26=some ⟨Q2,0,none⟩)∧ag V13 (G5.2.2.1.map embB) L22∧ag V13 (G5.2.2.2.1.map ao) L23∧Frm 95 [(2,.pointer (some (⟨Q1,0,none⟩))),(5,.pointer (some (⟨Q2,0,none⟩))),(6,.func (.func 116) #[] #[.pointer (some (⟨Q2,0,none⟩)),.pointer (some (⟨Q1,0,none⟩))]),(7,.int .i64 G5.1),(8,.int .i64 G5.2.1)] a∧Hp w0 V13 ((Ent.row 5 1 (.slice Z27 G5.2.2.1.length P23) G5.2.2.1.length L22)::(Ent.row 31 6 (.slice Z28 G5.2.2.2.1.length P24) G5.2.2.2.1.length L23)::(Ent.obj Q3 (.stringIter (mkS d0) G5.2.2.2.2))::(Ent.obj Q2 (.cells #[.pointer Z26,.slice Z27 G5.2.2.1.length P23] 142 (0,0)))::(Ent.obj Q1 (.cells #[.slice Z28 G5.2.2.2.1.length P24] 29 (0,0)))::H) w))) (bT (n:=95) (w0:=w0) (M:=M1) (λ (x:Nat× (Int×Int×List TH0×List UInt8×Nat)× (Option Addr)×Nat× (List Value)× (Option Addr)× (Option Addr)×Nat× (List Value))=>match x with|(I1,K1,Z3,P3,L1,Z4,Z5,P4,L2)=>[(0,S d0),(2,.pointer (some (⟨Q1,0,none⟩))),(5,.pointer (some (⟨Q2,0,none⟩))),(6,.func (.func 116) #[] #[.pointer (some (⟨Q2,0,none⟩)),.pointer (some (⟨Q1,0,none⟩))]),(7,.int .i64 K1.1),(8,.int .i64 K1.2.1),(24,.pointer (some (⟨Q3,0,none⟩)))]) (λ (x:Nat× (Int×Int×List TH0×List UInt8×Nat)× (Option Addr)×Nat× (List Value)× (Option Addr)× (Option Addr)×Nat× (List Value))=>match x with|(I1,K1,Z3,P3,L1,Z4,Z5,P4,L2)=>((Ent.row 31 6 (.slice Z3 K1.2.2.1.length P3) K1.2.2.1.length L1)::(Ent.row 5 1 (.slice Z5 K1.2.2.2.1.length P4) K1.2.2.2.1.length L2)::(Ent.obj Q3 (.stringIter (mkS d0) K1.2.2.2.2))::(Ent.obj Q2 (.cells #[.pointer Z4,.slice Z5 K1.2.2.2.1.length P4] 142 (0,0)))::(Ent.obj Q1 (.cells #[.slice Z3 K1.2.2.1.length P3] 29 (0,0)))::H)) (λ (x:Nat× (Int×Int×List TH0×List UInt8×Nat)× (Option Addr)×Nat× (List Value)× (Option Addr)× (Option Addr)×Nat× (List Value)) (MM:Mem)=>match x with|(I1,K1,Z3,P3,L1,Z4,Z5,P4,L2)=>aE (iy n d0) I1 K1=some Q4∧ag MM (K1.2.2.1.map ao) L1∧(Z4=none∨Z4=some ⟨Q2,0,none⟩)∧ag MM (K1.2.2.2.1.map embB) L2) (λ (x:Nat× (Int×Int×List TH0×List UInt8×Nat)× (Option Addr)×Nat× (List Value)× (Option Addr)× (Option Addr)×Nat× (List Value))=>match x with|(I1,K1,Z3,P3,L1,Z4,Z5,P4,L2)=>I1) (n,((0:Int),(0:Int),([]:List TH0),([]:List UInt8),0),Z1,P1,[],none,Z2,P2,[]) (f.kp) N17 ⟨co,D3,(.inl rfl),D4⟩ ?_) ?_
   ·rintro⟨I1,K1,Z3,P3,L1,Z4,Z5,P4,L2⟩ V1 _ W7 J1 gM f N18
    obtain⟨cu,D5,gE,D6⟩:=gM
    obtain⟨I2,lO,rfl,bx,T1⟩:=aZ cu
    unfold iy at bx
    refine RR ?_
    have N19:=N18.pl [2]
    rcases cE bx with⟨B3,F7⟩|⟨B3,F47⟩
    ·obtain⟨X2,l2,F8⟩:=bS F7
     refine W_nextS_go (l:=d0) (p:=K1.2.2.2.2) (v:=X2) f N19 (by kernel_rfl) (by kernel_rfl) rfl rfl rfl (by kernel_rfl) (of_decide_eq_true B3) l2 λW8 N20 _ f=>Y f 1 λ_ f=>eT (an (Y9 f (wp_skip (aK (wp_block (RR (Y f 4 λ_ f=>eT (wp_block (an ?_)))))))))
     obtain⟨gN,ec,F9⟩:=bS F8
     refine bD (λa_23 W9=>∃G1:Bool,gN=G1∧∃V2:Mem,V1.le V2∧Frm 95 [(0,S d0),(2,.pointer (some (⟨Q1,0,none⟩))),(5,.pointer (some (⟨Q2,0,none⟩))),(6,.func (.func 116) #[] #[.pointer (some (⟨Q2,0,none⟩)),.pointer (some (⟨Q1,0,none⟩))]),(7,.int .i64 K1.1),(8,.int .i64 K1.2.1),(9,.int .i64 ((K1.2.2.2.2:Nat):Int)),(10,.int .i32 ((X2.1:Nat):Int)),(24,.pointer (some (⟨Q3,0,none⟩))),(34,.bool G1)] a_23∧Hp w0 V2 ((Ent.obj Q3 (.stringIter (mkS d0) (K1.2.2.2.2+X2.2)))::(Ent.row 31 6 (.slice Z3 K1.2.2.1.length P3) K1.2.2.1.length L1)::(Ent.row 5 1 (.slice Z5 K1.2.2.2.1.length P4) K1.2.2.2.1.length L2)::(Ent.obj Q2 (.cells #[.pointer Z4,.slice Z5 K1.2.2.2.1.length P4] 142 (0,0)))::(Ent.obj Q1 (.cells #[.slice Z3 K1.2.2.1.length P3] 29 (0,0)))::H) W9) ?_ ?_
     ·refine aA (Y f 3 λ_ f=>?_)
      rcases cE ec with⟨B4,F10⟩|⟨B4,F11⟩
      ·have U5:=dI.1 B4
       have f:=f.st 37 (cB B4)
       refine Y f 4 λ_ f=>eT ?_
       exact⟨(decide (((X2.1:Nat):Int)=125)),(sI F10).symm,V1,(mR _),f.kp,N20⟩
      ·have U6:=aq dI B4
       have f:=f.st 37 (cB B4)
       refine Y f 4 λ_ f=>eT ?_
       exact⟨(false),(sI F11).symm,V1,(mR _),f.kp,N20⟩
     ·rintro a_23 W9 ⟨G1,dC,V2,J2,f,N21⟩
      subst gN
      refine aK (RcF f F9 (λB5 F12=>?_) λB5 F29=>?_)
      ·refine RR (Y f 1 λ_ f=>eT (RR (Y f 2 λ_ f=>?_)))
       obtain⟨O1,F13⟩:=nS F12
       refine Y f 1 λ_ f=>?_
       have f:=f.st 43 (iW O1)
       refine Y f 1 λ_ f=>?_
       obtain⟨O2,F14⟩:=nS F13
       refine Z (v:=S ((d0.take ((K1.2.2.2.2:Nat):Int).toNat).drop (K1.2.1+2).toNat)) f (kH rfl (l:=d0) (k:=.i64) (k':=.i64) (a:=K1.2.1+2) (b:=((K1.2.2.2.2:Nat):Int)) (by kernel_rfl) (by kernel_rfl) (by kernel_rfl) (by kernel_rfl) O2.1 O2.2.1 O2.2.2) λ_ f=>Y f 1 λ_ f=>eT (RR (Y f 1 λ_ f=>?_))
       obtain⟨X3,l3,F15⟩:=bS F14
       refine Y19 f N21 (mX n _ (GL.mono (J1.trans J2) hG) ((d0.take ((K1.2.2.2.2:Nat):Int).toNat).drop (K1.2.1+2).toNat) [33] X3 l3) λW10 N22 _ f=>eT (RcF f F15 (λB6 F16=>?_) λB6 F21=>?_)
       ·refine aA (Y f 1 λ_ f=>?_)
        obtain⟨O3,F17⟩:=nS F16
        refine Z (v:=S (((d0.take ((K1.2.2.2.2:Nat):Int).toNat).drop (K1.2.1+2).toNat).drop (1:Int).toNat)) f (ki rfl (l:=(d0.take ((K1.2.2.2.2:Nat):Int).toNat).drop (K1.2.1+2).toNat) (k:=.i64) (a:=(1:Int)) (by kernel_rfl) (by kernel_rfl) (by kernel_rfl) O3.1 O3.2) λ_ f=>?_
        obtain⟨O4,F18⟩:=nS F17
        refine Z f (Y28 rfl (l:=[36,123]) (m:=((d0.take ((K1.2.2.2.2:Nat):Int).toNat).drop (K1.2.1+2).toNat).drop (1:Int).toNat) O4) λ_ f=>?_
        obtain⟨O5,F19⟩:=nS F18
        refine Z f (Y28 rfl (l:=[36,123]++(((d0.take ((K1.2.2.2.2:Nat):Int).toNat).drop (K1.2.1+2).toNat).drop (1:Int).toNat)) (m:=[125]) O5) λ_ f=>?_
        obtain⟨X4,l4,F20⟩:=bS F19
        have N25:=N22.pl [2,3]
        refine Y18 (E:=[Ent.obj Q2 (.cells #[.pointer Z4,.slice Z5 K1.2.2.2.1.length P4] 142 (0,0)),Ent.row 5 1 (.slice Z5 K1.2.2.2.1.length P4) K1.2.2.2.1.length L2]) (H:=((Ent.obj Q3 (.stringIter (mkS d0) (K1.2.2.2.2+X2.2)))::(Ent.row 31 6 (.slice Z3 K1.2.2.1.length P3) K1.2.2.1.length L1)::(Ent.obj Q1 (.cells #[.slice Z3 K1.2.2.1.length P3] 29 (0,0)))::H)) f N25 (gI n _ Q2 Z4 gE K1.2.2.2.1 Z5 P4 L2 (ag.mono J2 _ _ D6) (([36,123]++(((d0.take ((K1.2.2.2.2:Nat):Int).toNat).drop (K1.2.1+2).toNat).drop (1:Int).toNat))++[125]) X4 l4) λ_ V3 mo W11 J3 N23 ej _ f=>?_
        obtain⟨Z6,Z7,P5,L3,rfl,rfl,la,D7⟩:=ej
        refine ap rfl (dZ (dZ ?_))
        have N128:=N23.pl [4,1,3,3,4]
        refine aK ?_
        obtain rfl:=sI F20
        exact⟨⟨I2,((0:Int),K1.2.1,K1.2.2.1,X4.2.2,K1.2.2.2.2+X2.2),Z3,P3,L1,Z6,Z7,P5,L3⟩,Nat.lt_succ_self _,V3,((J1.trans J2).trans J3),⟨T1,(ag.mono (J2.trans J3) _ _ D5),la,D7⟩,f.kp,N128⟩
       ·refine RR (Y f 1 λ_ f=>?_)
        obtain⟨X5,l5,F22⟩:=bS F21
        refine Y17 f N22 (sub_hole_ok n _ (GL.mono (J1.trans J2) hG) ((d0.take ((K1.2.2.2.2:Nat):Int).toNat).drop (K1.2.1+2).toNat) X5 l5) λ_ V4 W12 J4 N26 jk _ f=>?_
        obtain⟨cZ,rfl,D8⟩:=jk
        obtain⟨Z8,P6,rfl,B7⟩:=TH0.opn D8
        refine Y f 3 λ_ f=>Y13 f N26 (.cells #[.int .i8 0,S [],.int .i64 0,S [],S [],.slice none 0 0] 31 (0,0)) λQ5 W13 N27 _ f=>Y27 (vs:=[.int .i8 X5.1.ab,S X5.1.aa,.int .i64 X5.1.af,S X5.1.ak,S X5.1.al,.slice Z8 X5.1.fL.length P6]) (j:=0) f N27 rfl rfl (by simp[Value.oneCell',S]) (by simp) (by decide) (cs':=#[.int .i8 X5.1.ab,S X5.1.aa,.int .i64 X5.1.af,S X5.1.ak,S X5.1.al,.slice Z8 X5.1.fL.length P6]) λW14 N28 _ f=>Y f 1 λ_ f=>eT (RR (Y f 1 λ_ f=>eT (RcF f F22 (λB8 F23=>?_) λB8 F28=>?_)))
        ·refine RR (Y f 1 λ_ f=>?_)
         obtain⟨X6,l6,F24⟩:=bS F23
         have N33:=N28.pl [2,5,4,5]
         refine Y18 (E:=[Ent.obj Q2 (.cells #[.pointer Z4,.slice Z5 K1.2.2.2.1.length P4] 142 (0,0)),Ent.row 5 1 (.slice Z5 K1.2.2.2.1.length P4) K1.2.2.2.1.length L2,Ent.obj Q1 (.cells #[.slice Z3 K1.2.2.1.length P3] 29 (0,0)),Ent.row 31 6 (.slice Z3 K1.2.2.1.length P3) K1.2.2.1.length L1]) (H:=((Ent.obj Q5 (.cells #[.int .i8 X5.1.ab,S X5.1.aa,.int .i64 X5.1.af,S X5.1.ak,S X5.1.al,.slice Z8 X5.1.fL.length P6] 31 (0,0)))::(Ent.obj Q3 (.stringIter (mkS d0) (K1.2.2.2.2+X2.2)))::H)) f N33 (lx n _ (GL.mono ((J1.trans J2).trans J4) hG) Q2 Z4 gE K1.2.2.2.1 Z5 P4 L2 (ag.mono (J2.trans J4) _ _ D6) Q1 K1.2.2.1 Z3 P3 L1 (ag.mono (J2.trans J4) _ _ D5) X6 l6) λ_ V5 E_2 W15 J5 N29 q_3 _ f=>?_
         obtain⟨Z9,Z10,P7,L4,Z11,P8,L5,rfl,rfl,hb_3,D9,D10⟩:=q_3
         refine eT ?_
         obtain⟨mi,ji,F25⟩:=bS F24
         refine bD (λa_79 W64=>∃G2:List TH0,mi=G2∧∃V6:Mem,V5.le V6∧∃ (Z15:Option Addr),∃ (P17:Nat),∃ (L16:List Value),ag V6 (G2.map ao) L16∧Frm 95 [(0,S d0),(2,.pointer (some (⟨Q1,0,none⟩))),(5,.pointer (some (⟨Q2,0,none⟩))),(6,.func (.func 116) #[] #[.pointer (some (⟨Q2,0,none⟩)),.pointer (some (⟨Q1,0,none⟩))]),(7,.int .i64 0),(8,.int .i64 K1.2.1),(24,.pointer (some (⟨Q3,0,none⟩)))] a_79∧Hp w0 V6 ((Ent.row 31 6 (.slice Z15 G2.length P17) G2.length L16)::(Ent.obj Q1 (.cells #[.slice Z15 G2.length P17] 29 (0,0)))::(Ent.obj Q2 (.cells #[.pointer Z9,.slice Z10 X6.1.length P7] 142 (0,0)))::(Ent.row 5 1 (.slice Z10 X6.1.length P7) X6.1.length L4)::(Ent.obj Q5 (.cells #[.int .i8 X5.1.ab,S X5.1.aa,.int .i64 X5.1.af,S X5.1.ak,S X5.1.al,.slice Z8 X5.1.fL.length P6] 31 (0,0)))::(Ent.obj Q3 (.stringIter (mkS d0) (K1.2.2.2.2+X2.2)))::H) W64) ?_ ?_
         ·have N47:=N29.pl [5,5,3,3,5,5]
          obtain⟨O6,F26⟩:=nS ji
          obtain⟨X7,l7,F27⟩:=bS F26
          refine je (ks:=[]) (E:=[Ent.obj Q1 (.cells #[.slice Z11 X6.2.length P8] 29 (0,0)),Ent.row 31 6 (.slice Z11 X6.2.length P8) X6.2.length L5]) (Hr:=((Ent.obj Q2 (.cells #[.pointer Z9,.slice Z10 X6.1.length P7] 142 (0,0)))::(Ent.row 5 1 (.slice Z10 X6.1.length P7) X6.1.length L4)::(Ent.obj Q5 (.cells #[.int .i8 X5.1.ab,S X5.1.aa,.int .i64 X5.1.af,S X5.1.ak,S X5.1.al,.slice Z8 X5.1.fL.length P6] 31 (0,0)))::(Ent.obj Q3 (.stringIter (mkS d0) (K1.2.2.2.2+X2.2)))::H)) (.quiet 1 (.alt 0 (.quiet 2 (.alt 3 (.alt 4 (.alt 5 (.alt 6 (.alt 7 .done .none) (.alt 7 (.alt 6 .done .none) .none)) (.alt 7 (.alt 5 (.alt 6 .done .none) .none) .none)) .none) .none)) (.alt 3 (.alt 0 (.quiet 2 (.alt 4 (.alt 5 (.alt 6 (.alt 7 .done .none) (.alt 7 (.alt 6 .done .none) .none)) (.alt 7 (.alt 5 (.alt 6 .done .none) .none) .none)) .none)) .none) .none))) N47 (by kernel_rfl) (by kernel_rfl) (by kernel_rfl) (Y1 (v:=.agg #[.int .i8 X5.1.ab,S X5.1.aa,.int .i64 X5.1.af,S X5.1.ak,S X5.1.al,.slice Z8 X5.1.fL.length P6]) rfl f rfl rfl (λ_ pq=>Y32 (cs:=[.int .i8 X5.1.ab,S X5.1.aa,.int .i64 X5.1.af,S X5.1.ak,S X5.1.al,.slice Z8 X5.1.fL.length P6]) rfl (ad:=⟨Q5,0,none⟩) (am (pq.ownCell 2 rfl) 0 rfl)) λ_ f=>aC rfl (λW20 N48=>?_) ?_)
          ·refine Z f (Y31 (v:=.slice Z11 X6.2.length P8) rfl (ad:=⟨Q1,0,none⟩) (N48.ownCell 0 rfl 0)) λ_ f=>ap rfl (aD 2 (mR _) N48 rfl (Y1 (v:=.int .i64 ((X6.2.length:Nat):Int)) rfl f rfl rfl (λ_ _=>by kernel_rfl) λ_ f=>aC rfl (λW21 N49=>?_) ?_))
           ·refine aP (k:=1) (c:=1) f N49 (.cells #[.int .i8 0,S [],.int .i64 0,S [],S [],.slice none 0 0] 31 (0,0)) (by kernel_rfl) (λ_=>by kernel_rfl) λQ8 W22 N50 _ f=>ap rfl (aD 3 (mR _) N50 rfl (aC rfl (λW23 N51=>?_) ?_))
            ·have N52:=N51.pl [2]
             refine Y21 (z:=.agg #[.int .i8 0,S [],.int .i64 0,S [],S [],.slice none 0 0]) (f:=ao) (xs:=X6.2) (ys:=[ai]) (news:=[.int .i8 0,S [],.int .i64 0,S [],S [],.slice none 0 0]) (ad:=⟨Q8,0,none⟩) (m:=1) (c:=1) f N52 D10 (by exact⟨_,_,rfl,TH0.shut Sli.nil,rfl⟩) rfl rfl rfl rfl (am (N52.ownCell 1 rfl) 0 rfl) (by exact O6) (by have hg_:=O6;first|omega|(simp only[List.length_cons,List.length_nil] at*;omega)) λZ13 P11 L8 W24 N53 D13 _ f=>?_
             have N54:=N53.pl [1]
             have N55:=N54.drop
             refine ap rfl (aD 2 (mR _) N55 rfl (aC rfl (λW25 N56=>?_) ?_))
             ·obtain⟨Q9,P12,H4,hcap_2⟩:=N56.rowAddr 0 rfl (bJ l7)
              have f:=f.st 65 (H4)
              refine Z f (Y29 rfl (ad:=⟨Q9,0,none⟩) (len:=(X6.2++[ai]).length) (cap:=P12) (k:=.i64) (i:=((X6.2.length:Nat):Int)) (e:=31) (sz:=6) (ax l7) (aw l7)) λ_ f=>?_
              have f:=f.st 65 (H4.symm)
              refine ap rfl (aD 2 (mR _) N56 rfl (aC rfl (λW26 N57=>?_) ?_))
              ·refine Y25 (it:=((X6.2.length:Nat):Int)) (d:=X6.2++[ai]) (f:=ao) (xv:=X5.1) (vs:=[.int .i8 X5.1.ab,S X5.1.aa,.int .i64 X5.1.af,S X5.1.ak,S X5.1.al,.slice Z8 X5.1.fL.length P6]) f N57 H4 rfl rfl (by exact TH0.shutx (x:=X5.1) (B7.mono J5)) bg l7 D13 λL9 W27 N58 D14 _ f=>?_
               have N59:Hp w0 V5 ((Ent.row 31 6 (.slice Z13 ((X6.2++[ai]).set ((X6.2.length:Nat):Int).toNat X5.1).length P11) ((X6.2++[ai]).set ((X6.2.length:Nat):Int).toNat X5.1).length L9)::(Ent.obj Q1 (.cells #[.slice Z11 X6.2.length P8] 29 (0,0)))::(Ent.obj Q2 (.cells #[.pointer Z9,.slice Z10 X6.1.length P7] 142 (0,0)))::(Ent.row 5 1 (.slice Z10 X6.1.length P7) X6.1.length L4)::(Ent.obj Q5 (.cells #[.int .i8 X5.1.ab,S X5.1.aa,.int .i64 X5.1.af,S X5.1.ak,S X5.1.al,.slice Z8 X5.1.fL.length P6] 31 (0,0)))::(Ent.obj Q3 (.stringIter (mkS d0) (K1.2.2.2.2+X2.2)))::H) W27:=N58.rowVal (by simp only[List.length_set])
               have f:=Frm.set f 65 (v:=.slice Z13 (X6.2++[ai]).length P11) (v':=.slice Z13 ((X6.2++[ai]).set ((X6.2.length:Nat):Int).toNat X5.1).length P11) (by kernel_rfl) (by simp only[List.length_set])
               refine ap rfl (aD 2 (mR _) N59 rfl (aC rfl (λW28 N60=>?_) ?_))
               ·refine Y26 f N60 1 rfl rfl (b:=Q1) (j:=0) (v:=.slice Z13 ((X6.2++[ai]).set ((X6.2.length:Nat):Int).toNat X5.1).length P11) rfl (by exact rfl) (by simp) (by simp) ((Ent.row 31 6 (.slice Z13 ((X6.2++[ai]).set ((X6.2.length:Nat):Int).toNat X5.1).length P11) ((X6.2++[ai]).set ((X6.2.length:Nat):Int).toNat X5.1).length L9)::(Ent.obj Q1 (.cells #[.slice Z13 ((X6.2++[ai]).set ((X6.2.length:Nat):Int).toNat X5.1).length P11] 29 (0,0)))::(Ent.obj Q2 (.cells #[.pointer Z9,.slice Z10 X6.1.length P7] 142 (0,0)))::(Ent.row 5 1 (.slice Z10 X6.1.length P7) X6.1.length L4)::(Ent.obj Q5 (.cells #[.int .i8 X5.1.ab,S X5.1.aa,.int .i64 X5.1.af,S X5.1.ak,S X5.1.al,.slice Z8 X5.1.fL.length P6] 31 (0,0)))::(Ent.obj Q3 (.stringIter (mkS d0) (K1.2.2.2.2+X2.2)))::H) rfl λW29 N61 _ f=>ap rfl (aD 2 (mR _) N61 rfl (ee λW30 N62=>aK ?_))
                exact⟨(X6.2++[ai]).set ((X6.2.length:Nat):Int).toNat X5.1,(sI F27).symm,V5,(mR _),Z13,P11,L9,D14,f.kp,N62⟩
               exact aB
              refine aC rfl (λW31 N63=>?_) ?_
              ·refine Y26 f N63 1 rfl rfl (b:=Q1) (j:=0) (v:=.slice Z13 (X6.2++[ai]).length P11) rfl (by exact rfl) (by simp) (by simp) ((Ent.row 31 6 (.slice Z13 (X6.2++[ai]).length P11) (X6.2++[ai]).length L8)::(Ent.obj Q1 (.cells #[.slice Z13 (X6.2++[ai]).length P11] 29 (0,0)))::(Ent.obj Q2 (.cells #[.pointer Z9,.slice Z10 X6.1.length P7] 142 (0,0)))::(Ent.row 5 1 (.slice Z10 X6.1.length P7) X6.1.length L4)::(Ent.obj Q5 (.cells #[.int .i8 X5.1.ab,S X5.1.aa,.int .i64 X5.1.af,S X5.1.ak,S X5.1.al,.slice Z8 X5.1.fL.length P6] 31 (0,0)))::(Ent.obj Q3 (.stringIter (mkS d0) (K1.2.2.2.2+X2.2)))::H) rfl λW32 N64 _ f=>ap rfl (aD 2 (mR _) N64 rfl (aC rfl (λW33 N65=>?_) ?_))
               ·refine Y25 (it:=((X6.2.length:Nat):Int)) (d:=X6.2++[ai]) (f:=ao) (xv:=X5.1) (vs:=[.int .i8 X5.1.ab,S X5.1.aa,.int .i64 X5.1.af,S X5.1.ak,S X5.1.al,.slice Z8 X5.1.fL.length P6]) f N65 H4 rfl rfl (by exact TH0.shutx (x:=X5.1) (B7.mono J5)) bg l7 D13 λL10 W34 N66 D15 _ f=>?_
                have N67:Hp w0 V5 ((Ent.row 31 6 (.slice Z13 ((X6.2++[ai]).set ((X6.2.length:Nat):Int).toNat X5.1).length P11) ((X6.2++[ai]).set ((X6.2.length:Nat):Int).toNat X5.1).length L10)::(Ent.obj Q1 (.cells #[.slice Z13 (X6.2++[ai]).length P11] 29 (0,0)))::(Ent.obj Q2 (.cells #[.pointer Z9,.slice Z10 X6.1.length P7] 142 (0,0)))::(Ent.row 5 1 (.slice Z10 X6.1.length P7) X6.1.length L4)::(Ent.obj Q5 (.cells #[.int .i8 X5.1.ab,S X5.1.aa,.int .i64 X5.1.af,S X5.1.ak,S X5.1.al,.slice Z8 X5.1.fL.length P6] 31 (0,0)))::(Ent.obj Q3 (.stringIter (mkS d0) (K1.2.2.2.2+X2.2)))::H) W34:=N66.rowVal (by simp only[List.length_set])
                have f:=Frm.set f 65 (v:=.slice Z13 (X6.2++[ai]).length P11) (v':=.slice Z13 ((X6.2++[ai]).set ((X6.2.length:Nat):Int).toNat X5.1).length P11) (by kernel_rfl) (by simp only[List.length_set])
                have N68:Hp w0 V5 ((Ent.row 31 6 (.slice Z13 ((X6.2++[ai]).set ((X6.2.length:Nat):Int).toNat X5.1).length P11) ((X6.2++[ai]).set ((X6.2.length:Nat):Int).toNat X5.1).length L10)::(Ent.obj Q1 (.cells #[.slice Z13 ((X6.2++[ai]).set ((X6.2.length:Nat):Int).toNat X5.1).length P11] 29 (0,0)))::(Ent.obj Q2 (.cells #[.pointer Z9,.slice Z10 X6.1.length P7] 142 (0,0)))::(Ent.row 5 1 (.slice Z10 X6.1.length P7) X6.1.length L4)::(Ent.obj Q5 (.cells #[.int .i8 X5.1.ab,S X5.1.aa,.int .i64 X5.1.af,S X5.1.ak,S X5.1.al,.slice Z8 X5.1.fL.length P6] 31 (0,0)))::(Ent.obj Q3 (.stringIter (mkS d0) (K1.2.2.2.2+X2.2)))::H) W34:=by simp only[List.length_set];rw[List.length_set] at N67;exact N67
                refine ap rfl (aD 2 (mR _) N68 rfl (ee λW35 N69=>aK ?_))
                exact⟨(X6.2++[ai]).set ((X6.2.length:Nat):Int).toNat X5.1,(sI F27).symm,V5,(mR _),Z13,P11,L10,D15,f.kp,N69⟩
               exact aB
              exact aB
             refine aC rfl (λW36 N70=>?_) ?_
             ·refine Y26 f N70 1 rfl rfl (b:=Q1) (j:=0) (v:=.slice Z13 (X6.2++[ai]).length P11) rfl (by exact rfl) (by simp) (by simp) ((Ent.row 31 6 (.slice Z13 (X6.2++[ai]).length P11) (X6.2++[ai]).length L8)::(Ent.obj Q1 (.cells #[.slice Z13 (X6.2++[ai]).length P11] 29 (0,0)))::(Ent.obj Q2 (.cells #[.pointer Z9,.slice Z10 X6.1.length P7] 142 (0,0)))::(Ent.row 5 1 (.slice Z10 X6.1.length P7) X6.1.length L4)::(Ent.obj Q5 (.cells #[.int .i8 X5.1.ab,S X5.1.aa,.int .i64 X5.1.af,S X5.1.ak,S X5.1.al,.slice Z8 X5.1.fL.length P6] 31 (0,0)))::(Ent.obj Q3 (.stringIter (mkS d0) (K1.2.2.2.2+X2.2)))::H) rfl λW37 N71 _ f=>ap rfl (aD 2 (mR _) N71 rfl (aC rfl (λW38 N72=>?_) ?_))
              ·obtain⟨Q10,P13,H5,hcap_3⟩:=N72.rowAddr 0 rfl (bJ l7)
               have f:=f.st 65 (H5)
               refine Z f (Y29 rfl (ad:=⟨Q10,0,none⟩) (len:=(X6.2++[ai]).length) (cap:=P13) (k:=.i64) (i:=((X6.2.length:Nat):Int)) (e:=31) (sz:=6) (ax l7) (aw l7)) λ_ f=>?_
               have f:=f.st 65 (H5.symm)
               refine ap rfl (aD 2 (mR _) N72 rfl (aC rfl (λW39 N73=>?_) ?_))
               ·refine Y25 (it:=((X6.2.length:Nat):Int)) (d:=X6.2++[ai]) (f:=ao) (xv:=X5.1) (vs:=[.int .i8 X5.1.ab,S X5.1.aa,.int .i64 X5.1.af,S X5.1.ak,S X5.1.al,.slice Z8 X5.1.fL.length P6]) f N73 H5 rfl rfl (by exact TH0.shutx (x:=X5.1) (B7.mono J5)) bg l7 D13 λL11 W40 N74 D16 _ f=>?_
                have N75:Hp w0 V5 ((Ent.row 31 6 (.slice Z13 ((X6.2++[ai]).set ((X6.2.length:Nat):Int).toNat X5.1).length P11) ((X6.2++[ai]).set ((X6.2.length:Nat):Int).toNat X5.1).length L11)::(Ent.obj Q1 (.cells #[.slice Z13 (X6.2++[ai]).length P11] 29 (0,0)))::(Ent.obj Q2 (.cells #[.pointer Z9,.slice Z10 X6.1.length P7] 142 (0,0)))::(Ent.row 5 1 (.slice Z10 X6.1.length P7) X6.1.length L4)::(Ent.obj Q5 (.cells #[.int .i8 X5.1.ab,S X5.1.aa,.int .i64 X5.1.af,S X5.1.ak,S X5.1.al,.slice Z8 X5.1.fL.length P6] 31 (0,0)))::(Ent.obj Q3 (.stringIter (mkS d0) (K1.2.2.2.2+X2.2)))::H) W40:=N74.rowVal (by simp only[List.length_set])
                have f:=Frm.set f 65 (v:=.slice Z13 (X6.2++[ai]).length P11) (v':=.slice Z13 ((X6.2++[ai]).set ((X6.2.length:Nat):Int).toNat X5.1).length P11) (by kernel_rfl) (by simp only[List.length_set])
                have N76:Hp w0 V5 ((Ent.row 31 6 (.slice Z13 ((X6.2++[ai]).set ((X6.2.length:Nat):Int).toNat X5.1).length P11) ((X6.2++[ai]).set ((X6.2.length:Nat):Int).toNat X5.1).length L11)::(Ent.obj Q1 (.cells #[.slice Z13 ((X6.2++[ai]).set ((X6.2.length:Nat):Int).toNat X5.1).length P11] 29 (0,0)))::(Ent.obj Q2 (.cells #[.pointer Z9,.slice Z10 X6.1.length P7] 142 (0,0)))::(Ent.row 5 1 (.slice Z10 X6.1.length P7) X6.1.length L4)::(Ent.obj Q5 (.cells #[.int .i8 X5.1.ab,S X5.1.aa,.int .i64 X5.1.af,S X5.1.ak,S X5.1.al,.slice Z8 X5.1.fL.length P6] 31 (0,0)))::(Ent.obj Q3 (.stringIter (mkS d0) (K1.2.2.2.2+X2.2)))::H) W40:=by simp only[List.length_set];rw[List.length_set] at N75;exact N75
                refine ap rfl (aD 2 (mR _) N76 rfl (ee λW41 N77=>aK ?_))
                exact⟨(X6.2++[ai]).set ((X6.2.length:Nat):Int).toNat X5.1,(sI F27).symm,V5,(mR _),Z13,P11,L11,D16,f.kp,N77⟩
               exact aB
              exact aB
             exact aB
            exact aB
           exact aB
          refine aC rfl (λW42 N78=>?_) ?_
          ·refine aP (k:=1) (c:=1) f N78 (.cells #[.int .i8 0,S [],.int .i64 0,S [],S [],.slice none 0 0] 31 (0,0)) (by kernel_rfl) (λ_=>by kernel_rfl) λQ11 W43 N79 _ f=>ap rfl (aD 3 (mR _) N79 rfl (aC rfl (λW44 N80=>?_) ?_))
           ·refine Z f (Y31 (v:=.slice Z11 X6.2.length P8) rfl (ad:=⟨Q1,0,none⟩) (N80.ownCell 1 rfl 0)) λ_ f=>ap rfl (aD 3 (mR _) N80 rfl (Y1 (v:=.int .i64 ((X6.2.length:Nat):Int)) rfl f rfl rfl (λ_ _=>by kernel_rfl) λ_ f=>aC rfl (λW45 N81=>?_) ?_))
            ·have N82:=N81.pl [2]
             refine Y21 (z:=.agg #[.int .i8 0,S [],.int .i64 0,S [],S [],.slice none 0 0]) (f:=ao) (xs:=X6.2) (ys:=[ai]) (news:=[.int .i8 0,S [],.int .i64 0,S [],S [],.slice none 0 0]) (ad:=⟨Q11,0,none⟩) (m:=1) (c:=1) f N82 D10 (by exact⟨_,_,rfl,TH0.shut Sli.nil,rfl⟩) rfl rfl rfl rfl (am (N82.ownCell 1 rfl) 0 rfl) (by exact O6) (by have hg_:=O6;first|omega|(simp only[List.length_cons,List.length_nil] at*;omega)) λZ14 P14 L12 W46 N83 D17 _ f=>?_
             have N84:=N83.pl [1]
             have N85:=N84.drop
             refine ap rfl (aD 2 (mR _) N85 rfl (aC rfl (λW47 N86=>?_) ?_))
             ·obtain⟨Q12,P15,H6,hcap_4⟩:=N86.rowAddr 0 rfl (bJ l7)
              have f:=f.st 65 (H6)
              refine Z f (Y29 rfl (ad:=⟨Q12,0,none⟩) (len:=(X6.2++[ai]).length) (cap:=P15) (k:=.i64) (i:=((X6.2.length:Nat):Int)) (e:=31) (sz:=6) (ax l7) (aw l7)) λ_ f=>?_
              have f:=f.st 65 (H6.symm)
              refine ap rfl (aD 2 (mR _) N86 rfl (aC rfl (λW48 N87=>?_) ?_))
              ·refine Y25 (it:=((X6.2.length:Nat):Int)) (d:=X6.2++[ai]) (f:=ao) (xv:=X5.1) (vs:=[.int .i8 X5.1.ab,S X5.1.aa,.int .i64 X5.1.af,S X5.1.ak,S X5.1.al,.slice Z8 X5.1.fL.length P6]) f N87 H6 rfl rfl (by exact TH0.shutx (x:=X5.1) (B7.mono J5)) bg l7 D17 λL13 W49 N88 D18 _ f=>?_
               have N89:Hp w0 V5 ((Ent.row 31 6 (.slice Z14 ((X6.2++[ai]).set ((X6.2.length:Nat):Int).toNat X5.1).length P14) ((X6.2++[ai]).set ((X6.2.length:Nat):Int).toNat X5.1).length L13)::(Ent.obj Q1 (.cells #[.slice Z11 X6.2.length P8] 29 (0,0)))::(Ent.obj Q2 (.cells #[.pointer Z9,.slice Z10 X6.1.length P7] 142 (0,0)))::(Ent.row 5 1 (.slice Z10 X6.1.length P7) X6.1.length L4)::(Ent.obj Q5 (.cells #[.int .i8 X5.1.ab,S X5.1.aa,.int .i64 X5.1.af,S X5.1.ak,S X5.1.al,.slice Z8 X5.1.fL.length P6] 31 (0,0)))::(Ent.obj Q3 (.stringIter (mkS d0) (K1.2.2.2.2+X2.2)))::H) W49:=N88.rowVal (by simp only[List.length_set])
               have f:=Frm.set f 65 (v:=.slice Z14 (X6.2++[ai]).length P14) (v':=.slice Z14 ((X6.2++[ai]).set ((X6.2.length:Nat):Int).toNat X5.1).length P14) (by kernel_rfl) (by simp only[List.length_set])
               refine ap rfl (aD 2 (mR _) N89 rfl (aC rfl (λW50 N90=>?_) ?_))
               ·refine Y26 f N90 1 rfl rfl (b:=Q1) (j:=0) (v:=.slice Z14 ((X6.2++[ai]).set ((X6.2.length:Nat):Int).toNat X5.1).length P14) rfl (by exact rfl) (by simp) (by simp) ((Ent.row 31 6 (.slice Z14 ((X6.2++[ai]).set ((X6.2.length:Nat):Int).toNat X5.1).length P14) ((X6.2++[ai]).set ((X6.2.length:Nat):Int).toNat X5.1).length L13)::(Ent.obj Q1 (.cells #[.slice Z14 ((X6.2++[ai]).set ((X6.2.length:Nat):Int).toNat X5.1).length P14] 29 (0,0)))::(Ent.obj Q2 (.cells #[.pointer Z9,.slice Z10 X6.1.length P7] 142 (0,0)))::(Ent.row 5 1 (.slice Z10 X6.1.length P7) X6.1.length L4)::(Ent.obj Q5 (.cells #[.int .i8 X5.1.ab,S X5.1.aa,.int .i64 X5.1.af,S X5.1.ak,S X5.1.al,.slice Z8 X5.1.fL.length P6] 31 (0,0)))::(Ent.obj Q3 (.stringIter (mkS d0) (K1.2.2.2.2+X2.2)))::H) rfl λW51 N91 _ f=>ap rfl (aD 2 (mR _) N91 rfl (ee λW52 N92=>aK ?_))
                exact⟨(X6.2++[ai]).set ((X6.2.length:Nat):Int).toNat X5.1,(sI F27).symm,V5,(mR _),Z14,P14,L13,D18,f.kp,N92⟩
               exact aB
              refine aC rfl (λW53 N93=>?_) ?_
              ·refine Y26 f N93 1 rfl rfl (b:=Q1) (j:=0) (v:=.slice Z14 (X6.2++[ai]).length P14) rfl (by exact rfl) (by simp) (by simp) ((Ent.row 31 6 (.slice Z14 (X6.2++[ai]).length P14) (X6.2++[ai]).length L12)::(Ent.obj Q1 (.cells #[.slice Z14 (X6.2++[ai]).length P14] 29 (0,0)))::(Ent.obj Q2 (.cells #[.pointer Z9,.slice Z10 X6.1.length P7] 142 (0,0)))::(Ent.row 5 1 (.slice Z10 X6.1.length P7) X6.1.length L4)::(Ent.obj Q5 (.cells #[.int .i8 X5.1.ab,S X5.1.aa,.int .i64 X5.1.af,S X5.1.ak,S X5.1.al,.slice Z8 X5.1.fL.length P6] 31 (0,0)))::(Ent.obj Q3 (.stringIter (mkS d0) (K1.2.2.2.2+X2.2)))::H) rfl λW54 N94 _ f=>ap rfl (aD 2 (mR _) N94 rfl (aC rfl (λW55 N95=>?_) ?_))
               ·refine Y25 (it:=((X6.2.length:Nat):Int)) (d:=X6.2++[ai]) (f:=ao) (xv:=X5.1) (vs:=[.int .i8 X5.1.ab,S X5.1.aa,.int .i64 X5.1.af,S X5.1.ak,S X5.1.al,.slice Z8 X5.1.fL.length P6]) f N95 H6 rfl rfl (by exact TH0.shutx (x:=X5.1) (B7.mono J5)) bg l7 D17 λL14 W56 N96 D19 _ f=>?_
                have N97:Hp w0 V5 ((Ent.row 31 6 (.slice Z14 ((X6.2++[ai]).set ((X6.2.length:Nat):Int).toNat X5.1).length P14) ((X6.2++[ai]).set ((X6.2.length:Nat):Int).toNat X5.1).length L14)::(Ent.obj Q1 (.cells #[.slice Z14 (X6.2++[ai]).length P14] 29 (0,0)))::(Ent.obj Q2 (.cells #[.pointer Z9,.slice Z10 X6.1.length P7] 142 (0,0)))::(Ent.row 5 1 (.slice Z10 X6.1.length P7) X6.1.length L4)::(Ent.obj Q5 (.cells #[.int .i8 X5.1.ab,S X5.1.aa,.int .i64 X5.1.af,S X5.1.ak,S X5.1.al,.slice Z8 X5.1.fL.length P6] 31 (0,0)))::(Ent.obj Q3 (.stringIter (mkS d0) (K1.2.2.2.2+X2.2)))::H) W56:=N96.rowVal (by simp only[List.length_set])
                have f:=Frm.set f 65 (v:=.slice Z14 (X6.2++[ai]).length P14) (v':=.slice Z14 ((X6.2++[ai]).set ((X6.2.length:Nat):Int).toNat X5.1).length P14) (by kernel_rfl) (by simp only[List.length_set])
                have N98:Hp w0 V5 ((Ent.row 31 6 (.slice Z14 ((X6.2++[ai]).set ((X6.2.length:Nat):Int).toNat X5.1).length P14) ((X6.2++[ai]).set ((X6.2.length:Nat):Int).toNat X5.1).length L14)::(Ent.obj Q1 (.cells #[.slice Z14 ((X6.2++[ai]).set ((X6.2.length:Nat):Int).toNat X5.1).length P14] 29 (0,0)))::(Ent.obj Q2 (.cells #[.pointer Z9,.slice Z10 X6.1.length P7] 142 (0,0)))::(Ent.row 5 1 (.slice Z10 X6.1.length P7) X6.1.length L4)::(Ent.obj Q5 (.cells #[.int .i8 X5.1.ab,S X5.1.aa,.int .i64 X5.1.af,S X5.1.ak,S X5.1.al,.slice Z8 X5.1.fL.length P6] 31 (0,0)))::(Ent.obj Q3 (.stringIter (mkS d0) (K1.2.2.2.2+X2.2)))::H) W56:=by simp only[List.length_set];rw[List.length_set] at N97;exact N97
                refine ap rfl (aD 2 (mR _) N98 rfl (ee λW57 N99=>aK ?_))
                exact⟨(X6.2++[ai]).set ((X6.2.length:Nat):Int).toNat X5.1,(sI F27).symm,V5,(mR _),Z14,P14,L14,D19,f.kp,N99⟩
               exact aB
              exact aB
             refine aC rfl (λW58 N100=>?_) ?_
             ·refine Y26 f N100 1 rfl rfl (b:=Q1) (j:=0) (v:=.slice Z14 (X6.2++[ai]).length P14) rfl (by exact rfl) (by simp) (by simp) ((Ent.row 31 6 (.slice Z14 (X6.2++[ai]).length P14) (X6.2++[ai]).length L12)::(Ent.obj Q1 (.cells #[.slice Z14 (X6.2++[ai]).length P14] 29 (0,0)))::(Ent.obj Q2 (.cells #[.pointer Z9,.slice Z10 X6.1.length P7] 142 (0,0)))::(Ent.row 5 1 (.slice Z10 X6.1.length P7) X6.1.length L4)::(Ent.obj Q5 (.cells #[.int .i8 X5.1.ab,S X5.1.aa,.int .i64 X5.1.af,S X5.1.ak,S X5.1.al,.slice Z8 X5.1.fL.length P6] 31 (0,0)))::(Ent.obj Q3 (.stringIter (mkS d0) (K1.2.2.2.2+X2.2)))::H) rfl λW59 N101 _ f=>ap rfl (aD 2 (mR _) N101 rfl (aC rfl (λW60 N102=>?_) ?_))
              ·obtain⟨Q13,P16,H7,hcap_5⟩:=N102.rowAddr 0 rfl (bJ l7)
               have f:=f.st 65 (H7)
               refine Z f (Y29 rfl (ad:=⟨Q13,0,none⟩) (len:=(X6.2++[ai]).length) (cap:=P16) (k:=.i64) (i:=((X6.2.length:Nat):Int)) (e:=31) (sz:=6) (ax l7) (aw l7)) λ_ f=>?_
               have f:=f.st 65 (H7.symm)
               refine ap rfl (aD 2 (mR _) N102 rfl (aC rfl (λW61 N103=>?_) ?_))
               ·refine Y25 (it:=((X6.2.length:Nat):Int)) (d:=X6.2++[ai]) (f:=ao) (xv:=X5.1) (vs:=[.int .i8 X5.1.ab,S X5.1.aa,.int .i64 X5.1.af,S X5.1.ak,S X5.1.al,.slice Z8 X5.1.fL.length P6]) f N103 H7 rfl rfl (by exact TH0.shutx (x:=X5.1) (B7.mono J5)) bg l7 D17 λL15 W62 N104 D20 _ f=>?_
                have N105:Hp w0 V5 ((Ent.row 31 6 (.slice Z14 ((X6.2++[ai]).set ((X6.2.length:Nat):Int).toNat X5.1).length P14) ((X6.2++[ai]).set ((X6.2.length:Nat):Int).toNat X5.1).length L15)::(Ent.obj Q1 (.cells #[.slice Z14 (X6.2++[ai]).length P14] 29 (0,0)))::(Ent.obj Q2 (.cells #[.pointer Z9,.slice Z10 X6.1.length P7] 142 (0,0)))::(Ent.row 5 1 (.slice Z10 X6.1.length P7) X6.1.length L4)::(Ent.obj Q5 (.cells #[.int .i8 X5.1.ab,S X5.1.aa,.int .i64 X5.1.af,S X5.1.ak,S X5.1.al,.slice Z8 X5.1.fL.length P6] 31 (0,0)))::(Ent.obj Q3 (.stringIter (mkS d0) (K1.2.2.2.2+X2.2)))::H) W62:=N104.rowVal (by simp only[List.length_set])
                have f:=Frm.set f 65 (v:=.slice Z14 (X6.2++[ai]).length P14) (v':=.slice Z14 ((X6.2++[ai]).set ((X6.2.length:Nat):Int).toNat X5.1).length P14) (by kernel_rfl) (by simp only[List.length_set])
                have N106:Hp w0 V5 ((Ent.row 31 6 (.slice Z14 ((X6.2++[ai]).set ((X6.2.length:Nat):Int).toNat X5.1).length P14) ((X6.2++[ai]).set ((X6.2.length:Nat):Int).toNat X5.1).length L15)::(Ent.obj Q1 (.cells #[.slice Z14 ((X6.2++[ai]).set ((X6.2.length:Nat):Int).toNat X5.1).length P14] 29 (0,0)))::(Ent.obj Q2 (.cells #[.pointer Z9,.slice Z10 X6.1.length P7] 142 (0,0)))::(Ent.row 5 1 (.slice Z10 X6.1.length P7) X6.1.length L4)::(Ent.obj Q5 (.cells #[.int .i8 X5.1.ab,S X5.1.aa,.int .i64 X5.1.af,S X5.1.ak,S X5.1.al,.slice Z8 X5.1.fL.length P6] 31 (0,0)))::(Ent.obj Q3 (.stringIter (mkS d0) (K1.2.2.2.2+X2.2)))::H) W62:=by simp only[List.length_set];rw[List.length_set] at N105;exact N105
                refine ap rfl (aD 2 (mR _) N106 rfl (ee λW63 N107=>aK ?_))
                exact⟨(X6.2++[ai]).set ((X6.2.length:Nat):Int).toNat X5.1,(sI F27).symm,V5,(mR _),Z14,P14,L15,D20,f.kp,N107⟩
               exact aB
              exact aB
             exact aB
            exact aB
           exact aB
          exact aB
         ·rintro a_79 W64 ⟨G2,eZ,V6,J6,Z15,P17,L16,D21,f,N108⟩
          subst mi
          refine dZ (dZ ?_)
          have N134:=N108.pl [1,2,5,4,4,5]
          refine aK ?_
          obtain rfl:=sI F25
          exact⟨⟨I2,((0:Int),K1.2.1,G2,X6.1,K1.2.2.2.2+X2.2),Z15,P17,L16,Z9,Z10,P7,L4⟩,Nat.lt_succ_self _,V6,((((J1.trans J2).trans J4).trans J5).trans J6),⟨T1,D21,hb_3,(ag.mono J6 _ _ D9)⟩,f.kp,(N134.dropN 1)⟩
        ·refine RR (Y f 1 λ_ f=>Y26 f N28 5 rfl rfl (b:=Q1) (j:=0) (v:=.slice none 0 0) rfl (by exact rfl) (by simp) (by simp) ((Ent.obj Q5 (.cells #[.int .i8 X5.1.ab,S X5.1.aa,.int .i64 X5.1.af,S X5.1.ak,S X5.1.al,.slice Z8 X5.1.fL.length P6] 31 (0,0)))::(Ent.obj Q3 (.stringIter (mkS d0) (K1.2.2.2.2+X2.2)))::(Ent.row 31 6 (.slice Z3 K1.2.2.1.length P3) K1.2.2.1.length L1)::(Ent.row 5 1 (.slice Z5 K1.2.2.2.1.length P4) K1.2.2.2.1.length L2)::(Ent.obj Q2 (.cells #[.pointer Z4,.slice Z5 K1.2.2.2.1.length P4] 142 (0,0)))::(Ent.obj Q1 (.cells #[.slice none 0 0] 29 (0,0)))::H) rfl λW65 N109 _ f=>Y f 2 λ_ f=>eT (wp_ret (ed (ed ?_))))
         have N140:=N109.pl [5,5,3,5,5,5]
         refine bC ?_
         obtain rfl:=sI F28
         exact .inl ⟨rfl,(K1.2.1,K1.2.2.2.1,K1.2.2.2.2+X2.2),(sI T1).symm,V4,((J1.trans J2).trans J4),Z4,Z5,P4,L2,gE,(ag.mono (J2.trans J4) _ _ D6),f.kp,(N140.dropN 2)⟩
      ·refine RR (Y f 3 λ_ f=>eT (RcF f F29 (λB9 F30=>?_) λB9 F31=>?_))
       ·have U13:=dI.1 B9
        refine wp_skip (dZ (dZ ?_))
        have N145:=N21.pl [4,4,2,4,4]
        refine aK ?_
        obtain rfl:=sI F30
        exact⟨⟨I2,(K1.1,K1.2.1,K1.2.2.1,K1.2.2.2.1,K1.2.2.2.2+X2.2),Z3,P3,L1,Z4,Z5,P4,L2⟩,Nat.lt_succ_self _,V2,(J1.trans J2),⟨T1,(ag.mono J2 _ _ D5),gE,(ag.mono J2 _ _ D6)⟩,f.kp,N145⟩
       ·have U14:=aq dI B9
        refine an ?_
        obtain⟨j_3,mY,F32⟩:=bS F31
        refine bD (λa_87 W66=>∃G3:Bool,j_3=G3∧∃V7:Mem,V2.le V7∧Frm 95 [(0,S d0),(2,.pointer (some (⟨Q1,0,none⟩))),(5,.pointer (some (⟨Q2,0,none⟩))),(6,.func (.func 116) #[] #[.pointer (some (⟨Q2,0,none⟩)),.pointer (some (⟨Q1,0,none⟩))]),(7,.int .i64 K1.1),(8,.int .i64 K1.2.1),(9,.int .i64 ((K1.2.2.2.2:Nat):Int)),(10,.int .i32 ((X2.1:Nat):Int)),(24,.pointer (some (⟨Q3,0,none⟩))),(71,.bool G3)] a_87∧Hp w0 V7 ((Ent.obj Q3 (.stringIter (mkS d0) (K1.2.2.2.2+X2.2)))::(Ent.row 31 6 (.slice Z3 K1.2.2.1.length P3) K1.2.2.1.length L1)::(Ent.row 5 1 (.slice Z5 K1.2.2.2.1.length P4) K1.2.2.2.1.length L2)::(Ent.obj Q2 (.cells #[.pointer Z4,.slice Z5 K1.2.2.2.1.length P4] 142 (0,0)))::(Ent.obj Q1 (.cells #[.slice Z3 K1.2.2.1.length P3] 29 (0,0)))::H) W66) ?_ ?_
        ·refine aA (Y f 3 λ_ f=>?_)
         rcases cE mY with⟨B10,F33⟩|⟨B10,F34⟩
         ·have U15:=dI.1 B10
          have f:=f.st 74 (cB B10)
          refine Y f 4 λ_ f=>eT ?_
          exact⟨(decide (((X2.1:Nat):Int)=123)),(sI F33).symm,V2,(mR _),f.kp,N21⟩
         ·have U16:=aq dI B10
          have f:=f.st 74 (cB B10)
          refine Y f 4 λ_ f=>eT ?_
          exact⟨(false),(sI F34).symm,V2,(mR _),f.kp,N21⟩
        ·rintro a_87 W66 ⟨G3,lb,V7,J7,f,N110⟩
         subst j_3
         refine aK (RcF f F32 (λB11 F35=>?_) λB11 F36=>?_)
         ·refine aA (Y f 1 λ_ f=>ap rfl (dZ (dZ ?_)))
          have N150:=N110.pl [4,4,2,4,4]
          refine aK ?_
          obtain rfl:=sI F35
          exact⟨⟨I2,((2:Int),K1.2.1,K1.2.2.1,K1.2.2.2.1,K1.2.2.2.2+X2.2),Z3,P3,L1,Z4,Z5,P4,L2⟩,Nat.lt_succ_self _,V7,((J1.trans J2).trans J7),⟨T1,(ag.mono (J2.trans J7) _ _ D5),gE,(ag.mono (J2.trans J7) _ _ D6)⟩,f.kp,N150⟩
         ·refine RR (Y f 3 λ_ f=>eT (RcF f F36 (λB12 F37=>?_) λB12 F41=>?_))
          ·have U19:=dI.1 B12
           refine an (RR (Y f 2 λ_ f=>eT (RcF f F37 (λB13 F38=>?_) λB13 F40=>?_)))
           ·have U20:=dI.1 B13
            refine aA ?_
            obtain⟨X12,l8,F39⟩:=bS F38
            have N113:=N110.pl [2,3]
            refine Y18 (E:=[Ent.obj Q2 (.cells #[.pointer Z4,.slice Z5 K1.2.2.2.1.length P4] 142 (0,0)),Ent.row 5 1 (.slice Z5 K1.2.2.2.1.length P4) K1.2.2.2.1.length L2]) (H:=((Ent.obj Q3 (.stringIter (mkS d0) (K1.2.2.2.2+X2.2)))::(Ent.row 31 6 (.slice Z3 K1.2.2.1.length P3) K1.2.2.1.length L1)::(Ent.obj Q1 (.cells #[.slice Z3 K1.2.2.1.length P3] 29 (0,0)))::H)) f N113 (cM n _ Q2 Z4 gE K1.2.2.2.1 Z5 P4 L2 (ag.mono (J2.trans J7) _ _ D6) (36:Int) X12 l8) λ_ V8 E_3 W67 J8 N111 q_4 _ f=>?_
            obtain⟨Z16,Z17,P18,L17,rfl,rfl,hb_4,D22⟩:=q_4
            refine eT (aA (Y f 3 λ_ f=>ap rfl (dZ (dZ ?_))))
            have N155:=N111.pl [4,1,3,3,4]
            refine aK ?_
            obtain rfl:=sI F39
            exact⟨⟨I2,((1:Int),((K1.2.2.2.2:Nat):Int),K1.2.2.1,X12.2,K1.2.2.2.2+X2.2),Z3,P3,L1,Z16,Z17,P18,L17⟩,Nat.lt_succ_self _,V8,(((J1.trans J2).trans J7).trans J8),⟨T1,(ag.mono ((J2.trans J7).trans J8) _ _ D5),hb_4,D22⟩,f.kp,N155⟩
           ·have U21:=aq dI B13
            refine wp_skip (aK (aA (Y f 3 λ_ f=>ap rfl (dZ (dZ ?_)))))
            have N160:=N110.pl [4,4,2,4,4]
            refine aK ?_
            obtain rfl:=sI F40
            exact⟨⟨I2,((1:Int),((K1.2.2.2.2:Nat):Int),K1.2.2.1,K1.2.2.2.1,K1.2.2.2.2+X2.2),Z3,P3,L1,Z4,Z5,P4,L2⟩,Nat.lt_succ_self _,V7,((J1.trans J2).trans J7),⟨T1,(ag.mono (J2.trans J7) _ _ D5),gE,(ag.mono (J2.trans J7) _ _ D6)⟩,f.kp,N160⟩
          ·have U22:=aq dI B12
           refine an (RR (Y f 2 λ_ f=>eT (RcF f F41 (λB14 F42=>?_) λB14 F45=>?_)))
           ·have U23:=dI.1 B14
            refine aA ?_
            obtain⟨X13,l9,F43⟩:=bS F42
            have N116:=N110.pl [2,3]
            refine Y18 (E:=[Ent.obj Q2 (.cells #[.pointer Z4,.slice Z5 K1.2.2.2.1.length P4] 142 (0,0)),Ent.row 5 1 (.slice Z5 K1.2.2.2.1.length P4) K1.2.2.2.1.length L2]) (H:=((Ent.obj Q3 (.stringIter (mkS d0) (K1.2.2.2.2+X2.2)))::(Ent.row 31 6 (.slice Z3 K1.2.2.1.length P3) K1.2.2.1.length L1)::(Ent.obj Q1 (.cells #[.slice Z3 K1.2.2.1.length P3] 29 (0,0)))::H)) f N116 (cM n _ Q2 Z4 gE K1.2.2.2.1 Z5 P4 L2 (ag.mono (J2.trans J7) _ _ D6) (36:Int) X13 l9) λ_ V9 E_4 W68 J9 N114 q_5 _ f=>?_
            obtain⟨Z18,Z19,P19,L18,rfl,rfl,hb_5,D23⟩:=q_5
            refine eT (RR (Y f 1 λ_ f=>eT (aA (Y f 1 λ_ f=>?_))))
            obtain⟨X14,l10,F44⟩:=bS F43
            refine Y18 (E:=[Ent.obj Q2 (.cells #[.pointer Z18,.slice Z19 X13.2.length P19] 142 (0,0)),Ent.row 5 1 (.slice Z19 X13.2.length P19) X13.2.length L18]) (H:=((Ent.obj Q3 (.stringIter (mkS d0) (K1.2.2.2.2+X2.2)))::(Ent.row 31 6 (.slice Z3 K1.2.2.1.length P3) K1.2.2.1.length L1)::(Ent.obj Q1 (.cells #[.slice Z3 K1.2.2.1.length P3] 29 (0,0)))::H)) f N114 (dQ n _ Q2 Z18 hb_5 X13.2 Z19 P19 L18 D23 ((X2.1:Nat):Int) X14 l10) λ_ V10 E_5 W69 J10 N117 q_6 _ f=>?_
            obtain⟨Z20,Z21,P20,L19,rfl,rfl,hb_6,D24⟩:=q_6
            refine ap rfl (dZ (dZ ?_))
            have N165:=N117.pl [4,1,3,3,4]
            refine aK ?_
            obtain rfl:=sI F44
            exact⟨⟨I2,((0:Int),K1.2.1,K1.2.2.1,X14.2.2,K1.2.2.2.2+X2.2),Z3,P3,L1,Z20,Z21,P20,L19⟩,Nat.lt_succ_self _,V10,((((J1.trans J2).trans J7).trans J9).trans J10),⟨T1,(ag.mono (((J2.trans J7).trans J9).trans J10) _ _ D5),hb_6,D24⟩,f.kp,N165⟩
           ·have U24:=aq dI B14
            refine wp_skip (aK (RR (Y f 1 λ_ f=>eT (aA (Y f 1 λ_ f=>?_)))))
            obtain⟨X15,l11,F46⟩:=bS F45
            have N120:=N110.pl [2,3]
            refine Y18 (E:=[Ent.obj Q2 (.cells #[.pointer Z4,.slice Z5 K1.2.2.2.1.length P4] 142 (0,0)),Ent.row 5 1 (.slice Z5 K1.2.2.2.1.length P4) K1.2.2.2.1.length L2]) (H:=((Ent.obj Q3 (.stringIter (mkS d0) (K1.2.2.2.2+X2.2)))::(Ent.row 31 6 (.slice Z3 K1.2.2.1.length P3) K1.2.2.1.length L1)::(Ent.obj Q1 (.cells #[.slice Z3 K1.2.2.1.length P3] 29 (0,0)))::H)) f N120 (dQ n _ Q2 Z4 gE K1.2.2.2.1 Z5 P4 L2 (ag.mono (J2.trans J7) _ _ D6) ((X2.1:Nat):Int) X15 l11) λ_ V11 E_6 W70 J11 N118 q_7 _ f=>?_
            obtain⟨Z22,Z23,P21,L20,rfl,rfl,hb_7,D25⟩:=q_7
            refine ap rfl (dZ (dZ ?_))
            have N170:=N118.pl [4,1,3,3,4]
            refine aK ?_
            obtain rfl:=sI F46
            exact⟨⟨I2,((0:Int),K1.2.1,K1.2.2.1,X15.2.2,K1.2.2.2.2+X2.2),Z3,P3,L1,Z22,Z23,P21,L20⟩,Nat.lt_succ_self _,V11,(((J1.trans J2).trans J7).trans J11),⟨T1,(ag.mono ((J2.trans J7).trans J11) _ _ D5),hb_7,D25⟩,f.kp,N170⟩
    ·refine W_nextS_end (l:=d0) (p:=K1.2.2.2.2) f N19 (by kernel_rfl) (by kernel_rfl) rfl rfl rfl (by kernel_rfl) (of_decide_eq_false B3) λW71 N121 _ f=>Y f 1 λ_ f=>eT (an (Y8 f (wp_exit (eH ?_))))
     have N175:=N121.pl [4,4,2,3,4]
     refine eH ?_
     obtain rfl:=sI F47
     exact .inr ⟨rfl,(K1.1,K1.2.1,K1.2.2.2.1,K1.2.2.1,K1.2.2.2.2),(sI T1).symm,V1,J1,Z4,Z5,P4,L2,Z3,P3,L1,gE,D6,D5,f.kp,N175⟩
   ·rintro _ _ W74 (⟨rfl,G4,rfl,V12,J12,Z24,Z25,P22,L21,hb_8,D26,f,N122⟩|⟨rfl,G5,rfl,V13,J13,Z26,Z27,P23,L22,Z28,P24,L23,hb_9,D27,D28,f,N123⟩)
    ·refine ed (bC ?_)
     have N176:Hp w0 V12 ((Ent.row 31 6 (.slice none 0 0) ([]:List TH0).length [])::(Ent.row 5 1 (.slice Z25 G4.2.1.length P22) G4.2.1.length L21)::(Ent.obj Q3 (.stringIter (mkS d0) G4.2.2))::(Ent.obj Q2 (.cells #[.pointer Z24,.slice Z25 G4.2.1.length P22] 142 (0,0)))::(Ent.obj Q1 (.cells #[.slice none 0 0] 29 (0,0)))::H) W74:=N122.nilRow 31 6
     have D29:ag V12 (([]:List TH0).map ao) []:=rfl
     refine kS f rfl (Y10 (v:=.slice none 0 0) (ad:=⟨Q1,0,none⟩) f (N176.ownCell 4 rfl 0)) (Y12 (v:=.int .i64 G4.1) f) (Y12 (v:=.int .i64 130) f) ?_
     obtain rfl:=sI F6
     have N180:=N176.pl [4,4,4,4]
     exact⟨_,rfl,V12,_,J12,(N180.dropN 4),⟨none,0,[],rfl,rfl,D29⟩⟩
    ·refine kh (aK (an (RR (Y f 1 λ_ f=>eT ?_))))
     obtain⟨j_4,hj_4,F48⟩:=bS F6
     refine bD (λa_114 W77=>∃G6:List UInt8,j_4=.nx G6∧∃V15:Mem,V13.le V15∧∃ (Z31:Option Addr),∃ (Z32:Option Addr),∃ (P26:Nat),∃ (L25:List Value),(Z31=none∨Z31=some ⟨Q2,0,none⟩)∧ag V15 (G6.map embB) L25∧Frm 95 [(2,.pointer (some (⟨Q1,0,none⟩))),(6,.func (.func 116) #[] #[.pointer (some (⟨Q2,0,none⟩)),.pointer (some (⟨Q1,0,none⟩))])] a_114∧Hp w0 V15 ((Ent.row 5 1 (.slice Z32 G6.length P26) G6.length L25)::(Ent.obj Q2 (.cells #[.pointer Z31,.slice Z32 G6.length P26] 142 (0,0)))::(Ent.row 31 6 (.slice Z28 G5.2.2.2.1.length P24) G5.2.2.2.1.length L23)::(Ent.obj Q3 (.stringIter (mkS d0) G5.2.2.2.2))::(Ent.obj Q1 (.cells #[.slice Z28 G5.2.2.2.1.length P24] 29 (0,0)))::H) W77) ?_ ?_
     ·refine wp_block (RR (Y f 2 λ_ f=>eT (RcF f hj_4 (λB15 F49=>?_) λB15 F51=>?_)))
      ·have U25:=dI.1 B15
       refine RR (Y f 1 λ_ f=>Y26 f N123 4 rfl rfl (b:=Q1) (j:=0) (v:=.slice none 0 0) rfl (by exact rfl) (by simp) (by simp) ((Ent.row 5 1 (.slice Z27 G5.2.2.1.length P23) G5.2.2.1.length L22)::(Ent.row 31 6 (.slice Z28 G5.2.2.2.1.length P24) G5.2.2.2.1.length L23)::(Ent.obj Q3 (.stringIter (mkS d0) G5.2.2.2.2))::(Ent.obj Q2 (.cells #[.pointer Z26,.slice Z27 G5.2.2.1.length P23] 142 (0,0)))::(Ent.obj Q1 (.cells #[.slice none 0 0] 29 (0,0)))::H) rfl λW75 N181 _ f=>Y f 2 λ_ f=>eT (wp_ret (ed ?_)))
       have F50:=bF F49 F48
       refine bC (bC ?_)
       have N182:Hp w0 V13 ((Ent.row 31 6 (.slice none 0 0) ([]:List TH0).length [])::(Ent.row 5 1 (.slice Z27 G5.2.2.1.length P23) G5.2.2.1.length L22)::(Ent.row 31 6 (.slice Z28 G5.2.2.2.1.length P24) G5.2.2.2.1.length L23)::(Ent.obj Q3 (.stringIter (mkS d0) G5.2.2.2.2))::(Ent.obj Q2 (.cells #[.pointer Z26,.slice Z27 G5.2.2.1.length P23] 142 (0,0)))::(Ent.obj Q1 (.cells #[.slice none 0 0] 29 (0,0)))::H) W75:=N181.nilRow 31 6
       have D30:ag V13 (([]:List TH0).map ao) []:=rfl
       refine kS f rfl (Y10 (v:=.slice none 0 0) (ad:=⟨Q1,0,none⟩) f (N182.ownCell 5 rfl 0)) (Y12 (v:=.int .i64 G5.2.1) f) (Y12 (v:=.int .i64 130) f) ?_
       obtain rfl:=sI F50
       have N187:=N182.pl [5,5,5,5,5]
       exact⟨_,rfl,V13,_,J13,(N187.dropN 5),⟨none,0,[],rfl,rfl,D30⟩⟩
      ·have U26:=aq dI B15
       refine RR (Y f 2 λ_ f=>eT (RcF f F51 (λB16 F52=>?_) λB16 F54=>?_))
       ·have U27:=dI.1 B16
        refine aA ?_
        obtain⟨X16,l12,F53⟩:=bS F52
        have N189:=N123.pl [3]
        refine Y18 (E:=[Ent.obj Q2 (.cells #[.pointer Z26,.slice Z27 G5.2.2.1.length P23] 142 (0,0)),Ent.row 5 1 (.slice Z27 G5.2.2.1.length P23) G5.2.2.1.length L22]) (H:=((Ent.row 31 6 (.slice Z28 G5.2.2.2.1.length P24) G5.2.2.2.1.length L23)::(Ent.obj Q3 (.stringIter (mkS d0) G5.2.2.2.2))::(Ent.obj Q1 (.cells #[.slice Z28 G5.2.2.2.1.length P24] 29 (0,0)))::H)) f N189 (cM n _ Q2 Z26 hb_9 G5.2.2.1 Z27 P23 L22 D27 (36:Int) X16 l12) λ_ V14 E_7 W76 J14 N188 q_8 _ f=>?_
        obtain⟨Z29,Z30,P25,L24,rfl,rfl,hb_10,D31⟩:=q_8
        refine ap rfl (dZ ?_)
        have N195:=N188.pl [4,4,4,3,4]
        refine aK ?_
        exact⟨X16.2,(sI F53).symm,V14,J14,Z29,Z30,P25,L24,hb_10,D31,f.kp,N195⟩
       ·have U28:=aq dI B16
        refine wp_skip (dZ ?_)
        have N200:=N123.pl [4,3,3,4,4]
        refine aK ?_
        exact⟨G5.2.2.1,(sI F54).symm,V13,(mR _),Z26,Z27,P23,L22,hb_9,D27,f.kp,N200⟩
     ·rintro a_114 W77 ⟨G6,rfl,V15,J15,Z31,Z32,P26,L25,hb_11,D32,f,N190⟩
      refine aK (RR (Y f 1 λ_ f=>?_))
      obtain⟨X17,l13,F55⟩:=bS F48
      have N205:=N190.pl [2,4,2,3]
      refine Y18 (E:=[Ent.obj Q2 (.cells #[.pointer Z31,.slice Z32 G6.length P26] 142 (0,0)),Ent.row 5 1 (.slice Z32 G6.length P26) G6.length L25,Ent.obj Q1 (.cells #[.slice Z28 G5.2.2.2.1.length P24] 29 (0,0)),Ent.row 31 6 (.slice Z28 G5.2.2.2.1.length P24) G5.2.2.2.1.length L23]) (H:=((Ent.obj Q3 (.stringIter (mkS d0) G5.2.2.2.2))::H)) f N205 (lx n _ (GL.mono (J13.trans J15) hG) Q2 Z31 hb_11 G6 Z32 P26 L25 D32 Q1 G5.2.2.2.1 Z28 P24 L23 (ag.mono J15 _ _ D28) X17 l13) λ_ V16 E_8 W78 J16 N201 q_9 _ f=>?_
      obtain⟨Z33,Z34,P27,L26,Z35,P28,L27,rfl,rfl,hb_12,D33,D34⟩:=q_9
      refine eT (RR (Z f (Y31 (v:=.slice Z35 X17.2.length P28) rfl (ad:=⟨Q1,0,none⟩) (N201.ownCell 2 rfl 0)) λ_ f=>Y26 f N201 2 rfl rfl (b:=Q1) (j:=0) (v:=.slice Z35 X17.2.length P28) rfl (by exact rfl) (by simp) (by simp) ((Ent.obj Q2 (.cells #[.pointer Z33,.slice Z34 X17.1.length P27] 142 (0,0)))::(Ent.row 5 1 (.slice Z34 X17.1.length P27) X17.1.length L26)::(Ent.obj Q1 (.cells #[.slice Z35 X17.2.length P28] 29 (0,0)))::(Ent.row 31 6 (.slice Z35 X17.2.length P28) X17.2.length L27)::(Ent.obj Q3 (.stringIter (mkS d0) G5.2.2.2.2))::H) rfl λW79 N206 _ f=>Y f 2 λ_ f=>eT (wp_ret (kS f rfl (Y10 (v:=.slice Z35 X17.2.length P28) (ad:=⟨Q1,0,none⟩) f (N206.ownCell 2 rfl 0)) (Y12 (v:=.int .i64 0) f) (Y12 (v:=.int .i64 0) f) ?_))))
      obtain rfl:=sI F55
      have N211:=N206.pl [3,4,4,4,4]
      exact⟨_,rfl,V16,_,((J13.trans J15).trans J16),(N211.dropN 4),⟨Z35,P28,L27,rfl,rfl,D34⟩⟩
def ir (n:Nat) (d0:Bs):Option (TH0×Bool):=
 (ij n d0).bind λX1=>
 bif(decide (X1<0)) then
  ((dD n d0).bind λX2=>
  some (((⟨(3:Int),([]:Bs),(0:Int),d0,([]:Bs),([]:List TH0)⟩:TH0),(X2))))
 else
  aS (0≤X1∧X1≤d0.length)<|
  aS (inR .i64 (X1+1))<|
  aS (0≤(X1+1)∧(X1+1)≤d0.length)<|
  aS (0≤X1∧X1≤d0.length)<|
  (dD n (d0.take X1.toNat)).bind λX3=>
  bif X3 then
   (aS (inR .i64 (X1+1))<|
   aS (0≤(X1+1)∧(X1+1)≤d0.length)<|
   (ga n (d0.drop (X1+1).toNat)).bind λX4=>
   some (((⟨(4:Int),([]:Bs),(0:Int),d0.take X1.toNat,d0.drop (X1+1).toNat,([]:List TH0)⟩:TH0),(X4))))
  else
   some (((⟨(4:Int),([]:Bs),(0:Int),d0.take X1.toNat,d0.drop (X1+1).toNat,([]:List TH0)⟩:TH0),(false)))
theorem nN (n:Nat) (M:Mem) (d0:Bs) (r:TH0×Bool) (hF:ir n d0=some r):Ok Tryz.prog M 130 [S d0] (λM' v=>∃ (c0:Lv),v=.tuple #[.agg c0.toArray,bO r.2]∧Rep M' (ao r.1) c0):=by
 unfold ir at hF
 intro M1 hM0 w0 H w p0
 refine Re 32 Tryz.func130 rfl λa0 f0=>RR (Y13 f0 p0 (.cells #[iB 0,S [],iL 0,S [],S [],Sn] 31 (0,0)) λQ1 W1 N1 _ f=>Ye f 1 λ_ f=>RR (Y f 1 λ_ f=>?_))
 obtain⟨X1,l1,F1⟩:=bS hF
 refine Y19 f N1 (lr n _ d0 X1 l1) λW2 N2 _ f=>Ye f 1 λ_ f=>an (RR (Ye f 2 λ_ f=>RcF f F1 (λB1 F2=>?_) λB1 F4=>?_))
 ·have U1:=dI.1 B1
  refine RR (Y f 3 λ_ f=>?_)
  obtain⟨X2,l2,F3⟩:=bS F2
  refine Y19 f N2 (eK n _ d0 X2 l2) λW3 N3 _ f=>Ys [iB 3,S [],iL 0,S d0,S [],Sn] #[iB 3,S [],iL 0,S d0,S [],Sn] f N3 rfl rfl λW4 N4 _ f=>Ye f 1 λ_ f=>wp_ret (bC (mC f rfl (Y11 (cs:=[iB 3,S [],iL 0,S d0,S [],Sn]) (ad:=⟨Q1,0,none⟩) f (am (N4.ownCell 0 rfl) 0 rfl)) (Y12 (v:=bO X2) f) ?_))
  cases sI F3
  exact⟨_,rfl,M1,(mR _),(N4.dropN 1),⟨[iB 3,S [],iL 0,S d0,S [],Sn],rfl,(TH0.shut Sli.nil)⟩⟩
 ·have U2:=aq dI B1
  refine St (an (dp (E:=[oC Q1 #[iB 0,S [],iL 0,S [],S [],Sn] 31]) (Hr:=(H)) [(0,true),(1,true),(2,true),(3,true),(4,true),(5,true),(6,true),(7,true),(8,true),(9,true),(10,true),(11,true),(12,true),(13,true),(14,true),(15,true),(16,true),(17,true),(18,true),(19,false),(20,true)] N2 kr kr rfl kr (Y0 default f 2 λ_ f=>?_)))
  obtain⟨O1,F5⟩:=nS F4
  refine bz (v:=S (d0.take X1.toNat)) f kr kr rfl rfl (λ_ pq=>X_strTo rfl (l:=d0) (k':=.i64) (b:=X1) kr kr kr O1.1 O1.2) λ_ f=>Y0 default f 2 λ_ f=>?_
  obtain⟨O2,F6⟩:=nS F5
  refine bz (v:=iL (IntKind.wrap .i64 (X1+1))) f kr kr rfl rfl (λ_ pq=>by kernel_rfl) λ_ f=>?_
  have f:=f.st 18 (iW O2)
  obtain⟨O3,F7⟩:=nS F6
  refine bz (v:=S (d0.drop (X1+1).toNat)) f kr kr rfl rfl (λ_ pq=>ki rfl (l:=d0) (k:=.i64) (a:=X1+1) kr kr kr O3.1 O3.2) λ_ f=>Y0 default f 3 λ_ f=>?_
  obtain⟨O4,F8⟩:=nS F7
  refine bz (v:=S (d0.take X1.toNat)) f kr kr rfl rfl (λ_ pq=>X_strTo rfl (l:=d0) (k':=.i64) (b:=X1) kr kr kr O4.1 O4.2) λ_ f=>?_
  obtain⟨X3,l3,F9⟩:=bS F8
  refine dM (v:=bO X3) f kr kr rfl rfl (λ_=>by kernel_rfl) (eK n _ (d0.take X1.toNat) X3 l3) λ_ f=>Y0 default f 1 λ_ f=>?_
  rcases cE F9 with⟨B2,F10⟩|⟨B2,F14⟩
  ·have f:=f.st 25 (cB B2)
   refine Y0 default f 2 λ_ f=>?_
   obtain⟨O5,F11⟩:=nS F10
   refine bz (v:=iL (IntKind.wrap .i64 (X1+1))) f kr kr rfl rfl (λ_ pq=>by kernel_rfl) λ_ f=>?_
   have f:=f.st 28 (iW O5)
   obtain⟨O6,F12⟩:=nS F11
   refine bz (v:=S (d0.drop (X1+1).toNat)) f kr kr rfl rfl (λ_ pq=>ki rfl (l:=d0) (k:=.i64) (a:=X1+1) kr kr kr O6.1 O6.2) λ_ f=>?_
   obtain⟨X4,l4,F13⟩:=bS F12
   refine dM (v:=bO X4) f kr kr rfl rfl (λ_=>by kernel_rfl) (kD n _ (d0.drop (X1+1).toNat) X4 l4) λ_ f=>Y0 default f 1 λ_ f=>bL (E:=[oC Q1 #[iB 0,S [],iL 0,S [],S [],Sn] 31]) λW7 N7=>Ys [iB 4,S [],iL 0,S (d0.take X1.toNat),S (d0.drop (X1+1).toNat),Sn] #[iB 4,S [],iL 0,S (d0.take X1.toNat),S (d0.drop (X1+1).toNat),Sn] f N7 rfl rfl λW8 N8 _ f=>ap rfl (dl (M1:=M1) (E:=[oC Q1 #[iB 4,S [],iL 0,S (d0.take X1.toNat),S (d0.drop (X1+1).toNat),Sn] 31]) (mR _) N8 (Y0 default f 1 λ_ f=>dL rfl λW9 N9=>aK (wp_ret (mC f rfl (Y11 (cs:=[iB 4,S [],iL 0,S (d0.take X1.toNat),S (d0.drop (X1+1).toNat),Sn]) (ad:=⟨Q1,0,none⟩) f (am (N9.ownCell 0 rfl) 0 rfl)) (Y12 (v:=bO X4) f) ?_))))
   cases sI F13
   exact⟨_,rfl,M1,(mR _),(N9.dropN 1),⟨[iB 4,S [],iL 0,S (d0.take X1.toNat),S (d0.drop (X1+1).toNat),Sn],rfl,(TH0.shut Sli.nil)⟩⟩
  ·have f:=f.st 25 (cB B2)
   refine Y0 default f 6 λ_ f=>bL (E:=[oC Q1 #[iB 0,S [],iL 0,S [],S [],Sn] 31]) λW10 N10=>Ys [iB 4,S [],iL 0,S (d0.take X1.toNat),S (d0.drop (X1+1).toNat),Sn] #[iB 4,S [],iL 0,S (d0.take X1.toNat),S (d0.drop (X1+1).toNat),Sn] f N10 rfl rfl λW11 N11 _ f=>ap rfl (dl (M1:=M1) (E:=[oC Q1 #[iB 4,S [],iL 0,S (d0.take X1.toNat),S (d0.drop (X1+1).toNat),Sn] 31]) (mR _) N11 (Y0 default f 1 λ_ f=>dL rfl λW12 N12=>aK (wp_ret (mC f rfl (Y11 (cs:=[iB 4,S [],iL 0,S (d0.take X1.toNat),S (d0.drop (X1+1).toNat),Sn]) (ad:=⟨Q1,0,none⟩) f (am (N12.ownCell 0 rfl) 0 rfl)) (Y12 (v:=bO false) f) ?_))))
   cases sI F14
   exact⟨_,rfl,M1,(mR _),(N12.dropN 1),⟨[iB 4,S [],iL 0,S (d0.take X1.toNat),S (d0.drop (X1+1).toNat),Sn],rfl,(TH0.shut Sli.nil)⟩⟩
def gn (n:Nat) (d0:Bs) (K1:List TH0×Bs×Int):Option (Lp (List TH0×Bs×Int) (Sum Int (List TH0×Bs))):=
    bif(decide (K1.2.2<(d0.length:Int))) then
     ((((aQ d0 K1.2.2).bind λcZ=>
       bif(!(decide (((cZ).toNat:Int)=36))) then
        (some ((true)))
       else
        aS (inR .i64 (K1.2.2+1))<|
        bif(decide ((d0.length:Int)≤(K1.2.2+1))) then
         (some ((true)))
        else
         aS (inR .i64 (K1.2.2+1))<|
         (aQ d0 (K1.2.2+1)).bind λgW=>
         some ((!(decide (((gW).toNat:Int)=123)))):Option Bool)).bind λG1=>
     bif G1 then
      ((aQ d0 K1.2.2).bind λmy=>
      aS ((K1.2.1.length+1)*1≤140737488355328)<|
      aS (inR .i64 (K1.2.2+1))<|
      some (.nx (K1.1,K1.2.1++[my],K1.2.2+1)))
     else
      aS (inR .i64 (K1.2.2+2))<|
      (iu n d0 (K1.2.2+2)).bind λX2=>
      bif(decide (X2<0)) then
       (some (.br (.inl K1.2.2)))
      else
       aS (inR .i64 (K1.2.2+2))<|
       (aQ d0 (K1.2.2+2)).bind λc_4=>
       bif(decide (((c_4).toNat:Int)=33)) then
        (aS ((K1.2.1.length+ [36,123].length)*1≤140737488355328)<|
        aS (inR .i64 (K1.2.2+3))<|
        aS (inR .i64 (X2+1))<|
        aS (0≤(K1.2.2+3)∧(K1.2.2+3)≤(X2+1)∧(X2+1)≤d0.length)<|
        aS (((K1.2.1++[36,123]).length+ ((d0.take (X2+1).toNat).drop (K1.2.2+3).toNat).length)*1≤140737488355328)<|
        aS (inR .i64 (X2+1))<|
        some (.nx (K1.1,(K1.2.1++[36,123])++((d0.take (X2+1).toNat).drop (K1.2.2+3).toNat),X2+1)))
       else
        aS (inR .i64 (K1.2.2+2))<|
        aS (0≤(K1.2.2+2)∧(K1.2.2+2)≤X2∧X2≤d0.length)<|
        (ir n ((d0.take X2.toNat).drop (K1.2.2+2).toNat)).bind λX3=>
        bif !X3.2 then
         (some (.br (.inl K1.2.2)))
        else
         ((bif(decide ((0:Int)<((K1.2.1.length:Nat):Int))) then
          (aS ((K1.1.length+1)*88≤140737488355328)<|
          some ((K1.1++[(⟨(0:Int),K1.2.1,(0:Int),([]:Bs),([]:Bs),([]:List TH0)⟩:TH0)],([]:Bs))))
           else
            some ((K1.1,K1.2.1)):Option (List TH0×Bs))).bind λG2=>
         aS ((G2.1.length+1)*88≤140737488355328)<|
         aS (inR .i64 (X2+1))<|
         some (.nx (G2.1++[(⟨X3.1.ab,X3.1.aa,X3.1.af,X3.1.ak,X3.1.al,X3.1.fL⟩:TH0)],G2.2,X2+1)))
    else
     some (.br (.inr (K1.1,K1.2.1)))
def jb (n:Nat) (d0:Bs):Option (List TH0×Int×Int):=
 (dA n d0).bind λX1=>
 bif !X1 then
  (some ((([]:List TH0),(0:Int),(10:Int))))
 else
  bif(decide ((4096:Int)<(d0.length:Int))) then
   (some ((([]:List TH0),(0:Int),(3:Int))))
  else
   (aE (gn n d0) n (([]:List TH0),([]:Bs),(0:Int))).bind λQ1=>
   (match Q1 with
   |.inl G3=>some ((([]:List TH0),G3,(130:Int)))
   |.inr G4=>bif(decide ((0:Int)<((G4.2.length:Nat):Int))) then
    (aS ((G4.1.length+1)*88≤140737488355328)<|
    some ((G4.1++[(⟨(0:Int),G4.2,(0:Int),([]:Bs),([]:Bs),([]:List TH0)⟩:TH0)],(0:Int),(0:Int))))
    else
     some ((G4.1,(0:Int),(0:Int))))
set_option maxRecDepth 20000 in
theorem ref12_Lex_ok (n:Nat) (M:Mem) (d0:Bs) (r:List TH0×Int×Int) (hF:jb n d0=some r):OkH Tryz.prog M [] 91 [S d0] (λM' E' v=>∃ (A0:Oa) (k0:Nat) (s0:Lv),v=.tuple #[sL A0 r.1 k0,iL r.2.1,iL r.2.2]∧E'=[.row 31 6 (sL A0 r.1 k0) r.1.length s0]∧ag M' (r.1.map ao) s0):=by
 unfold jb at hF
 intro M1 hM0 w0 H w p0
 refine Re 108 Tryz.func91 rfl λa0 f0=>RR (Ye f0 3 λ_ f=>an (RR (Y f 1 λ_ f=>?_)))
 obtain⟨X1,l1,F1⟩:=bS hF
 refine Y19 f p0 (gm n _ d0 X1 l1) λW1 N1 _ f=>Ye f 1 λ_ f=>RcF f F1 (λB1 F2=>?_) λB1 F3=>?_
 ·have U1: (X1)=false:=by simpa using B1
  refine RR (Ye f 3 λ_ f=>wp_ret (bC ?_))
  obtain⟨Z1,P1,H1,N2⟩:=N1.nilR 31 6 TH0
  have f:=f.st 2 (H1)
  have D1:ag M1 (([]:List TH0).map ao) []:=rfl
  refine mB f rfl (Lk 2 (sL Z1 ([]:List TH0) P1)) (Lk 3 (iL 0)) (Lk 4 (iL 10)) ?_
  cases sI F2
  exact⟨_,rfl,M1,_,(mR _),N2,⟨Z1,P1,[],rfl,rfl,D1⟩⟩
 ·have U2: (X1)=true:=by simpa using B1
  refine St (an (RR (Ye f 3 λ_ f=>RcF f F3 (λB2 F4=>?_) λB2 F5=>?_)))
  ·have U3:=dI.1 B2
   refine RR (Ye f 3 λ_ f=>wp_ret (bC ?_))
   obtain⟨Z2,P2,H2,N3⟩:=N1.nilR 31 6 TH0
   have f:=f.st 2 (H2)
   have D2:ag M1 (([]:List TH0).map ao) []:=rfl
   refine mB f rfl (Lk 2 (sL Z2 ([]:List TH0) P2)) (Lk 3 (iL 0)) (Lk 4 (iL 3)) ?_
   cases sI F4
   exact⟨_,rfl,M1,_,(mR _),N3,⟨Z2,P2,[],rfl,rfl,D2⟩⟩
  ·have U4:=aq dI B2
   refine St (RR (Ye f 1 λ_ f=>RR (Ye f 1 λ_ f=>RR (Ye f 1 λ_ f=>an (wp_block ?_)))))
   obtain⟨Z3,P3,H3,N4⟩:=N1.nilR 31 6 TH0
   have f:=f.st 5 (H3)
   have D3:ag M1 (([]:List TH0).map ao) []:=rfl
   obtain⟨Z4,P4,H4,N5⟩:=N4.nilR 5 1 UInt8
   have f:=f.st 6 (H4)
   have D4:ag M1 (([]:Bs).map embB) []:=rfl
   have N6:=N5.pl [1]
   obtain⟨Q1,co,F6⟩:=bS F5
   refine wp_mono (Q:=λe a w=>(e=.ret∧(∃G3:Int,Q1=.inl G3∧∃V5:Mem,M1.le V5∧Frm 108 [(2,Sn),(3,iL G3),(4,iL 130)] a∧Hp w0 V5 (H) w))∨(e=.exit 0∧(∃G4:List TH0×Bs,Q1=.inr G4∧∃V6:Mem,M1.le V6∧∃ (Z16:Oa),∃ (P16:Nat),∃ (L10:Lv),∃ (Z17:Oa),∃ (P17:Nat),∃ (L11:Lv),ag V6 (G4.1.map ao) L10∧ag V6 (G4.2.map embB) L11∧Frm 108 [(5,sL Z16 G4.1 P16),(6,sL Z17 G4.2 P17)] a∧Hp w0 V6 ((rO 31 6 Z16 G4.1 P16 L10)::(rO 5 1 Z17 G4.2 P17 L11)::H) w))) (bT (n:=108) (w0:=w0) (M:=M1) (λ (I1,K1,Z5,P5,L1,Z6,P6,L2)=>[(0,S d0),(5,sL Z5 K1.1 P5),(6,sL Z6 K1.2.1 P6),(7,iL K1.2.2)]) (λ (I1,K1,Z5,P5,L1,Z6,P6,L2)=>((rO 31 6 Z5 K1.1 P5 L1)::(rO 5 1 Z6 K1.2.1 P6 L2)::H)) (λ (I1,K1,Z5,P5,L1,Z6,P6,L2) MM=>aE (gn n d0) I1 K1=some Q1∧ag MM (K1.1.map ao) L1∧ag MM (K1.2.1.map embB) L2) (λ (I1,K1,Z5,P5,L1,Z6,P6,L2)=>I1) (n,(([]:List TH0),([]:Bs),(0:Int)),Z3,P3,[],Z4,P4,[]) (f.kp) N6 ⟨co,D3,D4⟩ ?_) ?_
   ·rintro⟨I1,K1,Z5,P5,L1,Z6,P6,L2⟩ V1 _ W2 J1 gM f N7
    obtain⟨cu,D5,D6⟩:=gM
    obtain⟨I2,lO,rfl,bx,T1⟩:=aZ cu
    unfold gn at bx
    refine an (RR (Ye f 4 λ_ f=>RcF f bx (λB3 F7=>?_) λB3 F47=>?_))
    ·have U5:=dI.1 B3
     refine St (wp_block (an (an ?_)))
     obtain⟨gN,ec,F8⟩:=bS F7
     refine bD (λa_25 W3=>∃G1:Bool,gN=G1∧∃V2:Mem,V1.le V2∧Frm 108 [(0,S d0),(5,sL Z5 K1.1 P5),(6,sL Z6 K1.2.1 P6),(7,iL K1.2.2),(38,bO G1)] a_25∧Hp w0 V2 ((rO 31 6 Z5 K1.1 P5 L1)::(rO 5 1 Z6 K1.2.1 P6 L2)::H) W3) ?_ ?_
     ·refine aA (Y f 2 λ_ f=>?_)
      obtain⟨cZ,l2,F9⟩:=bS ec
      refine Z f (Y35 rfl (l:=d0) (k:=.i64) (i:=K1.2.2) (ax l2) (aw l2)) λ_ f=>?_
      have f:=Frm.set f 23 (v:=.int .u8 ((d0.getD K1.2.2.toNat 0).toNat:Int)) (v':=.int .u8 ((cZ).toNat:Int)) kr (congrArg (λc:UInt8=>Value.int .u8 ((c.toNat:Nat):Int)) (cG l2))
      refine Y f 2 λ_ f=>?_
      rcases cE F9 with⟨B4,F10⟩|⟨B4,F11⟩
      ·have U6: ¬ (((cZ).toNat:Int)=36):=(aM dI).1 B4
       have f:=f.st 25 (cB B4)
       refine Ye f 13 λ_ f=>?_
       exact⟨(true),(sI F10).symm,V1,(mR _),f.kp,N7⟩
      ·have U7: ¬ (¬ (((cZ).toNat:Int)=36)):=aq (aM dI) B4
       have f:=f.st 25 (cB B4)
       refine Y f 1 λ_ f=>?_
       obtain⟨O1,F12⟩:=nS F11
       refine Y f 1 λ_ f=>?_
       have f:=f.st 27 (iW O1)
       refine Y f 5 λ_ f=>?_
       rcases cE F12 with⟨B5,F13⟩|⟨B5,F14⟩
       ·have U8:=dI.1 B5
        have f:=f.st 32 (cB B5)
        refine Ye f 6 λ_ f=>?_
        exact⟨(true),(sI F13).symm,V1,(mR _),f.kp,N7⟩
       ·have U9:=aq dI B5
        have f:=f.st 32 (cB B5)
        refine Y f 2 λ_ f=>?_
        obtain⟨O2,F15⟩:=nS F14
        refine Y f 1 λ_ f=>?_
        have f:=f.st 35 (iW O2)
        obtain⟨gW,l3,F16⟩:=bS F15
        refine Z f (Y35 rfl (l:=d0) (k:=.i64) (i:=K1.2.2+1) (ax l3) (aw l3)) λ_ f=>?_
        have f:=Frm.set f 36 (v:=.int .u8 ((d0.getD (K1.2.2+1).toNat 0).toNat:Int)) (v':=.int .u8 ((gW).toNat:Int)) kr (congrArg (λc:UInt8=>Value.int .u8 ((c.toNat:Nat):Int)) (cG l3))
        refine Ye f 2 λ_ f=>?_
        exact⟨(!(decide (((gW).toNat:Int)=123))),(sI F16).symm,V1,(mR _),f.kp,N7⟩
     ·rintro a_25 W3 ⟨G1,dC,V2,J2,f,N8⟩
      subst gN
      refine aK (RcF f F8 (λB6 F17=>?_) λB6 F21=>?_)
      ·refine RR (Y f 3 λ_ f=>?_)
       obtain⟨my,l4,F18⟩:=bS F17
       refine Z f (Y35 rfl (l:=d0) (k:=.i64) (i:=K1.2.2) (ax l4) (aw l4)) λ_ f=>?_
       have f:=Frm.set f 42 (v:=.int .u8 ((d0.getD K1.2.2.toNat 0).toNat:Int)) (v':=.int .u8 ((my).toNat:Int)) kr (congrArg (λc:UInt8=>Value.int .u8 ((c.toNat:Nat):Int)) (cG l4))
       refine aP (k:=1) (c:=1) f N8 (.cells #[.int .u8 ((my).toNat:Int)] 5 (0,0)) kr (λ_=>by kernel_rfl) λQ2 W4 N9 _ f=>?_
       have N10:=N9.pl [2]
       obtain⟨O3,F19⟩:=nS F18
       refine Y21 (z:=.int .u8 0) (f:=embB) (xs:=K1.2.1) (ys:=[my]) (news:=[.int .u8 ((my).toNat:Int)]) (ad:=⟨Q2,0,none⟩) (m:=1) (c:=1) f N10 (ag.mono J2 _ _ D6) (by exact⟨_,_,rfl,rfl,rfl⟩) rfl rfl rfl rfl (am (N10.ownCell 1 rfl) 0 rfl) (by exact O3) (by have hg_:=O3;first|omega|(simp only[List.length_cons,List.length_nil] at*;omega)) λZ7 P7 L3 W5 N11 D7 _ f=>?_
       have N12:=N11.pl [1]
       have N13:=N12.drop
       refine Ye f 1 λ_ f=>RR (Y f 1 λ_ f=>?_)
       obtain⟨O4,F20⟩:=nS F19
       refine Y f 1 λ_ f=>?_
       have f:=f.st 46 (iW O4)
       refine Ye f 1 λ_ f=>wp_exit (eH (kh ?_))
       have N41:=N13.pl [1]
       refine aK ?_
       cases sI F20
       exact⟨⟨I2,(K1.1,K1.2.1++[my],K1.2.2+1),Z5,P5,L1,Z7,P7,L3⟩,Nat.lt_succ_self _,V2,(J1.trans J2),⟨T1,(ag.mono J2 _ _ D5),D7⟩,f.kp,N41⟩
      ·refine St (RR (Y f 2 λ_ f=>?_))
       obtain⟨O5,F22⟩:=nS F21
       refine Y f 1 λ_ f=>?_
       have f:=f.st 49 (iW O5)
       obtain⟨X2,l5,F23⟩:=bS F22
       refine Y19 f N8 (nO n _ d0 (K1.2.2+2) X2 l5) λW6 N14 _ f=>Ye f 1 λ_ f=>an (RR (Ye f 2 λ_ f=>RcF f F23 (λB7 F24=>?_) λB7 F25=>?_))
       ·have U12:=dI.1 B7
        refine RR (Ye f 4 λ_ f=>wp_ret (bC (ed (bC ?_))))
        cases sI F24
        exact .inl ⟨rfl,K1.2.2,(sI T1).symm,V2,(J1.trans J2),f.kp,(N14.dropN 2)⟩
       ·have U13:=aq dI B7
        refine St (an (RR (Y f 2 λ_ f=>?_)))
        obtain⟨O6,F26⟩:=nS F25
        refine Y f 1 λ_ f=>?_
        have f:=f.st 56 (iW O6)
        obtain⟨c_4,l6,F27⟩:=bS F26
        refine Z f (Y35 rfl (l:=d0) (k:=.i64) (i:=K1.2.2+2) (ax l6) (aw l6)) λ_ f=>?_
        have f:=Frm.set f 57 (v:=.int .u8 ((d0.getD (K1.2.2+2).toNat 0).toNat:Int)) (v':=.int .u8 ((c_4).toNat:Int)) kr (congrArg (λc:UInt8=>Value.int .u8 ((c.toNat:Nat):Int)) (cG l6))
        refine Ye f 1 λ_ f=>RcF f F27 (λB8 F28=>?_) λB8 F35=>?_
        ·have U14:=dI.1 B8
         refine RR (Y f 1 λ_ f=>?_)
         have N15:=N14.pl [1]
         obtain⟨O7,F29⟩:=nS F28
         refine Y23 (z:=.int .u8 0) (xs:=K1.2.1) (l:=[36,123]) f N15 (ag.mono J2 _ _ D6) rfl rfl rfl O7 (by omega) λZ8 P8 L4 W7 N16 D8 _ f=>Ye f 1 λ_ f=>RR (Y f 3 λ_ f=>?_)
         obtain⟨O8,F30⟩:=nS F29
         refine Y f 1 λ_ f=>?_
         have f:=f.st 64 (iW O8)
         refine Y f 1 λ_ f=>?_
         obtain⟨O9,F31⟩:=nS F30
         refine Y f 1 λ_ f=>?_
         have f:=f.st 66 (iW O9)
         obtain⟨O10,F32⟩:=nS F31
         refine Z (v:=S ((d0.take (X2+1).toNat).drop (K1.2.2+3).toNat)) f (kH rfl (l:=d0) (k:=.i64) (k':=.i64) (a:=K1.2.2+3) (b:=X2+1) kr kr kr kr O10.1 O10.2.1 O10.2.2) λ_ f=>?_
         obtain⟨O11,F33⟩:=nS F32
         refine Y23 (z:=.int .u8 0) (xs:=K1.2.1++[36,123]) (l:=(d0.take (X2+1).toNat).drop (K1.2.2+3).toNat) f N16 D8 rfl rfl rfl O11 (by omega) λZ9 P9 L5 W8 N17 D9 _ f=>Ye f 1 λ_ f=>RR (Y f 1 λ_ f=>?_)
         obtain⟨O12,F34⟩:=nS F33
         refine Y f 1 λ_ f=>?_
         have f:=f.st 70 (iW O12)
         refine Ye f 1 λ_ f=>wp_exit (eH (kh ?_))
         have N42:=N17.pl [1]
         refine aK ?_
         cases sI F34
         exact⟨⟨I2,(K1.1,(K1.2.1++[36,123])++((d0.take (X2+1).toNat).drop (K1.2.2+3).toNat),X2+1),Z5,P5,L1,Z9,P9,L5⟩,Nat.lt_succ_self _,V2,(J1.trans J2),⟨T1,(ag.mono J2 _ _ D5),D9⟩,f.kp,N42⟩
        ·have U15:=aq dI B8
         refine St (RR (Y f 2 λ_ f=>?_))
         obtain⟨O13,F36⟩:=nS F35
         refine Y f 1 λ_ f=>?_
         have f:=f.st 74 (iW O13)
         refine Y f 1 λ_ f=>?_
         obtain⟨O14,F37⟩:=nS F36
         refine Z (v:=S ((d0.take X2.toNat).drop (K1.2.2+2).toNat)) f (kH rfl (l:=d0) (k:=.i64) (k':=.i64) (a:=K1.2.2+2) (b:=X2) kr kr kr kr O14.1 O14.2.1 O14.2.2) λ_ f=>?_
         obtain⟨X3,l7,F38⟩:=bS F37
         refine Y17 f N14 (nN n _ ((d0.take X2.toNat).drop (K1.2.2+2).toNat) X3 l7) λ_ V3 W9 J3 N18 ej _ f=>?_
         obtain⟨c_5,rfl,D10⟩:=ej
         obtain⟨Z10,P10,rfl,B9⟩:=TH0.opn D10
         refine Y f 3 λ_ f=>Y13 f N18 (.cells #[iB 0,S [],iL 0,S [],S [],Sn] 31 (0,0)) λQ3 W10 N19 _ f=>Ys (lTH0 X3.1 Z10 P10) (aTH0 X3.1 Z10 P10) f N19 rfl rfl λW11 N20 _ f=>Ye f 1 λ_ f=>an (RR (Ye f 2 λ_ f=>RcF f F38 (λB10 F39=>?_) λB10 F40=>?_))
         ·have U16: (X3.2)=false:=by simpa using B10
          refine RR (Ye f 4 λ_ f=>wp_ret (bC (ed (bC ?_))))
          cases sI F39
          exact .inl ⟨rfl,K1.2.2,(sI T1).symm,V3,((J1.trans J2).trans J3),f.kp,(N20.dropN 3)⟩
         ·have U17: (X3.2)=true:=by simpa using B10
          refine St (an (RR (Ye f 3 λ_ f=>?_)))
          obtain⟨mi,ji,F41⟩:=bS F40
          refine bD (λa_76 W14=>∃G2:List TH0×Bs,mi=G2∧∃V4:Mem,V3.le V4∧∃ (Z12:Oa),∃ (P12:Nat),∃ (L7:Lv),∃ (Z13:Oa),∃ (P13:Nat),∃ (L8:Lv),ag V4 (G2.1.map ao) L7∧ag V4 (G2.2.map embB) L8∧Frm 108 [(0,S d0),(5,sL Z12 G2.1 P12),(6,sL Z13 G2.2 P13),(8,iL X2),(9,pP Q3)] a_76∧Hp w0 V4 ((rO 31 6 Z12 G2.1 P12 L7)::(rO 5 1 Z13 G2.2 P13 L8)::(Ent.obj Q3 (.cells (aTH0 X3.1 Z10 P10) 31 (0,0)))::H) W14) ?_ ?_
          ·refine RcF f ji (λB11 F42=>?_) λB11 F44=>?_
           ·have U18:=dI.1 B11
            refine RR (Y f 2 λ_ f=>?_)
            have he_1:=ag.bytes_eq (ag.mono (J2.trans J3) _ _ D6)
            refine Z (v:=S K1.2.1) f (hU rfl (l:=K1.2.1) (v:=sL Z6 K1.2.1 P6) kr (e:=5) kr kr kr (by have h0:=N20.rowAt 2 rfl;rw[he_1] at h0;exact h0)) λ_ f=>Y f 1 λ_ f=>aP (k:=1) (c:=1) f N20 (.cells #[iB 0,S K1.2.1,iL 0,S [],S [],Sn] 31 (0,0)) kr (λ_=>by kernel_rfl) λQ4 W12 N21 _ f=>?_
            have N22:=N21.pl [2]
            obtain⟨O15,F43⟩:=nS F42
            refine Y21 (z:=.agg #[iB 0,S [],iL 0,S [],S [],Sn]) (f:=ao) (xs:=K1.1) (ys:=[(⟨(0:Int),K1.2.1,(0:Int),([]:Bs),([]:Bs),([]:List TH0)⟩:TH0)]) (news:=[iB 0,S K1.2.1,iL 0,S [],S [],Sn]) (ad:=⟨Q4,0,none⟩) (m:=1) (c:=1) f N22 (ag.mono (J2.trans J3) _ _ D5) (by exact⟨_,_,rfl,TH0.shut Sli.nil,rfl⟩) rfl rfl rfl rfl (am (N22.ownCell 1 rfl) 0 rfl) (by exact O15) (by have hg_:=O15;first|omega|(simp only[List.length_cons,List.length_nil] at*;omega)) λZ11 P11 L6 W13 N23 D11 _ f=>?_
            have N24:=N23.pl [1]
            have N25:=N24.drop
            refine Ye f 1 λ_ f=>aA (Y f 1 λ_ f=>ap rfl ?_)
            obtain⟨Z14,P14,H5,N27⟩:=N25.nilR 5 1 UInt8
            have f:=f.st 6 (H5)
            have D14:ag V3 (([]:Bs).map embB) []:=rfl
            have N31:=N27.pl [2,1,2,3]
            refine aK ?_
            exact⟨(K1.1++[(⟨(0:Int),K1.2.1,(0:Int),([]:Bs),([]:Bs),([]:List TH0)⟩:TH0)],([]:Bs)),(sI F43).symm,V3,(mR _),Z11,P11,L6,Z14,P14,[],D11,D14,f.kp,(N31.dropN 1)⟩
           ·have U19:=aq dI B11
            refine wp_skip ?_
            have N33:=N20.pl [2,2]
            refine aK ?_
            exact⟨(K1.1,K1.2.1),(sI F44).symm,V3,(mR _),Z5,P5,L1,Z6,P6,L2,(ag.mono (J2.trans J3) _ _ D5),(ag.mono (J2.trans J3) _ _ D6),f.kp,N33⟩
          ·rintro a_76 W14 ⟨G2,eZ,V4,J4,Z12,P12,L7,Z13,P13,L8,D12,D13,f,N26⟩
           subst mi
           refine aK (RR (Y f 1 λ_ f=>Z f (Y32 (cs:=(lTH0 X3.1 Z10 P10)) rfl (ad:=⟨Q3,0,none⟩) (am (N26.ownCell 2 rfl) 0 rfl)) λ_ f=>aP (k:=1) (c:=1) f N26 (.cells (aTH0 X3.1 Z10 P10) 31 (0,0)) kr (λ_=>by kernel_rfl) λQ5 W15 N34 _ f=>?_))
           have N35:=N34.pl [1]
           obtain⟨O16,F45⟩:=nS F41
           refine Y21 (z:=.agg #[iB 0,S [],iL 0,S [],S [],Sn]) (f:=ao) (xs:=G2.1) (ys:=[(⟨X3.1.ab,X3.1.aa,X3.1.af,X3.1.ak,X3.1.al,X3.1.fL⟩:TH0)]) (news:=(lTH0 X3.1 Z10 P10)) (ad:=⟨Q5,0,none⟩) (m:=1) (c:=1) f N35 D12 (by exact⟨_,_,rfl,TH0.shut (B9.mono J4),rfl⟩) rfl rfl rfl rfl (am (N35.ownCell 1 rfl) 0 rfl) (by exact O16) (by have hg_:=O16;first|omega|(simp only[List.length_cons,List.length_nil] at*;omega)) λZ15 P15 L9 W16 N36 D15 _ f=>?_
           have N37:=N36.pl [1]
           have N38:=N37.drop
           refine Ye f 1 λ_ f=>aA (Y f 1 λ_ f=>?_)
           obtain⟨O17,F46⟩:=nS F45
           refine Y f 1 λ_ f=>?_
           have f:=f.st 97 (iW O17)
           refine Y f 1 λ_ f=>ap rfl (dZ ?_)
           have N45:=N38.pl [1,1,2]
           refine aK ?_
           cases sI F46
           exact⟨⟨I2,(G2.1++[(⟨X3.1.ab,X3.1.aa,X3.1.af,X3.1.ak,X3.1.al,X3.1.fL⟩:TH0)],G2.2,X2+1),Z15,P15,L9,Z13,P13,L8⟩,Nat.lt_succ_self _,V4,(((J1.trans J2).trans J3).trans J4),⟨T1,D15,D13⟩,f.kp,(N45.dropN 1)⟩
    ·have U20:=aq dI B3
     refine wp_exit (eH (eH ?_))
     cases sI F47
     exact .inr ⟨rfl,(K1.1,K1.2.1),(sI T1).symm,V1,J1,Z5,P5,L1,Z6,P6,L2,D5,D6,f.kp,N7⟩
   ·rintro _ _ W19 (⟨rfl,G3,rfl,V5,J5,f,N39⟩|⟨rfl,G4,rfl,V6,J6,Z16,P16,L10,Z17,P17,L11,D16,D17,f,N40⟩)
    ·refine ed (bC ?_)
     obtain⟨Z18,P18,H6,N46⟩:=N39.nilR 31 6 TH0
     have f:=f.st 2 (H6)
     have D18:ag V5 (([]:List TH0).map ao) []:=rfl
     refine mB f rfl (Lk 2 (sL Z18 ([]:List TH0) P18)) (Lk 3 (iL G3)) (Lk 4 (iL 130)) ?_
     cases sI F6
     exact⟨_,rfl,V5,_,J5,N46,⟨Z18,P18,[],rfl,rfl,D18⟩⟩
    ·refine kh (aK (an (RR (Ye f 3 λ_ f=>RcF f F6 (λB12 F48=>?_) λB12 F50=>?_))))
     ·have U21:=dI.1 B12
      refine aA (Y f 2 λ_ f=>?_)
      have he_2:=ag.bytes_eq D17
      refine Z (v:=S G4.2) f (hU rfl (l:=G4.2) (v:=sL Z17 G4.2 P17) kr (e:=5) kr kr kr (by have h0:=N40.rowAt 1 rfl;rw[he_2] at h0;exact h0)) λ_ f=>Y f 1 λ_ f=>aP (k:=1) (c:=1) f N40 (.cells #[iB 0,S G4.2,iL 0,S [],S [],Sn] 31 (0,0)) kr (λ_=>by kernel_rfl) λQ6 W20 N47 _ f=>?_
      have N48:=N47.pl [1]
      obtain⟨O18,F49⟩:=nS F48
      refine Y21 (z:=.agg #[iB 0,S [],iL 0,S [],S [],Sn]) (f:=ao) (xs:=G4.1) (ys:=[(⟨(0:Int),G4.2,(0:Int),([]:Bs),([]:Bs),([]:List TH0)⟩:TH0)]) (news:=[iB 0,S G4.2,iL 0,S [],S [],Sn]) (ad:=⟨Q6,0,none⟩) (m:=1) (c:=1) f N48 D16 (by exact⟨_,_,rfl,TH0.shut Sli.nil,rfl⟩) rfl rfl rfl rfl (am (N48.ownCell 1 rfl) 0 rfl) (by exact O18) (by have hg_:=O18;first|omega|(simp only[List.length_cons,List.length_nil] at*;omega)) λZ19 P19 L12 W21 N49 D19 _ f=>?_
      have N50:=N49.pl [1]
      have N51:=N50.drop
      refine Ye f 1 λ_ f=>RR (Ye f 4 λ_ f=>wp_ret (mB f rfl (Lk 2 (sL Z19 (G4.1++[(⟨(0:Int),G4.2,(0:Int),([]:Bs),([]:Bs),([]:List TH0)⟩:TH0)]) P19)) (Lk 3 (iL 0)) (Lk 4 (iL 0)) ?_))
      cases sI F49
      have N52:=N51.pl [1]
      exact⟨_,rfl,V6,_,J6,(N52.dropN 1),⟨Z19,P19,L12,rfl,rfl,D19⟩⟩
     ·have U22:=aq dI B12
      refine St (RR (Ye f 4 λ_ f=>wp_ret (mB f rfl (Lk 2 (sL Z16 G4.1 P16)) (Lk 3 (iL 0)) (Lk 4 (iL 0)) ?_)))
      cases sI F50
      have N53:=N40.pl [1]
      exact⟨_,rfl,V6,_,J6,(N53.dropN 1),⟨Z16,P16,L10,rfl,rfl,D16⟩⟩
end Go.Proofs.YtkopljikappieaaGreatDoor
