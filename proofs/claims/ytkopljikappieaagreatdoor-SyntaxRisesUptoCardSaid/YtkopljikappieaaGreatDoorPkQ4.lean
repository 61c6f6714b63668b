/-
  Texts of this claim, packed (what nothing names is left out): X1, X1h, X2, VkR, TakH, X3, SynP1, VkJ, VkK, HdS, Y0, VkN, Y1, Y2. Own work, partly printed by own programs. No condition.
-/
import Derived.Test.YtkopljikappieaaGreatDoorPkQ3
import Derived.Recover
import Derived.Test.YtkopljikappieaaGreatDoorRows
import Derived.Test.YtkopljikappieaaGreatDoorPkQ2
import Derived.Test.YtkopljikappieaaGreatDoorPkQ1
import Derived.Lib.SlicesCompact
set_option linter.unusedVariables false
set_option linter.unusedSimpArgs false
set_option maxHeartbeats 2000000
section
namespace Go.Proofs.YtkopljikappieaaGreatDoor
open Go Go.Vc Go.RowKit
def cS (n:Nat) (d0:TD0):Option Bool:=
 bif(decide (d0.ab=3)) then
  ((ck n d0.aa).bind λX1=>
  some ((X1)))
 else
  some ((false))
theorem dw (n:Nat) (M:Mem) (hG:GL M) (c0:Lv) (d0:TD0) (h0:Rep M (ap d0) c0) (r:Bool) (hF:cS n d0=some r):Ok Tryz.prog M 76 [.agg c0.toArray] (λ_ v=>v=bO r):=by
 unfold cS at hF
 intro M1 hM0 w0 H w p0
 replace hG:=GL.mono hM0 hG
 replace h0:=Rep.mono hM0 _ _ h0
 obtain⟨Z1,P1,Z2,P2,rfl,B1,B2⟩:=TD0.opn h0
 refine Re 11 Tryz.func76 rfl λa0 f0=>RR (Y13 (cs:=(aTD0 d0 Z1 P1 Z2 P2)) (T:=26) f0 p0 λQ1 V1 W1 J1 R1 N1 _ f=>?_)
 have R2:=bR R1
 refine Ye f 1 λ_ f=>RR (Y f 1 λ_ f=>Y15 f N1 R2 0 rfl λ_ f=>Y f 2 λ_ f=>?_)
 rcases cE hF with⟨B3,F1⟩|⟨B3,F3⟩
 ·have U1:=dI.1 B3
  have f:=f.st 6 (cB B3)
  refine Y f 1 λ_ f=>Y15 f N1 R2 3 rfl λ_ f=>?_
  obtain⟨X1,l1,F2⟩:=bS F1
  refine Y18 f N1 (cp n _ d0.aa X1 l1) λW2 N2 _ f=>Ye f 2 λ_ f=>wp_ret (aJ f rfl (Lk 2 (bO X1)) ?_)
  cases sI F2
  exact⟨_,rfl,V1,J1,N2,rfl⟩
 ·have U2:=aA dI B3
  have f:=f.st 6 (cB B3)
  refine Ye f 5 λ_ f=>wp_ret (aJ f rfl (Lk 2 (bO false)) ?_)
  cases sI F3
  exact⟨_,rfl,V1,J1,N1,rfl⟩
def jA (n:Nat) (d0:Bs):Option Bool:=
 bif(decide ((d0.length:Int)≤64)) then
  ((dp n d0).bind λX1=>
  some ((X1)))
 else
  some ((false))
theorem nU (n:Nat) (M:Mem) (hG:GL M) (d0:Bs) (r:Bool) (hF:jA n d0=some r):Ok Tryz.prog M 73 [S d0] (λ_ v=>v=bO r):=by
 unfold jA at hF
 intro M1 hM0 w0 H w p0
 replace hG:=GL.mono hM0 hG
 refine Re 10 Tryz.func73 rfl λa0 f0=>RR (Ye f0 1 λ_ f=>RR (Y f 4 λ_ f=>?_))
 rcases cE hF with⟨B1,F1⟩|⟨B1,F3⟩
 ·have U1:=dI.1 B1
  have f:=f.st 6 (cB B1)
  refine Y f 1 λ_ f=>?_
  obtain⟨X1,l1,F2⟩:=bS F1
  refine Y18 f p0 (gL n _ hG d0 X1 l1) λW1 N1 _ f=>Ye f 2 λ_ f=>wp_ret (aJ f rfl (Lk 2 (bO X1)) ?_)
  cases sI F2
  exact⟨_,rfl,M1,(mR _),N1,rfl⟩
 ·have U2:=aA dI B1
  have f:=f.st 6 (cB B1)
  refine Ye f 4 λ_ f=>wp_ret (aJ f rfl (Lk 2 (bO false)) ?_)
  cases sI F3
  exact⟨_,rfl,M1,(mR _),p0,rfl⟩
def dr (n:Nat) (d0:TD0):Option Bool:=
 bif(decide (d0.ab=3)) then
  ((jA n d0.aa).bind λX1=>
  some ((X1)))
 else
  some ((false))
theorem ec (n:Nat) (M:Mem) (hG:GL M) (c0:Lv) (d0:TD0) (h0:Rep M (ap d0) c0) (r:Bool) (hF:dr n d0=some r):Ok Tryz.prog M 32 [.agg c0.toArray] (λ_ v=>v=bO r):=by
 unfold dr at hF
 intro M1 hM0 w0 H w p0
 replace hG:=GL.mono hM0 hG
 replace h0:=Rep.mono hM0 _ _ h0
 obtain⟨Z1,P1,Z2,P2,rfl,B1,B2⟩:=TD0.opn h0
 refine Re 11 Tryz.func32 rfl λa0 f0=>RR (Y13 (cs:=(aTD0 d0 Z1 P1 Z2 P2)) (T:=26) f0 p0 λQ1 V1 W1 J1 R1 N1 _ f=>?_)
 have R2:=bR R1
 refine Ye f 1 λ_ f=>RR (Y f 1 λ_ f=>Y15 f N1 R2 0 rfl λ_ f=>Y f 2 λ_ f=>?_)
 rcases cE hF with⟨B3,F1⟩|⟨B3,F3⟩
 ·have U1:=dI.1 B3
  have f:=f.st 6 (cB B3)
  refine Y f 1 λ_ f=>Y15 f N1 R2 3 rfl λ_ f=>?_
  obtain⟨X1,l1,F2⟩:=bS F1
  refine Y18 f N1 (nU n _ (GL.mono J1 hG) d0.aa X1 l1) λW2 N2 _ f=>Ye f 2 λ_ f=>wp_ret (aJ f rfl (Lk 2 (bO X1)) ?_)
  cases sI F2
  exact⟨_,rfl,V1,J1,N2,rfl⟩
 ·have U2:=aA dI B3
  have f:=f.st 6 (cB B3)
  refine Ye f 5 λ_ f=>wp_ret (aJ f rfl (Lk 2 (bO false)) ?_)
  cases sI F3
  exact⟨_,rfl,V1,J1,N1,rfl⟩
theorem be (M : Mem) (e : Int) (at_ : List UInt8) : Ok Tryz.prog M 31 [.bool true, .int .i64 e, S at_] (fun _ v => v = .tuple #[]) := OkX.ok (kz 0 M true e at_ (.inr ()) rfl)
theorem bc (M : Mem) (e : Int) (at_ : List UInt8) : OkX Tryz.prog M 31 [.bool false, .int .i64 e, S at_] 78 (.inl (e, at_)) (fun (_ : Unit) => fun _ v => v = .tuple #[]) := kz 0 M false e at_ (.inl (e, at_)) rfl
def aM (n:Nat) (d0:Bs) (d1:Bs):Option Bs:=
 bif(decide (d0=[])) then
  (some (d1))
 else
  bb (d0.length+ [47].length≤9223372036854775807)<|
  bb ((d0++[47]).length+d1.length≤9223372036854775807)<|
  some ((d0++[47])++d1)
theorem aK (n:Nat) (M:Mem) (hG:GL M) (d0:Bs) (d1:Bs) (r:Bs) (hF:aM n d0 d1=some r):Ok Tryz.prog M 35 [S d0,S d1] (λ_ v=>v=S r):=by
 unfold aM at hF
 intro M1 hM0 w0 H w p0
 replace hG:=GL.mono hM0 hG
 refine Re 12 Tryz.func35 rfl λa0 f0=>RR (Ye f0 1 λ_ f=>aq (RR (Y f 1 λ_ f=>Z f (Y35 rfl (l:=d0) (m:=[])) λ_ f=>eT (RcF f hF (λB1 F1=>?_) λB1 F2=>?_))))
 ·have U1:=dI.1 B1
  refine RR (Ye f 2 λ_ f=>wp_ret (dj (aJ f rfl (Lk 4 (S d1)) ?_)))
  cases sI F1
  exact⟨_,rfl,M1,(mR _),p0,rfl⟩
 ·have U2:=aA dI B1
  refine St (RR (Y f 1 λ_ f=>?_))
  obtain⟨O1,F3⟩:=nS F2
  refine Z f (Y27 rfl (l:=d0) (m:=[47]) O1) λ_ f=>Y f 1 λ_ f=>?_
  obtain⟨O2,F4⟩:=nS F3
  refine Z f (Y27 rfl (l:=d0++[47]) (m:=d1) O2) λ_ f=>Ye f 1 λ_ f=>wp_ret (aJ f rfl (Lk 4 (S ((d0++[47])++d1))) ?_)
  cases sI F4
  exact⟨_,rfl,M1,(mR _),p0,rfl⟩
def cM (n:Nat) (d0:Bs) (d1:Int):Option Bs:=
 (lY n d1).bind λX1=>
 (aM n d0 X1.1).bind λX2=>
 some (X2)
theorem dA (n:Nat) (M:Mem) (hG:GL M) (d0:Bs) (d1:Int) (r:Bs) (hF:cM n d0 d1=some r):Ok Tryz.prog M 74 [S d0,iL d1] (λ_ v=>v=S r):=by
 unfold cM at hF
 intro M1 hM0 w0 H w p0
 replace hG:=GL.mono hM0 hG
 refine Re 15 Tryz.func74 rfl λa0 f0=>RR (Ye f0 1 λ_ f=>RR (Y f 1 λ_ f=>?_))
 obtain⟨X1,l1,F1⟩:=bS hF
 refine Y18 f p0 (h_numText_ok n _ d1 X1 l1) λW1 N1 _ f=>Ye f 5 λ_ f=>RR (Y f 2 λ_ f=>?_)
 obtain⟨X2,l2,F2⟩:=bS F1
 refine Y18 f N1 (aK n _ hG d0 X1.1 X2 l2) λW2 N2 _ f=>Ye f 1 λ_ f=>wp_ret (aJ f rfl (Lk 4 (S X2)) ?_)
 cases sI F2
 exact⟨_,rfl,M1,(mR _),N2,rfl⟩
def dE (n:Nat) (rec_syntax_expr:TD0→Bs→Option (Sum (Int×Bs) TF0)) (d0:List TD0) (d2:Bs) (K1:List TF0×Int):Option (Lp (List TF0×Int) (Sum (Int×Bs) (List TF0))):=
    bif(decide (K1.2<((d0.length:Nat):Int))) then
     ((aU d0 K1.2).bind λX1=>
     (cM n d2 K1.2).bind λX2=>
     (rec_syntax_expr X1 X2).bind λX3=>
     (match X3 with
     |.inl X4=>some (.br (.inl X4))
     |.inr X5=>bb ((K1.1.length+1)*88≤140737488355328)<|
      bb (inR .i64 (K1.2+1))<|
      some (.nx (K1.1++[(⟨X5.ab,X5.aa,X5.ai,X5.aj,X5.ao,X5.fL⟩:TF0)],K1.2+1))))
    else
     some (.br (.inr K1.1))
def cQ (n:Nat) (rec_syntax_expr:TD0→Bs→Option (Sum (Int×Bs) TF0)) (d0:List TD0) (d1:Int) (d2:Bs):Option (Sum (Int×Bs) (List TF0)):=
 (aL (dE n rec_syntax_expr d0 d2) n (([]:List TF0),d1)).bind λQ1=>
 (match Q1 with
 |.inl G1=>some (.inl G1)
 |.inr G2=>some (.inr G2))
theorem cf (n:Nat) (rec_syntax_expr:TD0→Bs→Option (Sum (Int×Bs) TF0)) (hrec_syntax_expr: ∀ (M:Mem) (hG:GL M) (c0:Lv) (d0:TD0) (h0:Rep M (ap d0) c0) (d1:Bs) (r:Sum (Int×Bs) TF0) (hF:rec_syntax_expr d0 d1=some r),OkX Tryz.prog M 18 [.agg c0.toArray,S d1] 78 r (λr=>λM' v=>∃ (c0:Lv),v=.agg c0.toArray∧Rep M' (au r) c0)) (M:Mem) (hG:GL M) (A0:Oa) (cap0:Nat) (d0:List TD0) (h0:Sli M 6 ap A0 cap0 d0) (d1:Int) (d2:Bs) (r:Sum (Int×Bs) (List TF0)) (hF:cQ n rec_syntax_expr d0 d1 d2=some r):OkXH Tryz.prog M [] 33 [sL A0 d0 cap0,iL d1,S d2] 78 r (λr=>λM' E' v=>∃ (A0:Oa) (k0:Nat) (s0:Lv),v=sL A0 r k0∧E'=[.row 31 6 (sL A0 r k0) r.length s0]∧ag M' (r.map au) s0):=by
 unfold cQ at hF
 intro M1 hM0 w0 H w p0
 replace hG:=GL.mono hM0 hG
 replace h0:=h0.mono hM0
 refine Re 27 Tryz.func33 rfl λa0 f0=>RR (Ye f0 1 λ_ f=>aq (RR (Ye f 2 λ_ f=>wp_block ?_)))
 obtain⟨Z1,P1,H1,N1⟩:=p0.nilR 31 6 TF0
 have f:=f.st 6 (H1)
 have D1:ag M1 (([]:List TF0).map au) []:=rfl
 obtain⟨Q1,dy,F1⟩:=bS hF
 refine wp_mono (Q:=λe a w=>(∃G1:Int×Bs,e=.panic (flawE 78 G1)∧Q1=.inl G1∧∃V4:Mem,M1.le V4∧Frm 27 [] a∧Hp w0 V4 (H) w)∨(e=.exit 0∧(∃G2:List TF0,Q1=.inr G2∧∃V5:Mem,M1.le V5∧∃ (Z7:Oa),∃ (P7:Nat),∃ (L3:Lv),ag V5 (G2.map au) L3∧Frm 27 [(6,sL Z7 G2 P7)] a∧Hp w0 V5 ((rO 31 6 Z7 G2 P7 L3)::H) w))) (cD (n:=27) (w0:=w0) (M:=M1) (λ (I1,K1,Z2,P2,L1)=>[(0,sL A0 d0 cap0),(2,S d2),(6,sL Z2 K1.1 P2),(7,iL K1.2)]) (λ (I1,K1,Z2,P2,L1)=>((rO 31 6 Z2 K1.1 P2 L1)::H)) (λ (I1,K1,Z2,P2,L1) MM=>aL (dE n rec_syntax_expr d0 d2) I1 K1=some Q1∧ag MM (K1.1.map au) L1) (λ (I1,K1,Z2,P2,L1)=>I1) (n,(([]:List TF0),d1),Z1,P1,[]) (f.kp) N1 ⟨dy,D1⟩ ?_) ?_
 ·rintro⟨I1,K1,Z2,P2,L1⟩ V1 _ W1 J1 je f N2
  obtain⟨dL,D2⟩:=je
  obtain⟨I2,nL,rfl,ca,T1⟩:=bB dL
  unfold dE at ca
  refine aq (RR (Ye f 4 λ_ f=>RcF f ca (λB1 F2=>?_) λB1 F8=>?_))
  ·have U1:=dI.1 B1
   refine St (aq (wp_block (ei (E:=[rO 31 6 Z2 K1.1 P2 L1]) (Hr:=(H)) [(0,true),(1,true),(2,true),(3,true),(4,true),(5,true),(6,true),(7,true),(8,false),(9,false),(10,false),(11,true)] N2 kr kr rfl kr (Y0 default f 3 λ_ f=>?_))))
   obtain⟨X1,l1,F3⟩:=bS F2
   obtain⟨C1,eF,jV,-,D3,R1⟩:=Sli.at_ (h0.mono J1) l1
   obtain⟨Z3,P3,Z4,P4,rfl,B2,B3⟩:=TD0.opn D3
   refine cg (v:=Pa (C1.add (K1.2.toNat*6))) f kr kr rfl rfl (λ_ pq=>Y29 jV rfl (len:=d0.length) (cap:=cap0) (k:=.i64) (i:=K1.2) (e:=26) (sz:=6) (az l1) (ay l1)) λ_ f=>cg (v:=.agg (aTD0 X1 Z3 P3 Z4 P4)) f kr kr rfl rfl (λ_ pq=>Y31 (cs:=(lTD0 X1 Z3 P3 Z4 P4)) rfl (ad:=C1.add (K1.2.toNat*6)) (λj v h=>pq.cell (R1 j v h))) λ_ f=>Y0 default f 2 λ_ f=>?_
   obtain⟨X2,l2,F4⟩:=bS F3
   refine eE (v:=S X2) f kr kr rfl rfl (λ_=>by kernel_rfl) (dA n _ (GL.mono J1 hG) d2 K1.2 X2 l2) λ_ f=>cd (E:=[rO 31 6 Z2 K1.1 P2 L1]) λW3 N4=>?_
   obtain⟨X3,l3,F5⟩:=bS F4
   rcases X3 with X4|X5
   ·refine aH f N4 (hrec_syntax_expr _ (GL.mono J1 hG) _ X1 (TD0.shutx (x:=X1) B2 B3) X2 (.inl X4) l3) kr (λ_=>by kernel_rfl) λV2 W4 J2 N5=>lj f λ_ f=>kU (bM (bM ?_))
    cases sI F5
    exact .inl ⟨X4,rfl,(sI T1).symm,V2,(J1.trans J2),f.kp,(N5.dropN 1)⟩
   ·refine Y16 f N4 (OkX.ok (hrec_syntax_expr _ (GL.mono J1 hG) _ X1 (TD0.shutx (x:=X1) B2 B3) X2 (.inr X5) l3)) λ_ V3 W5 J3 N6 eM _ f=>?_
    obtain⟨iA,rfl,D4⟩:=eM
    obtain⟨Z5,P5,rfl,B4⟩:=TF0.opn D4
    refine am rfl (dC (M1:=V3) (E:=[rO 31 6 Z2 K1.1 P2 L1]) J3 N6 (cd (E:=[rO 31 6 Z2 K1.1 P2 L1]) λW6 N7=>aQ (k:=1) (c:=1) f N7 (.cells (aTF0 X5 Z5 P5) 31 (0,0)) kr (λ_=>by kernel_rfl) λQ2 W7 N8 _ f=>am rfl (dC (M1:=V3) (E:=[Ent.obj Q2 (.cells (aTF0 X5 Z5 P5) 31 (0,0)),rO 31 6 Z2 K1.1 P2 L1]) J3 N8 (cd (E:=[Ent.obj Q2 (.cells (aTF0 X5 Z5 P5) 31 (0,0)),rO 31 6 Z2 K1.1 P2 L1]) λW8 N9=>?_))))
    have N10:=N9.pl [1]
    obtain⟨O1,F6⟩:=nS F5
    refine Y20 (z:=.agg #[iB 0,S [],iL 0,S [],S [],Sn]) (f:=au) (xs:=K1.1) (ys:=[(⟨X5.ab,X5.aa,X5.ai,X5.aj,X5.ao,X5.fL⟩:TF0)]) (news:=(lTF0 X5 Z5 P5)) (ad:=⟨Q2,0,none⟩) (m:=1) (c:=1) f N10 (ag.mono J3 _ _ D2) (by exact⟨_,_,rfl,TF0.shut B4,rfl⟩) rfl rfl rfl rfl (an (N10.ownCell 1 rfl) 0 rfl) (by exact O1) (by have hg_:=O1;first|omega|(simp only[List.length_cons,List.length_nil] at*;omega)) λZ6 P6 L2 W9 N11 D5 _ f=>?_
    have N12:=N11.pl [1]
    have N13:=N12.drop
    refine am rfl (dC (M1:=V3) (E:=[rO 31 6 Z6 (K1.1++[(⟨X5.ab,X5.aa,X5.ai,X5.aj,X5.ao,X5.fL⟩:TF0)]) P6 L2]) J3 N13 (Y0 default f 1 λ_ f=>eh rfl λW10 N14=>gh (aS (aN (Y f 1 λ_ f=>?_)))))
    obtain⟨O2,F7⟩:=nS F6
    refine Y f 1 λ_ f=>?_
    have f:=f.st 14 (iW O2)
    refine Ye f 1 λ_ f=>?_
    cases sI F7
    exact⟨⟨I2,(K1.1++[(⟨X5.ab,X5.aa,X5.ai,X5.aj,X5.ao,X5.fL⟩:TF0)],K1.2+1),Z6,P6,L2⟩,Nat.lt_succ_self _,V3,(J1.trans J3),⟨T1,D5⟩,f.kp,N14⟩
  ·have U2:=aA dI B1
   refine wp_exit (gT (gT ?_))
   cases sI F8
   exact .inr ⟨rfl,K1.1,(sI T1).symm,V1,J1,Z2,P2,L1,D2,f.kp,N2⟩
 ·rintro _ _ W13 (⟨G1,rfl,rfl,V4,J4,f,N15⟩|⟨rfl,G2,rfl,V5,J5,Z7,P7,L3,D6,f,N16⟩)
  ·refine kU (bM (aP f ?_))
   cases sI F1
   exact⟨V4,J4,N15,rfl⟩
  ·refine lO (aS (RR (Ye f 2 λ_ f=>wp_ret (aJ f rfl (Lk 6 (sL Z7 G2 P7)) ?_))))
   cases sI F1
   exact⟨_,rfl,V5,_,J5,N16,⟨Z7,P7,L3,rfl,rfl,D6⟩⟩
def eS (n:Nat) (d0:TD0) (d1:Bs):Option (Sum (Int×Bs) TF0):=
 (cS n d0).bind λX1=>
 bif X1 then
  (some (.inr (⟨(3:Int),([]:Bs),(0:Int),d0.aa,([]:Bs),([]:List TF0)⟩:TF0)))
 else
  some (.inl ((121:Int),d1))
theorem iV (n:Nat) (M:Mem) (hG:GL M) (c0:Lv) (d0:TD0) (h0:Rep M (ap d0) c0) (d1:Bs) (r:Sum (Int×Bs) TF0) (hF:eS n d0 d1=some r):OkX Tryz.prog M 75 [.agg c0.toArray,S d1] 78 r (λr=>λM' v=>∃ (c0:Lv),v=.agg c0.toArray∧Rep M' (au r) c0):=by
 unfold eS at hF
 intro M1 hM0 w0 H w p0
 replace hG:=GL.mono hM0 hG
 replace h0:=Rep.mono hM0 _ _ h0
 obtain⟨Z1,P1,Z2,P2,rfl,B1,B2⟩:=TD0.opn h0
 refine Re 12 Tryz.func75 rfl λa0 f0=>RR (Y13 (cs:=(aTD0 d0 Z1 P1 Z2 P2)) (T:=26) f0 p0 λQ1 V1 W1 J1 R1 N1 _ f=>?_)
 have R2:=bR R1
 refine Y12 f N1 (.cells #[iB 0,S [],iL 0,S [],S [],Sn] 31 (0,0)) λQ2 W2 N2 _ f=>eT (RR (Z f (Y31 (cs:=(lTD0 d0 Z1 P1 Z2 P2)) rfl (ad:=⟨Q1,0,none⟩) (λj v h=>N2.cell (R2 j v h))) λ_ f=>?_))
 obtain⟨X1,l1,F1⟩:=bS hF
 refine Y18 f N2 (dw n _ (GL.mono J1 hG) _ d0 (TD0.shutx (x:=d0) (B1.mono J1) (B2.mono J1)) X1 l1) λW3 N3 _ f=>Y f 1 λ_ f=>?_
 rcases cE F1 with⟨B3,F2⟩|⟨B3,F3⟩
 ·have f:=f.st 6 (cB B3)
  refine Y18 f N3 (be _ (121:Int) d1) λW4 N4 _ f=>eT (RR (Y f 1 λ_ f=>Y15 f N4 R2 3 rfl λ_ f=>Y f 1 λ_ f=>Ys [iB 3,S [],iL 0,S d0.aa,S [],Sn] #[iB 3,S [],iL 0,S d0.aa,S [],Sn] f N4 rfl rfl λW5 N5 _ f=>Er (ef f rfl (Y10 (cs:=[iB 3,S [],iL 0,S d0.aa,S [],Sn]) (ad:=⟨Q2,0,none⟩) f (an (N5.ownCell 0 rfl) 0 rfl)) ?_)))
  cases sI F2
  exact⟨_,rfl,V1,J1,(N5.dropN 1),⟨[iB 3,S [],iL 0,S d0.aa,S [],Sn],rfl,(TF0.shut Sli.nil)⟩⟩
 ·have f:=f.st 6 (cB B3)
  refine aH f N3 (bc _ (121:Int) d1) kr (λ_=>by kernel_rfl) λV2 W6 J2 N6=>bM (aP f ?_)
  cases sI F3
  exact⟨V2,(J1.trans J2),(N6.dropN 1),rfl⟩
def dq (n:Nat) (d0:TD0) (d1:Int) (d2:Int) (d3:Bs):Option (Sum (Int×Bs) (List TD0)):=
 bif(decide (d0.ab=4)) then
  (bif(decide (((d0.ac.length:Nat):Int)=d1)) then
   (some (.inr d0.ac))
  else
   some (.inl (d2,d3)))
 else
  some (.inl (d2,d3))
theorem cR (n:Nat) (M:Mem) (hG:GL M) (c0:Lv) (d0:TD0) (h0:Rep M (ap d0) c0) (d1:Int) (d2:Int) (d3:Bs) (r:Sum (Int×Bs) (List TD0)) (hF:dq n d0 d1 d2 d3=some r):OkX Tryz.prog M 78 [.agg c0.toArray,iL d1,iL d2,S d3] 78 r (λr=>λM' v=>∃ (A0:Oa) (k0:Nat),v=sL A0 r k0∧Sli M' 6 ap A0 k0 r):=by
 unfold dq at hF
 intro M1 hM0 w0 H w p0
 replace hG:=GL.mono hM0 hG
 replace h0:=Rep.mono hM0 _ _ h0
 obtain⟨Z1,P1,Z2,P2,rfl,B1,B2⟩:=TD0.opn h0
 refine Re 24 Tryz.func78 rfl λa0 f0=>RR (Y13 (cs:=(aTD0 d0 Z1 P1 Z2 P2)) (T:=26) f0 p0 λQ1 V1 W1 J1 R1 N1 _ f=>?_)
 have R2:=bR R1
 refine Ye f 1 λ_ f=>RR (Y f 1 λ_ f=>Y15 f N1 R2 0 rfl λ_ f=>Y f 2 λ_ f=>?_)
 rcases cE hF with⟨B3,F1⟩|⟨B3,F4⟩
 ·have U1:=dI.1 B3
  have f:=f.st 12 (cB B3)
  refine Y f 1 λ_ f=>Y15 f N1 R2 4 rfl λ_ f=>Y f 6 λ_ f=>?_
  rcases cE F1 with⟨B4,F2⟩|⟨B4,F3⟩
  ·have U2:=dI.1 B4
   have f:=f.st 18 (cB B4)
   refine Y18 f N1 (be _ d2 d3) λW2 N2 _ f=>eT (RR (Y f 1 λ_ f=>Y15 f N2 R2 4 rfl λ_ f=>Ye f 1 λ_ f=>wp_ret (aJ f rfl (Lk 8 (sL Z1 d0.ac P1)) ?_)))
   cases sI F2
   exact⟨_,rfl,V1,J1,N2,⟨Z1,P1,rfl,(B1.mono J1)⟩⟩
  ·have U3:=aA dI B4
   have f:=f.st 18 (cB B4)
   refine aH f N1 (bc _ d2 d3) kr (λ_=>by kernel_rfl) λV2 W3 J2 N3=>bM (aP f ?_)
   cases sI F3
   exact⟨V2,(J1.trans J2),N3,rfl⟩
 ·have U4:=aA dI B3
  have f:=f.st 12 (cB B3)
  refine Y f 8 λ_ f=>aH f N1 (bc _ d2 d3) kr (λ_=>by kernel_rfl) λV3 W4 J3 N4=>bM (aP f ?_)
  cases sI F4
  exact⟨V3,(J1.trans J3),N4,rfl⟩
def eU (n:Nat) (d0:TD0) (d1:Bs):Option (Sum (Int×Bs) TF0):=
 (dq n d0 (2:Int) (121:Int) d1).bind λX1=>
 (match X1 with
 |.inl X2=>some (.inl X2)
 |.inr X3=>(((aU X3 (0:Int)).bind λX4=>
  (cS n X4).bind λX5=>
  bif X5 then
   ((aU X3 (1:Int)).bind λX6=>
   bif(decide (X6.ab=3)) then
    ((aU X3 (1:Int)).bind λX7=>
    (ju n X7.aa).bind λX8=>
    bif X8 then
     (some (.nx ()))
    else
     ((some (.inl ((121:Int),d1)):Option (Sum (Int×Bs) TF0))).map Lp.br)
   else
    ((some (.inl ((121:Int),d1)):Option (Sum (Int×Bs) TF0))).map Lp.br)
  else
   ((some (.inl ((121:Int),d1)):Option (Sum (Int×Bs) TF0))).map Lp.br:Option (Lp Unit (Sum (Int×Bs) TF0)))).bind λj=>joinF j λG1=>
  (aU X3 (0:Int)).bind λX9=>
  (aU X3 (1:Int)).bind λX10=>
  some (.inr (⟨(4:Int),([]:Bs),(0:Int),X9.aa,X10.aa,([]:List TF0)⟩:TF0)))
set_option maxRecDepth 20000 in
theorem iX (n:Nat) (M:Mem) (hG:GL M) (c0:Lv) (d0:TD0) (h0:Rep M (ap d0) c0) (d1:Bs) (r:Sum (Int×Bs) TF0) (hF:eU n d0 d1=some r):OkX Tryz.prog M 77 [.agg c0.toArray,S d1] 78 r (λr=>λM' v=>∃ (c0:Lv),v=.agg c0.toArray∧Rep M' (au r) c0):=by
 unfold eU at hF
 intro M1 hM0 w0 H w p0
 replace hG:=GL.mono hM0 hG
 replace h0:=Rep.mono hM0 _ _ h0
 obtain⟨Z1,P1,Z2,P2,rfl,B1,B2⟩:=TD0.opn h0
 refine Re 38 Tryz.func77 rfl λa0 f0=>RR (Y13 (cs:=(aTD0 d0 Z1 P1 Z2 P2)) (T:=26) f0 p0 λQ1 V1 W1 J1 R1 N1 _ f=>?_)
 have R2:=bR R1
 refine Y12 f N1 (.cells #[iB 0,S [],iL 0,S [],S [],Sn] 31 (0,0)) λQ2 W2 N2 _ f=>eT (RR (Z f (Y31 (cs:=(lTD0 d0 Z1 P1 Z2 P2)) rfl (ad:=⟨Q1,0,none⟩) (λj v h=>N2.cell (R2 j v h))) λ_ f=>Y f 1 λ_ f=>?_))
 obtain⟨X1,l1,F1⟩:=bS hF
 rcases X1 with X2|X3
 ·refine aH f N2 (cR n _ (GL.mono J1 hG) _ d0 (TD0.shutx (x:=d0) (B1.mono J1) (B2.mono J1)) (2:Int) (121:Int) d1 (.inl X2) l1) kr (λ_=>by kernel_rfl) λV2 W3 J2 N3=>bM (aP f ?_)
  cases sI F1
  exact⟨V2,(J1.trans J2),(N3.dropN 1),rfl⟩
 ·refine Y16 f N2 (OkX.ok (cR n _ (GL.mono J1 hG) _ d0 (TD0.shutx (x:=d0) (B1.mono J1) (B2.mono J1)) (2:Int) (121:Int) d1 (.inr X3) l1)) λ_ V3 W4 J3 N4 eM _ f=>?_
  obtain⟨Z3,P3,rfl,B3⟩:=eM
  refine Ye f 1 λ_ f=>aq ?_
  obtain⟨ip,eD,F2⟩:=bS F1
  refine ct (λa_26 W11=>∃G1:Unit,ip=.nx G1∧∃V7:Mem,V3.le V7∧Frm 38 [(4,pP Q2),(5,sL Z3 X3 P3)] a_26∧Hp w0 V7 ((oC Q2 #[iB 0,S [],iL 0,S [],S [],Sn] 31)::H) W11) ?_ ?_
  ·refine aN (Y f 1 λ_ f=>?_)
   obtain⟨X4,l2,F3⟩:=bS eD
   obtain⟨C1,eF,jV,-,D1,R3⟩:=Sli.at_ B3 l2
   obtain⟨Z4,P4,Z5,P5,rfl,B4,B5⟩:=TD0.opn D1
   refine Z f (Y29 jV rfl (len:=X3.length) (cap:=P3) (k:=.i64) (i:=(0:Int)) (e:=26) (sz:=6) (az l2) (ay l2)) λ_ f=>Z f (Y31 (cs:=(lTD0 X4 Z4 P4 Z5 P5)) rfl (ad:=C1.add ((0:Int).toNat*6)) (λj v h=>N4.cell (R3 j v h))) λ_ f=>?_
   obtain⟨X5,l3,F4⟩:=bS F3
   refine Y18 f N4 (dw n _ (GL.mono (J1.trans J3) hG) _ X4 (TD0.shutx (x:=X4) B4 B5) X5 l3) λW5 N5 _ f=>Y f 1 λ_ f=>?_
   rcases cE F4 with⟨B6,F5⟩|⟨B6,F15⟩
   ·have f:=f.st 13 (cB B6)
    refine Y f 1 λ_ f=>?_
    obtain⟨X6,l4,F6⟩:=bS F5
    obtain⟨C2,iA,e_2,-,D2,R4⟩:=Sli.at_ B3 l4
    obtain⟨Z6,P6,Z7,P7,rfl,B7,B8⟩:=TD0.opn D2
    refine Z f (Y29 e_2 rfl (len:=X3.length) (cap:=P3) (k:=.i64) (i:=(1:Int)) (e:=26) (sz:=6) (az l4) (ay l4)) λ_ f=>Y f 1 λ_ f=>Y15 f N5 R4 0 rfl λ_ f=>Y f 3 λ_ f=>?_
    rcases cE F6 with⟨B9,F7⟩|⟨B9,F13⟩
    ·have U2:=dI.1 B9
     have f:=f.st 20 (cB B9)
     refine Y f 1 λ_ f=>?_
     obtain⟨X7,l5,F8⟩:=bS F7
     obtain⟨C3,c_3,e_3,-,D3,R5⟩:=Sli.at_ B3 l5
     obtain⟨Z8,P8,Z9,P9,rfl,B10,B11⟩:=TD0.opn D3
     refine Z f (Y29 e_3 rfl (len:=X3.length) (cap:=P3) (k:=.i64) (i:=(1:Int)) (e:=26) (sz:=6) (az l5) (ay l5)) λ_ f=>Y f 1 λ_ f=>Y15 f N5 R5 3 rfl λ_ f=>?_
     obtain⟨X8,l6,F9⟩:=bS F8
     refine Y18 f N5 (mC n _ (GL.mono (J1.trans J3) hG) X7.aa X8 l6) λW6 N6 _ f=>Y f 2 λ_ f=>?_
     rcases cE F9 with⟨B12,F10⟩|⟨B12,F11⟩
     ·have f:=f.st 26 (cB B12)
      refine Y18 f N6 (be _ (121:Int) d1) λW7 N7 _ f=>eT ?_
      exact⟨(),(sI F10).symm,V3,(mR _),f.kp,N7⟩
     ·have f:=f.st 26 (cB B12)
      refine aH f N6 (bc _ (121:Int) d1) kr (λ_=>by kernel_rfl) λV4 W8 J4 N8=>?_
      have F12:=bK F11 F2
      refine bM (bM (aP f ?_))
      cases sI F12
      exact⟨V4,((J1.trans J3).trans J4),(N8.dropN 1),rfl⟩
    ·have U5:=aA dI B9
     have f:=f.st 20 (cB B9)
     refine Y f 7 λ_ f=>aH f N5 (bc _ (121:Int) d1) kr (λ_=>by kernel_rfl) λV5 W9 J5 N9=>?_
     have F14:=bK F13 F2
     refine bM (bM (aP f ?_))
     cases sI F14
     exact⟨V5,((J1.trans J3).trans J5),(N9.dropN 1),rfl⟩
   ·have f:=f.st 13 (cB B6)
    refine Y f 14 λ_ f=>aH f N5 (bc _ (121:Int) d1) kr (λ_=>by kernel_rfl) λV6 W10 J6 N10=>?_
    have F16:=bK F15 F2
    refine bM (bM (aP f ?_))
    cases sI F16
    exact⟨V6,((J1.trans J3).trans J6),(N10.dropN 1),rfl⟩
  ·rintro a_26 W11 ⟨G1,rfl,V7,J7,f,N11⟩
   refine aS (aq (mO 9 N11 kr kr λW12 N12=>cN (v:=sL Z3 X3 P3) f kr kr rfl rfl kr λ_ f=>?_))
   obtain⟨X9,l7,F17⟩:=bS F2
   obtain⟨C4,c_4,e_4,-,D4,R6⟩:=Sli.at_ (B3.mono J7) l7
   obtain⟨Z10,P10,Z11,P11,rfl,B13,B14⟩:=TD0.opn D4
   refine cN (v:=Pa (C4.add ((0:Int).toNat*6))) f kr kr rfl rfl (Y29 e_4 rfl (len:=X3.length) (cap:=P3) (k:=.i64) (i:=(0:Int)) (e:=26) (sz:=6) (az l7) (ay l7)) λ_ f=>cN (v:=Pa ((C4.add ((0:Int).toNat*6)).add 3)) f kr kr rfl rfl kr λ_ f=>cN (v:=S X9.aa) f kr kr rfl rfl (Y30 (v:=S X9.aa) rfl (ad:=(C4.add ((0:Int).toNat*6)).add 3) (N12.cell (R6 3 _ rfl))) λ_ f=>cN (v:=sL Z3 X3 P3) f kr kr rfl rfl kr λ_ f=>?_
   obtain⟨X10,l8,F18⟩:=bS F17
   obtain⟨C5,c_5,e_5,-,D5,R7⟩:=Sli.at_ (B3.mono J7) l8
   obtain⟨Z12,P12,Z13,P13,rfl,B15,B16⟩:=TD0.opn D5
   refine cN (v:=Pa (C5.add ((1:Int).toNat*6))) f kr kr rfl rfl (Y29 e_5 rfl (len:=X3.length) (cap:=P3) (k:=.i64) (i:=(1:Int)) (e:=26) (sz:=6) (az l8) (ay l8)) λ_ f=>cN (v:=Pa ((C5.add ((1:Int).toNat*6)).add 3)) f kr kr rfl rfl kr λ_ f=>cN (v:=S X10.aa) f kr kr rfl rfl (Y30 (v:=S X10.aa) rfl (ad:=(C5.add ((1:Int).toNat*6)).add 3) (N12.cell (R7 3 _ rfl))) λ_ f=>cN (v:=.agg #[iB 4,S [],iL 0,S X9.aa,S X10.aa,Sn]) f kr kr rfl rfl kr λ_ f=>mX rfl (Ys [iB 4,S [],iL 0,S X9.aa,S X10.aa,Sn] #[iB 4,S [],iL 0,S X9.aa,S X10.aa,Sn] f N12 rfl rfl λW13 N13 _ f=>Er (ef f rfl (Y10 (cs:=[iB 4,S [],iL 0,S X9.aa,S X10.aa,Sn]) (ad:=⟨Q2,0,none⟩) f (an (N13.ownCell 0 rfl) 0 rfl)) ?_))
   cases sI F18
   exact⟨_,rfl,V7,((J1.trans J3).trans J7),(N13.dropN 1),⟨[iB 4,S [],iL 0,S X9.aa,S X10.aa,Sn],rfl,(TF0.shut Sli.nil)⟩⟩
def eV (n:Nat) (d0:TD0) (d1:Bs):Option (Sum (Int×Bs) TF0):=
 bif(decide (d0.ab=3)) then
  ((lI n d0.aa).bind λX1=>
  bif(decide (X1.2.2=0)) then
   (some (.inr (⟨(5:Int),([]:Bs),(0:Int),([]:Bs),([]:Bs),X1.1⟩:TF0)))
  else
   some (.inl (X1.2.2,d1)))
 else
  some (.inl ((121:Int),d1))
theorem iY (n:Nat) (M:Mem) (hG:GL M) (c0:Lv) (d0:TD0) (h0:Rep M (ap d0) c0) (d1:Bs) (r:Sum (Int×Bs) TF0) (hF:eV n d0 d1=some r):OkX Tryz.prog M 80 [.agg c0.toArray,S d1] 78 r (λr=>λM' v=>∃ (c0:Lv),v=.agg c0.toArray∧Rep M' (au r) c0):=by
 unfold eV at hF
 intro M1 hM0 w0 H w p0
 replace hG:=GL.mono hM0 hG
 replace h0:=Rep.mono hM0 _ _ h0
 obtain⟨Z1,P1,Z2,P2,rfl,B1,B2⟩:=TD0.opn h0
 refine Re 27 Tryz.func80 rfl λa0 f0=>RR (Y13 (cs:=(aTD0 d0 Z1 P1 Z2 P2)) (T:=26) f0 p0 λQ1 V1 W1 J1 R1 N1 _ f=>?_)
 have R2:=bR R1
 refine Y12 f N1 (.cells #[iB 0,S [],iL 0,S [],S [],Sn] 31 (0,0)) λQ2 W2 N2 _ f=>eT (RR (Y f 1 λ_ f=>Y15 f N2 R2 0 rfl λ_ f=>Y f 2 λ_ f=>?_))
 rcases cE hF with⟨B3,F1⟩|⟨B3,F5⟩
 ·have U1:=dI.1 B3
  have f:=f.st 10 (cB B3)
  refine Y18 f N2 (be _ (121:Int) d1) λW3 N3 _ f=>eT (RR (Y f 1 λ_ f=>Y15 f N3 R2 3 rfl λ_ f=>?_))
  obtain⟨X1,l1,F2⟩:=bS F1
  refine Y17 (E:=[]) (H:=((oC Q2 #[iB 0,S [],iL 0,S [],S [],Sn] 31)::H)) f N3 (sub_Lex_ok n _ (GL.mono J1 hG) d0.aa X1 l1) λ_ V2 mN W4 J2 N4 eM _ f=>?_
  obtain⟨Z3,P3,L1,rfl,rfl,D1⟩:=eM
  refine Ye f 7 λ_ f=>RR (Y f 4 λ_ f=>?_)
  rcases cE F2 with⟨B4,F3⟩|⟨B4,F4⟩
  ·have U2:=dI.1 B4
   have f:=f.st 21 (cB B4)
   refine Y18 f N4 (be _ X1.2.2 d1) λW5 N5 _ f=>eT (RR (Y f 2 λ_ f=>?_))
   obtain⟨Z4,P4,V3,H1,J3,N6,B5⟩:=N5.rowSli (f:=au) (xs:=X1.1) bI D1
   have f:=Frm.set f 26 (v:=.agg #[.int .i8 5,S [],.int .i64 0,S [],S [],.slice Z3 X1.1.length P3]) (v':=.agg #[.int .i8 5,S [],.int .i64 0,S [],S [],.slice Z4 X1.1.length P4]) (by kernel_rfl) (by rw[H1])
   refine Ys [iB 5,S [],iL 0,S [],S [],sL Z4 X1.1 P4] #[iB 5,S [],iL 0,S [],S [],sL Z4 X1.1 P4] f N6 rfl rfl λW6 N7 _ f=>Er (ef f rfl (Y10 (cs:=[iB 5,S [],iL 0,S [],S [],sL Z4 X1.1 P4]) (ad:=⟨Q2,0,none⟩) f (an (N7.ownCell 0 rfl) 0 rfl)) ?_)
   cases sI F3
   exact⟨_,rfl,V3,((J1.trans J2).trans J3),(N7.dropN 1),⟨[iB 5,S [],iL 0,S [],S [],sL Z4 X1.1 P4],rfl,(TF0.shut B5)⟩⟩
  ·have U3:=aA dI B4
   have f:=f.st 21 (cB B4)
   refine aH f N4 (bc _ X1.2.2 d1) kr (λ_=>by kernel_rfl) λV4 W7 J4 N8=>bM (aP f ?_)
   cases sI F4
   exact⟨V4,((J1.trans J2).trans J4),(N8.dropN 2),rfl⟩
 ·have U4:=aA dI B3
  have f:=f.st 10 (cB B3)
  refine aH f N2 (bc _ (121:Int) d1) kr (λ_=>by kernel_rfl) λV5 W8 J5 N9=>bM (aP f ?_)
  cases sI F5
  exact⟨V5,(J1.trans J5),(N9.dropN 1),rfl⟩
def eW (n:Nat) (rec_syntax_expr:TD0→Bs→Option (Sum (Int×Bs) TF0)) (d0:TD0) (d1:Bs):Option (Sum (Int×Bs) TF0):=
 (dq n d0 (3:Int) (121:Int) d1).bind λX1=>
 (match X1 with
 |.inl X2=>some (.inl X2)
 |.inr X3=>(aU X3 (0:Int)).bind λX4=>
  (cS n X4).bind λX5=>
  bif X5 then
   ((aU X3 (0:Int)).bind λX6=>
   (cQ n rec_syntax_expr X3 (1:Int) d1).bind λX7=>
   (match X7 with
   |.inl X8=>some (.inl X8)
   |.inr X9=>some (.inr (⟨(6:Int),([]:Bs),(0:Int),X6.aa,([]:Bs),X9⟩:TF0))))
  else
   some (.inl ((121:Int),d1)))
theorem iZ (n:Nat) (rec_syntax_expr:TD0→Bs→Option (Sum (Int×Bs) TF0)) (hrec_syntax_expr: ∀ (M:Mem) (hG:GL M) (c0:Lv) (d0:TD0) (h0:Rep M (ap d0) c0) (d1:Bs) (r:Sum (Int×Bs) TF0) (hF:rec_syntax_expr d0 d1=some r),OkX Tryz.prog M 18 [.agg c0.toArray,S d1] 78 r (λr=>λM' v=>∃ (c0:Lv),v=.agg c0.toArray∧Rep M' (au r) c0)) (M:Mem) (hG:GL M) (c0:Lv) (d0:TD0) (h0:Rep M (ap d0) c0) (d1:Bs) (r:Sum (Int×Bs) TF0) (hF:eW n rec_syntax_expr d0 d1=some r):OkX Tryz.prog M 82 [.agg c0.toArray,S d1] 78 r (λr=>λM' v=>∃ (c0:Lv),v=.agg c0.toArray∧Rep M' (au r) c0):=by
 unfold eW at hF
 intro M1 hM0 w0 H w p0
 replace hG:=GL.mono hM0 hG
 replace h0:=Rep.mono hM0 _ _ h0
 obtain⟨Z1,P1,Z2,P2,rfl,B1,B2⟩:=TD0.opn h0
 refine Re 23 Tryz.func82 rfl λa0 f0=>RR (Y13 (cs:=(aTD0 d0 Z1 P1 Z2 P2)) (T:=26) f0 p0 λQ1 V1 W1 J1 R1 N1 _ f=>?_)
 have R2:=bR R1
 refine Y12 f N1 (.cells #[iB 0,S [],iL 0,S [],S [],Sn] 31 (0,0)) λQ2 W2 N2 _ f=>eT (RR (Z f (Y31 (cs:=(lTD0 d0 Z1 P1 Z2 P2)) rfl (ad:=⟨Q1,0,none⟩) (λj v h=>N2.cell (R2 j v h))) λ_ f=>Y f 1 λ_ f=>?_))
 obtain⟨X1,l1,F1⟩:=bS hF
 rcases X1 with X2|X3
 ·refine aH f N2 (cR n _ (GL.mono J1 hG) _ d0 (TD0.shutx (x:=d0) (B1.mono J1) (B2.mono J1)) (3:Int) (121:Int) d1 (.inl X2) l1) kr (λ_=>by kernel_rfl) λV2 W3 J2 N3=>bM (aP f ?_)
  cases sI F1
  exact⟨V2,(J1.trans J2),(N3.dropN 1),rfl⟩
 ·refine Y16 f N2 (OkX.ok (cR n _ (GL.mono J1 hG) _ d0 (TD0.shutx (x:=d0) (B1.mono J1) (B2.mono J1)) (3:Int) (121:Int) d1 (.inr X3) l1)) λ_ V3 W4 J3 N4 eM _ f=>?_
  obtain⟨Z3,P3,rfl,B3⟩:=eM
  refine Ye f 1 λ_ f=>RR (Y f 1 λ_ f=>?_)
  obtain⟨X4,l2,F2⟩:=bS F1
  obtain⟨C1,eF,jV,-,D1,R3⟩:=Sli.at_ B3 l2
  obtain⟨Z4,P4,Z5,P5,rfl,B4,B5⟩:=TD0.opn D1
  refine Z f (Y29 jV rfl (len:=X3.length) (cap:=P3) (k:=.i64) (i:=(0:Int)) (e:=26) (sz:=6) (az l2) (ay l2)) λ_ f=>Z f (Y31 (cs:=(lTD0 X4 Z4 P4 Z5 P5)) rfl (ad:=C1.add ((0:Int).toNat*6)) (λj v h=>N4.cell (R3 j v h))) λ_ f=>?_
  obtain⟨X5,l3,F3⟩:=bS F2
  refine Y18 f N4 (dw n _ (GL.mono (J1.trans J3) hG) _ X4 (TD0.shutx (x:=X4) B4 B5) X5 l3) λW5 N5 _ f=>Y f 1 λ_ f=>?_
  rcases cE F3 with⟨B6,F4⟩|⟨B6,F7⟩
  ·have f:=f.st 12 (cB B6)
   refine Y18 f N5 (be _ (121:Int) d1) λW6 N6 _ f=>eT (aq (ei (E:=[oC Q2 #[iB 0,S [],iL 0,S [],S [],Sn] 31]) (Hr:=(H)) [(0,true),(1,true),(2,true),(3,true),(4,true),(5,true),(6,false),(7,true),(8,false)] N6 kr kr rfl kr (Y0 default f 1 λ_ f=>?_)))
   obtain⟨X6,l4,F5⟩:=bS F4
   obtain⟨C2,iA,e_2,-,D2,R4⟩:=Sli.at_ B3 l4
   obtain⟨Z6,P6,Z7,P7,rfl,B7,B8⟩:=TD0.opn D2
   refine cg (v:=Pa (C2.add ((0:Int).toNat*6))) f kr kr rfl rfl (λ_ pq=>Y29 e_2 rfl (len:=X3.length) (cap:=P3) (k:=.i64) (i:=(0:Int)) (e:=26) (sz:=6) (az l4) (ay l4)) λ_ f=>Y0 default f 1 λ_ f=>cg (v:=S X6.aa) f kr kr rfl rfl (λ_ pq=>Y30 (v:=S X6.aa) rfl (ad:=(C2.add ((0:Int).toNat*6)).add 3) (pq.cell (R4 3 _ rfl))) λ_ f=>Y0 default f 2 λ_ f=>cd (E:=[oC Q2 #[iB 0,S [],iL 0,S [],S [],Sn] 31]) λW7 N7=>?_
   obtain⟨X7,l5,F6⟩:=bS F5
   rcases X7 with X8|X9
   ·refine ej (E:=[]) (H:=((oC Q2 #[iB 0,S [],iL 0,S [],S [],Sn] 31)::H)) f N7 (cf n rec_syntax_expr hrec_syntax_expr _ (GL.mono (J1.trans J3) hG) Z3 P3 X3 B3 (1:Int) d1 (.inl X8) l5) kr (λ_=>by kernel_rfl) λV4 W8 J4 N8=>lj f λ_ f=>bM (aP f ?_)
    cases sI F6
    exact⟨V4,((J1.trans J3).trans J4),(N8.dropN 1),rfl⟩
   ·refine Y17 (E:=[]) (H:=((oC Q2 #[iB 0,S [],iL 0,S [],S [],Sn] 31)::H)) f N7 (OkXH.ok (cf n rec_syntax_expr hrec_syntax_expr _ (GL.mono (J1.trans J3) hG) Z3 P3 X3 B3 (1:Int) d1 (.inr X9) l5)) λ_ V5 mN W9 J5 N9 iQ _ f=>?_
    obtain⟨Z8,P8,L1,rfl,rfl,D3⟩:=iQ
    refine am rfl (dC (M1:=V5) (E:=[rO 31 6 Z8 X9 P8 L1,oC Q2 #[iB 0,S [],iL 0,S [],S [],Sn] 31]) J5 N9 (Y0 default f 1 λ_ f=>cd (E:=[rO 31 6 Z8 X9 P8 L1,oC Q2 #[iB 0,S [],iL 0,S [],S [],Sn] 31]) λW10 N10=>?_))
    obtain⟨Z9,P9,V6,H1,J6,N11,B9⟩:=N10.rowSli (f:=au) (xs:=X9) bI D3
    have f:=Frm.set f 22 (v:=.agg #[.int .i8 6,S [],.int .i64 0,S X6.aa,S [],.slice Z8 X9.length P8]) (v':=.agg #[.int .i8 6,S [],.int .i64 0,S X6.aa,S [],.slice Z9 X9.length P9]) (by kernel_rfl) (by rw[H1])
    refine Ys [iB 6,S [],iL 0,S X6.aa,S [],sL Z9 X9 P9] #[iB 6,S [],iL 0,S X6.aa,S [],sL Z9 X9 P9] f N11 rfl rfl λW11 N12 _ f=>am rfl (dC (M1:=V6) (E:=[oC Q2 #[iB 6,S [],iL 0,S X6.aa,S [],sL Z9 X9 P9] 31]) (J5.trans J6) N12 (eh rfl λW12 N13=>aS (wp_ret (ef f rfl (Y10 (cs:=[iB 6,S [],iL 0,S X6.aa,S [],sL Z9 X9 P9]) (ad:=⟨Q2,0,none⟩) f (an (N13.ownCell 0 rfl) 0 rfl)) ?_))))
    cases sI F6
    exact⟨_,rfl,V6,(((J1.trans J3).trans J5).trans J6),(N13.dropN 1),⟨[iB 6,S [],iL 0,S X6.aa,S [],sL Z9 X9 P9],rfl,(TF0.shut B9)⟩⟩
  ·have f:=f.st 12 (cB B6)
   refine aH f N5 (bc _ (121:Int) d1) kr (λ_=>by kernel_rfl) λV7 W13 J7 N14=>bM (aP f ?_)
   cases sI F7
   exact⟨V7,((J1.trans J3).trans J7),(N14.dropN 1),rfl⟩
def eX (n:Nat) (rec_syntax_expr:TD0→Bs→Option (Sum (Int×Bs) TF0)) (d0:TD0) (d1:Bs):Option (Sum (Int×Bs) TF0):=
 (dq n d0 (2:Int) (121:Int) d1).bind λX1=>
 (match X1 with
 |.inl X2=>some (.inl X2)
 |.inr X3=>(aU X3 (0:Int)).bind λX4=>
  (dr n X4).bind λX5=>
  bif X5 then
   ((aU X3 (0:Int)).bind λX6=>
   (cQ n rec_syntax_expr X3 (1:Int) d1).bind λX7=>
   (match X7 with
   |.inl X8=>some (.inl X8)
   |.inr X9=>some (.inr (⟨(7:Int),X6.aa,(0:Int),([]:Bs),([]:Bs),X9⟩:TF0))))
  else
   some (.inl ((121:Int),d1)))
theorem ja (n:Nat) (rec_syntax_expr:TD0→Bs→Option (Sum (Int×Bs) TF0)) (hrec_syntax_expr: ∀ (M:Mem) (hG:GL M) (c0:Lv) (d0:TD0) (h0:Rep M (ap d0) c0) (d1:Bs) (r:Sum (Int×Bs) TF0) (hF:rec_syntax_expr d0 d1=some r),OkX Tryz.prog M 18 [.agg c0.toArray,S d1] 78 r (λr=>λM' v=>∃ (c0:Lv),v=.agg c0.toArray∧Rep M' (au r) c0)) (M:Mem) (hG:GL M) (c0:Lv) (d0:TD0) (h0:Rep M (ap d0) c0) (d1:Bs) (r:Sum (Int×Bs) TF0) (hF:eX n rec_syntax_expr d0 d1=some r):OkX Tryz.prog M 83 [.agg c0.toArray,S d1] 78 r (λr=>λM' v=>∃ (c0:Lv),v=.agg c0.toArray∧Rep M' (au r) c0):=by
 unfold eX at hF
 intro M1 hM0 w0 H w p0
 replace hG:=GL.mono hM0 hG
 replace h0:=Rep.mono hM0 _ _ h0
 obtain⟨Z1,P1,Z2,P2,rfl,B1,B2⟩:=TD0.opn h0
 refine Re 23 Tryz.func83 rfl λa0 f0=>RR (Y13 (cs:=(aTD0 d0 Z1 P1 Z2 P2)) (T:=26) f0 p0 λQ1 V1 W1 J1 R1 N1 _ f=>?_)
 have R2:=bR R1
 refine Y12 f N1 (.cells #[iB 0,S [],iL 0,S [],S [],Sn] 31 (0,0)) λQ2 W2 N2 _ f=>eT (RR (Z f (Y31 (cs:=(lTD0 d0 Z1 P1 Z2 P2)) rfl (ad:=⟨Q1,0,none⟩) (λj v h=>N2.cell (R2 j v h))) λ_ f=>Y f 1 λ_ f=>?_))
 obtain⟨X1,l1,F1⟩:=bS hF
 rcases X1 with X2|X3
 ·refine aH f N2 (cR n _ (GL.mono J1 hG) _ d0 (TD0.shutx (x:=d0) (B1.mono J1) (B2.mono J1)) (2:Int) (121:Int) d1 (.inl X2) l1) kr (λ_=>by kernel_rfl) λV2 W3 J2 N3=>bM (aP f ?_)
  cases sI F1
  exact⟨V2,(J1.trans J2),(N3.dropN 1),rfl⟩
 ·refine Y16 f N2 (OkX.ok (cR n _ (GL.mono J1 hG) _ d0 (TD0.shutx (x:=d0) (B1.mono J1) (B2.mono J1)) (2:Int) (121:Int) d1 (.inr X3) l1)) λ_ V3 W4 J3 N4 eM _ f=>?_
  obtain⟨Z3,P3,rfl,B3⟩:=eM
  refine Ye f 1 λ_ f=>RR (Y f 1 λ_ f=>?_)
  obtain⟨X4,l2,F2⟩:=bS F1
  obtain⟨C1,eF,jV,-,D1,R3⟩:=Sli.at_ B3 l2
  obtain⟨Z4,P4,Z5,P5,rfl,B4,B5⟩:=TD0.opn D1
  refine Z f (Y29 jV rfl (len:=X3.length) (cap:=P3) (k:=.i64) (i:=(0:Int)) (e:=26) (sz:=6) (az l2) (ay l2)) λ_ f=>Z f (Y31 (cs:=(lTD0 X4 Z4 P4 Z5 P5)) rfl (ad:=C1.add ((0:Int).toNat*6)) (λj v h=>N4.cell (R3 j v h))) λ_ f=>?_
  obtain⟨X5,l3,F3⟩:=bS F2
  refine Y18 f N4 (ec n _ (GL.mono (J1.trans J3) hG) _ X4 (TD0.shutx (x:=X4) B4 B5) X5 l3) λW5 N5 _ f=>Y f 1 λ_ f=>?_
  rcases cE F3 with⟨B6,F4⟩|⟨B6,F7⟩
  ·have f:=f.st 12 (cB B6)
   refine Y18 f N5 (be _ (121:Int) d1) λW6 N6 _ f=>eT (aq (ei (E:=[oC Q2 #[iB 0,S [],iL 0,S [],S [],Sn] 31]) (Hr:=(H)) [(0,true),(1,true),(2,true),(3,true),(4,true),(5,true),(6,false),(7,true),(8,false)] N6 kr kr rfl kr (Y0 default f 1 λ_ f=>?_)))
   obtain⟨X6,l4,F5⟩:=bS F4
   obtain⟨C2,iA,e_2,-,D2,R4⟩:=Sli.at_ B3 l4
   obtain⟨Z6,P6,Z7,P7,rfl,B7,B8⟩:=TD0.opn D2
   refine cg (v:=Pa (C2.add ((0:Int).toNat*6))) f kr kr rfl rfl (λ_ pq=>Y29 e_2 rfl (len:=X3.length) (cap:=P3) (k:=.i64) (i:=(0:Int)) (e:=26) (sz:=6) (az l4) (ay l4)) λ_ f=>Y0 default f 1 λ_ f=>cg (v:=S X6.aa) f kr kr rfl rfl (λ_ pq=>Y30 (v:=S X6.aa) rfl (ad:=(C2.add ((0:Int).toNat*6)).add 3) (pq.cell (R4 3 _ rfl))) λ_ f=>Y0 default f 2 λ_ f=>cd (E:=[oC Q2 #[iB 0,S [],iL 0,S [],S [],Sn] 31]) λW7 N7=>?_
   obtain⟨X7,l5,F6⟩:=bS F5
   rcases X7 with X8|X9
   ·refine ej (E:=[]) (H:=((oC Q2 #[iB 0,S [],iL 0,S [],S [],Sn] 31)::H)) f N7 (cf n rec_syntax_expr hrec_syntax_expr _ (GL.mono (J1.trans J3) hG) Z3 P3 X3 B3 (1:Int) d1 (.inl X8) l5) kr (λ_=>by kernel_rfl) λV4 W8 J4 N8=>lj f λ_ f=>bM (aP f ?_)
    cases sI F6
    exact⟨V4,((J1.trans J3).trans J4),(N8.dropN 1),rfl⟩
   ·refine Y17 (E:=[]) (H:=((oC Q2 #[iB 0,S [],iL 0,S [],S [],Sn] 31)::H)) f N7 (OkXH.ok (cf n rec_syntax_expr hrec_syntax_expr _ (GL.mono (J1.trans J3) hG) Z3 P3 X3 B3 (1:Int) d1 (.inr X9) l5)) λ_ V5 mN W9 J5 N9 iQ _ f=>?_
    obtain⟨Z8,P8,L1,rfl,rfl,D3⟩:=iQ
    refine am rfl (dC (M1:=V5) (E:=[rO 31 6 Z8 X9 P8 L1,oC Q2 #[iB 0,S [],iL 0,S [],S [],Sn] 31]) J5 N9 (Y0 default f 1 λ_ f=>cd (E:=[rO 31 6 Z8 X9 P8 L1,oC Q2 #[iB 0,S [],iL 0,S [],S [],Sn] 31]) λW10 N10=>?_))
    obtain⟨Z9,P9,V6,H1,J6,N11,B9⟩:=N10.rowSli (f:=au) (xs:=X9) bI D3
    have f:=Frm.set f 22 (v:=.agg #[.int .i8 7,S X6.aa,.int .i64 0,S [],S [],.slice Z8 X9.length P8]) (v':=.agg #[.int .i8 7,S X6.aa,.int .i64 0,S [],S [],.slice Z9 X9.length P9]) (by kernel_rfl) (by rw[H1])
    refine Ys [iB 7,S X6.aa,iL 0,S [],S [],sL Z9 X9 P9] #[iB 7,S X6.aa,iL 0,S [],S [],sL Z9 X9 P9] f N11 rfl rfl λW11 N12 _ f=>am rfl (dC (M1:=V6) (E:=[oC Q2 #[iB 7,S X6.aa,iL 0,S [],S [],sL Z9 X9 P9] 31]) (J5.trans J6) N12 (eh rfl λW12 N13=>aS (wp_ret (ef f rfl (Y10 (cs:=[iB 7,S X6.aa,iL 0,S [],S [],sL Z9 X9 P9]) (ad:=⟨Q2,0,none⟩) f (an (N13.ownCell 0 rfl) 0 rfl)) ?_))))
    cases sI F6
    exact⟨_,rfl,V6,(((J1.trans J3).trans J5).trans J6),(N13.dropN 1),⟨[iB 7,S X6.aa,iL 0,S [],S [],sL Z9 X9 P9],rfl,(TF0.shut B9)⟩⟩
  ·have f:=f.st 12 (cB B6)
   refine aH f N5 (bc _ (121:Int) d1) kr (λ_=>by kernel_rfl) λV7 W13 J7 N14=>bM (aP f ?_)
   cases sI F7
   exact⟨V7,((J1.trans J3).trans J7),(N14.dropN 1),rfl⟩
def eY (n:Nat) (rec_syntax_expr:TD0→Bs→Option (Sum (Int×Bs) TF0)) (d0:TD0) (d1:Bs):Option (Sum (Int×Bs) TF0):=
 (dq n d0 (2:Int) (121:Int) d1).bind λX1=>
 (match X1 with
 |.inl X2=>some (.inl X2)
 |.inr X3=>(cQ n rec_syntax_expr X3 (0:Int) d1).bind λX4=>
  (match X4 with
  |.inl X5=>some (.inl X5)
  |.inr X6=>some (.inr (⟨(8:Int),([]:Bs),(0:Int),([]:Bs),([]:Bs),X6⟩:TF0))))
theorem jb (n:Nat) (rec_syntax_expr:TD0→(List UInt8)→Option (Sum (Int×List UInt8) TF0)) (hrec_syntax_expr: ∀ (M:Mem) (hG:GL M) (c0:List Value) (d0:TD0) (h0:Rep M (ap d0) c0) (d1:List UInt8) (r:Sum (Int×List UInt8) TF0) (hF:rec_syntax_expr d0 d1=some r),OkX Tryz.prog M 18 [.agg c0.toArray,S d1] 78 r (λr=>λM' v=>∃ (c0:List Value),v=.agg c0.toArray∧Rep M' (au r) c0)) (M:Mem) (hG:GL M) (c0:List Value) (d0:TD0) (h0:Rep M (ap d0) c0) (d1:List UInt8) (r:Sum (Int×List UInt8) TF0) (hF:eY n rec_syntax_expr d0 d1=some r):OkX Tryz.prog M 84 [.agg c0.toArray,S d1] 78 r (λr=>λM' v=>∃ (c0:List Value),v=.agg c0.toArray∧Rep M' (au r) c0):=by
 unfold eY at hF
 intro M1 hM0 w0 H w p0
 replace hG:=GL.mono hM0 hG
 replace h0:=Rep.mono hM0 _ _ h0
 obtain⟨Z1,P1,Z2,P2,rfl,B1,B2⟩:=TD0.opn h0
 refine aG 11 Tryz.func84 rfl rfl (by simp) λa0 f0=>RR (Y13 (cs:=#[iB d0.ab,bO d0.ah,iL d0.ai,S d0.aa,sL Z1 d0.ac P1,sL Z2 d0.af P2]) (T:=26) f0 p0 λQ1 V1 W1 J1 R1 N1 _ f=>?_)
 have R2:=bR R1
 refine Y12 f N1 (.cells #[iB 0,S [],iL 0,S [],S [],.slice none 0 0] 31 (0,0)) λQ2 W2 N2 _ f=>eT (RR (Z (v:=.agg #[iB d0.ab,bO d0.ah,iL d0.ai,S d0.aa,sL Z1 d0.ac P1,sL Z2 d0.af P2]) f (Y31 (cs:=[iB d0.ab,bO d0.ah,iL d0.ai,S d0.aa,sL Z1 d0.ac P1,sL Z2 d0.af P2]) rfl (ad:=⟨Q1,0,none⟩) (λj v h=>N2.cell (R2 j v h))) λ_ f=>Y f 1 λ_ f=>?_))
 obtain⟨X1,l1,F1⟩:=bS hF
 rcases X1 with X2|X3
 ·refine aH f N2 (cR n _ (GL.mono J1 hG) _ d0 (TD0.shutx (x:=d0) (B1.mono J1) (B2.mono J1)) (2:Int) (121:Int) d1 (.inl X2) l1) kr (λ_=>by kernel_rfl) λV2 W3 J2 N3=>bM (aP f ?_)
  obtain rfl:=sI F1
  exact⟨V2,(J1.trans J2),(N3.dropN 1),rfl⟩
 ·refine Y16 f N2 (OkX.ok (cR n _ (GL.mono J1 hG) _ d0 (TD0.shutx (x:=d0) (B1.mono J1) (B2.mono J1)) (2:Int) (121:Int) d1 (.inr X3) l1)) λ_ V3 W4 J3 N4 eM _ f=>?_
  obtain⟨Z3,P3,rfl,B3⟩:=eM
  refine Y f 1 λ_ f=>?_
  obtain⟨X4,l2,F2⟩:=bS F1
  rcases X4 with X5|X6
  ·refine ej (E:=[]) (H:=((oC Q2 #[iB 0,S [],iL 0,S [],S [],.slice none 0 0] 31)::H)) f N4 (cf n rec_syntax_expr hrec_syntax_expr _ (GL.mono (J1.trans J3) hG) Z3 P3 X3 B3 (0:Int) d1 (.inl X5) l2) kr (λ_=>by kernel_rfl) λV4 W5 J4 N5=>bM (aP f ?_)
   obtain rfl:=sI F2
   exact⟨V4,((J1.trans J3).trans J4),(N5.dropN 1),rfl⟩
  ·refine Y17 (E:=[]) (H:=((oC Q2 #[iB 0,S [],iL 0,S [],S [],.slice none 0 0] 31)::H)) f N4 (OkXH.ok (cf n rec_syntax_expr hrec_syntax_expr _ (GL.mono (J1.trans J3) hG) Z3 P3 X3 B3 (0:Int) d1 (.inr X6) l2)) λ_ V5 mN W6 J5 N6 iQ _ f=>?_
   obtain⟨Z4,P4,L1,rfl,rfl,D1⟩:=iQ
   refine Y f 1 λ_ f=>?_
   obtain⟨Z5,P5,V6,H1,J6,N7,B4⟩:=N6.rowSli (f:=au) (xs:=X6) bI D1
   have f:=Frm.set f 10 (v:=.agg #[iB 8,S [],iL 0,S [],S [],sL Z4 X6 P4]) (v':=.agg #[iB 8,S [],iL 0,S [],S [],sL Z5 X6 P5]) kr (by rw[H1])
   refine Y26 (vs:=[iB 8,S [],iL 0,S [],S [],sL Z5 X6 P5]) (j:=0) f N7 rfl rfl (by simp[Value.oneCell',S]) (by simp) (by decide) (cs':=#[iB 8,S [],iL 0,S [],S [],sL Z5 X6 P5]) λW7 N8 _ f=>eT (wp_ret (ef f rfl (Y10 (cs:=[iB 8,S [],iL 0,S [],S [],sL Z5 X6 P5]) (ad:=⟨Q2,0,none⟩) f (an (N8.ownCell 0 rfl) 0 rfl)) ?_))
   obtain rfl:=sI F2
   exact⟨_,rfl,V6,(((J1.trans J3).trans J5).trans J6),(N8.dropN 1),⟨[iB 8,S [],iL 0,S [],S [],sL Z5 X6 P5],rfl,(TF0.shut B4)⟩⟩
def gp (n:Nat) (rec_syntax_expr:TD0→Bs→Option (Sum (Int×Bs) TF0)) (d0:TD0) (d1:Bs):Option (Sum (Int×Bs) TF0):=
 bif(decide (d0.ab=3)) then
  ((dr n d0).bind λX1=>
  bif X1 then
   (some (.inr (⟨(0:Int),d0.aa,(0:Int),([]:Bs),([]:Bs),([]:List TF0)⟩:TF0)))
  else
   some (.inl ((121:Int),d1)))
 else
  bif(decide (d0.ab=2)) then
   (some (.inr (⟨(1:Int),([]:Bs),d0.ai,([]:Bs),([]:Bs),([]:List TF0)⟩:TF0)))
  else
   bif(decide (d0.ab=4)) then
    (bif(decide (((d0.ac.length:Nat):Int)≤8)) then
     ((cQ n rec_syntax_expr d0.ac (0:Int) d1).bind λX2=>
     (match X2 with
     |.inl X3=>some (.inl X3)
     |.inr X4=>some (.inr (⟨(2:Int),([]:Bs),(0:Int),([]:Bs),([]:Bs),X4⟩:TF0))))
    else
     some (.inl ((3:Int),d1)))
   else
    ((bif(decide (d0.ab=5)) then
     (bif(decide (((d0.af.length:Nat):Int)=1)) then
      (some (.nx ()))
     else
      ((some (.inl ((121:Int),d1)):Option (Sum (Int×Bs) TF0))).map Lp.br)
      else
       ((some (.inl ((121:Int),d1)):Option (Sum (Int×Bs) TF0))).map Lp.br:Option (Lp Unit (Sum (Int×Bs) TF0)))).bind λj=>joinF j λG1=>
    (aU d0.af (0:Int)).bind λX5=>
    (ir n).bind λX6=>
    bif(decide (X5=[82,101,102])) then
     ((aM n d1 X5).bind λX7=>
     (aU d0.ac (0:Int)).bind λX8=>
     (aM n d1 X5).bind λX9=>
     (eS n X8 X9).bind λX10=>
     (match X10 with
     |.inl X11=>some (.inl X11)
     |.inr X12=>some (.inr X12)))
    else
     bif(decide (X5=[71,101,116,65,116,116])) then
      ((aM n d1 X5).bind λX13=>
      (aU d0.ac (0:Int)).bind λX14=>
      (aM n d1 X5).bind λX15=>
      (eU n X14 X15).bind λX16=>
      (match X16 with
      |.inl X17=>some (.inl X17)
      |.inr X18=>some (.inr X18)))
     else
      bif(decide (X5=[83,117,98])) then
       ((aM n d1 X5).bind λX19=>
       (aU d0.ac (0:Int)).bind λX20=>
       (aM n d1 X5).bind λX21=>
       (eV n X20 X21).bind λX22=>
       (match X22 with
       |.inl X23=>some (.inl X23)
       |.inr X24=>some (.inr X24)))
      else
       bif(decide (X5=[73,102])) then
        ((aM n d1 X5).bind λX25=>
        (aU d0.ac (0:Int)).bind λX26=>
        (aM n d1 X5).bind λX27=>
        (eW n rec_syntax_expr X26 X27).bind λX28=>
        (match X28 with
        |.inl X29=>some (.inl X29)
        |.inr X30=>some (.inr X30)))
       else
        bif(decide (X5=[74,111,105,110])) then
         ((aM n d1 X5).bind λX31=>
         (aU d0.ac (0:Int)).bind λX32=>
         (aM n d1 X5).bind λX33=>
         (eX n rec_syntax_expr X32 X33).bind λX34=>
         (match X34 with
         |.inl X35=>some (.inl X35)
         |.inr X36=>some (.inr X36)))
        else
         bif(decide (X5=[83,101,108,101,99,116])) then
          ((aM n d1 X5).bind λX37=>
          (aU d0.ac (0:Int)).bind λX38=>
          (aM n d1 X5).bind λX39=>
          (eY n rec_syntax_expr X38 X39).bind λX40=>
          (match X40 with
          |.inl X41=>some (.inl X41)
          |.inr X42=>some (.inr X42)))
         else
          (aM n d1 X5).bind λX43=>
          some (.inl ((121:Int),X43))
set_option maxRecDepth 20000 in
theorem mm (n:Nat) (rec_syntax_expr:TD0→(List UInt8)→Option (Sum (Int×List UInt8) TF0)) (hrec_syntax_expr: ∀ (M:Mem) (hG:GL M) (c0:List Value) (d0:TD0) (h0:Rep M (ap d0) c0) (d1:List UInt8) (r:Sum (Int×List UInt8) TF0) (hF:rec_syntax_expr d0 d1=some r),OkX Tryz.prog M 18 [.agg c0.toArray,S d1] 78 r (λr=>λM' v=>∃ (c0:List Value),v=.agg c0.toArray∧Rep M' (au r) c0)) (M:Mem) (hG:GL M) (c0:List Value) (d0:TD0) (h0:Rep M (ap d0) c0) (d1:List UInt8) (r:Sum (Int×List UInt8) TF0) (hF:gp n rec_syntax_expr d0 d1=some r):OkX Tryz.prog M 18 [.agg c0.toArray,S d1] 78 r (λr=>λM' v=>∃ (c0:List Value),v=.agg c0.toArray∧Rep M' (au r) c0):=by
 unfold gp at hF
 intro M1 hM0 w0 H w p0
 replace hG:=GL.mono hM0 hG
 replace h0:=Rep.mono hM0 _ _ h0
 obtain⟨Z1,P1,Z2,P2,rfl,B1,B2⟩:=TD0.opn h0
 refine aG 72 Tryz.func18 rfl rfl (by simp) λa0 f0=>RR (Y13 (cs:=#[iB d0.ab,bO d0.ah,iL d0.ai,S d0.aa,sL Z1 d0.ac P1,sL Z2 d0.af P2]) (T:=26) f0 p0 λQ1 V1 W1 J1 R1 N1 _ f=>?_)
 have R2:=bR R1
 refine Y12 f N1 (.cells #[iB 0,S [],iL 0,S [],S [],.slice none 0 0] 31 (0,0)) λQ2 W2 N2 _ f=>eT (aq (RR (Y f 1 λ_ f=>Y15 f N2 R2 0 rfl λ_ f=>eT (wp_block (RR (Y f 2 λ_ f=>eT (RcF f hF (λB3 F1=>?_) λB3 F5=>?_)))))))
 ·have U1:=dI.1 B3
  refine RR (Z (v:=.agg #[iB d0.ab,bO d0.ah,iL d0.ai,S d0.aa,sL Z1 d0.ac P1,sL Z2 d0.af P2]) f (Y31 (cs:=[iB d0.ab,bO d0.ah,iL d0.ai,S d0.aa,sL Z1 d0.ac P1,sL Z2 d0.af P2]) rfl (ad:=⟨Q1,0,none⟩) (λj v h=>N2.cell (R2 j v h))) λ_ f=>?_)
  obtain⟨X1,l1,F2⟩:=bS F1
  refine Y18 f N2 (ec n _ (GL.mono J1 hG) _ d0 (TD0.shutx (x:=d0) (B1.mono J1) (B2.mono J1)) X1 l1) λW3 N3 _ f=>Y f 1 λ_ f=>?_
  rcases cE F2 with⟨B4,F3⟩|⟨B4,F4⟩
  ·have f:=f.st 13 (cB B4)
   refine Y18 f N3 (be _ (121:Int) d1) λW4 N4 _ f=>eT (RR (Y f 1 λ_ f=>Y15 f N4 R2 3 rfl λ_ f=>Y f 1 λ_ f=>Y26 (vs:=[iB 0,S d0.aa,iL 0,S [],S [],.slice none 0 0]) (j:=0) f N4 rfl rfl (by simp[Value.oneCell',S]) (by simp) (by decide) (cs':=#[iB 0,S d0.aa,iL 0,S [],S [],.slice none 0 0]) λW5 N5 _ f=>eT (wp_ret (hU (dj (ef f rfl (Y10 (cs:=[iB 0,S d0.aa,iL 0,S [],S [],.slice none 0 0]) (ad:=⟨Q2,0,none⟩) f (an (N5.ownCell 0 rfl) 0 rfl)) ?_))))))
   obtain rfl:=sI F3
   exact⟨_,rfl,V1,J1,(N5.dropN 1),⟨[iB 0,S d0.aa,iL 0,S [],S [],.slice none 0 0],rfl,(TF0.shut Sli.nil)⟩⟩
  ·have f:=f.st 13 (cB B4)
   refine aH f N3 (bc _ (121:Int) d1) kr (λ_=>by kernel_rfl) λV2 W6 J2 N6=>bM (kU (bM (aP f ?_)))
   obtain rfl:=sI F4
   exact⟨V2,(J1.trans J2),(N6.dropN 1),rfl⟩
 ·have U4:=aA dI B3
  refine RR (Y f 2 λ_ f=>eT (RcF f F5 (λB5 F6=>?_) λB5 F7=>?_))
  ·have U5:=dI.1 B5
   refine RR (Y f 1 λ_ f=>Y15 f N2 R2 2 rfl λ_ f=>Y f 1 λ_ f=>Y26 (vs:=[iB 1,S [],iL d0.ai,S [],S [],.slice none 0 0]) (j:=0) f N2 rfl rfl (by simp[Value.oneCell',S]) (by simp) (by decide) (cs':=#[iB 1,S [],iL d0.ai,S [],S [],.slice none 0 0]) λW7 N7 _ f=>eT (wp_ret (hU (dj (ef f rfl (Y10 (cs:=[iB 1,S [],iL d0.ai,S [],S [],.slice none 0 0]) (ad:=⟨Q2,0,none⟩) f (an (N7.ownCell 0 rfl) 0 rfl)) ?_)))))
   obtain rfl:=sI F6
   exact⟨_,rfl,V1,J1,(N7.dropN 1),⟨[iB 1,S [],iL d0.ai,S [],S [],.slice none 0 0],rfl,(TF0.shut Sli.nil)⟩⟩
  ·have U6:=aA dI B5
   refine RR (Y f 2 λ_ f=>eT (RcF f F7 (λB6 F8=>?_) λB6 F12=>?_))
   ·have U7:=dI.1 B6
    refine RR (Y f 1 λ_ f=>Y15 f N2 R2 4 rfl λ_ f=>Y f 3 λ_ f=>?_)
    rcases cE F8 with⟨B7,F9⟩|⟨B7,F11⟩
    ·have U8:=dI.1 B7
     have f:=f.st 29 (cB B7)
     refine Y18 f N2 (be _ (3:Int) d1) λW8 N8 _ f=>eT (RR (Y f 1 λ_ f=>Y15 f N8 R2 4 rfl λ_ f=>Y f 1 λ_ f=>?_))
     obtain⟨X2,l2,F10⟩:=bS F9
     rcases X2 with X3|X4
     ·refine ej (E:=[]) (H:=((oC Q2 #[iB 0,S [],iL 0,S [],S [],.slice none 0 0] 31)::H)) f N8 (cf n rec_syntax_expr hrec_syntax_expr _ (GL.mono J1 hG) Z1 P1 d0.ac (B1.mono J1) (0:Int) d1 (.inl X3) l2) kr (λ_=>by kernel_rfl) λV3 W9 J3 N9=>bM (kU (bM (aP f ?_)))
      obtain rfl:=sI F10
      exact⟨V3,(J1.trans J3),(N9.dropN 1),rfl⟩
     ·refine Y17 (E:=[]) (H:=((oC Q2 #[iB 0,S [],iL 0,S [],S [],.slice none 0 0] 31)::H)) f N8 (OkXH.ok (cf n rec_syntax_expr hrec_syntax_expr _ (GL.mono J1 hG) Z1 P1 d0.ac (B1.mono J1) (0:Int) d1 (.inr X4) l2)) λ_ V4 mN W10 J4 N10 eM _ f=>?_
      obtain⟨Z3,P3,L1,rfl,rfl,D1⟩:=eM
      refine Y f 1 λ_ f=>?_
      obtain⟨Z4,P4,V5,H1,J5,N11,B8⟩:=N10.rowSli (f:=au) (xs:=X4) bI D1
      have f:=Frm.set f 36 (v:=.agg #[iB 2,S [],iL 0,S [],S [],sL Z3 X4 P3]) (v':=.agg #[iB 2,S [],iL 0,S [],S [],sL Z4 X4 P4]) kr (by rw[H1])
      refine Y26 (vs:=[iB 2,S [],iL 0,S [],S [],sL Z4 X4 P4]) (j:=0) f N11 rfl rfl (by simp[Value.oneCell',S]) (by simp) (by decide) (cs':=#[iB 2,S [],iL 0,S [],S [],sL Z4 X4 P4]) λW11 N12 _ f=>eT (wp_ret (hU (dj (ef f rfl (Y10 (cs:=[iB 2,S [],iL 0,S [],S [],sL Z4 X4 P4]) (ad:=⟨Q2,0,none⟩) f (an (N12.ownCell 0 rfl) 0 rfl)) ?_))))
      obtain rfl:=sI F10
      exact⟨_,rfl,V5,((J1.trans J4).trans J5),(N12.dropN 1),⟨[iB 2,S [],iL 0,S [],S [],sL Z4 X4 P4],rfl,(TF0.shut B8)⟩⟩
    ·have U9:=aA dI B7
     have f:=f.st 29 (cB B7)
     refine aH f N2 (bc _ (3:Int) d1) kr (λ_=>by kernel_rfl) λV6 W12 J6 N13=>bM (kU (bM (aP f ?_)))
     obtain rfl:=sI F11
     exact⟨V6,(J1.trans J6),(N13.dropN 1),rfl⟩
   ·have U10:=aA dI B6
    refine wp_skip (gh (aS (aq ?_)))
    obtain⟨ip,eD,F13⟩:=bS F12
    refine ct (λa_38 W16=>∃G1:Unit,ip=.nx G1∧∃V9:Mem,V1.le V9∧Frm 72 [(1,S d1),(2,pP Q1),(4,pP Q2)] a_38∧Hp w0 V9 ((oC Q2 #[iB 0,S [],iL 0,S [],S [],.slice none 0 0] 31)::H) W16) ?_ ?_
    ·refine aN (Y f 1 λ_ f=>Y15 f N2 R2 0 rfl λ_ f=>Y f 2 λ_ f=>?_)
     rcases cE eD with⟨B9,F14⟩|⟨B9,F18⟩
     ·have U11:=dI.1 B9
      have f:=f.st 40 (cB B9)
      refine Y f 1 λ_ f=>Y15 f N2 R2 5 rfl λ_ f=>Y f 4 λ_ f=>?_
      rcases cE F14 with⟨B10,F15⟩|⟨B10,F16⟩
      ·have U12:=dI.1 B10
       have f:=f.st 45 (cB B10)
       refine Y18 f N2 (be _ (121:Int) d1) λW13 N14 _ f=>eT ?_
       exact⟨(),(sI F15).symm,V1,(mR _),f.kp,N14⟩
      ·have U13:=aA dI B10
       have f:=f.st 45 (cB B10)
       refine aH f N2 (bc _ (121:Int) d1) kr (λ_=>by kernel_rfl) λV7 W14 J7 N15=>?_
       have F17:=bK F16 F13
       refine bM (bM (aP f ?_))
       obtain rfl:=sI F17
       exact⟨V7,(J1.trans J7),(N15.dropN 1),rfl⟩
     ·have U14:=aA dI B9
      have f:=f.st 40 (cB B9)
      refine Y f 6 λ_ f=>aH f N2 (bc _ (121:Int) d1) kr (λ_=>by kernel_rfl) λV8 W15 J8 N16=>?_
      have F19:=bK F18 F13
      refine bM (bM (aP f ?_))
      obtain rfl:=sI F19
      exact⟨V8,(J1.trans J8),(N16.dropN 1),rfl⟩
    ·rintro a_38 W16 ⟨G1,rfl,V9,J9,f,N17⟩
     refine aS (RR (Y f 1 λ_ f=>Y15 f N17 (fzu J9 R2) 5 rfl λ_ f=>?_))
     obtain⟨X5,l3,F20⟩:=bS F13
     obtain⟨C1,eF,jV,-,D2,R3⟩:=Sli.at_ (B2.mono (J1.trans J9)) l3
     obtain rfl:eF=[S X5]:=D2
     refine Z f (Y29 jV rfl (len:=d0.af.length) (cap:=P2) (k:=.i64) (i:=(0:Int)) (e:=9) (sz:=1) (az l3) (ay l3)) λ_ f=>Y15 f N17 R3 0 rfl λ_ f=>Y f 1 λ_ f=>eT (RR ?_)
     obtain⟨X6,l4,F21⟩:=bS F20
     refine Y16 f N17 (mK n _ X6 l4) λ_ V10 W17 J10 N18 iQ _ f=>?_
     obtain⟨bk_1,rfl,hz_1⟩:=iQ
     refine Y f 1 λ_ f=>?_
     obtain rfl:X6=callL:=sI (l4.symm.trans (oc n))
     refine Z (v:=.tuple #[fnV ((cb callL X5).getD none),bO (cb callL X5).isSome]) f (Y33 (ek:=S) (ev:=fnV) (m:=callL) (k:=X5) (z:=none) (kt:=9) (et:=51) rfl (strKey kr) (N18.mem _ _ hz_1)) λ_ f=>?_
     rcases cE F21 with⟨B11,F22⟩|⟨B11,F27⟩
     ·have e_2:=of_decide_eq_true B11
      have f:=Frm.set f 55 (v:=.tuple #[fnV ((cb callL X5).getD none),bO (cb callL X5).isSome]) (v':=.tuple #[.func (.func 75) #[] #[],bO true]) kr (by rw[e_2];rfl)
      refine Y f 5 λ_ f=>eT (RR (Y f 3 λ_ f=>?_))
      obtain⟨X7,l5,F23⟩:=bS F22
      refine Y18 f N18 (aK n _ (GL.mono ((J1.trans J9).trans J10) hG) d1 X5 X7 l5) λW18 N19 _ f=>Y18 f N19 (be _ (121:Int) X7) λW19 N20 _ f=>eT (aq (ei (E:=[oC Q2 #[iB 0,S [],iL 0,S [],S [],.slice none 0 0] 31]) (Hr:=(H)) [(0,true),(1,true),(2,true),(3,true),(4,true),(5,true),(6,true),(7,true),(8,false),(9,false)] N20 kr kr rfl kr (Y0 default f 2 λ_ f=>cg (v:=sL Z1 d0.ac P1) f kr kr rfl rfl (λ_ pq=>Y30 (v:=sL Z1 d0.ac P1) rfl (ad:=(⟨Q1,0,none⟩:Addr).add 4) (pq.cell ((fzu (J9.trans J10) R2) 4 _ rfl))) λ_ f=>?_)))
      obtain⟨X8,l6,F24⟩:=bS F23
      obtain⟨C2,iA,e_3,-,D3,R4⟩:=Sli.at_ (B1.mono ((J1.trans J9).trans J10)) l6
      obtain⟨Z5,P5,Z6,P6,rfl,B12,B13⟩:=TD0.opn D3
      refine cg (v:=.pointer (some (C2.add ((0:Int).toNat*6)))) f kr kr rfl rfl (λ_ pq=>Y29 e_3 rfl (len:=d0.ac.length) (cap:=P1) (k:=.i64) (i:=(0:Int)) (e:=26) (sz:=6) (az l6) (ay l6)) λ_ f=>cg (v:=.agg #[iB X8.ab,bO X8.ah,iL X8.ai,S X8.aa,sL Z5 X8.ac P5,sL Z6 X8.af P6]) f kr kr rfl rfl (λ_ pq=>Y31 (cs:=[iB X8.ab,bO X8.ah,iL X8.ai,S X8.aa,sL Z5 X8.ac P5,sL Z6 X8.af P6]) rfl (ad:=C2.add ((0:Int).toNat*6)) (λj v h=>pq.cell (R4 j v h))) λ_ f=>Y0 default f 2 λ_ f=>?_
      obtain⟨X9,l7,F25⟩:=bS F24
      refine eE (v:=S X9) f kr kr rfl rfl (λ_=>by kernel_rfl) (aK n _ (GL.mono ((J1.trans J9).trans J10) hG) d1 X5 X9 l7) λ_ f=>cd (E:=[oC Q2 #[iB 0,S [],iL 0,S [],S [],.slice none 0 0] 31]) λW21 N22=>?_
      obtain⟨X10,l8,F26⟩:=bS F25
      rcases X10 with X11|X12
      ·refine aH f N22 (iV n _ (GL.mono ((J1.trans J9).trans J10) hG) _ X8 (TD0.shutx (x:=X8) B12 B13) X9 (.inl X11) l8) kr (λ_=>by kernel_rfl) λV11 W22 J11 N23=>lj f λ_ f=>bM (aP f ?_)
       obtain rfl:=sI F26
       exact⟨V11,(((J1.trans J9).trans J10).trans J11),(N23.dropN 1),rfl⟩
      ·refine Y16 f N22 (OkX.ok (iV n _ (GL.mono ((J1.trans J9).trans J10) hG) _ X8 (TD0.shutx (x:=X8) B12 B13) X9 (.inr X12) l8)) λ_ V12 W23 J12 N24 mg _ f=>?_
       obtain⟨c_3,rfl,D4⟩:=mg
       obtain⟨Z7,P7,rfl,B14⟩:=TF0.opn D4
       refine am rfl (dC (M1:=V12) (E:=[oC Q2 #[iB 0,S [],iL 0,S [],S [],.slice none 0 0] 31]) J12 N24 (cd (E:=[oC Q2 #[iB 0,S [],iL 0,S [],S [],.slice none 0 0] 31]) λW24 N25=>Y26 (vs:=[iB X12.ab,S X12.aa,iL X12.ai,S X12.aj,S X12.ao,sL Z7 X12.fL P7]) (j:=0) f N25 rfl rfl (by simp[Value.oneCell',S]) (by simp) (by decide) (cs':=#[iB X12.ab,S X12.aa,iL X12.ai,S X12.aj,S X12.ao,sL Z7 X12.fL P7]) λW25 N26 _ f=>am rfl (dC (M1:=V12) (E:=[oC Q2 #[iB X12.ab,S X12.aa,iL X12.ai,S X12.aj,S X12.ao,sL Z7 X12.fL P7] 31]) J12 N26 (eh rfl λW26 N27=>aS (wp_ret (ef f rfl (Y10 (cs:=[iB X12.ab,S X12.aa,iL X12.ai,S X12.aj,S X12.ao,sL Z7 X12.fL P7]) (ad:=⟨Q2,0,none⟩) f (an (N27.ownCell 0 rfl) 0 rfl)) ?_))))))
       obtain rfl:=sI F26
       exact⟨_,rfl,V12,(((J1.trans J9).trans J10).trans J12),(N27.dropN 1),⟨[iB X12.ab,S X12.aa,iL X12.ai,S X12.aj,S X12.ao,sL Z7 X12.fL P7],rfl,(TF0.shutx (x:=X12) B14)⟩⟩
     ·have e_4:=of_decide_eq_false B11
      rcases cE F27 with⟨B15,F28⟩|⟨B15,F33⟩
      ·have e_5:=of_decide_eq_true B15
       have f:=Frm.set f 55 (v:=.tuple #[fnV ((cb callL X5).getD none),bO (cb callL X5).isSome]) (v':=.tuple #[.func (.func 77) #[] #[],bO true]) kr (by rw[e_5];rfl)
       refine Y f 5 λ_ f=>eT (RR (Y f 3 λ_ f=>?_))
       obtain⟨X13,l9,F29⟩:=bS F28
       refine Y18 f N18 (aK n _ (GL.mono ((J1.trans J9).trans J10) hG) d1 X5 X13 l9) λW27 N28 _ f=>Y18 f N28 (be _ (121:Int) X13) λW28 N29 _ f=>eT (aq (ei (E:=[oC Q2 #[iB 0,S [],iL 0,S [],S [],.slice none 0 0] 31]) (Hr:=(H)) [(0,true),(1,true),(2,true),(3,true),(4,true),(5,true),(6,true),(7,true),(8,false),(9,false)] N29 kr kr rfl kr (Y0 default f 2 λ_ f=>cg (v:=sL Z1 d0.ac P1) f kr kr rfl rfl (λ_ pq=>Y30 (v:=sL Z1 d0.ac P1) rfl (ad:=(⟨Q1,0,none⟩:Addr).add 4) (pq.cell ((fzu (J9.trans J10) R2) 4 _ rfl))) λ_ f=>?_)))
       obtain⟨X14,l10,F30⟩:=bS F29
       obtain⟨C3,c_4,e_6,-,D5,R5⟩:=Sli.at_ (B1.mono ((J1.trans J9).trans J10)) l10
       obtain⟨Z8,P8,Z9,P9,rfl,B16,B17⟩:=TD0.opn D5
       refine cg (v:=.pointer (some (C3.add ((0:Int).toNat*6)))) f kr kr rfl rfl (λ_ pq=>Y29 e_6 rfl (len:=d0.ac.length) (cap:=P1) (k:=.i64) (i:=(0:Int)) (e:=26) (sz:=6) (az l10) (ay l10)) λ_ f=>cg (v:=.agg #[iB X14.ab,bO X14.ah,iL X14.ai,S X14.aa,sL Z8 X14.ac P8,sL Z9 X14.af P9]) f kr kr rfl rfl (λ_ pq=>Y31 (cs:=[iB X14.ab,bO X14.ah,iL X14.ai,S X14.aa,sL Z8 X14.ac P8,sL Z9 X14.af P9]) rfl (ad:=C3.add ((0:Int).toNat*6)) (λj v h=>pq.cell (R5 j v h))) λ_ f=>Y0 default f 2 λ_ f=>?_
       obtain⟨X15,l11,F31⟩:=bS F30
       refine eE (v:=S X15) f kr kr rfl rfl (λ_=>by kernel_rfl) (aK n _ (GL.mono ((J1.trans J9).trans J10) hG) d1 X5 X15 l11) λ_ f=>cd (E:=[oC Q2 #[iB 0,S [],iL 0,S [],S [],.slice none 0 0] 31]) λW30 N31=>?_
       obtain⟨X16,l12,F32⟩:=bS F31
       rcases X16 with X17|X18
       ·refine aH f N31 (iX n _ (GL.mono ((J1.trans J9).trans J10) hG) _ X14 (TD0.shutx (x:=X14) B16 B17) X15 (.inl X17) l12) kr (λ_=>by kernel_rfl) λV13 W31 J13 N32=>lj f λ_ f=>bM (aP f ?_)
        obtain rfl:=sI F32
        exact⟨V13,(((J1.trans J9).trans J10).trans J13),(N32.dropN 1),rfl⟩
       ·refine Y16 f N31 (OkX.ok (iX n _ (GL.mono ((J1.trans J9).trans J10) hG) _ X14 (TD0.shutx (x:=X14) B16 B17) X15 (.inr X18) l12)) λ_ V14 W32 J14 N33 q_4 _ f=>?_
        obtain⟨c_5,rfl,D6⟩:=q_4
        obtain⟨Z10,P10,rfl,B18⟩:=TF0.opn D6
        refine am rfl (dC (M1:=V14) (E:=[oC Q2 #[iB 0,S [],iL 0,S [],S [],.slice none 0 0] 31]) J14 N33 (cd (E:=[oC Q2 #[iB 0,S [],iL 0,S [],S [],.slice none 0 0] 31]) λW33 N34=>Y26 (vs:=[iB X18.ab,S X18.aa,iL X18.ai,S X18.aj,S X18.ao,sL Z10 X18.fL P10]) (j:=0) f N34 rfl rfl (by simp[Value.oneCell',S]) (by simp) (by decide) (cs':=#[iB X18.ab,S X18.aa,iL X18.ai,S X18.aj,S X18.ao,sL Z10 X18.fL P10]) λW34 N35 _ f=>am rfl (dC (M1:=V14) (E:=[oC Q2 #[iB X18.ab,S X18.aa,iL X18.ai,S X18.aj,S X18.ao,sL Z10 X18.fL P10] 31]) J14 N35 (eh rfl λW35 N36=>aS (wp_ret (ef f rfl (Y10 (cs:=[iB X18.ab,S X18.aa,iL X18.ai,S X18.aj,S X18.ao,sL Z10 X18.fL P10]) (ad:=⟨Q2,0,none⟩) f (an (N36.ownCell 0 rfl) 0 rfl)) ?_))))))
        obtain rfl:=sI F32
        exact⟨_,rfl,V14,(((J1.trans J9).trans J10).trans J14),(N36.dropN 1),⟨[iB X18.ab,S X18.aa,iL X18.ai,S X18.aj,S X18.ao,sL Z10 X18.fL P10],rfl,(TF0.shutx (x:=X18) B18)⟩⟩
      ·have e_7:=of_decide_eq_false B15
       rcases cE F33 with⟨B19,F34⟩|⟨B19,F39⟩
       ·have e_8:=of_decide_eq_true B19
        have f:=Frm.set f 55 (v:=.tuple #[fnV ((cb callL X5).getD none),bO (cb callL X5).isSome]) (v':=.tuple #[.func (.func 80) #[] #[],bO true]) kr (by rw[e_8];rfl)
        refine Y f 5 λ_ f=>eT (RR (Y f 3 λ_ f=>?_))
        obtain⟨X19,l13,F35⟩:=bS F34
        refine Y18 f N18 (aK n _ (GL.mono ((J1.trans J9).trans J10) hG) d1 X5 X19 l13) λW36 N37 _ f=>Y18 f N37 (be _ (121:Int) X19) λW37 N38 _ f=>eT (aq (ei (E:=[oC Q2 #[iB 0,S [],iL 0,S [],S [],.slice none 0 0] 31]) (Hr:=(H)) [(0,true),(1,true),(2,true),(3,true),(4,true),(5,true),(6,true),(7,true),(8,false),(9,false)] N38 kr kr rfl kr (Y0 default f 2 λ_ f=>cg (v:=sL Z1 d0.ac P1) f kr kr rfl rfl (λ_ pq=>Y30 (v:=sL Z1 d0.ac P1) rfl (ad:=(⟨Q1,0,none⟩:Addr).add 4) (pq.cell ((fzu (J9.trans J10) R2) 4 _ rfl))) λ_ f=>?_)))
        obtain⟨X20,l14,F36⟩:=bS F35
        obtain⟨C4,c_6,e_9,-,D7,R6⟩:=Sli.at_ (B1.mono ((J1.trans J9).trans J10)) l14
        obtain⟨Z11,P11,Z12,P12,rfl,B20,B21⟩:=TD0.opn D7
        refine cg (v:=.pointer (some (C4.add ((0:Int).toNat*6)))) f kr kr rfl rfl (λ_ pq=>Y29 e_9 rfl (len:=d0.ac.length) (cap:=P1) (k:=.i64) (i:=(0:Int)) (e:=26) (sz:=6) (az l14) (ay l14)) λ_ f=>cg (v:=.agg #[iB X20.ab,bO X20.ah,iL X20.ai,S X20.aa,sL Z11 X20.ac P11,sL Z12 X20.af P12]) f kr kr rfl rfl (λ_ pq=>Y31 (cs:=[iB X20.ab,bO X20.ah,iL X20.ai,S X20.aa,sL Z11 X20.ac P11,sL Z12 X20.af P12]) rfl (ad:=C4.add ((0:Int).toNat*6)) (λj v h=>pq.cell (R6 j v h))) λ_ f=>Y0 default f 2 λ_ f=>?_
        obtain⟨X21,l15,F37⟩:=bS F36
        refine eE (v:=S X21) f kr kr rfl rfl (λ_=>by kernel_rfl) (aK n _ (GL.mono ((J1.trans J9).trans J10) hG) d1 X5 X21 l15) λ_ f=>cd (E:=[oC Q2 #[iB 0,S [],iL 0,S [],S [],.slice none 0 0] 31]) λW39 N40=>?_
        obtain⟨X22,l16,F38⟩:=bS F37
        rcases X22 with X23|X24
        ·refine aH f N40 (iY n _ (GL.mono ((J1.trans J9).trans J10) hG) _ X20 (TD0.shutx (x:=X20) B20 B21) X21 (.inl X23) l16) kr (λ_=>by kernel_rfl) λV15 W40 J15 N41=>lj f λ_ f=>bM (aP f ?_)
         obtain rfl:=sI F38
         exact⟨V15,(((J1.trans J9).trans J10).trans J15),(N41.dropN 1),rfl⟩
        ·refine Y16 f N40 (OkX.ok (iY n _ (GL.mono ((J1.trans J9).trans J10) hG) _ X20 (TD0.shutx (x:=X20) B20 B21) X21 (.inr X24) l16)) λ_ V16 W41 J16 N42 q_5 _ f=>?_
         obtain⟨c_7,rfl,D8⟩:=q_5
         obtain⟨Z13,P13,rfl,B22⟩:=TF0.opn D8
         refine am rfl (dC (M1:=V16) (E:=[oC Q2 #[iB 0,S [],iL 0,S [],S [],.slice none 0 0] 31]) J16 N42 (cd (E:=[oC Q2 #[iB 0,S [],iL 0,S [],S [],.slice none 0 0] 31]) λW42 N43=>Y26 (vs:=[iB X24.ab,S X24.aa,iL X24.ai,S X24.aj,S X24.ao,sL Z13 X24.fL P13]) (j:=0) f N43 rfl rfl (by simp[Value.oneCell',S]) (by simp) (by decide) (cs':=#[iB X24.ab,S X24.aa,iL X24.ai,S X24.aj,S X24.ao,sL Z13 X24.fL P13]) λW43 N44 _ f=>am rfl (dC (M1:=V16) (E:=[oC Q2 #[iB X24.ab,S X24.aa,iL X24.ai,S X24.aj,S X24.ao,sL Z13 X24.fL P13] 31]) J16 N44 (eh rfl λW44 N45=>aS (wp_ret (ef f rfl (Y10 (cs:=[iB X24.ab,S X24.aa,iL X24.ai,S X24.aj,S X24.ao,sL Z13 X24.fL P13]) (ad:=⟨Q2,0,none⟩) f (an (N45.ownCell 0 rfl) 0 rfl)) ?_))))))
         obtain rfl:=sI F38
         exact⟨_,rfl,V16,(((J1.trans J9).trans J10).trans J16),(N45.dropN 1),⟨[iB X24.ab,S X24.aa,iL X24.ai,S X24.aj,S X24.ao,sL Z13 X24.fL P13],rfl,(TF0.shutx (x:=X24) B22)⟩⟩
       ·have e_10:=of_decide_eq_false B19
        rcases cE F39 with⟨B23,F40⟩|⟨B23,F45⟩
        ·have e_11:=of_decide_eq_true B23
         have f:=Frm.set f 55 (v:=.tuple #[fnV ((cb callL X5).getD none),bO (cb callL X5).isSome]) (v':=.tuple #[.func (.func 82) #[] #[],bO true]) kr (by rw[e_11];rfl)
         refine Y f 5 λ_ f=>eT (RR (Y f 3 λ_ f=>?_))
         obtain⟨X25,l17,F41⟩:=bS F40
         refine Y18 f N18 (aK n _ (GL.mono ((J1.trans J9).trans J10) hG) d1 X5 X25 l17) λW45 N46 _ f=>Y18 f N46 (be _ (121:Int) X25) λW46 N47 _ f=>eT (aq (ei (E:=[oC Q2 #[iB 0,S [],iL 0,S [],S [],.slice none 0 0] 31]) (Hr:=(H)) [(0,true),(1,true),(2,true),(3,true),(4,true),(5,true),(6,true),(7,true),(8,false),(9,false)] N47 kr kr rfl kr (Y0 default f 2 λ_ f=>cg (v:=sL Z1 d0.ac P1) f kr kr rfl rfl (λ_ pq=>Y30 (v:=sL Z1 d0.ac P1) rfl (ad:=(⟨Q1,0,none⟩:Addr).add 4) (pq.cell ((fzu (J9.trans J10) R2) 4 _ rfl))) λ_ f=>?_)))
         obtain⟨X26,l18,F42⟩:=bS F41
         obtain⟨C5,c_8,e_12,-,D9,R7⟩:=Sli.at_ (B1.mono ((J1.trans J9).trans J10)) l18
         obtain⟨Z14,P14,Z15,P15,rfl,B24,B25⟩:=TD0.opn D9
         refine cg (v:=.pointer (some (C5.add ((0:Int).toNat*6)))) f kr kr rfl rfl (λ_ pq=>Y29 e_12 rfl (len:=d0.ac.length) (cap:=P1) (k:=.i64) (i:=(0:Int)) (e:=26) (sz:=6) (az l18) (ay l18)) λ_ f=>cg (v:=.agg #[iB X26.ab,bO X26.ah,iL X26.ai,S X26.aa,sL Z14 X26.ac P14,sL Z15 X26.af P15]) f kr kr rfl rfl (λ_ pq=>Y31 (cs:=[iB X26.ab,bO X26.ah,iL X26.ai,S X26.aa,sL Z14 X26.ac P14,sL Z15 X26.af P15]) rfl (ad:=C5.add ((0:Int).toNat*6)) (λj v h=>pq.cell (R7 j v h))) λ_ f=>Y0 default f 2 λ_ f=>?_
         obtain⟨X27,l19,F43⟩:=bS F42
         refine eE (v:=S X27) f kr kr rfl rfl (λ_=>by kernel_rfl) (aK n _ (GL.mono ((J1.trans J9).trans J10) hG) d1 X5 X27 l19) λ_ f=>cd (E:=[oC Q2 #[iB 0,S [],iL 0,S [],S [],.slice none 0 0] 31]) λW48 N49=>?_
         obtain⟨X28,l20,F44⟩:=bS F43
         rcases X28 with X29|X30
         ·refine aH f N49 (iZ n rec_syntax_expr hrec_syntax_expr _ (GL.mono ((J1.trans J9).trans J10) hG) _ X26 (TD0.shutx (x:=X26) B24 B25) X27 (.inl X29) l20) kr (λ_=>by kernel_rfl) λV17 W49 J17 N50=>lj f λ_ f=>bM (aP f ?_)
          obtain rfl:=sI F44
          exact⟨V17,(((J1.trans J9).trans J10).trans J17),(N50.dropN 1),rfl⟩
         ·refine Y16 f N49 (OkX.ok (iZ n rec_syntax_expr hrec_syntax_expr _ (GL.mono ((J1.trans J9).trans J10) hG) _ X26 (TD0.shutx (x:=X26) B24 B25) X27 (.inr X30) l20)) λ_ V18 W50 J18 N51 q_6 _ f=>?_
          obtain⟨c_9,rfl,D10⟩:=q_6
          obtain⟨Z16,P16,rfl,B26⟩:=TF0.opn D10
          refine am rfl (dC (M1:=V18) (E:=[oC Q2 #[iB 0,S [],iL 0,S [],S [],.slice none 0 0] 31]) J18 N51 (cd (E:=[oC Q2 #[iB 0,S [],iL 0,S [],S [],.slice none 0 0] 31]) λW51 N52=>Y26 (vs:=[iB X30.ab,S X30.aa,iL X30.ai,S X30.aj,S X30.ao,sL Z16 X30.fL P16]) (j:=0) f N52 rfl rfl (by simp[Value.oneCell',S]) (by simp) (by decide) (cs':=#[iB X30.ab,S X30.aa,iL X30.ai,S X30.aj,S X30.ao,sL Z16 X30.fL P16]) λW52 N53 _ f=>am rfl (dC (M1:=V18) (E:=[oC Q2 #[iB X30.ab,S X30.aa,iL X30.ai,S X30.aj,S X30.ao,sL Z16 X30.fL P16] 31]) J18 N53 (eh rfl λW53 N54=>aS (wp_ret (ef f rfl (Y10 (cs:=[iB X30.ab,S X30.aa,iL X30.ai,S X30.aj,S X30.ao,sL Z16 X30.fL P16]) (ad:=⟨Q2,0,none⟩) f (an (N54.ownCell 0 rfl) 0 rfl)) ?_))))))
          obtain rfl:=sI F44
          exact⟨_,rfl,V18,(((J1.trans J9).trans J10).trans J18),(N54.dropN 1),⟨[iB X30.ab,S X30.aa,iL X30.ai,S X30.aj,S X30.ao,sL Z16 X30.fL P16],rfl,(TF0.shutx (x:=X30) B26)⟩⟩
        ·have e_13:=of_decide_eq_false B23
         rcases cE F45 with⟨B27,F46⟩|⟨B27,F51⟩
         ·have e_14:=of_decide_eq_true B27
          have f:=Frm.set f 55 (v:=.tuple #[fnV ((cb callL X5).getD none),bO (cb callL X5).isSome]) (v':=.tuple #[.func (.func 83) #[] #[],bO true]) kr (by rw[e_14];rfl)
          refine Y f 5 λ_ f=>eT (RR (Y f 3 λ_ f=>?_))
          obtain⟨X31,l21,F47⟩:=bS F46
          refine Y18 f N18 (aK n _ (GL.mono ((J1.trans J9).trans J10) hG) d1 X5 X31 l21) λW54 N55 _ f=>Y18 f N55 (be _ (121:Int) X31) λW55 N56 _ f=>eT (aq (ei (E:=[oC Q2 #[iB 0,S [],iL 0,S [],S [],.slice none 0 0] 31]) (Hr:=(H)) [(0,true),(1,true),(2,true),(3,true),(4,true),(5,true),(6,true),(7,true),(8,false),(9,false)] N56 kr kr rfl kr (Y0 default f 2 λ_ f=>cg (v:=sL Z1 d0.ac P1) f kr kr rfl rfl (λ_ pq=>Y30 (v:=sL Z1 d0.ac P1) rfl (ad:=(⟨Q1,0,none⟩:Addr).add 4) (pq.cell ((fzu (J9.trans J10) R2) 4 _ rfl))) λ_ f=>?_)))
          obtain⟨X32,l22,F48⟩:=bS F47
          obtain⟨C6,c_10,e_15,-,D11,R8⟩:=Sli.at_ (B1.mono ((J1.trans J9).trans J10)) l22
          obtain⟨Z17,P17,Z18,P18,rfl,B28,B29⟩:=TD0.opn D11
          refine cg (v:=.pointer (some (C6.add ((0:Int).toNat*6)))) f kr kr rfl rfl (λ_ pq=>Y29 e_15 rfl (len:=d0.ac.length) (cap:=P1) (k:=.i64) (i:=(0:Int)) (e:=26) (sz:=6) (az l22) (ay l22)) λ_ f=>cg (v:=.agg #[iB X32.ab,bO X32.ah,iL X32.ai,S X32.aa,sL Z17 X32.ac P17,sL Z18 X32.af P18]) f kr kr rfl rfl (λ_ pq=>Y31 (cs:=[iB X32.ab,bO X32.ah,iL X32.ai,S X32.aa,sL Z17 X32.ac P17,sL Z18 X32.af P18]) rfl (ad:=C6.add ((0:Int).toNat*6)) (λj v h=>pq.cell (R8 j v h))) λ_ f=>Y0 default f 2 λ_ f=>?_
          obtain⟨X33,l23,F49⟩:=bS F48
          refine eE (v:=S X33) f kr kr rfl rfl (λ_=>by kernel_rfl) (aK n _ (GL.mono ((J1.trans J9).trans J10) hG) d1 X5 X33 l23) λ_ f=>cd (E:=[oC Q2 #[iB 0,S [],iL 0,S [],S [],.slice none 0 0] 31]) λW57 N58=>?_
          obtain⟨X34,l24,F50⟩:=bS F49
          rcases X34 with X35|X36
          ·refine aH f N58 (ja n rec_syntax_expr hrec_syntax_expr _ (GL.mono ((J1.trans J9).trans J10) hG) _ X32 (TD0.shutx (x:=X32) B28 B29) X33 (.inl X35) l24) kr (λ_=>by kernel_rfl) λV19 W58 J19 N59=>lj f λ_ f=>bM (aP f ?_)
           obtain rfl:=sI F50
           exact⟨V19,(((J1.trans J9).trans J10).trans J19),(N59.dropN 1),rfl⟩
          ·refine Y16 f N58 (OkX.ok (ja n rec_syntax_expr hrec_syntax_expr _ (GL.mono ((J1.trans J9).trans J10) hG) _ X32 (TD0.shutx (x:=X32) B28 B29) X33 (.inr X36) l24)) λ_ V20 W59 J20 N60 q_7 _ f=>?_
           obtain⟨c_11,rfl,D12⟩:=q_7
           obtain⟨Z19,P19,rfl,B30⟩:=TF0.opn D12
           refine am rfl (dC (M1:=V20) (E:=[oC Q2 #[iB 0,S [],iL 0,S [],S [],.slice none 0 0] 31]) J20 N60 (cd (E:=[oC Q2 #[iB 0,S [],iL 0,S [],S [],.slice none 0 0] 31]) λW60 N61=>Y26 (vs:=[iB X36.ab,S X36.aa,iL X36.ai,S X36.aj,S X36.ao,sL Z19 X36.fL P19]) (j:=0) f N61 rfl rfl (by simp[Value.oneCell',S]) (by simp) (by decide) (cs':=#[iB X36.ab,S X36.aa,iL X36.ai,S X36.aj,S X36.ao,sL Z19 X36.fL P19]) λW61 N62 _ f=>am rfl (dC (M1:=V20) (E:=[oC Q2 #[iB X36.ab,S X36.aa,iL X36.ai,S X36.aj,S X36.ao,sL Z19 X36.fL P19] 31]) J20 N62 (eh rfl λW62 N63=>aS (wp_ret (ef f rfl (Y10 (cs:=[iB X36.ab,S X36.aa,iL X36.ai,S X36.aj,S X36.ao,sL Z19 X36.fL P19]) (ad:=⟨Q2,0,none⟩) f (an (N63.ownCell 0 rfl) 0 rfl)) ?_))))))
           obtain rfl:=sI F50
           exact⟨_,rfl,V20,(((J1.trans J9).trans J10).trans J20),(N63.dropN 1),⟨[iB X36.ab,S X36.aa,iL X36.ai,S X36.aj,S X36.ao,sL Z19 X36.fL P19],rfl,(TF0.shutx (x:=X36) B30)⟩⟩
         ·have e_16:=of_decide_eq_false B27
          rcases cE F51 with⟨B31,F52⟩|⟨B31,F57⟩
          ·have e_17:=of_decide_eq_true B31
           have f:=Frm.set f 55 (v:=.tuple #[fnV ((cb callL X5).getD none),bO (cb callL X5).isSome]) (v':=.tuple #[.func (.func 84) #[] #[],bO true]) kr (by rw[e_17];rfl)
           refine Y f 5 λ_ f=>eT (RR (Y f 3 λ_ f=>?_))
           obtain⟨X37,l25,F53⟩:=bS F52
           refine Y18 f N18 (aK n _ (GL.mono ((J1.trans J9).trans J10) hG) d1 X5 X37 l25) λW63 N64 _ f=>Y18 f N64 (be _ (121:Int) X37) λW64 N65 _ f=>eT (aq (ei (E:=[oC Q2 #[iB 0,S [],iL 0,S [],S [],.slice none 0 0] 31]) (Hr:=(H)) [(0,true),(1,true),(2,true),(3,true),(4,true),(5,true),(6,true),(7,true),(8,false),(9,false)] N65 kr kr rfl kr (Y0 default f 2 λ_ f=>cg (v:=sL Z1 d0.ac P1) f kr kr rfl rfl (λ_ pq=>Y30 (v:=sL Z1 d0.ac P1) rfl (ad:=(⟨Q1,0,none⟩:Addr).add 4) (pq.cell ((fzu (J9.trans J10) R2) 4 _ rfl))) λ_ f=>?_)))
           obtain⟨X38,l26,F54⟩:=bS F53
           obtain⟨C7,c_12,e_18,-,D13,R9⟩:=Sli.at_ (B1.mono ((J1.trans J9).trans J10)) l26
           obtain⟨Z20,P20,Z21,P21,rfl,B32,B33⟩:=TD0.opn D13
           refine cg (v:=.pointer (some (C7.add ((0:Int).toNat*6)))) f kr kr rfl rfl (λ_ pq=>Y29 e_18 rfl (len:=d0.ac.length) (cap:=P1) (k:=.i64) (i:=(0:Int)) (e:=26) (sz:=6) (az l26) (ay l26)) λ_ f=>cg (v:=.agg #[iB X38.ab,bO X38.ah,iL X38.ai,S X38.aa,sL Z20 X38.ac P20,sL Z21 X38.af P21]) f kr kr rfl rfl (λ_ pq=>Y31 (cs:=[iB X38.ab,bO X38.ah,iL X38.ai,S X38.aa,sL Z20 X38.ac P20,sL Z21 X38.af P21]) rfl (ad:=C7.add ((0:Int).toNat*6)) (λj v h=>pq.cell (R9 j v h))) λ_ f=>Y0 default f 2 λ_ f=>?_
           obtain⟨X39,l27,F55⟩:=bS F54
           refine eE (v:=S X39) f kr kr rfl rfl (λ_=>by kernel_rfl) (aK n _ (GL.mono ((J1.trans J9).trans J10) hG) d1 X5 X39 l27) λ_ f=>cd (E:=[oC Q2 #[iB 0,S [],iL 0,S [],S [],.slice none 0 0] 31]) λW66 N67=>?_
           obtain⟨X40,l28,F56⟩:=bS F55
           rcases X40 with X41|X42
           ·refine aH f N67 (jb n rec_syntax_expr hrec_syntax_expr _ (GL.mono ((J1.trans J9).trans J10) hG) _ X38 (TD0.shutx (x:=X38) B32 B33) X39 (.inl X41) l28) kr (λ_=>by kernel_rfl) λV21 W67 J21 N68=>lj f λ_ f=>bM (aP f ?_)
            obtain rfl:=sI F56
            exact⟨V21,(((J1.trans J9).trans J10).trans J21),(N68.dropN 1),rfl⟩
           ·refine Y16 f N67 (OkX.ok (jb n rec_syntax_expr hrec_syntax_expr _ (GL.mono ((J1.trans J9).trans J10) hG) _ X38 (TD0.shutx (x:=X38) B32 B33) X39 (.inr X42) l28)) λ_ V22 W68 J22 N69 q_8 _ f=>?_
            obtain⟨c_13,rfl,D14⟩:=q_8
            obtain⟨Z22,P22,rfl,B34⟩:=TF0.opn D14
            refine am rfl (dC (M1:=V22) (E:=[oC Q2 #[iB 0,S [],iL 0,S [],S [],.slice none 0 0] 31]) J22 N69 (cd (E:=[oC Q2 #[iB 0,S [],iL 0,S [],S [],.slice none 0 0] 31]) λW69 N70=>Y26 (vs:=[iB X42.ab,S X42.aa,iL X42.ai,S X42.aj,S X42.ao,sL Z22 X42.fL P22]) (j:=0) f N70 rfl rfl (by simp[Value.oneCell',S]) (by simp) (by decide) (cs':=#[iB X42.ab,S X42.aa,iL X42.ai,S X42.aj,S X42.ao,sL Z22 X42.fL P22]) λW70 N71 _ f=>am rfl (dC (M1:=V22) (E:=[oC Q2 #[iB X42.ab,S X42.aa,iL X42.ai,S X42.aj,S X42.ao,sL Z22 X42.fL P22] 31]) J22 N71 (eh rfl λW71 N72=>aS (wp_ret (ef f rfl (Y10 (cs:=[iB X42.ab,S X42.aa,iL X42.ai,S X42.aj,S X42.ao,sL Z22 X42.fL P22]) (ad:=⟨Q2,0,none⟩) f (an (N72.ownCell 0 rfl) 0 rfl)) ?_))))))
            obtain rfl:=sI F56
            exact⟨_,rfl,V22,(((J1.trans J9).trans J10).trans J22),(N72.dropN 1),⟨[iB X42.ab,S X42.aa,iL X42.ai,S X42.aj,S X42.ao,sL Z22 X42.fL P22],rfl,(TF0.shutx (x:=X42) B34)⟩⟩
          ·have e_19:=of_decide_eq_false B31
           have e_20:=callL_none e_4 e_7 e_10 e_13 e_16 e_19
           have f:=Frm.set f 55 (v:=.tuple #[fnV ((cb callL X5).getD none),bO (cb callL X5).isSome]) (v':=.tuple #[.nilFunc,bO false]) kr (by rw[e_20];rfl)
           refine Y f 5 λ_ f=>eT (RR (Y f 3 λ_ f=>?_))
           obtain⟨X43,l29,F58⟩:=bS F57
           refine Y18 f N18 (aK n _ (GL.mono ((J1.trans J9).trans J10) hG) d1 X5 X43 l29) λW72 N73 _ f=>aH f N73 (bc _ (121:Int) X43) kr (λ_=>by kernel_rfl) λV23 W73 J23 N74=>bM (aP f ?_)
           obtain rfl:=sI F58
           exact⟨V23,(((J1.trans J9).trans J10).trans J23),(N74.dropN 1),rfl⟩
def cq (n:Nat):Nat→TD0→Bs→Option (Sum (Int×Bs) TF0)
 |0=>λ_ _=>none
 |k+1=>gp n (cq n k)
def gc (n:Nat) (d0:TD0) (d1:Bs):Option (Sum (Int×Bs) TF0):=cq n n d0 d1
theorem cP (n:Nat) (M:Mem) (hG:GL M) (c0:Lv) (d0:TD0) (h0:Rep M (ap d0) c0) (d1:Bs) (r:Sum (Int×Bs) TF0) (hF:gc n d0 d1=some r):OkX Tryz.prog M 18 [.agg c0.toArray,S d1] 78 r (λr=>λM' v=>∃ (c0:Lv),v=.agg c0.toArray∧Rep M' (au r) c0):=by
 have key: ∀ (k:Nat) (M:Mem) (hG:GL M) (c0:Lv) (d0:TD0) (h0:Rep M (ap d0) c0) (d1:Bs) (r:Sum (Int×Bs) TF0) (hF:cq n k d0 d1=some r),OkX Tryz.prog M 18 [.agg c0.toArray,S d1] 78 r (λr=>λM' v=>∃ (c0:Lv),v=.agg c0.toArray∧Rep M' (au r) c0):=by
  intro k
  induction k with
  |zero=>intro M hG c0 d0 h0 d1 r hF;simp[cq] at hF
  |succ k ih=>intro M hG c0 d0 h0 d1 r hF;exact mm n (cq n k) ih M hG c0 d0 h0 d1 r hF
 exact key n M hG c0 d0 h0 d1 r hF
end Go.Proofs.YtkopljikappieaaGreatDoor
end
section
namespace Go.Vc
open Go Go.RowKit
variable {dd:List Deferred}
section
variable {P:Program} {fn:Func} {R:Ending→World→Prop} {n:Nat} {L:Fr} {a:Act} {w:World}
theorem CallsD.mono' {f:FuncId} {args:Array Value} {u:FrameMode} {R R':Ending→FrameMode→World→Prop} (h:CallsD P f args u w R) (hq: ∀e u w,R e u w→R' e u w):CallsD P f args u w R':=
 λc cs hu=>let ⟨e,u',w',fr,h1,h2⟩:=h c cs hu; ⟨e,u',w',fr,hq _ _ _ h1,h2⟩
theorem R_enterD {f:FuncId} {c:Code} {args:Lv} (n:Nat) (hf:P.funcs[f]? =some fn) (hb:fn.body=some c) (hn:fn.ntmps=n) (hle:args.length≤n)
 (h: ∀a,Frm n (frame0 args 0) a→c.wp P (bodyPostD P fn R) a w):Calls P f args.toArray w R:=by
 refine calls_of_wp_defers hf hb (h _ ⟨by simp[hn];omega,rfl,λt v hv=>?_⟩)
 obtain⟨_,h2⟩:=hZ args 0 t v hv
 simp only[Nat.sub_zero] at h2
 have hlt:t<args.length:=(List.getElem?_eq_some_iff.1 h2).1
 rw[List.getElem?_eq_getElem hlt] at h2
 simp only[Option.some.injEq] at h2
 simp[Array.getElem?_append,hlt,h2]
theorem E_D0 (hf:Frm n L a) (h:Res P fn a R w):bodyPostD P fn R .ret a w:=by
 show Leaves P fn a.tmps R a.defers .returning w
 rw[hf.defers]
 exact h
theorem E_D1 {d:Deferred} {fv:Fn} {cap:Array Value} {f:FuncId} {args:Array Value} {S:World→Prop} (hf:Frm n L a [d]) (ht:d.target=.fn fv cap) (hi: ∀w,(invoke d.target d.args).run P w=.ok (.enter f args) w)
 (hc:CallsD P f args .returning w λe u' w'=>∃v,e=.returned v∧settle u'=.returning∧S w') (h: ∀w',S w'→Res P fn a R w'):bodyPostD P fn R .ret a w:=by
 show Leaves P fn a.tmps R a.defers .returning w
 rw[hf.defers]
 refine⟨by simp,fv,cap,f,args,ht,hi w,CallsD.mono' hc λe u' w' ⟨v,he,hu,hs⟩=>?_⟩
 subst he
 show Leaves P fn a.tmps R [] (settle u') w'
 rw[hu]
 exact h w' hs
theorem E_D1p {d:Deferred} {fv:Fn} {cap:Array Value} {f:FuncId} {args:Array Value} {S:World→Prop} {ch:List PanicEntry} (hf:Frm n L a [d]) (ht:d.target=.fn fv cap) (hi: ∀w,(invoke d.target d.args).run P w=.ok (.enter f args) w)
 (hc:CallsD P f args (.panicking ch) w λe u' w'=>∃v,e=.returned v∧settle u'=.returning∧S w') (h: ∀w',S w'→Res P fn a R w'):bodyPostD P fn R (.panic ch) a w:=by
 show Leaves P fn a.tmps R a.defers (.panicking ch) w
 rw[hf.defers]
 refine⟨by simp,fv,cap,f,args,ht,hi w,CallsD.mono' hc λe u' w' ⟨v,he,hu,hs⟩=>?_⟩
 subst he
 show Leaves P fn a.tmps R [] (settle u') w'
 rw[hu]
 exact h w' hs
end
section
variable {P:Program} {ops:Array Oper} {n:Nat} {Q:Exit→Act→World→Prop} {L:Fr} {a:Act} {w:World}
theorem W_defer {o:Oper} {rest:List Oper} (d:Deferred) (hf:Frm n L a dd) (hw:aT ops L o=some true) (hr:bj L o=true) (hd:o.dst=none) (hx: (execOp (ev L) o).run P w=.ok (.defer d) w)
 (hk: ∀a',Frm n L a' (d::dd)→wpList P ops Q rest a' w):wpList P ops Q (o::rest) a w:=by
 simp only[wpList]
 rw[hf.wanted hw]
 refine .inl ?_
 unfold Oper.wp
 rw[hf.exec hr,hx]
 refine hk _ ?_
 rw[hd]
 exact⟨hf.size,by show d::a.defers=_;rw[hf.defers],hf.at_⟩
end
section
variable {P:Program} {ops:Array Oper} {Q:Exit→Act→List Frame→World→Prop} {a:Act} {cs cs':List Frame} {w:World}
theorem recS_some {o:Oper} {i:Nat} {rest:List Nat} {v:Value} (ho:ops[i]? =some o) (hw:Region.wanted o (yielded ops a.tmps)=true) (hx: (execOp a.eval o).run P w=.ok .recover w) (hr:recoverD cs=some (v,cs')) (h:wpOpsS P ops Q rest (a.put o.dst v) cs' w):wpOpsS P ops Q (i::rest) a cs w:=by
 simp only[wpOpsS,ho,hw,if_true,hx,hr]
 exact h
theorem recS_none {o:Oper} {i:Nat} {rest:List Nat} (ho:ops[i]? =some o) (hw:Region.wanted o (yielded ops a.tmps)=true) (hx: (execOp a.eval o).run P w=.ok .recover w) (hr:recoverD cs=none) (h:wpOpsS P ops Q rest (a.put o.dst .nilIface) cs w):wpOpsS P ops Q (i::rest) a cs w:=by
 simp only[wpOpsS,ho,hw,if_true,hx,hr]
 exact h
theorem lE (hQ: ¬LetsOut λe a w=>Q e a cs w): ∀ (l:List Oper) (k:Nat),(∀j,j<l.length→l[j]? =ops[k+j]?)→∀a w,wpList P ops (λe a' w'=>Q e a' cs w') l a w→wpOpsS P ops Q (List.range' k l.length) a cs w
 |[],k,_,a,w,h=>h
 |o::l,k,hl,a,w,h=>by
  have h0:ops[k]? =some o:=by simpa using (hl 0 (by simp)).symm
  have ih:=lE hQ l (k+1) (λj hj=>by have:=hl (j+1) (by simp;omega);simpa [Nat.add_assoc,Nat.add_comm 1 j] using this)
  simp only[List.length_cons,List.range'_succ,wpOpsS,h0]
  simp only[wpList] at h
  split
  ·rename_i hw
   rw[if_pos hw] at h
   rcases h with h|⟨-,h⟩
   ·unfold Oper.wp at h
    generalize (execOp a.eval o).run P w=r at h ⊢
    cases r with
    |ok x w'=>
     cases x<;>simp only[Oper.upon] at h ⊢
     case value v=>exact ih _ _ h
     case skip=>exact ih _ _ h
     case defer d=>exact ih _ _ h
     case enter f args=>
      refine Calls.mono h λe w'' he=>?_
      cases e with
      |returned v=>exact ih _ _ he
      |panicked c=>exact he
      |outgrown=>exact he
     case row row args=>exact Go.Rows.mono h λv w'' he=>ih _ _ he
    |halt x w'=>
     cases x<;>simp only[Oper.upon] at h ⊢
     case panic v=>exact h
   ·exact absurd h hQ
  ·rename_i hw
   rw[if_neg hw] at h
   exact ih _ _ h
end
end Go.Vc
namespace Go.Vc
open Go Go.RowKit
theorem regS_rec {P:Program} {ops:Array Oper} {Q:Exit→Act→List Frame→World→Prop} {a:Act} {cs cs':List Frame} {w:World} {id:Nat} {o:Oper} {l:List Oper} {v:Value} (hQ: ¬LetsOut λe a w=>Q e a cs' w) (h0:ops.toList=o::l)
 (hw:Region.wanted o (yielded ops a.tmps)=true) (hx: (execOp a.eval o).run P w=.ok .recover w) (hr: (recoverD cs=some (v,cs'))∨(recoverD cs=none∧v=.nilIface∧cs'=cs)) (h:wpList P ops (λe a' w'=>Q e a' cs' w') l (a.put o.dst v) w):
 (Code.region id ops false).wpS P Q a cs w:=by
 refine wpS_region ?_
 have hlen:ops.size=l.length+1:=by rw[←Array.length_toList,h0];rfl
 have ho:ops[0]? =some o:=by rw[←Array.getElem?_toList,h0];rfl
 rw[hlen,List.range_eq_range',List.range'_succ]
 have ht:=lE hQ l (0+1) (λj hj=>by rw[←Array.getElem?_toList,h0,Nat.add_comm (0+1) j];rfl) (a.put o.dst v) w h
 rcases hr with hr|⟨hr,rfl,rfl⟩
 ·exact recS_some ho hw hx hr ht
 ·exact recS_none ho hw hx hr ht
theorem thenS_n {next:Act→List Frame→World→Prop} {Q:Exit→Act→List Frame→World→Prop} {a:Act} {cs:List Frame} {w:World} (h:next a cs w):Exit.thenS next Q .normal a cs w:=h
theorem kF {n:Nat} {args:Lv} (hle:args.length≤n):Frm n (frame0 args 0) {tmps:=args.toArray++Array.replicate (n-args.toArray.size) undef,defers:=[]}:=by
 refine⟨by simp;omega,rfl,λt v hv=>?_⟩
 obtain⟨_,h2⟩:=hZ args 0 t v hv
 simp only[Nat.sub_zero] at h2
 have hlt:t<args.length:=(List.getElem?_eq_some_iff.1 h2).1
 rw[List.getElem?_eq_getElem hlt] at h2
 simp only[Option.some.injEq] at h2
 simp[Array.getElem?_append,hlt,h2]
end Go.Vc
namespace Go.Vc
open Go Go.RowKit
section
variable {P:Program} {fn:Func} {R:Ending→World→Prop} {n:Nat} {L:Fr} {a:Act} {w:World}
theorem leaves2 {tmps:Array Value} {d1 d2:Deferred} {fv1 fv2:Fn} {cap1 cap2:Array Value} {f1 f2:FuncId} {args1 args2:Array Value} {S1 S2:World→Prop} {u:FrameMode} (hu:u≠ .run) (ht1:d1.target=.fn fv1 cap1) (hi1: ∀w,(invoke d1.target d1.args).run P w=.ok (.enter f1 args1) w) (ht2:d2.target=.fn fv2 cap2) (hi2: ∀w,(invoke d2.target d2.args).run P w=.ok (.enter f2 args2) w)
 (hc1:CallsD P f1 args1 u w λe u' w'=>∃v,e=.returned v∧settle u'=.returning∧S1 w') (hc2: ∀w,S1 w→CallsD P f2 args2 .returning w λe u' w'=>∃v,e=.returned v∧settle u'=.returning∧S2 w')
 (h: ∀w',S2 w'→Leaves P fn tmps R [] .returning w'):Leaves P fn tmps R [d1,d2] u w:=by
 refine⟨hu,fv1,cap1,f1,args1,ht1,hi1 w,CallsD.mono' hc1 λe u' w' ⟨v,he,hu,hs⟩=>?_⟩
 subst he
 show Leaves P fn tmps R [d2] (settle u') w'
 rw[hu]
 refine⟨by simp,fv2,cap2,f2,args2,ht2,hi2 w',CallsD.mono' (hc2 w' hs) λe u' w' ⟨v,he,hu,hs⟩=>?_⟩
 subst he
 show Leaves P fn tmps R [] (settle u') w'
 rw[hu]
 exact h w' hs
theorem E_D2 {d1 d2:Deferred} {fv1 fv2:Fn} {cap1 cap2:Array Value} {f1 f2:FuncId} {args1 args2:Array Value} {S1 S2:World→Prop} (hf:Frm n L a [d1,d2]) (ht1:d1.target=.fn fv1 cap1) (hi1: ∀w,(invoke d1.target d1.args).run P w=.ok (.enter f1 args1) w) (ht2:d2.target=.fn fv2 cap2) (hi2: ∀w,(invoke d2.target d2.args).run P w=.ok (.enter f2 args2) w)
 (hc1:CallsD P f1 args1 .returning w λe u' w'=>∃v,e=.returned v∧settle u'=.returning∧S1 w') (hc2: ∀w,S1 w→CallsD P f2 args2 .returning w λe u' w'=>∃v,e=.returned v∧settle u'=.returning∧S2 w')
 (h: ∀w',S2 w'→Res P fn a R w'):bodyPostD P fn R .ret a w:=by
 show Leaves P fn a.tmps R a.defers .returning w
 rw[hf.defers]
 exact leaves2 (by simp) ht1 hi1 ht2 hi2 hc1 hc2 h
theorem E_D2p {d1 d2:Deferred} {fv1 fv2:Fn} {cap1 cap2:Array Value} {f1 f2:FuncId} {args1 args2:Array Value} {S1 S2:World→Prop} {ch:List PanicEntry} (hf:Frm n L a [d1,d2]) (ht1:d1.target=.fn fv1 cap1) (hi1: ∀w,(invoke d1.target d1.args).run P w=.ok (.enter f1 args1) w) (ht2:d2.target=.fn fv2 cap2) (hi2: ∀w,(invoke d2.target d2.args).run P w=.ok (.enter f2 args2) w)
 (hc1:CallsD P f1 args1 (.panicking ch) w λe u' w'=>∃v,e=.returned v∧settle u'=.returning∧S1 w') (hc2: ∀w,S1 w→CallsD P f2 args2 .returning w λe u' w'=>∃v,e=.returned v∧settle u'=.returning∧S2 w')
 (h: ∀w',S2 w'→Res P fn a R w'):bodyPostD P fn R (.panic ch) a w:=by
 show Leaves P fn a.tmps R a.defers (.panicking ch) w
 rw[hf.defers]
 exact leaves2 (by simp) ht1 hi1 ht2 hi2 hc1 hc2 h
end
end Go.Vc
end
section
namespace Go.Proofs.YtkopljikappieaaGreatDoor
open Go Go.Vc Go.RowKit
theorem Hp.dropAt2 {w0:World} {M:Mem} {x y z:Ent} {H:List Ent} {w:World} (h:Hp w0 M (x::y::z::H) w):Hp w0 M (x::y::H) w:=
 (h.perm (List.Perm.trans (List.Perm.cons x (List.Perm.swap z y H)) (List.Perm.swap z x (y::H)))).dropN 1
set_option maxRecDepth 20000 in
theorem taken_q {M:Mem} {w0:World} {H:List Ent} {w:World} (b3 b4:Nat) (hp:Hp w0 M H w):CallsD Tryz.prog 17 [pP b3,pP b4].toArray .returning w (λe u' w'=>∃v,e=.returned v∧settle u'=.returning∧Hp w0 M H w'):=by
 refine callsD_of_wpS Tryz.func17 rfl λc₀ cs hu=>?_
 have hf0:Frm 20 (frame0 [pP b3,pP b4] 0) _:=kF (by simp)
 have hrec:recoverD (c₀::cs)=none:=by unfold recoverD;simp only[hu]
 have hcs: ({c₀ with mode:=.returning}:Frame)=c₀:=by rw[←hu]
 refine wpS_seq (regS_rec (v:=.nilIface) (cs':=c₀::cs) ?_ rfl (hf0.wanted kr) rfl (.inr ⟨hrec,rfl,rfl⟩) ?_)
 ·rintro⟨a,w,u,v,he,_⟩;cases he
 have hf1:Frm 20 ((7,.nilIface)::frame0 [pP b3,pP b4] 0) _:=hf0.put (by decide) _
 refine eN (L':=[(0,pP b3),(1,pP b4),(9,.agg #[iL 0,S []]),(10,bO false)]) (w':=w) hf1 4 [0,1,9,10] kr λ_ f=>Y12 f hp (.cells #[iL 0,S []] 78 (0,0)) λb5 W3 N3 _ f=>Ys [iL 0,S []] #[iL 0,S []] f N3 rfl rfl λW4 N4 _ f=>Y f 1 λ_ f=>am rfl (thenS_n (wpS_of_wp (RR (eN (L':=[(0,pP b3),(1,pP b4),(4,pP b5),(11,bO false)]) (w':=W4) f 1 [0,1,4,11] kr λ_ f=>eT (Y7 f (wp_skip (⟨f.defers,.returning,by rw[hcs],.tuple #[],results_none rfl _ _ _,⟨_,rfl,rfl,N4.dropN 1⟩⟩)))))))
set_option maxRecDepth 20000 in
theorem taken_p {M:Mem} {w0:World} {H:List Ent} {w:World} (b3 b4:Nat) (x:Int×Bs) (s:Bs) (e0:Int) (hp:Hp w0 M (oC b3 #[S s] 9::oC b4 #[iL e0] 32::H) w):CallsD Tryz.prog 17 [pP b3,pP b4].toArray (.panicking (flawE 78 x)) w (λe u' w'=>∃v,e=.returned v∧settle u'=.returning∧Hp w0 M (oC b3 #[S x.2] 9::oC b4 #[iL x.1] 32::H) w'):=by
 refine callsD_of_wpS Tryz.func17 rfl λc₀ cs hu=>?_
 have hf0:Frm 20 (frame0 [pP b3,pP b4] 0) _:=kF (by simp)
 have hrec:recoverD (c₀::cs)=some (.iface 78 (.agg #[iL x.1,S x.2]),{c₀ with mode:=.panicking [{v:=.iface 78 (.agg #[iL x.1,S x.2]),recovered:=true}]}::cs):=by unfold recoverD flawE at*;simp only[hu]
 refine wpS_seq (regS_rec (v:=.iface 78 (.agg #[iL x.1,S x.2])) (cs':={c₀ with mode:=.panicking [{v:=.iface 78 (.agg #[iL x.1,S x.2]),recovered:=true}]}::cs) ?_ rfl (hf0.wanted kr) rfl (.inl hrec) ?_)
 ·rintro⟨a,w,u,v,he,_⟩;cases he
 have hf1:Frm 20 ((7,.iface 78 (.agg #[iL x.1,S x.2]))::frame0 [pP b3,pP b4] 0) _:=hf0.put (by decide) _
 refine eN (L':=[(0,pP b3),(1,pP b4),(9,.agg #[iL x.1,S x.2]),(10,bO true)]) (w':=w) hf1 4 [0,1,9,10] kr λa_2 f=>Y12 f hp (.cells #[iL 0,S []] 78 (0,0)) λb5 W3 N3 a_3 f=>Ys [iL x.1,S x.2] #[iL x.1,S x.2] f N3 rfl rfl λW4 N4 a_4 f=>Y f 1 λa_5 f=>am rfl (thenS_n (wpS_of_wp (RR (eN (L':=[(0,pP b3),(1,pP b4),(4,pP b5),(11,bO true)]) (w':=W4) f 1 [0,1,4,11] kr λ_ f=>eT (Y8 f ?_)))))
 have N8:Hp w0 M (oC b3 #[S s] 9::oC b4 #[iL e0] 32::oC b5 #[iL x.1,S x.2] 78::H) W4:=N4.perm (List.Perm.trans (List.Perm.swap _ _ _) (List.Perm.cons _ (List.Perm.swap _ _ _)))
 refine ei (E:=[oC b3 #[S s] 9,oC b4 #[iL e0] 32]) (Hr:=((oC b5 #[iL x.1,S x.2] 78)::H)) [(0,true),(1,true),(2,true),(3,true),(4,true),(5,true),(6,true),(7,false),(8,true),(9,false)] N8 kr kr rfl kr (Y0 default f 3 λ_ f=>cg (v:=S x.2) f kr kr rfl rfl (λ_ pq=>Y30 (v:=S x.2) rfl (ad:=⟨b5,1,none⟩) (pq.ownCell 0 rfl 1)) λa_2 f=>Y0 default f 1 λa_3 f=>cg (v:=iL x.1) f kr kr rfl rfl (λ_ pq=>Y30 (v:=iL x.1) rfl (ad:=⟨b5,0,none⟩) (pq.ownCell 0 rfl 0)) λa_4 f=>Y0 default f 1 λa_5 f=>cd (E:=[oC b3 #[S s] 9,oC b4 #[iL e0] 32]) λW1 N1=>Y25 f N1 0 rfl rfl (b:=b3) (j:=0) (v:=S x.2) rfl (by exact rfl) (by simp) (by simp) ((oC b3 #[S x.2] 9)::(oC b4 #[iL e0] 32)::(oC b5 #[iL x.1,S x.2] 78)::H) rfl λW2 N2 _ f=>am rfl (dC (M1:=M) (E:=[oC b3 #[S x.2] 9,oC b4 #[iL e0] 32]) (mR _) N2 (Y0 default f 1 λ_ f=>cd (E:=[oC b3 #[S x.2] 9,oC b4 #[iL e0] 32]) λW3 N3=>Y25 f N3 1 rfl rfl (b:=b4) (j:=0) (v:=iL x.1) rfl (by exact rfl) (by simp) (by simp) ((oC b3 #[S x.2] 9)::(oC b4 #[iL x.1] 32)::(oC b5 #[iL x.1,S x.2] 78)::H) rfl λW4 N4 _ f=>am rfl (dC (M1:=M) (E:=[oC b3 #[S x.2] 9,oC b4 #[iL x.1] 32]) (mR _) N4 (eh rfl λW5 N5=>⟨f.defers,_,rfl,.tuple #[],results_none rfl _ _ _,⟨_,rfl,rfl,?_⟩⟩)))))
 obtain⟨q_M,q_h⟩: ∃q:Hp w0 M (oC b3 #[S x.2] 9::oC b4 #[iL x.1] 32::oC b5 #[iL x.1,S x.2] 78::H) W5,True:=⟨N5,trivial⟩
 have q2:=Hp.dropAt2 q_M
 exact q2
def iU (n:Nat) (d0:TD0):Option (TF0×Bs×Int):=
 (hP n d0).bind λX1=>
 bif(!(decide (X1=0))) then
  (some ((ae,([]:Bs),X1)))
 else
  (gc n d0 ([]:Bs)).bind λX2=>
  (match X2 with
  |.inl X3=>some ((ae,X3.2,X3.1))
  |.inr X4=>some ((X4,([]:Bs),(0:Int))))
theorem kv (n:Nat) (M:Mem) (hG:GL M) (c0:Lv) (d0:TD0) (h0:Rep M (ap d0) c0) (r:TF0×Bs×Int) (hF:iU n d0=some r):Ok Tryz.prog M 8 [.agg c0.toArray] (λM' v=>∃ (c0:Lv),v=.tuple #[.agg c0.toArray,S r.2.1,iL r.2.2]∧Rep M' (au r.1) c0):=by
 unfold iU at hF
 intro M1 hM0 w0 H w p0
 replace hG:=GL.mono hM0 hG
 replace h0:=Rep.mono hM0 _ _ h0
 obtain⟨Z1,P1,Z2,P2,rfl,B1,B2⟩:=TD0.opn h0
 refine R_enterD 14 Tryz.func8 rfl rfl (by simp) λa0 f0=>RR (Y13 (cs:=(aTD0 d0 Z1 P1 Z2 P2)) (T:=26) f0 p0 λQ1 V1 W1 J1 R1 N1 _ f=>?_)
 have R2:=bR R1
 refine Y12 f N1 (.cells #[iB 0,S [],iL 0,S [],S [],Sn] 31 (0,0)) λQ2 W2 N2 _ f=>Y12 f N2 (.cells #[S []] 9 (0,0)) λQ3 W3 N3 _ f=>Y12 f N3 (.cells #[iL 0] 32 (0,0)) λQ4 W4 N4 _ f=>eT (aq (RR (Z f (Y31 (cs:=(lTD0 d0 Z1 P1 Z2 P2)) rfl (ad:=⟨Q1,0,none⟩) (λj v h=>N4.cell (R2 j v h))) λ_ f=>?_)))
 obtain⟨X1,l1,F1⟩:=bS hF
 refine Y18 f N4 (kS n _ (GL.mono J1 hG) _ d0 (TD0.shutx (x:=d0) (B1.mono J1) (B2.mono J1)) X1 l1) λW5 N5 _ f=>Ye f 1 λ_ f=>RR (Ye f 2 λ_ f=>RcF f F1 (λB3 F2=>?_) λB3 F3=>?_)
 ·have U1: ¬ (X1=0):=(cn dI).1 B3
  refine RR (Z f (Y31 (cs:=[iB 0,S [],iL 0,S [],S [],Sn]) rfl (ad:=⟨Q2,0,none⟩) (an (N5.ownCell 2 rfl) 0 rfl)) λ_ f=>Y f 1 λ_ f=>?_)
  have N6:=N5.pl [2]
  refine Ys [iB 0,S [],iL 0,S [],S [],Sn] #[iB 0,S [],iL 0,S [],S [],Sn] f N6 rfl rfl λW6 N7 _ f=>Y25 f N7 2 rfl rfl (b:=Q3) (j:=0) (v:=S []) rfl (by exact rfl) (by simp) (by simp) ((oC Q2 #[iB 0,S [],iL 0,S [],S [],Sn] 31)::(oC Q4 #[iL 0] 32)::(oC Q3 #[S []] 9)::H) rfl λW7 N8 _ f=>Y25 f N8 1 rfl rfl (b:=Q4) (j:=0) (v:=iL X1) rfl (by exact rfl) (by simp) (by simp) ((oC Q2 #[iB 0,S [],iL 0,S [],S [],Sn] 31)::(oC Q4 #[iL X1] 32)::(oC Q3 #[S []] 9)::H) rfl λW8 N9 _ f=>Er (dj (E_D0 f (oa rfl (Y10 (cs:=[iB 0,S [],iL 0,S [],S [],Sn]) (ad:=⟨Q2,0,none⟩) f (an (N9.ownCell 0 rfl) 0 rfl)) (Y9 (v:=S []) (ad:=⟨Q3,0,none⟩) f (N9.ownCell 2 rfl 0)) (Y9 (v:=iL X1) (ad:=⟨Q4,0,none⟩) f (N9.ownCell 1 rfl 0)) ?_)))
  cases sI F2
  exact⟨_,rfl,V1,J1,(N9.dropN 3),⟨[iB 0,S [],iL 0,S [],S [],Sn],rfl,(TF0.shut Sli.nil)⟩⟩
 ·have U2: ¬ (¬ (X1=0)):=aA (cn dI) B3
  refine St (RR (W_defer ({target:=.fn (.func 17) #[],args:=#[pP Q3,pP Q4]}) f kr kr rfl kr λ_ f=>eT (RR (Z f (Y31 (cs:=(lTD0 d0 Z1 P1 Z2 P2)) rfl (ad:=⟨Q1,0,none⟩) (λj v h=>N5.cell (R2 j v h))) λ_ f=>?_))))
  obtain⟨X2,l2,F4⟩:=bS F3
  rcases X2 with X3|X4
  ·refine aH f N5 (cP n _ (GL.mono J1 hG) _ d0 (TD0.shutx (x:=d0) (B1.mono J1) (B2.mono J1)) ([]:Bs) (.inl X3) l2) kr (λ_=>by kernel_rfl) λV2 W9 J2 N10=>bM ?_
   have N14:=N10.pl [2,1,2]
   refine E_D1p f rfl (λ_=>by kernel_rfl) (taken_p Q3 Q4 X3 ([]:Bs) (0:Int) N14) λW10 N11=>oa rfl (Y10 (cs:=[iB 0,S [],iL 0,S [],S [],Sn]) (ad:=⟨Q2,0,none⟩) f (an (N11.ownCell 2 rfl) 0 rfl)) (Y9 (v:=S X3.2) (ad:=⟨Q3,0,none⟩) f (N11.ownCell 0 rfl 0)) (Y9 (v:=iL X3.1) (ad:=⟨Q4,0,none⟩) f (N11.ownCell 1 rfl 0)) ?_
   cases sI F4
   exact⟨_,rfl,V2,(J1.trans J2),(N11.dropN 3),⟨[iB 0,S [],iL 0,S [],S [],Sn],rfl,(TF0.shut Sli.nil)⟩⟩
  ·refine Y16 f N5 (OkX.ok (cP n _ (GL.mono J1 hG) _ d0 (TD0.shutx (x:=d0) (B1.mono J1) (B2.mono J1)) ([]:Bs) (.inr X4) l2)) λ_ V3 W11 J3 N15 eM _ f=>?_
   obtain⟨eF,rfl,D1⟩:=eM
   obtain⟨Z3,P3,rfl,B4⟩:=TF0.opn D1
   have N16:=N15.pl [2]
   refine Ys (lTF0 X4 Z3 P3) (aTF0 X4 Z3 P3) f N16 rfl rfl λW12 N17 _ f=>Y25 f N17 2 rfl rfl (b:=Q3) (j:=0) (v:=S []) rfl (by exact rfl) (by simp) (by simp) ((Ent.obj Q2 (.cells (aTF0 X4 Z3 P3) 31 (0,0)))::(oC Q4 #[iL 0] 32)::(oC Q3 #[S []] 9)::H) rfl λW13 N18 _ f=>Y25 f N18 1 rfl rfl (b:=Q4) (j:=0) (v:=iL 0) rfl (by exact rfl) (by simp) (by simp) ((Ent.obj Q2 (.cells (aTF0 X4 Z3 P3) 31 (0,0)))::(oC Q4 #[iL 0] 32)::(oC Q3 #[S []] 9)::H) rfl λW14 N19 _ f=>Er (E_D1 f rfl (λ_=>by kernel_rfl) (taken_q Q3 Q4 N19) λW15 N20=>oa rfl (Y10 (cs:=(lTF0 X4 Z3 P3)) (ad:=⟨Q2,0,none⟩) f (an (N20.ownCell 0 rfl) 0 rfl)) (Y9 (v:=S []) (ad:=⟨Q3,0,none⟩) f (N20.ownCell 2 rfl 0)) (Y9 (v:=iL 0) (ad:=⟨Q4,0,none⟩) f (N20.ownCell 1 rfl 0)) ?_)
   cases sI F4
   exact⟨_,rfl,V3,(J1.trans J3),(N20.dropN 3),⟨[iB X4.ab,S X4.aa,iL X4.ai,S X4.aj,S X4.ao,sL Z3 X4.fL P3],rfl,(TF0.shutx (x:=X4) B4)⟩⟩
abbrev FX (α:Type):=Sum (Int×Bs) α
def wordS (s:Bs):Bool:=decide ((s.length:Int)≤64)&&Lib.validD s
def nameV (v:TD0):Bool:=decide (v.ab=3)&&nameS v.aa
def wordV (v:TD0):Bool:=decide (v.ab=3)&&wordS v.aa
theorem iE {n:Nat} {v:TD0} (hn:100000≤n) (h:v.aa.length≤5000):cS n v=some (nameV v):=by
 unfold cS nameV
 cases hk:decide (v.ab=3) with
 |false=>rw[cF,Bool.false_and]
 |true=>rw[cT,iF (by omega) (by omega),bnd,Bool.true_and]
theorem lN {n:Nat} {v:TD0} (hn:100000≤n) (h:v.aa.length≤5000):dr n v=some (wordV v):=by
 unfold dr wordV jA wordS
 cases hk:decide (v.ab=3) with
 |false=>rw[cF,Bool.false_and]
 |true=>
  rw[cT,Bool.true_and]
  cases hl:decide ((v.aa.length:Int)≤64) with
  |false=>rw[cF,bnd,Bool.false_and]
  |true=>rw[cT,mn (by omega),bnd,bnd,Bool.true_and]
def undS (a k:Bs):Bs:=if a=[] then k else a++[47]++k
theorem jy (a k:Bs): (undS a k).length≤a.length+1+k.length:=by
 unfold undS
 split
 ·omega
 ·simp;omega
theorem jd {n:Nat} {a k:Bs} (ha:a.length≤1000000) (hk:k.length≤1000000):aM n a k=some (undS a k):=by
 unfold aM undS
 by_cases h:a=[]
 ·rw[dT h,cT,if_pos h]
 ·rw[dF h,cF,if_neg h,bi (by simp;omega),bi (by simp;omega)]
def plcS (a:Bs) (i:Nat):Bs:=undS a (Go.Num.text (i:Int)).1
theorem num_all: ((List.range 9).all λi=>decide ((Go.Num.text (i:Int)).1.length≤20))=true:=by kernel_rfl
theorem num_len {i:Nat} (h:i≤8): (Go.Num.text (i:Int)).1.length≤20:=of_decide_eq_true (List.all_eq_true.1 num_all i (List.mem_range.2 (by omega)))
theorem lF {a:Bs} {i:Nat} (h:i≤8): (plcS a i).length≤a.length+21:=by
 have:=jy a (Go.Num.text (i:Int)).1
 have:=num_len h
 unfold plcS
 omega
theorem mS {n:Nat} {a:Bs} {i:Nat} (ha:a.length≤1000000) (hi:i≤8):cM n a (i:Int)=some (plcS a i):=by
 unfold cM lY
 rw[bnd,jd ha (by have:=num_len hi;omega),bnd]
 rfl
def exL (E : TD0 → List UInt8 → FX TF0) (at_ : List UInt8) : Nat → List TD0 → FX (List TF0)
  | _, [] => .inr []
  | i, v :: r => match E v (plcS at_ i) with
    | .inl p => .inl p
    | .inr x => match exL E at_ (i + 1) r with
      | .inl p => .inl p
      | .inr xs => .inr (x :: xs)
def twoV (v:TD0):Option (TD0×TD0):=if v.ab=4 then match v.ac with|[a,b]=>some (a,b)|_=>none else none
def threeV (v:TD0):Option (TD0×TD0×TD0):=if v.ab=4 then match v.ac with|[a,b,c]=>some (a,b,c)|_=>none else none
theorem kK (v:TD0): (∃a b,twoV v=some (a,b)∧v.ab=4∧v.ac=[a,b])∨(twoV v=none∧(v.ab≠4∨v.ac.length≠2)):=by
 unfold twoV
 by_cases h:v.ab=4
 ·rw[if_pos h]
  match hl:v.ac with
  |[]=>exact .inr ⟨rfl,.inr (by simp)⟩
  |[a]=>exact .inr ⟨rfl,.inr (by simp)⟩
  |[a,b]=>exact .inl ⟨a,b,rfl,h,rfl⟩
  |a::b::c::r=>exact .inr ⟨rfl,.inr (by simp)⟩
 ·rw[if_neg h]
  exact .inr ⟨rfl,.inl h⟩
theorem mG (v:TD0): (∃a b c,threeV v=some (a,b,c)∧v.ab=4∧v.ac=[a,b,c])∨(threeV v=none∧(v.ab≠4∨v.ac.length≠3)):=by
 unfold threeV
 by_cases h:v.ab=4
 ·rw[if_pos h]
  match hl:v.ac with
  |[]=>exact .inr ⟨rfl,.inr (by simp)⟩
  |[a]=>exact .inr ⟨rfl,.inr (by simp)⟩
  |[a,b]=>exact .inr ⟨rfl,.inr (by simp)⟩
  |[a,b,c]=>exact .inl ⟨a,b,c,rfl,h,rfl⟩
  |a::b::c::d::r=>exact .inr ⟨rfl,.inr (by simp)⟩
 ·rw[if_neg h]
  exact .inr ⟨rfl,.inl h⟩
def mapX {α β:Type} (f:α→β):FX α→FX β
 |.inl p=>.inl p
 |.inr x=>.inr (f x)
def shp (at_:Bs):FX TF0:=.inl (121,at_)
def c1V (v:TD0) (at_:Bs):FX TF0:=bif nameV v then .inr ⟨3,[],0,v.aa,[],[]⟩ else shp at_
def c2V (v:TD0) (at_:Bs):FX TF0:=match twoV v with
 |some (a,b)=>bif nameV a&& (decide (b.ab=3)&&attrS b.aa) then .inr ⟨4,[],0,a.aa,b.aa,[]⟩ else shp at_
 |none=>shp at_
def c3V (v:TD0) (at_:Bs):FX TF0:=bif decide (v.ab=3) then(bif decide ((lexS v.aa).2.2=0) then .inr ⟨5,[],0,[],[],(lexS v.aa).1⟩ else .inl ((lexS v.aa).2.2,at_)) else shp at_
def c4V (E:TD0→Bs→FX TF0) (v:TD0) (at_:Bs):FX TF0:=match threeV v with
 |some (a,b,c)=>bif nameV a then mapX (λl=>⟨6,[],0,a.aa,[],l⟩) (exL E at_ 1 [b,c]) else shp at_
 |none=>shp at_
def c5V (E:TD0→Bs→FX TF0) (v:TD0) (at_:Bs):FX TF0:=match twoV v with
 |some (a,b)=>bif wordV a then mapX (λl=>⟨7,a.aa,0,[],[],l⟩) (exL E at_ 1 [b]) else shp at_
 |none=>shp at_
def c6V (E:TD0→Bs→FX TF0) (v:TD0) (at_:Bs):FX TF0:=match twoV v with
 |some (a,b)=>mapX (λl=>⟨8,[],0,[],[],l⟩) (exL E at_ 0 [a,b])
 |none=>shp at_
def callV (E:TD0→Bs→FX TF0) (key:Bs) (v:TD0) (at_:Bs):FX TF0:=
 bif decide (key=[82,101,102]) then c1V v at_
 else bif decide (key=[71,101,116,65,116,116]) then c2V v at_
 else bif decide (key=[83,117,98]) then c3V v at_
 else bif decide (key=[73,102]) then c4V E v at_
 else bif decide (key=[74,111,105,110]) then c5V E v at_
 else bif decide (key=[83,101,108,101,99,116]) then c6V E v at_
 else shp at_
def exprB (E:TD0→Bs→FX TF0) (v:TD0) (at_:Bs):FX TF0:=
 bif decide (v.ab=3) then(bif wordV v then .inr ⟨0,v.aa,0,[],[],[]⟩ else shp at_)
 else bif decide (v.ab=2) then .inr ⟨1,[],v.ai,[],[],[]⟩
 else bif decide (v.ab=4) then(bif decide (((v.ac.length:Nat):Int)≤8) then mapX (λl=>⟨2,[],0,[],[],l⟩) (exL E at_ 0 v.ac) else .inl (3,at_))
 else match v.af,v.ac with
  |[key],[x]=>callV E key x (undS at_ key)
  |_,_=>shp at_
def exprV:Nat→TD0→Bs→FX TF0
 |0,_,at_=>shp at_
 |d+1,v,at_=>exprB (exprV d) v at_
theorem nk {n : Nat} {rc : TD0 → List UInt8 → Option (FX TF0)} {E : TD0 → List UInt8 → FX TF0} {l : List TD0} {at_ : List UInt8} (hat : at_.length ≤ 1000000) (hl : l.length ≤ 8)
  (hr : ∀ x ∈ l, ∀ i, i ≤ 8 → rc x (plcS at_ i) = some (E x (plcS at_ i))) : ∀ (m i : Nat) (acc : List TF0), i + m = l.length → acc.length ≤ i → ∀ q, m < q →
  aL (dE n rc l at_) q (acc, (i : Int)) = some (match exL E at_ i (l.drop i) with | .inl p => .inl p | .inr xs => .inr (acc ++ xs))
 | m, i, acc, hm, ha, q, hq => by
  obtain ⟨q, rfl⟩ : ∃ r, q = r + 1 := ⟨q - 1, by omega⟩
  rw [aL, dE]
  dsimp only
  by_cases hlt : i < l.length
  ·obtain ⟨m, rfl⟩ : ∃ r, m = r + 1 := ⟨m - 1, by omega⟩
   have hg : aU l (i : Int) = some l[i] := by simp [aU, hlt]
   rw [decide_eq_true (by omega : (i : Int) < (l.length : Int)), cT, hg, bnd, mS hat (by omega), bnd, hr _ (List.getElem_mem hlt) i (by omega), bnd, List.drop_eq_getElem_cons hlt, exL]
   have ih := fun acc h => nk (n := n) hat hl hr m (i + 1) acc (by omega) h q (by omega)
   cases E l[i] (plcS at_ i) with
   | inl p => rfl
   | inr x =>
    dsimp only
    rw [bi (by omega), aZ (by omega) (by omega), bnd]
    have e : (i : Int) + 1 = ((i + 1 : Nat) : Int) := by omega
    have ev : (⟨x.ab, x.aa, x.ai, x.aj, x.ao, x.fL⟩ : TF0) = x := by cases x; rfl
    dsimp only
    rw [e, ev, ih (acc ++ [x]) (by rw [List.length_append, List.length_singleton]; omega)]
    cases exL E at_ (i + 1) (l.drop (i + 1)) with
    | inl p => rfl
    | inr xs => dsimp only; rw [List.append_assoc]; rfl
  ·rw [decide_eq_false (by omega), cF, bnd, List.drop_eq_nil_of_le (by omega), exL]
   dsimp only
   rw [List.append_nil]
theorem jl {n:Nat} {rc:TD0→Bs→Option (FX TF0)} {E:TD0→Bs→FX TF0} {l:List TD0} {at_:Bs} (hn:100000≤n) (hat:at_.length≤1000000) (hl:l.length≤8)
 (hr: ∀x∈l,∀i,i≤8→rc x (plcS at_ i)=some (E x (plcS at_ i))) (i:Nat) (hi:i≤l.length):cQ n rc l (i:Int) at_=some (exL E at_ i (l.drop i)):=by
 unfold cQ
 rw[nk hat hl hr (l.length-i) i [] (by omega) (by simp) n (by omega),bnd]
 cases exL E at_ i (l.drop i) with
 |inl p=>rfl
 |inr xs=>rfl
theorem mb {n:Nat} {v:TD0} {at_:Bs}:dq n v 2 121 at_=some (match twoV v with|some _=>.inr v.ac|none=>.inl (121,at_)):=by
 unfold dq
 rcases kK v with⟨a,b,h,hk,hl⟩|⟨h,hk⟩
 ·rw[h,dT hk,cT,dT (by rw[hl];rfl),cT]
 ·rw[h]
  by_cases h4:v.ab=4
  ·rw[dT h4,cT,dF (by rcases hk with hk|hk<;>omega),cF]
  ·rw[dF h4,cF]
theorem list3_own {n:Nat} {v:TD0} {at_:Bs}:dq n v 3 121 at_=some (match threeV v with|some _=>.inr v.ac|none=>.inl (121,at_)):=by
 unfold dq
 rcases mG v with⟨a,b,c,h,hk,hl⟩|⟨h,hk⟩
 ·rw[h,dT hk,cT,dT (by rw[hl];rfl),cT]
 ·rw[h]
  by_cases h4:v.ab=4
  ·rw[dT h4,cT,dF (by rcases hk with hk|hk<;>omega),cF]
  ·rw[dF h4,cF]
theorem c1_own {n:Nat} {v:TD0} {at_:Bs} (hn:100000≤n) (hv:v.aa.length≤5000):eS n v at_=some (c1V v at_):=by
 unfold eS c1V shp
 rw[iE hn hv,bnd]
 cases nameV v<;>rfl
theorem c2_own {n:Nat} {v:TD0} {at_:Bs} (hn:100000≤n) (hv: ∀x∈v.ac,x.aa.length≤5000):eU n v at_=some (c2V v at_):=by
 unfold eU c2V shp
 rw[mb,bnd]
 rcases kK v with⟨a,b,h,hk,hl⟩|⟨h,hk⟩
 ·rw[h]
  dsimp only
  have g0:aU v.ac 0=some a:=by rw[hl];rfl
  have g1:aU v.ac 1=some b:=by rw[hl];rfl
  rw[g0,g1,bnd,iE hn (hv a (by simp[hl])),bnd]
  cases nameV a with
  |false=>rfl
  |true=>
   rw[cT,bnd,bnd,Bool.true_and]
   cases hb:decide (b.ab=3) with
   |false=>rfl
   |true=>
    have:=hv b (by simp[hl])
    rw[cT,attr_sub (by omega) (by omega),bnd,Bool.true_and]
    cases attrS b.aa with
    |false=>rfl
    |true=>rfl
 ·rw[h]
theorem c3_own {n:Nat} {v:TD0} {at_:Bs} (hn:100000≤n) (hv:v.aa.length≤5000):eV n v at_=some (c3V v at_):=by
 unfold eV c3V shp
 cases hk:decide (v.ab=3) with
 |false=>rfl
 |true=>
  rw[cT,cT,lex_sub (by omega) (by omega),bnd]
  cases hz:decide ((lexS v.aa).2.2=0) with
  |false=>rfl
  |true=>rfl
theorem c4_own {n:Nat} {rc:TD0→Bs→Option (FX TF0)} {E:TD0→Bs→FX TF0} {v:TD0} {at_:Bs} (hn:100000≤n) (hat:at_.length≤1000000) (hv: ∀x∈v.ac,x.aa.length≤5000)
 (hr: ∀x∈v.ac,∀i,i≤8→rc x (plcS at_ i)=some (E x (plcS at_ i))):eW n rc v at_=some (c4V E v at_):=by
 unfold eW c4V shp
 rw[list3_own,bnd]
 rcases mG v with⟨a,b,c,h,hk,hl⟩|⟨h,hk⟩
 ·rw[h]
  dsimp only
  have g0:aU v.ac 0=some a:=by rw[hl];rfl
  rw[g0,bnd,iE hn (hv a (by simp[hl])),bnd]
  cases nameV a with
  |false=>rfl
  |true=>
   rw[cT,cT,bnd]
   have:=jl hn hat (by rw[hl];simp) hr 1 (by rw[hl];simp)
   have e1: ((1:Nat):Int)=1:=rfl
   have e2:v.ac.drop 1=[b,c]:=by rw[hl];rfl
   rw[e1,e2] at this
   rw[this,bnd]
   cases exL E at_ 1 [b,c]<;>rfl
 ·rw[h]
theorem c5_own {n:Nat} {rc:TD0→Bs→Option (FX TF0)} {E:TD0→Bs→FX TF0} {v:TD0} {at_:Bs} (hn:100000≤n) (hat:at_.length≤1000000) (hv: ∀x∈v.ac,x.aa.length≤5000)
 (hr: ∀x∈v.ac,∀i,i≤8→rc x (plcS at_ i)=some (E x (plcS at_ i))):eX n rc v at_=some (c5V E v at_):=by
 unfold eX c5V shp
 rw[mb,bnd]
 rcases kK v with⟨a,b,h,hk,hl⟩|⟨h,hk⟩
 ·rw[h]
  dsimp only
  have g0:aU v.ac 0=some a:=by rw[hl];rfl
  rw[g0,bnd,lN hn (hv a (by simp[hl])),bnd]
  cases wordV a with
  |false=>rfl
  |true=>
   rw[cT,cT,bnd]
   have:=jl hn hat (by rw[hl];simp) hr 1 (by rw[hl];simp)
   have e1: ((1:Nat):Int)=1:=rfl
   have e2:v.ac.drop 1=[b]:=by rw[hl];rfl
   rw[e1,e2] at this
   rw[this,bnd]
   cases exL E at_ 1 [b]<;>rfl
 ·rw[h]
theorem c6_own {n:Nat} {rc:TD0→Bs→Option (FX TF0)} {E:TD0→Bs→FX TF0} {v:TD0} {at_:Bs} (hn:100000≤n) (hat:at_.length≤1000000)
 (hr: ∀x∈v.ac,∀i,i≤8→rc x (plcS at_ i)=some (E x (plcS at_ i))):eY n rc v at_=some (c6V E v at_):=by
 unfold eY c6V shp
 rw[mb,bnd]
 rcases kK v with⟨a,b,h,hk,hl⟩|⟨h,hk⟩
 ·rw[h]
  dsimp only
  have:=jl hn hat (by rw[hl];simp) hr 0 (by rw[hl];simp)
  have e1: ((0:Nat):Int)=0:=rfl
  have e2:v.ac.drop 0=[a,b]:=by rw[hl];rfl
  rw[e1,e2] at this
  rw[this,bnd]
  cases exL E at_ 0 [a,b]<;>rfl
 ·rw[h]
theorem one_key {v:TD0} (hp:PlainV v) (hk:v.ab=5) (h1:v.af.length=1): ∃key x,v.af=[key]∧v.ac=[x]:=by
 have hl:v.af.length=v.ac.length:=hp.2.2.2.2.2.2.1 hk
 match hks:v.af,hls:v.ac with
 |[key],[x]=>exact⟨key,x,rfl,rfl⟩
 |[key],[]=>rw[hks,hls] at hl;simp at hl
 |[key],_::_::_=>rw[hks,hls] at hl;simp at hl
 |[],_=>rw[hks] at h1;simp at h1
 |_::_::_,_=>rw[hks] at h1;simp at h1
theorem nj {E:TD0→Bs→FX TF0} {v:TD0} {at_:Bs} (h3:v.ab≠3) (h2:v.ab≠2) (h4:v.ab≠4) (h1:v.af.length≠1):exprB E v at_=shp at_:=by
 unfold exprB
 rw[dF h3,cF,dF h2,cF,dF h4,cF]
 match hks:v.af with
 |[]=>rfl
 |[_]=>rw[hks] at h1;simp at h1
 |_::_::_=>rfl
theorem exprB_call {E:TD0→Bs→FX TF0} {v x:TD0} {key at_:Bs} (h5:v.ab=5) (hk:v.af=[key]) (hl:v.ac=[x]):exprB E v at_=callV E key x (undS at_ key):=by
 unfold exprB
 rw[dF (by omega),cF,dF (by omega),cF,dF (by omega),cF,hk,hl]
theorem joinbr {α β:Type} (x:Option β) (f:α→Option β): ((x.map Lp.br:Option (Lp α β)).bind λj=>joinF j f)=x:=by cases x<;>rfl
theorem lh: ∀ {d:Nat} {x y:TD0},Small d x→y∈x.ac→Small d y
 |0,_,_,h,_=>h.elim
 |_+1,_,_,h,hy=>Small.le (Nat.le_succ _) (h.2.2.2.2 _ hy)
theorem ly {n:Nat} (hn:100000≤n): ∀ (k d:Nat) (v:TD0) (at_:Bs),d≤k→Small d v→OkV v→at_.length+6000*d≤900000→cq n k v at_=some (exprV d v at_)
 |_,0,v,_,_,h,_,_=>h.elim
 |0,d+1,v,_,h,_,_,_=>absurd h (by omega)
 |k+1,d+1,v,at_,hk,hs,hok,hat=>by
  have hs0:=hs
  obtain⟨s1,s2,s3,s4,s5⟩:=hs
  have hp:=OkV.plain hok
  have ih: ∀x∈v.ac,∀p:Bs,p.length+6000*d≤900000→cq n k x p=some (exprV d x p):=λx hx p h=>ly hn k d x p (by omega) (s5 x hx) (hok.part hx) h
  show gp n (cq n k) v at_=some (exprB (exprV d) v at_)
  unfold gp
  cases h3:decide (v.ab=3) with
  |true=>
   rw[cT,lN hn s3,bnd,exprB,h3,cT]
   cases wordV v<;>rfl
  |false=>
   rw[cF]
   cases h2:decide (v.ab=2) with
   |true=>rw[cT,exprB,h3,cF,h2,cT]
   |false=>
    rw[cF]
    cases h4:decide (v.ab=4) with
    |true=>
     rw[cT,exprB,h3,cF,h2,cF,h4,cT]
     cases h8:decide (((v.ac.length:Nat):Int)≤8) with
     |false=>rfl
     |true=>
      have h8':=of_decide_eq_true h8
      have:=jl hn (E:=exprV d) (rc:=cq n k) (l:=v.ac) (at_:=at_) (by omega) (by omega) (λx hx i hi=>ih x hx _ (by have:=lF (a:=at_) hi;omega)) 0 (by omega)
      have e1: ((0:Nat):Int)=0:=rfl
      rw[e1,List.drop_zero] at this
      rw[cT,cT,this,bnd]
      cases exL (exprV d) at_ 0 v.ac<;>rfl
    |false=>
     have k3:=of_decide_eq_false h3
     have k2:=of_decide_eq_false h2
     have k4:=of_decide_eq_false h4
     rw[cF]
     cases h5:decide (v.ab=5) with
     |false=>
      rw[cF,nj k3 k2 k4 (λh=>of_decide_eq_false h5 (Classical.byContradiction λh'=>by have:=hp.2.2.2.2.2.2.2 h';omega)),joinbr]
      rfl
     |true=>
      rw[cT]
      cases h1:decide (((v.af.length:Nat):Int)=1) with
      |false=>
       rw[cF,nj k3 k2 k4 (λh=>of_decide_eq_false h1 (by omega)),joinbr]
       rfl
      |true=>
       obtain⟨key,x,hks,hls⟩:=one_key hp (of_decide_eq_true h5) (by have:=of_decide_eq_true h1;omega)
       have hx:x∈v.ac:=by rw[hls];simp
       have hkey:key.length≤5000:=s4 key (by rw[hks];simp)
       have hxs:x.aa.length≤5000:=(Small.wide (s5 x hx)).2.2.1
       have hxl: ∀y∈x.ac,y.aa.length≤5000:=λy hy=>(Small.wide (lh (s5 x hx) hy)).2.2.1
       have g0:aU v.af 0=some key:=by rw[hks];rfl
       have g1:aU v.ac 0=some x:=by rw[hls];rfl
       have hu:=jd (n:=n) (a:=at_) (k:=key) (by omega) (by omega)
       have hul:=jy at_ key
       have hr: ∀y∈x.ac,∀i,i≤8→cq n k y (plcS (undS at_ key) i)=some (exprV d y (plcS (undS at_ key) i)):=λy hy i hi=>by
        have hpl:=lF (a:=undS at_ key) hi
        exact ly hn k d y (plcS (undS at_ key) i) (by omega) (lh (s5 x hx) hy) ((hok.part hx).part hy) (by omega)
       rw[exprB_call (of_decide_eq_true h5) hks hls,cT,bnd,joinF,g0,bnd,oc,bnd]
       unfold callV
       cases decide (key=[82,101,102]) with
       |true=>rw[cT,cT,hu,bnd,g1,bnd,bnd,c1_own hn hxs,bnd];cases c1V x (undS at_ key)<;>rfl
       |false=>
        rw[cF,cF]
        cases decide (key=[71,101,116,65,116,116]) with
        |true=>rw[cT,cT,hu,bnd,g1,bnd,bnd,c2_own hn hxl,bnd];cases c2V x (undS at_ key)<;>rfl
        |false=>
         rw[cF,cF]
         cases decide (key=[83,117,98]) with
         |true=>rw[cT,cT,hu,bnd,g1,bnd,bnd,c3_own hn hxs,bnd];cases c3V x (undS at_ key)<;>rfl
         |false=>
          rw[cF,cF]
          cases decide (key=[73,102]) with
          |true=>rw[cT,cT,hu,bnd,g1,bnd,bnd,c4_own hn (by omega) hxl hr,bnd];cases c4V (exprV d) x (undS at_ key)<;>rfl
          |false=>
           rw[cF,cF]
           cases decide (key=[74,111,105,110]) with
           |true=>rw[cT,cT,hu,bnd,g1,bnd,bnd,c5_own hn (by omega) hxl hr,bnd];cases c5V (exprV d) x (undS at_ key)<;>rfl
           |false=>
            rw[cF,cF]
            cases decide (key=[83,101,108,101,99,116]) with
            |true=>rw[cT,cT,hu,bnd,g1,bnd,bnd,c6_own hn (by omega) hr,bnd];cases c6V (exprV d) x (undS at_ key)<;>rfl
            |false=>
             rw[cF,cF,hu,bnd]
             rfl
end Go.Proofs.YtkopljikappieaaGreatDoor
end
section
namespace Go.Vc
open Go Go.RowKit
section
variable {P:Program} {w0 w:World} {M:Mem} {H:List Ent} {e T:TypeId} {k:IntKind}
end
section
variable {P:Program} {ops:Array Oper} {n:Nat} {Q:Exit→Act→World→Prop} {L:Fr} {a:Act} {w0 w:World} {M:Mem} {H:List Ent} {dd:List Deferred}
end
end Go.Vc
end
section
namespace Go.Vc
open Go Go.RowKit Go.Sort
section
variable {α:Type}
end
section
variable {α:Type} {P:Program} {ops:Array Oper} {n:Nat} {Q:Exit→Act→World→Prop} {L:Fr} {a:Act} {w0 w:World} {M:Mem} {H:List Ent} {sz:Nat} {f:α→Dat} {dd:List Deferred}
end
theorem strs_eq_ {M:Mem}: ∀ {xs:List Bs} {cs:Lv},ag M (xs.map Dat.str) cs→cs=xs.map S
 |[],_,h=>h
 |x::r,_,⟨c,c',e1,e2,h⟩=>by
  subst e1
  have e3:c=[S x]:=e2
  rw[e3,strs_eq_ h];rfl
theorem strs_rep {M:Mem}: ∀xs:List Bs,ag M (xs.map Dat.str) (xs.map S)
 |[]=>rfl
 |x::r=>⟨[S x],_,rfl,rfl,strs_rep r⟩
end Go.Vc
end
section
namespace Go.Proofs.YtkopljikappieaaGreatDoor
open Go Go.Vc Go.RowKit Go.Sort
def insG {α:Type} (le:α→α→Bool) (x:α):List α→List α
 |[]=>[x]
 |y::r=>bif le x y then x::y::r else y::insG le x r
def sortG {α:Type} (le:α→α→Bool):List α→List α
 |[]=>[]
 |x::r=>insG le x (sortG le r)
section
variable {α:Type} {le:α→α→Bool}
theorem lZ (le:α→α→Bool) (x:α): ∀l,(insG le x l).Perm (x::l)
 |[]=>List.Perm.refl _
 |y::r=>by
  unfold insG
  cases le x y with
  |true=>exact List.Perm.refl _
  |false=>exact((lZ le x r).cons y).trans (List.Perm.swap x y r)
theorem iI (le:α→α→Bool): ∀l,(sortG le l).Perm l
 |[]=>List.Perm.refl _
 |x::r=>(lZ le x _).trans ((iI le r).cons x)
theorem mj (le:α→α→Bool) (l:List α): (sortG le l).length=l.length:=(iI le l).length_eq
theorem my (ht: ∀a b c,le a b=true→le b c=true→le a c=true) (hn: ∀a b,le a b=true∨le b a=true) (x:α): ∀l,l.Pairwise (λa b=>le a b=true)→(insG le x l).Pairwise (λa b=>le a b=true)
 |[],_=>by simp[insG]
 |y::r,h=>by
  obtain⟨h1,h2⟩:=List.pairwise_cons.1 h
  unfold insG
  cases hxy:le x y with
  |true=>exact List.pairwise_cons.2 ⟨λz hz=>by
   rcases List.mem_cons.1 hz with rfl|hz
   ·exact hxy
   ·exact ht _ _ _ hxy (h1 z hz),h⟩
  |false=>
   refine List.pairwise_cons.2 ⟨λz hz=>?_,my ht hn x r h2⟩
   rcases List.mem_cons.1 ((lZ le x r).mem_iff.1 hz) with rfl|hz
   ·exact(hn z y).resolve_left (by simp[hxy])
   ·exact h1 z hz
theorem jE (ht: ∀a b c,le a b=true→le b c=true→le a c=true) (hn: ∀a b,le a b=true∨le b a=true): ∀l,(sortG le l).Pairwise (λa b=>le a b=true)
 |[]=>List.Pairwise.nil
 |x::r=>my ht hn x _ (jE ht hn r)
theorem sortG_eq (ht: ∀a b c,le a b=true→le b c=true→le a c=true) (hn: ∀a b,le a b=true∨le b a=true) (ha: ∀a b,le a b=true→le b a=true→a=b) (l:List α):l.mergeSort le=sortG le l:=
 List.Perm.eq_of_pairwise (le:=λa b=>le a b=true) (λa b _ _ h1 h2=>ha a b h1 h2) (List.pairwise_mergeSort ht (λa b=>by simpa using hn a b) l) (jE ht hn l) ((List.mergeSort_perm l _).trans (iI _ l).symm)
end
def leS (x y:Bs):Bool:=decide (x≤y)
theorem sortS_eq (l:List Bs):l.mergeSort (λx y=>decide (x≤y))=sortG leS l:=
 sortG_eq (le:=leS) (λa b c h1 h2=>by simp only[leS,decide_eq_true_eq] at*;exact List.le_trans h1 h2) (λa b=>by simp only[leS,decide_eq_true_eq];exact List.le_total a b) (λa b h1 h2=>by simp only[leS,decide_eq_true_eq] at*;exact List.le_antisymm h1 h2) l
def mQ (_:Nat) (d:List Bs):Option (List Bs):=bb (d.length<4611686018427387904) (some (sortG leS d))
theorem h_SortS_ok (n:Nat) (M:Mem) (A:Oa) (cap:Nat) (d:List Bs) (cs:Lv) (hr:ag M (d.map Dat.str) cs) (r:List Bs) (hF:mQ n d=some r):
 OkH Tryz.prog M [.row 9 1 (sL A d cap) d.length cs] 96 [sL A d cap] λM' E' v=>∃s,v=.tuple #[]∧E'=[.row 9 1 (sL A d cap) r.length s]∧ag M' (r.map Dat.str) s∧r.length=d.length:=by
 unfold mQ at hF
 obtain⟨g0,hF⟩:=kG hF
 obtain rfl:=Option.some.inj hF
 have hl:=mj leS d
 obtain rfl:=strs_eq_ hr
 intro M2 hM w0 H w hp
 refine(sortRow (P:=Tryz.prog) (f:=96) (e:=9) (enc:=S) (zs:=d) (ys:=sortG leS d) hl (λblk off cap w hH hb=>by have:=Tryz.slices_Sort_string blk off cap d w hH hb g0;rwa [sortS_eq] at this) (λ_ M=>Ok.ofPure λw=>Tryz.slices_Sort_string_none none 0 w) M (sL A d cap) M2 hM w0 H w hp).mono λ_ w' ⟨v,he,M',E',h1,h2,h3,h4⟩=>⟨v,he,M',E',h1,h2,_,h3,by rw[hl];exact h4,strs_rep _,hl⟩
end Go.Proofs.YtkopljikappieaaGreatDoor
end
section
namespace Go.Proofs.YtkopljikappieaaGreatDoor
open Go Go.Vc Go.RowKit
def bG (n:Nat) (d0:List Bs) (d1:Bs) (K1:Int):Option (Lp Int (Sum Int Unit)):=
    bif(decide (K1<((d0.length:Nat):Int))) then
     ((aU d0 K1).bind λX1=>
     bif(decide (d1=X1)) then
      (some (.br (.inl K1)))
     else
      bb (inR .i64 (K1+1))<|
      some (.nx (K1+1)))
    else
     some (.br (.inr ()))
def bP (n:Nat) (d0:List Bs) (d1:Bs):Option Int:=
 (aL (bG n d0 d1) n (0:Int)).bind λQ1=>
 (match Q1 with
 |.inl G1=>some (G1)
 |.inr G2=>some ((-1:Int)))
theorem eq (n:Nat) (M:Mem) (A0:Oa) (cap0:Nat) (d0:List Bs) (h0:Sli M 1 Dat.str A0 cap0 d0) (d1:Bs) (r:Int) (hF:bP n d0 d1=some r):Ok Tryz.prog M 131 [sL A0 d0 cap0,S d1] (λ_ v=>v=iL r):=by
 unfold bP at hF
 intro M1 hM0 w0 H w p0
 replace h0:=h0.mono hM0
 refine Re 19 Tryz.func131 rfl λa0 f0=>RR (Ye f0 1 λ_ f=>aq (RR (Ye f 3 λ_ f=>wp_block ?_)))
 obtain⟨Q1,dy,F1⟩:=bS hF
 refine wp_mono (Q:=λe a w=>(e=.ret∧(∃G1:Int,Q1=.inl G1∧∃V2:Mem,M1.le V2∧Frm 19 [(4,iL G1)] a∧Hp w0 V2 (H) w))∨(e=.exit 0∧(∃G2:Unit,Q1=.inr G2∧∃V3:Mem,M1.le V3∧Frm 19 [] a∧Hp w0 V3 (H) w))) (cD (n:=19) (w0:=w0) (M:=M1) (λ (I1,K1)=>[(0,sL A0 d0 cap0),(1,S d1),(7,iL ((d0.length:Nat):Int)),(8,iL K1)]) (λ (I1,K1)=>(H)) (λ (I1,K1) MM=>aL (bG n d0 d1) I1 K1=some Q1) (λ (I1,K1)=>I1) (n,(0:Int)) (f.kp) p0 dy ?_) ?_
 ·rintro⟨I1,K1⟩ V1 _ W1 J1 je f N1
  have dL:=je
  obtain⟨I2,nL,rfl,ca,T1⟩:=bB dL
  unfold bG at ca
  refine RR (Ye f 1 λ_ f=>aq (RcF f ca (λB1 F2=>?_) λB1 F7=>?_))
  ·have U1:=dI.1 B1
   refine St (aq (wp_block (RR (Ye f 2 λ_ f=>RR (Y f 3 λ_ f=>?_)))))
   obtain⟨X1,l1,F3⟩:=bS F2
   obtain⟨C1,eF,jV,-,D1,R1⟩:=Sli.at_ (h0.mono J1) l1
   obtain rfl:eF=[S X1]:=D1
   refine Z f (Y29 jV rfl (len:=d0.length) (cap:=cap0) (k:=.i64) (i:=K1) (e:=9) (sz:=1) (az l1) (ay l1)) λ_ f=>Y15 f N1 R1 0 rfl λ_ f=>Z f (Y35 rfl (l:=d1) (m:=X1)) λ_ f=>eT (RcF f F3 (λB2 F4=>?_) λB2 F5=>?_)
   ·have U2:=dI.1 B2
    refine RR (Ye f 2 λ_ f=>wp_ret (hU (dj (dj ?_))))
    cases sI F4
    exact .inl ⟨rfl,K1,(sI T1).symm,V1,J1,f.kp,N1⟩
   ·have U3:=aA dI B2
    refine wp_skip (gh (aS (aN ?_)))
    obtain⟨O1,F6⟩:=nS F5
    refine Y f 1 λ_ f=>?_
    have f:=f.st 18 (iW O1)
    refine Ye f 1 λ_ f=>?_
    cases sI F6
    exact⟨⟨I2,K1+1⟩,Nat.lt_succ_self _,V1,J1,T1,f.kp,N1⟩
  ·have U4:=aA dI B1
   refine wp_exit (gT (gT ?_))
   cases sI F7
   exact .inr ⟨rfl,(),(sI T1).symm,V1,J1,f.kp,N1⟩
 ·rintro _ _ W4 (⟨rfl,G1,rfl,V2,J2,f,N2⟩|⟨rfl,G2,rfl,V3,J3,f,N3⟩)
  ·refine hU (dj (aJ f rfl (Lk 4 (iL G1)) ?_))
   cases sI F1
   exact⟨_,rfl,V2,J2,N2,rfl⟩
  ·refine lO (aS (RR (Ye f 1 λ_ f=>wp_ret (aJ f rfl (Lk 4 (iL (-1))) ?_))))
   cases sI F1
   exact⟨_,rfl,V3,J3,N3,rfl⟩
def bF (n:Nat) (d0:List Bs) (d1:Bs):Option Bool:=
 (bP n d0 d1).bind λX1=>
 some ((decide ((0:Int)≤X1)))
theorem dN (n:Nat) (M:Mem) (A0:Oa) (cap0:Nat) (d0:List Bs) (h0:Sli M 1 Dat.str A0 cap0 d0) (d1:Bs) (r:Bool) (hF:bF n d0 d1=some r):Ok Tryz.prog M 92 [sL A0 d0 cap0,S d1] (λ_ v=>v=bO r):=by
 unfold bF at hF
 intro M1 hM0 w0 H w p0
 replace h0:=h0.mono hM0
 refine Re 9 Tryz.func92 rfl λa0 f0=>RR (Ye f0 1 λ_ f=>RR (Y f 2 λ_ f=>?_))
 obtain⟨X1,l1,F1⟩:=bS hF
 refine Y18 f p0 (eq n _ A0 cap0 d0 h0 d1 X1 l1) λW1 N1 _ f=>Ye f 2 λ_ f=>wp_ret (aJ f rfl (Lk 4 (bO (decide ((0:Int)≤X1)))) ?_)
 cases sI F1
 exact⟨_,rfl,M1,(mR _),N1,rfl⟩
end Go.Proofs.YtkopljikappieaaGreatDoor
end
section
namespace Go.Vc
open Go Go.RowKit
variable {dd:List Deferred}
section
variable {P:Program} {α:Type} {ops:Array Oper} {n:Nat} {L:Fr} {a:Act} {w0 w:World} {M:Mem} {H:List Ent} {Q:Exit→Act→World→Prop} {sz:Nat} {f:α→Dat}
end
end Go.Vc
end
section
namespace Go.Proofs.YtkopljikappieaaGreatDoor
open Go Go.Vc Go.RowKit
def jx (n:Nat) (d0:TD0) (d1:Bs):Option (TD0×Bool):=
 (bP n d0.af d1).bind λX1=>
 ((bif(!(decide (d0.ab=5))) then
  (some ((true)))
   else
    bif(!(decide (((d0.af.length:Nat):Int)=((d0.ac.length:Nat):Int)))) then
     (some ((true)))
    else
     some ((decide (X1<0))):Option Bool)).bind λG1=>
 bif G1 then
  (some ((z_TD0,(false))))
 else
  (aU d0.ac X1).bind λX2=>
  some ((X2,(true)))
theorem mH (n:Nat) (M:Mem) (hG:GL M) (c0:Lv) (d0:TD0) (h0:Rep M (ap d0) c0) (d1:Bs) (r:TD0×Bool) (hF:jx n d0 d1=some r):Ok Tryz.prog M 94 [.agg c0.toArray,S d1] (λM' v=>∃ (c0:Lv),v=.tuple #[.agg c0.toArray,bO r.2]∧Rep M' (ap r.1) c0):=by
 unfold jx at hF
 intro M1 hM0 w0 H w p0
 replace hG:=GL.mono hM0 hG
 replace h0:=Rep.mono hM0 _ _ h0
 obtain⟨Z1,P1,Z2,P2,rfl,B1,B2⟩:=TD0.opn h0
 refine Re 33 Tryz.func94 rfl λa0 f0=>RR (Y13 (cs:=(aTD0 d0 Z1 P1 Z2 P2)) (T:=26) f0 p0 λQ1 V1 W1 J1 R1 N1 _ f=>?_)
 have R2:=bR R1
 refine Y12 f N1 (.cells #[iB 0,bO false,iL 0,S [],Sn,Sn] 26 (0,0)) λQ2 W2 N2 _ f=>Ye f 1 λ_ f=>RR (Y f 1 λ_ f=>Y15 f N2 R2 5 rfl λ_ f=>Y f 1 λ_ f=>?_)
 obtain⟨X1,l1,F1⟩:=bS hF
 refine Y18 f N2 (eq n _ Z2 P2 d0.af (B2.mono J1) d1 X1 l1) λW3 N3 _ f=>Ye f 1 λ_ f=>aq (aq ?_)
 obtain⟨ip,eD,F2⟩:=bS F1
 refine ct (λa_20 W4=>∃G1:Bool,ip=G1∧∃V2:Mem,V1.le V2∧Frm 33 [(2,pP Q1),(4,pP Q2),(6,iL X1),(26,bO G1)] a_20∧Hp w0 V2 ((oC Q2 #[iB 0,bO false,iL 0,S [],Sn,Sn] 26)::H) W4) ?_ ?_
 ·refine aN (Y f 1 λ_ f=>Y15 f N3 R2 0 rfl λ_ f=>Y f 2 λ_ f=>?_)
  rcases cE eD with⟨B3,F3⟩|⟨B3,F4⟩
  ·have U1: ¬ (d0.ab=5):=(cn dI).1 B3
   have f:=f.st 14 (cB B3)
   refine Ye f 12 λ_ f=>?_
   exact⟨(true),(sI F3).symm,V1,(mR _),f.kp,N3⟩
  ·have U2: ¬ (¬ (d0.ab=5)):=aA (cn dI) B3
   have f:=f.st 14 (cB B3)
   refine Y f 1 λ_ f=>Y15 f N3 R2 5 rfl λ_ f=>Y f 2 λ_ f=>Y15 f N3 R2 4 rfl λ_ f=>Y f 4 λ_ f=>?_
   rcases cE F4 with⟨B4,F5⟩|⟨B4,F6⟩
   ·have U3: ¬ (((d0.af.length:Nat):Int)=((d0.ac.length:Nat):Int)):=(cn dI).1 B4
    have f:=f.st 23 (cB B4)
    refine Ye f 3 λ_ f=>?_
    exact⟨(true),(sI F5).symm,V1,(mR _),f.kp,N3⟩
   ·have U4: ¬ (¬ (((d0.af.length:Nat):Int)=((d0.ac.length:Nat):Int))):=aA (cn dI) B4
    have f:=f.st 23 (cB B4)
    refine Ye f 3 λ_ f=>?_
    exact⟨(decide (X1<0)),(sI F6).symm,V1,(mR _),f.kp,N3⟩
 ·rintro a_20 W4 ⟨G1,dg,V2,J2,f,N4⟩
  subst ip
  refine aS (RcF f F2 (λB5 F7=>?_) λB5 F8=>?_)
  ·refine RR (Y f 1 λ_ f=>Ys [iB 0,bO false,iL 0,S [],Sn,Sn] #[iB 0,bO false,iL 0,S [],Sn,Sn] f N4 rfl rfl λW5 N5 _ f=>Ye f 1 λ_ f=>wp_ret (dj (E_rv2 f rfl (Y10 (cs:=[iB 0,bO false,iL 0,S [],Sn,Sn]) (ad:=⟨Q2,0,none⟩) f (an (N5.ownCell 0 rfl) 0 rfl)) (Y11 (v:=bO false) f) ?_)))
   cases sI F7
   exact⟨_,rfl,V2,(J1.trans J2),(N5.dropN 1),⟨[iB 0,bO false,iL 0,S [],Sn,Sn],rfl,(TD0.shut Sli.nil Sli.nil)⟩⟩
  ·refine St (RR (Y f 1 λ_ f=>Y15 f N4 (fzu J2 R2) 4 rfl λ_ f=>Y f 1 λ_ f=>?_))
   obtain⟨X2,l2,F9⟩:=bS F8
   obtain⟨C1,eF,jV,-,D1,R3⟩:=Sli.at_ (B1.mono (J1.trans J2)) l2
   obtain⟨Z3,P3,Z4,P4,rfl,B6,B7⟩:=TD0.opn D1
   refine Z f (Y29 jV rfl (len:=d0.ac.length) (cap:=P1) (k:=.i64) (i:=X1) (e:=26) (sz:=6) (az l2) (ay l2)) λ_ f=>Z f (Y31 (cs:=(lTD0 X2 Z3 P3 Z4 P4)) rfl (ad:=C1.add (X1.toNat*6)) (λj v h=>N4.cell (R3 j v h))) λ_ f=>Ys (lTD0 X2 Z3 P3 Z4 P4) (aTD0 X2 Z3 P3 Z4 P4) f N4 rfl rfl λW6 N6 _ f=>Ye f 1 λ_ f=>wp_ret (E_rv2 f rfl (Y10 (cs:=(lTD0 X2 Z3 P3 Z4 P4)) (ad:=⟨Q2,0,none⟩) f (an (N6.ownCell 0 rfl) 0 rfl)) (Y11 (v:=bO true) f) ?_)
   cases sI F9
   exact⟨_,rfl,V2,(J1.trans J2),(N6.dropN 1),⟨[iB X2.ab,bO X2.ah,iL X2.ai,S X2.aa,sL Z3 X2.ac P3,sL Z4 X2.af P4],rfl,(TD0.shutx (x:=X2) B6 B7)⟩⟩
def dk (n:Nat) (d0:List Bs) (z0:Bool):Option (List Bs):=
 bif z0 then
  (some (([]:List Bs)))
 else
  bb ((([]:List Bs).length+d0.length)*16≤140737488355328)<|
  some (([]:List Bs)++d0)
theorem gY (n:Nat) (M:Mem) (A0:Oa) (cap0:Nat) (d0:List Bs) (h0:Sli M 1 Dat.str A0 cap0 d0) (z0:Bool) (hz0:A0.isNone=z0) (r:List Bs) (hF:dk n d0 z0=some r):OkH Tryz.prog M [] 95 [sL A0 d0 cap0] (λM' E' v=>∃ (A0:Oa) (k0:Nat) (s0:Lv),v=sL A0 r k0∧E'=[.row 9 1 (sL A0 r k0) r.length s0]∧ag M' (r.map Dat.str) s0):=by
 unfold dk at hF
 intro M1 hM0 w0 H w p0
 replace h0:=h0.mono hM0
 refine Re 8 Tryz.func95 rfl λa0 f0=>RR (Ye f0 1 λ_ f=>aq (RR (Y f 1 λ_ f=>Z (v:=bO A0.isNone) f (X_slicenil (A:=A0) (n:=d0.length) (c:=cap0) (e:=9) rfl kr kr kr _) λ_ f=>?_)))
 have f:=Frm.set f 4 (v:=bO A0.isNone) (v':=bO z0) kr (cB hz0)
 refine eT (RcF f hF (λB1 F1=>?_) λB1 F2=>?_)
 ·refine RR (Ye f 1 λ_ f=>wp_ret (dj ?_))
  obtain⟨Z1,P1,H1,N1⟩:=p0.nilR 9 1 Bs
  have f:=f.st 2 (H1)
  have D1:ag M1 (([]:List Bs).map Dat.str) []:=rfl
  refine aJ f rfl (Lk 2 (sL Z1 ([]:List Bs) P1)) ?_
  cases sI F1
  exact⟨_,rfl,M1,_,(mR _),N1,⟨Z1,P1,[],rfl,rfl,D1⟩⟩
 ·refine St (RR (aQ (k:=0) (c:=0) f p0 (.cells #[] 9 (0,0)) kr (λ_=>by kernel_rfl) λQ1 W1 N2 _ f=>Y f 1 λ_ f=>?_))
  have D2:ag M1 (([]:List Bs).map Dat.str) []:=rfl
  have N3:Hp w0 M1 ((Ent.row 9 1 (.slice (some ⟨Q1,0,none⟩) 0 0) ([]:List Bs).length [])::H) W1:=N2.objRow (n:=0) (cap:=0) (size:=1) (by decide) (by decide) (dS (by decide) rfl) rfl rfl
  obtain⟨O1,F3⟩:=nS F2
  refine Y21 (z:=S []) (f:=Dat.str) (xs:=([]:List Bs)) (ys:=d0) (c:=cap0) f N3 D2 h0 rfl rfl rfl O1 (by omega) λZ2 P2 L1 W2 N4 D3 _ f=>Ye f 1 λ_ f=>wp_ret (aJ f rfl (Lk 2 (sL Z2 (([]:List Bs)++d0) P2)) ?_)
  cases sI F3
  exact⟨_,rfl,M1,_,(mR _),N4,⟨Z2,P2,L1,rfl,rfl,D3⟩⟩
def cH (_:Nat) (d0:List Bs):Option (List Bs):=bb (d0.length*16≤140737488355328) (some d0)
theorem ik (n:Nat) (M:Mem) (A0:Oa) (cap0:Nat) (d0:List Bs) (h0:Sli M 1 Dat.str A0 cap0 d0) (r:List Bs) (hF:cH n d0=some r):OkH Tryz.prog M [] 95 [sL A0 d0 cap0] (λM' E' v=>∃ (A0:Oa) (k0:Nat) (s0:Lv),v=sL A0 r k0∧E'=[.row 9 1 (sL A0 r k0) r.length s0]∧ag M' (r.map Dat.str) s0):=by
 unfold cH at hF
 obtain⟨g,hF⟩:=nS hF
 cases sI hF
 refine gY n M A0 cap0 d0 h0 A0.isNone rfl d0 ?_
 unfold dk
 cases A0 with
 |none=>
  obtain⟨h1,h2,_⟩:=h0
  have h3:=h2 rfl
  obtain rfl:d0=[]:=List.eq_nil_of_length_eq_zero (by omega)
  rfl
 |some a=>simp[bb];omega
def cY (n:Nat) (d0:TD0) (X2:List Bs) (K1:List ax×Int):Option (Lp (List ax×Int) (List ax)):=
    bif(decide (K1.2<((X2.length:Nat):Int))) then
     ((aU X2 K1.2).bind λX3=>
     (jx n d0 X3).bind λX4=>
     bb ((K1.1.length+1)*96≤140737488355328)<|
     bb (inR .i64 (K1.2+1))<|
     some (.nx (K1.1++[(⟨X3,(⟨X4.1.ab,(X4.1.ah),X4.1.ai,X4.1.aa,X4.1.ac,X4.1.af⟩:TD0)⟩:ax)],K1.2+1)))
    else
     some (.br K1.1)
def bX (n:Nat) (d0:TD0):Option (List ax):=
 (cH n d0.af).bind λX1=>
 (mQ n X1).bind λX2=>
 (aL (cY n d0 X2) n (([]:List ax),(0:Int))).bind λG1=>
 some (G1)
set_option maxRecDepth 20000 in
theorem cX (n:Nat) (M:Mem) (hG:GL M) (c0:List Value) (d0:TD0) (h0:Rep M (ap d0) c0) (r:List ax) (hF:bX n d0=some r):OkH Tryz.prog M [] 47 [.agg c0.toArray] (λM' E' v=>∃ (A0:Option Addr) (k0:Nat) (s0:List Value),v=.slice A0 r.length k0∧E'=[.row 99 7 (.slice A0 r.length k0) r.length s0]∧ag M' (r.map bJ) s0):=by
 unfold bX at hF
 intro M1 hM0 w0 H w p0
 replace hG:=GL.mono hM0 hG
 replace h0:=Rep.mono hM0 _ _ h0
 obtain⟨Z1,P1,Z2,P2,rfl,B1,B2⟩:=TD0.opn h0
 refine aG 33 Tryz.func47 rfl rfl (by simp) λa0 f0=>RR (Y13 (cs:=#[.int .i8 d0.ab,.bool d0.ah,.int .i64 d0.ai,S d0.aa,.slice Z1 d0.ac.length P1,.slice Z2 d0.af.length P2]) (T:=26) f0 p0 λQ1 V1 W1 J1 R1 N1 _ f=>?_)
 have R2:=bR R1
 refine Y f 1 λ_ f=>eT (RR (Y f 1 λ_ f=>Y15 f N1 R2 5 rfl λ_ f=>?_))
 obtain⟨X1,l1,F1⟩:=bS hF
 refine Y17 (E:=[]) (H:=(H)) f N1 (ik n _ Z2 P2 d0.af (B2.mono J1) X1 l1) λ_ V2 mN W2 J2 N2 eM _ f=>?_
 obtain⟨Z3,P3,L1,rfl,rfl,D1⟩:=eM
 refine Y f 1 λ_ f=>eT (RR (Y f 1 λ_ f=>?_))
 obtain⟨X2,l2,F2⟩:=bS F1
 refine Y17 (E:=[Ent.row 9 1 (.slice Z3 X1.length P3) X1.length L1]) (H:=(H)) f N2 (h_SortS_ok n _ Z3 P3 X1 L1 D1 X2 l2) λ_ V3 E_2 W3 J3 N3 iQ _ f=>?_
 obtain⟨L2,rfl,rfl,D2,hl_1⟩:=iQ
 have H1: (.slice Z3 X1.length P3:Value)=.slice Z3 X2.length P3:=by rw[hl_1]
 have N4:Hp w0 V3 ((Ent.row 9 1 (.slice Z3 X2.length P3) X2.length L2)::H) W3:=by rw[←H1];exact N3
 have f:=f.st 3 (H1)
 have f:=f.st 11 (H1)
 refine eT (aq (RR (Y f 3 λ_ f=>eT (wp_block ?_))))
 obtain⟨Z4,P4,H2⟩: ∃A cap,Value.slice none 0 0=.slice A ([]:List ax).length cap:=⟨none,0,rfl⟩
 have N5:Hp w0 V3 ((Ent.row 99 7 (.slice Z4 ([]:List ax).length P4) ([]:List ax).length [])::(Ent.row 9 1 (.slice Z3 X2.length P3) X2.length L2)::H) W3:=by rw[←H2];exact N4.nilRow 99 7
 have f:=f.st 2 (H2)
 have D3:ag V3 (([]:List ax).map bJ) []:=rfl
 obtain⟨Q2,dy,F3⟩:=bS F2
 refine wp_mono (Q:=λe a w=>(e=.exit 0∧(∃G1:List ax,Q2=G1∧∃V6:Mem,V3.le V6∧∃ (Z9:Option Addr),∃ (P10:Nat),∃ (L5:List Value),ag V6 (G1.map bJ) L5∧Frm 33 [(2,.slice Z9 G1.length P10)] a∧Hp w0 V6 ((Ent.row 99 7 (.slice Z9 G1.length P10) G1.length L5)::(Ent.row 9 1 (.slice Z3 X2.length P3) X2.length L2)::H) w))) (cD (n:=33) (w0:=w0) (M:=V3) (λ (x:Nat× (List ax×Int)× (Option Addr)×Nat× (List Value))=>match x with|(I1,K1,Z5,P5,L3)=>[(1,.pointer (some (⟨Q1,0,none⟩))),(2,.slice Z5 K1.1.length P5),(13,.slice Z3 X2.length P3),(14,.int .i64 ((X2.length:Nat):Int)),(15,.int .i64 K1.2)]) (λ (x:Nat× (List ax×Int)× (Option Addr)×Nat× (List Value))=>match x with|(I1,K1,Z5,P5,L3)=>((Ent.row 99 7 (.slice Z5 K1.1.length P5) K1.1.length L3)::(Ent.row 9 1 (.slice Z3 X2.length P3) X2.length L2)::H)) (λ (x:Nat× (List ax×Int)× (Option Addr)×Nat× (List Value)) (MM:Mem)=>match x with|(I1,K1,Z5,P5,L3)=>aL (cY n d0 X2) I1 K1=some Q2∧ag MM (K1.1.map bJ) L3) (λ (x:Nat× (List ax×Int)× (Option Addr)×Nat× (List Value))=>match x with|(I1,K1,Z5,P5,L3)=>I1) (n,(([]:List ax),(0:Int)),Z4,P4,[]) (f.kp) N5 ⟨dy,D3⟩ ?_) ?_
 ·rintro⟨I1,K1,Z5,P5,L3⟩ V4 _ W4 J4 je f N6
  obtain⟨dL,D4⟩:=je
  obtain⟨I2,nL,rfl,ca,T1⟩:=bB dL
  unfold cY at ca
  refine RR (Y f 1 λ_ f=>eT (aq (RcF f ca (λB3 F4=>?_) λB3 F9=>?_)))
  ·have U1:=dI.1 B3
   refine wp_skip (aS (aq (wp_block (RR ?_))))
   obtain⟨X3,l3,F5⟩:=bS F4
   obtain⟨Q3,P6,H3,ld⟩:=N6.rowAddr 1 rfl (bh l3)
   have f:=f.st 13 (H3)
   refine Z f (Y28 rfl (ad:=⟨Q3,0,none⟩) (len:=X2.length) (cap:=P6) (k:=.i64) (i:=K1.2) (e:=9) (sz:=1) (az l3) (ay l3)) λ_ f=>?_
   have f:=f.st 13 (H3.symm)
   obtain⟨eF,-,D5,R3⟩:=ag.get K1.2.toNat (eJ bZ) (ag.mono J4 _ _ D2) (gE l3)
   obtain rfl:eF=[S X3]:=D5
   refine Z f (Y30 (v:=S X3) rfl (ad:=(⟨Q3,0,none⟩:Addr).add (K1.2.toNat*1)) (by simpa [Addr.add] using (λj v h=>jD (N6.rowCell 1 rfl H3) R3 j v h) 0 _ rfl)) λ_ f=>Y f 1 λ_ f=>eT (RR (Z (v:=.agg #[.int .i8 d0.ab,.bool d0.ah,.int .i64 d0.ai,S d0.aa,.slice Z1 d0.ac.length P1,.slice Z2 d0.af.length P2]) f (Y31 (cs:=[.int .i8 d0.ab,.bool d0.ah,.int .i64 d0.ai,S d0.aa,.slice Z1 d0.ac.length P1,.slice Z2 d0.af.length P2]) rfl (ad:=⟨Q1,0,none⟩) (λj v h=>N6.cell ((fzu ((J2.trans J3).trans J4) R2) j v h))) λ_ f=>Y f 1 λ_ f=>?_))
   obtain⟨X4,l4,F6⟩:=bS F5
   refine Y16 f N6 (mH n _ (GL.mono (((J1.trans J2).trans J3).trans J4) hG) _ d0 (TD0.shutx (x:=d0) (B1.mono (((J1.trans J2).trans J3).trans J4)) (B2.mono (((J1.trans J2).trans J3).trans J4))) X3 X4 l4) λ_ V5 W5 J5 N7 mg _ f=>?_
   obtain⟨iA,rfl,D6⟩:=mg
   obtain⟨Z6,P7,Z7,P8,rfl,B4,B5⟩:=TD0.opn D6
   refine Y f 3 λ_ f=>Y12 f N7 (.cells #[.int .i8 0,.bool false,.int .i64 0,S [],.slice none 0 0,.slice none 0 0] 26 (0,0)) λQ4 W6 N8 _ f=>Y26 (vs:=[.int .i8 X4.1.ab,.bool X4.1.ah,.int .i64 X4.1.ai,S X4.1.aa,.slice Z6 X4.1.ac.length P7,.slice Z7 X4.1.af.length P8]) (j:=0) f N8 rfl rfl (by simp[Value.oneCell',S]) (by simp) (by decide) (cs':=#[.int .i8 X4.1.ab,.bool X4.1.ah,.int .i64 X4.1.ai,S X4.1.aa,.slice Z6 X4.1.ac.length P7,.slice Z7 X4.1.af.length P8]) λW7 N9 _ f=>Y f 1 λ_ f=>eT (aN (Y f 2 λ_ f=>Z (v:=.agg #[.int .i8 X4.1.ab,.bool X4.1.ah,.int .i64 X4.1.ai,S X4.1.aa,.slice Z6 X4.1.ac.length P7,.slice Z7 X4.1.af.length P8]) f (Y31 (cs:=[.int .i8 X4.1.ab,.bool X4.1.ah,.int .i64 X4.1.ai,S X4.1.aa,.slice Z6 X4.1.ac.length P7,.slice Z7 X4.1.af.length P8]) rfl (ad:=⟨Q4,0,none⟩) (an (N9.ownCell 0 rfl) 0 rfl)) λ_ f=>Y f 1 λ_ f=>aQ (k:=1) (c:=1) f N9 (.cells #[S X3,.int .i8 X4.1.ab,.bool X4.1.ah,.int .i64 X4.1.ai,S X4.1.aa,.slice Z6 X4.1.ac.length P7,.slice Z7 X4.1.af.length P8] 99 (0,0)) (by kernel_rfl) (λ_=>by kernel_rfl) λQ5 W8 N10 _ f=>?_))
   have N11:=N10.pl [2]
   obtain⟨O1,F7⟩:=nS F6
   refine Y20 (z:=.agg #[S [],.int .i8 0,.bool false,.int .i64 0,S [],.slice none 0 0,.slice none 0 0]) (f:=bJ) (xs:=K1.1) (ys:=[(⟨X3,(⟨X4.1.ab,(X4.1.ah),X4.1.ai,X4.1.aa,X4.1.ac,X4.1.af⟩:TD0)⟩:ax)]) (news:=[S X3,.int .i8 X4.1.ab,.bool X4.1.ah,.int .i64 X4.1.ai,S X4.1.aa,.slice Z6 X4.1.ac.length P7,.slice Z7 X4.1.af.length P8]) (ad:=⟨Q5,0,none⟩) (m:=1) (c:=1) f N11 (ag.mono J5 _ _ D4) (by exact⟨_,_,rfl,ax.shut B4 B5,rfl⟩) rfl rfl rfl rfl (an (N11.ownCell 1 rfl) 0 rfl) (by exact O1) (by have hg_:=O1;first|omega|(simp only[List.length_cons,List.length_nil] at*;omega)) λZ8 P9 L4 W9 N12 D7 _ f=>?_
   have N13:=N12.pl [1]
   have N14:=N13.drop
   refine Y f 1 λ_ f=>am rfl (gh (aS (aN ?_)))
   obtain⟨O2,F8⟩:=nS F7
   refine Y f 1 λ_ f=>?_
   have f:=f.st 31 (iW O2)
   refine Y f 1 λ_ f=>am rfl ?_
   have N18:=N14.pl [2,1,2]
   refine aS ?_
   obtain rfl:=sI F8
   exact⟨⟨I2,(K1.1++[(⟨X3,(⟨X4.1.ab,(X4.1.ah),X4.1.ai,X4.1.aa,X4.1.ac,X4.1.af⟩:TD0)⟩:ax)],K1.2+1),Z8,P9,L4⟩,Nat.lt_succ_self _,V5,(J4.trans J5),⟨T1,D7⟩,f.kp,(N18.dropN 1)⟩
  ·have U2:=aA dI B3
   refine wp_exit (gT (gT ?_))
   obtain rfl:=sI F9
   exact⟨rfl,K1.1,(sI T1).symm,V4,J4,Z5,P5,L3,D4,f.kp,N6⟩
 ·rintro _ _ W11 ⟨rfl,G1,hq_,V6,J6,Z9,P10,L5,D8,f,N15⟩
  subst Q2
  refine lO (aS (RR (Y f 2 λ_ f=>eT (wp_ret (aJ f rfl (by kernel_rfl:Vc.look _ 2=some (.slice Z9 G1.length P10)) ?_)))))
  obtain rfl:=sI F3
  have N19:=N15.pl [1]
  exact⟨_,rfl,V6,_,(((J1.trans J2).trans J3).trans J6),(N19.dropN 1),⟨Z9,P10,L5,rfl,rfl,D8⟩⟩
def du (n:Nat) (d1:Bs) (d2:List Bs) (X1:List ax) (K1:Int):Option (Lp Int (Sum (Int×Bs) Unit)):=
    bif(decide (K1<((X1.length:Nat):Int))) then
     ((aU X1 K1).bind λX2=>
     (bF n d2 X2.key).bind λX3=>
     (aM n d1 X2.key).bind λX4=>
     bif X3 then
      (bb (inR .i64 (K1+1))<|
      some (.nx (K1+1)))
     else
      some (.br (.inl ((120:Int),X4))))
    else
     some (.br (.inr ()))
def cr (n:Nat) (d0:TD0) (d1:Bs) (d2:List Bs):Option (Sum (Int×Bs) (TD0×Bs)):=
 bif(decide (d0.ab=5)) then
  ((bX n d0).bind λX1=>
  (aL (du n d1 d2 X1) n (0:Int)).bind λQ3=>
  (match Q3 with
  |.inl G1=>some (.inl G1)
  |.inr G2=>some (.inr (d0,d1))))
 else
  some (.inl ((120:Int),d1))
set_option maxRecDepth 20000 in
theorem bH (n:Nat) (M:Mem) (hG:GL M) (c0:Lv) (d0:TD0) (h0:Rep M (ap d0) c0) (d1:Bs) (A2:Oa) (cap2:Nat) (d2:List Bs) (h2:Sli M 1 Dat.str A2 cap2 d2) (r:Sum (Int×Bs) (TD0×Bs)) (hF:cr n d0 d1 d2=some r):OkX Tryz.prog M 45 [.agg c0.toArray,S d1,sL A2 d2 cap2] 78 r (λr=>λM' v=>∃ (ad0_0:Addr) (c0_0:Lv) (ad0_1:Addr) (c0_1:Lv),v=.func (.func 93) #[] #[Pa ad0_0,Pa ad0_1]∧Rep M' (ap r.1) c0_0∧(∀j v,c0_0[j]? =some v→M'.cell? (ad0_0.add j)=some v)∧Rep M' (Dat.str r.2) c0_1∧(∀j v,c0_1[j]? =some v→M'.cell? (ad0_1.add j)=some v)):=by
 unfold cr at hF
 intro M1 hM0 w0 H w p0
 replace hG:=GL.mono hM0 hG
 replace h0:=Rep.mono hM0 _ _ h0
 replace h2:=h2.mono hM0
 obtain⟨Z1,P1,Z2,P2,rfl,B1,B2⟩:=TD0.opn h0
 refine Re 32 Tryz.func45 rfl λa0 f0=>RR (Y13 (cs:=(aTD0 d0 Z1 P1 Z2 P2)) (T:=26) f0 p0 λQ1 V1 W1 J1 R1 N1 _ f=>?_)
 have R2:=bR R1
 refine Y13 (cs:=#[S d1]) (T:=9) f N1 λQ2 V2 W2 J2 R3 N2 _ f=>?_
 have R4:=bR R3
 refine Ye f 1 λ_ f=>RR (Y f 1 λ_ f=>Y15 f N2 (fzu J2 R2) 0 rfl λ_ f=>Y f 1 λ_ f=>Y15 f N2 R4 0 rfl λ_ f=>?_)
 rcases cE hF with⟨B3,F1⟩|⟨B3,F12⟩
 ·have U1:=dI.1 B3
  have f:=f.st 11 (cB B3)
  refine Y18 f N2 (be _ (120:Int) d1) λW3 N3 _ f=>eT (aq (RR (Z f (Y31 (cs:=(lTD0 d0 Z1 P1 Z2 P2)) rfl (ad:=⟨Q1,0,none⟩) (λj v h=>N3.cell ((fzu J2 R2) j v h))) λ_ f=>?_)))
  obtain⟨X1,l1,F2⟩:=bS F1
  refine Y17 (E:=[]) (H:=(H)) f N3 (cX n _ (GL.mono (J1.trans J2) hG) _ d0 (TD0.shutx (x:=d0) (B1.mono (J1.trans J2)) (B2.mono (J1.trans J2))) X1 l1) λ_ V3 mN W4 J3 N4 eM _ f=>?_
  obtain⟨Z3,P3,L1,rfl,rfl,D1⟩:=eM
  refine Ye f 2 λ_ f=>wp_block ?_
  obtain⟨Q3,dy,F3⟩:=bS F2
  refine wp_mono (Q:=λe a w=>(∃G1:Int×Bs,e=.panic (flawE 78 G1)∧Q3=.inl G1∧∃V6:Mem,V3.le V6∧Frm 32 [] a∧Hp w0 V6 (H) w)∨(e=.exit 0∧(∃G2:Unit,Q3=.inr G2∧∃V7:Mem,V3.le V7∧Frm 32 [(3,pP Q1),(4,pP Q2)] a∧Hp w0 V7 ((rO 99 7 Z3 X1 P3 L1)::H) w))) (cD (n:=32) (w0:=w0) (M:=V3) (λ (I1,K1)=>[(2,sL A2 d2 cap2),(3,pP Q1),(4,pP Q2),(15,sL Z3 X1 P3),(16,iL ((X1.length:Nat):Int)),(17,iL K1)]) (λ (I1,K1)=>((rO 99 7 Z3 X1 P3 L1)::H)) (λ (I1,K1) MM=>aL (du n d1 d2 X1) I1 K1=some Q3) (λ (I1,K1)=>I1) (n,(0:Int)) (f.kp) N4 dy ?_) ?_
  ·rintro⟨I1,K1⟩ V4 _ W5 J4 je f N5
   have dL:=je
   obtain⟨I2,nL,rfl,ca,T1⟩:=bB dL
   unfold du at ca
   refine RR (Ye f 1 λ_ f=>aq (RcF f ca (λB4 F4=>?_) λB4 F11=>?_))
   ·have U2:=dI.1 B4
    refine St (aq (wp_block (RR ?_)))
    obtain⟨X2,l2,F5⟩:=bS F4
    obtain⟨Q4,P4,H1,ld⟩:=N5.rowAddr 0 rfl (bh l2)
    have f:=f.st 15 (H1)
    refine Z f (Y28 rfl (ad:=⟨Q4,0,none⟩) (len:=X1.length) (cap:=P4) (k:=.i64) (i:=K1) (e:=99) (sz:=7) (az l2) (ay l2)) λ_ f=>?_
    have f:=f.st 15 (H1.symm)
    obtain⟨eF,-,D2,R5⟩:=ag.get K1.toNat (eJ cK) (ag.mono J4 _ _ D1) (gE l2)
    obtain⟨Z4,P5,Z5,P6,rfl,B5,B6⟩:=ax.opn D2
    refine Z f (Y31 (cs:=[S X2.key,iB X2.v.ab,bO X2.v.ah,iL X2.v.ai,S X2.v.aa,sL Z4 X2.v.ac P5,sL Z5 X2.v.af P6]) rfl (ad:=(⟨Q4,0,none⟩:Addr).add (K1.toNat*7)) (λj v h=>jD (N5.rowCell 0 rfl H1) R5 j v h)) λ_ f=>Y12 f N5 (.cells #[S [],iB 0,bO false,iL 0,S [],Sn,Sn] 99 (0,0)) λQ5 W6 N6 _ f=>Ys [S X2.key,iB X2.v.ab,bO X2.v.ah,iL X2.v.ai,S X2.v.aa,sL Z4 X2.v.ac P5,sL Z5 X2.v.af P6] #[S X2.key,iB X2.v.ab,bO X2.v.ah,iL X2.v.ai,S X2.v.aa,sL Z4 X2.v.ac P5,sL Z5 X2.v.af P6] f N6 rfl rfl λW7 N7 _ f=>eT (ei (E:=[]) (Hr:=((oC Q5 #[S X2.key,iB X2.v.ab,bO X2.v.ah,iL X2.v.ai,S X2.v.aa,sL Z4 X2.v.ac P5,sL Z5 X2.v.af P6] 99)::(rO 99 7 Z3 X1 P3 L1)::H)) [(0,true),(1,true),(2,true),(3,true),(4,true),(5,true),(6,true),(7,true),(8,false)] N7 kr kr rfl kr (Y0 default f 2 λ_ f=>cg (v:=S X2.key) f kr kr rfl rfl (λ_ pq=>Y30 (v:=S X2.key) rfl (ad:=⟨Q5,0,none⟩) (pq.ownCell 0 rfl 0)) λ_ f=>?_))
    obtain⟨X3,l3,F6⟩:=bS F5
    refine eE (v:=bO X3) f kr kr rfl rfl (λ_=>by kernel_rfl) (dN n _ A2 cap2 d2 (h2.mono (((J1.trans J2).trans J3).trans J4)) X2.key X3 l3) λ_ f=>cg (v:=S d1) f kr kr rfl rfl (λ_ pq=>Y30 (v:=S d1) rfl (ad:=⟨Q2,0,none⟩) (pq.cell ((fzu (J3.trans J4) R4) 0 _ rfl))) λ_ f=>Y0 default f 1 λ_ f=>cg (v:=S X2.key) f kr kr rfl rfl (λ_ pq=>Y30 (v:=S X2.key) rfl (ad:=⟨Q5,0,none⟩) (pq.ownCell 0 rfl 0)) λ_ f=>?_
    obtain⟨X4,l4,F7⟩:=bS F6
    refine eE (v:=S X4) f kr kr rfl rfl (λ_=>by kernel_rfl) (aK n _ (GL.mono (((J1.trans J2).trans J3).trans J4) hG) d1 X2.key X4 l4) λ_ f=>cd (E:=[]) λW10 N10=>?_
    rcases cE F7 with⟨B7,F8⟩|⟨B7,F10⟩
    ·have f:=f.st 24 (cB B7)
     refine Y18 f N10 (be _ (120:Int) X4) λW11 N11 _ f=>am rfl (dC (M1:=V4) (E:=[]) (mR _) N11 (eh rfl λW12 N12=>gh (aS (aN ?_))))
     obtain⟨O1,F9⟩:=nS F8
     refine Y f 1 λ_ f=>?_
     have f:=f.st 30 (iW O1)
     refine Ye f 1 λ_ f=>?_
     cases sI F9
     exact⟨⟨I2,K1+1⟩,Nat.lt_succ_self _,V4,J4,T1,f.kp,(N12.dropN 1)⟩
    ·have f:=f.st 24 (cB B7)
     refine aH f N10 (bc _ (120:Int) X4) kr (λ_=>by kernel_rfl) λV5 W13 J5 N13=>lj f λ_ f=>kU (bM (bM ?_))
     cases sI F10
     exact .inl ⟨((120:Int),X4),rfl,(sI T1).symm,V5,(J4.trans J5),f.kp,(N13.dropN 2)⟩
   ·have U5:=aA dI B4
    refine wp_exit (gT (gT ?_))
    cases sI F11
    exact .inr ⟨rfl,(),(sI T1).symm,V4,J4,f.kp,N5⟩
  ·rintro _ _ W16 (⟨G1,rfl,rfl,V6,J6,f,N14⟩|⟨rfl,G2,rfl,V7,J7,f,N15⟩)
   ·refine kU (bM (aP f ?_))
    cases sI F3
    exact⟨V6,(((J1.trans J2).trans J3).trans J6),N14,rfl⟩
   ·refine lO (aS (RR (Ye f 2 λ_ f=>wp_ret (aJ f rfl (Lk 6 (.func (.func 93) #[] #[pP Q1,pP Q2])) ?_))))
    cases sI F3
    exact⟨_,rfl,V7,(((J1.trans J2).trans J3).trans J7),(N15.dropN 1),⟨(⟨Q1,0,none⟩),(lTD0 d0 Z1 P1 Z2 P2),(⟨Q2,0,none⟩),[S d1],rfl,(TD0.shutx (x:=d0) (B1.mono (((J1.trans J2).trans J3).trans J7)) (B2.mono (((J1.trans J2).trans J3).trans J7))),(bL ((fzu ((J2.trans J3).trans J7) R2)) 0 rfl),(rfl),(bL ((fzu (J3.trans J7) R4)) 0 rfl)⟩⟩
 ·have U6:=aA dI B3
  have f:=f.st 11 (cB B3)
  refine aH f N2 (bc _ (120:Int) d1) kr (λ_=>by kernel_rfl) λV8 W17 J8 N16=>bM (aP f ?_)
  cases sI F12
  exact⟨V8,((J1.trans J2).trans J8),N16,rfl⟩
end Go.Proofs.YtkopljikappieaaGreatDoor
end
