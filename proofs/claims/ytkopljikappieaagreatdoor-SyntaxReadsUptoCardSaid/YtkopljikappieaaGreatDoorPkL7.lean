/-
  Printed by a program: of each function its shallow reading, and the proof that the function gives what the reading gives. No condition.
-/
import Derived.Test.YtkopljikappieaaGreatDoorPkL4
set_option linter.unusedVariables false
set_option linter.unusedSimpArgs false
set_option maxHeartbeats 2000000
namespace Go.Proofs.YtkopljikappieaaGreatDoor
open Go Go.Vc Go.RowKit
def eO (n:Nat) (d0:TE0) (K1:Int×List TE0×List Bs) (K2:Int):Option (Lp Int Int):=
    bif(decide (K2<((K1.2.2.length:Nat):Int))) then
     ((aB K1.2.2 K2).bind λX3=>
     (aB d0.af K1.1).bind λX4=>
     bif(Op.bytesLess X3 X4) then
      (aL (inR .i64 (K2+1))<|
      some (.nx (K2+1)))
     else
      some (.br K2))
    else
     some (.br K2)
def du (n:Nat) (rec_ref03_sorted:TE0→Option TE0) (d0:TE0) (K1:Int×List TE0×List Bs):Option (Lp (Int×List TE0×List Bs) (List TE0×List Bs)):=
    bif(decide (K1.1<((d0.ac.length:Nat):Int))) then
     ((aB d0.ac K1.1).bind λX1=>
     (rec_ref03_sorted X1).bind λX2=>
     bif(decide (d0.ab=4)) then
      (aL ((K1.2.1.length+1)*80≤140737488355328)<|
      aL (inR .i64 (K1.1+1))<|
      some (.nx (K1.1+1,K1.2.1++[X2],K1.2.2)))
     else
      (au (eO n d0 K1) n (0:Int)).bind λG1=>
      aL (0≤G1∧G1≤(K1.2.2.length:Int))<|
      aL ((([]:List Bs).length+ (K1.2.2.length-G1.toNat))*16≤140737488355328)<|
      aL (0≤G1∧G1≤(K1.2.1.length:Int))<|
      aL ((([]:List TE0).length+ (K1.2.1.length-G1.toNat))*80≤140737488355328)<|
      (((aB d0.af K1.1).bind λX5=>
        aL (0≤G1∧G1≤(K1.2.2.length:Int))<|
        aL (((K1.2.2.take G1.toNat).length+1)*16≤140737488355328)<|
        aL ((((K1.2.2.take G1.toNat)++[X5]).length+ (([]:List Bs)++(K1.2.2.take K1.2.2.length).drop G1.toNat).length)*16≤140737488355328)<|
        some (((K1.2.2.take G1.toNat)++[X5])++(([]:List Bs)++(K1.2.2.take K1.2.2.length).drop G1.toNat)):Option (List Bs))).bind λG2=>
      ((aL (0≤G1∧G1≤(K1.2.1.length:Int))<|
        aL (((K1.2.1.take G1.toNat).length+1)*80≤140737488355328)<|
        aL ((((K1.2.1.take G1.toNat)++[X2]).length+ (([]:List TE0)++(K1.2.1.take K1.2.1.length).drop G1.toNat).length)*80≤140737488355328)<|
        some (((K1.2.1.take G1.toNat)++[X2])++(([]:List TE0)++(K1.2.1.take K1.2.1.length).drop G1.toNat)):Option (List TE0))).bind λG3=>
      aL (inR .i64 (K1.1+1))<|
      some (.nx (K1.1+1,G3,G2)))
    else
     some (.br (K1.2.1,K1.2.2))
def iX (n:Nat) (rec_ref03_sorted:TE0→Option TE0) (d0:TE0):Option TE0:=
 (au (du n rec_ref03_sorted d0) n ((0:Int),([]:List TE0),([]:List Bs))).bind λG4=>
 some ((⟨d0.ab,(d0.an),d0.ak,d0.aa,G4.1,G4.2⟩:TE0))
set_option maxRecDepth 20000 in
theorem pW (n:Nat) (rec_ref03_sorted:TE0→Option TE0) (hrec_ref03_sorted: ∀ (M:Mem) (c0:Lv) (d0:TE0) (h0:Rep M (ai d0) c0) (r:TE0) (hF:rec_ref03_sorted d0=some r),Ok Tryz.prog M 134 [.agg c0.toArray] (λM' v=>∃ (c0:Lv),v=.agg c0.toArray∧Rep M' (ai r) c0)) (M:Mem) (c0:Lv) (d0:TE0) (h0:Rep M (ai d0) c0) (r:TE0) (hF:iX n rec_ref03_sorted d0=some r):Ok Tryz.prog M 134 [.agg c0.toArray] (λM' v=>∃ (c0:Lv),v=.agg c0.toArray∧Rep M' (ai r) c0):=by
 unfold iX at hF
 intro M1 hM0 w0 H w p0
 replace h0:=Rep.mono hM0 _ _ h0
 obtain⟨Z1,P1,Z2,P2,rfl,B1,B2⟩:=TE0.opn h0
 refine Re 97 Tryz.func134 rfl λa0 f0=>RR (Y5 (cs:=(aTE0 d0 Z1 P1 Z2 P2)) (T:=26) f0 p0 λQ1 V1 W1 J1 R1 N1 _ f=>?_)
 have R2:=aU R1
 refine Y4 f N1 (.cells #[iB 0,bO false,iL 0,S [],Sn,Sn] 26 (0,0)) λQ2 W2 N2 _ f=>eT (RR (Y f 1 λ_ f=>Y7 f N2 R2 0 rfl λ_ f=>Y f 1 λ_ f=>Y7 f N2 R2 1 rfl λ_ f=>Y f 1 λ_ f=>Y7 f N2 R2 2 rfl λ_ f=>Y f 1 λ_ f=>Y7 f N2 R2 3 rfl λ_ f=>Y f 1 λ_ f=>Y4 f N2 (.cells #[iB 0,bO false,iL 0,S [],Sn,Sn] 26 (0,0)) λQ3 W3 N3 _ f=>Wu f N3 0 0 [iB d0.ab,bO d0.an,iL d0.ak,S d0.aa,Sn,Sn] λW4 N4 _ f=>eT (ah (RR (Ye f 1 λ_ f=>wp_block ?_)))))
 obtain⟨Z3,P3,H1,N5⟩:=N4.nilC 0 4 26 6 (TE0)
 have D1:ae V1 (([]:List TE0).map ai) []:=rfl
 obtain⟨Z4,P4,H2,N6⟩:=N5.nilC 1 5 9 1 Bs
 have D2:ae V1 (([]:List Bs).map Dat.str) []:=rfl
 have N10:=N6.pl [3,3,2,3]
 obtain⟨Q4,ce,F1⟩:=bS hF
 refine wp_mono (Q:=λe a w=>(e=.exit 0∧(∃G4,Q4=G4∧∃V14,V1.le V14∧∃Z44 P45 L20 Z45 P46 L21,ae V14 (G4.1.map ai) L20∧ae V14 (G4.2.map Dat.str) L21∧Frm 97 (kpL [2,3] f.fr) a∧Hp w0 V14 ((rO 26 6 Z44 G4.1 P45 L20)::(rO 9 1 Z45 G4.2 P46 L21)::setE (setE (N10.en.drop 2) 0 4 [sL Z44 G4.1 P45]) 0 5 [sL Z45 G4.2 P46]) w))) (aZ (σ:=(Int×List TE0×List Bs)×Oa×Nat×Lv×Oa×Nat×Lv) (λx=>match x with|(I1,K1,Z5,P5,L1,Z6,P6,L2)=>(((4,iL K1.1)::kpL [1,2,3] f.fr),((rO 26 6 Z5 K1.2.1 P5 L1)::(rO 9 1 Z6 K1.2.2 P6 L2)::setE (setE (N10.en.drop 2) 0 4 [sL Z5 K1.2.1 P5]) 0 5 [sL Z6 K1.2.2 P6]),λMM=>au (du n rec_ref03_sorted d0) I1 K1=some Q4∧ae MM (K1.2.1.map ai) L1∧ae MM (K1.2.2.map Dat.str) L2)) (n,((0:Int),([]:List TE0),([]:List Bs)),Z3,P3,[],Z4,P4,[]) (f.kp) N10.kr ⟨ce,D1,D2⟩ ?_) ?_
 ·rintro⟨I1,K1,Z5,P5,L1,Z6,P6,L2⟩ V2 _ W5 J2 gL f N11
  obtain⟨ci,D3,D4⟩:=gL
  dsimp only[Hp.en] at N11
  obtain⟨I2,lT,rfl,bg,T1⟩:=aK ci
  unfold du at bg
  refine ah (RR (Y f 2 λ_ f=>Y7 f N11 (fu R2) 4 rfl λ_ f=>Ye f 2 λ_ f=>RcF f bg (λB3 F2=>?_) λB3 F31=>?_))
  ·refine St (ah (wp_block (RR (Y f 1 λ_ f=>Y7 f N11 (fu R2) 4 rfl λ_ f=>Y f 1 λ_ f=>?_))))
   obtain⟨X1,l1,F3⟩:=bS F2
   obtain⟨C1,dW,jC,D5,R3⟩:=N11.at_ B1 l1
   obtain⟨Z7,P7,Z8,P8,rfl,B4,B5⟩:=TE0.opn D5
   refine Z f (XI jC l1) λ_ f=>Z f (XK N11 R3 0) λ_ f=>?_
   obtain⟨X2,l2,F4⟩:=bS F3
   refine Y8 f N11 (hrec_ref03_sorted _ _ X1 D5.mo X2 l2) λ_ V3 W6 J3 N12 ef _ f=>?_
   obtain⟨ie,rfl,D6⟩:=ef
   obtain⟨Z9,P9,Z10,P10,rfl,B6,B7⟩:=TE0.opn D6
   refine Y4 f N12 (.cells #[iB 0,bO false,iL 0,S [],Sn,Sn] 26 (0,0)) λQ5 W7 N13 _ f=>Wu f N13 0 0 (lTE0 X2 Z9 P9 Z10 P10) λW8 N14 _ f=>eT (ah (RR (Y f 1 λ_ f=>Y7 f N14 (fu R2) 0 rfl λ_ f=>Ye f 1 λ_ f=>RcF f F4 (λB8 F5=>?_) λB8 F8=>?_)))
   ·refine RR (Y f 1 λ_ f=>Z f (XO N14 3) λ_ f=>Z f (XO N14 0) λ_ f=>aE (k:=1) (c:=1) f N14 (.cells (aTE0 X2 Z9 P9 Z10 P10) 26 (0,0)) kr (λ_=>by kernel_rfl) λQ6 W9 N15 _ f=>?_)
    obtain⟨O1,F6⟩:=nS F5
    refine dM X2 0 f (N15.toRow 2 26 6 Z5 P5 D3.mo) D3.mo (TE0.shutx B6 B7) O1 λZ11 P11 L3 W10 N16 D7 _ f=>Y f 1 λ_ f=>Wt f N16 3 4 (sL Z11 (K1.2.1++[X2]) P11) λW11 N17 _ f=>eT (wp_exit (dJ (jV (az (ay (Y f 1 λ_ f=>?_))))))
    obtain⟨O2,F7⟩:=nS F6
    refine Y f 1 λ_ f=>?_
    have f:=f.st 24 (iW O2)
    refine Y f 1 λ_ f=>ag rfl ?_
    have N106:=N17.pl [4,4,4,3,4]
    refine az ?_
    cases sI F7
    exact⟨⟨_,_,Z11,P11,L3,Z6,P6,L2⟩,Nat.lt_succ_self _,_,mL,⟨T1,D7,D4.mo⟩,f.kp,(N106.dropN 1).kr⟩
   refine St (RR (Ye f 1 λ_ f=>ah (wp_block ?_)))
   obtain⟨Q7,nI,F9⟩:=bS F8
   refine wp_mono (Q:=λe a w=>(e=.exit 2∧(∃G1,Q7=G1∧∃V5,V3.le V5∧Frm 97 ((6,iL G1)::kpL [1,2,3,4,5] f.fr) a∧Hp w0 V5 (N14.en) w))) (aZ (σ:=Int) (λx=>match x with|(I3,K2)=>(((6,iL K2)::kpL [1,2,3,4,5] f.fr),(N14.en),λMM=>au (eO n d0 K1) I3 K2=some Q7)) (n,(0:Int)) (f.kp) N14.kr nI ?_) ?_
   ·rintro⟨I3,K2⟩ V4 _ W12 J4 I_2 f N18
    have nv:=I_2
    dsimp only[Hp.en] at N18
    obtain⟨I4,r_2,rfl,kM,T2⟩:=aK nv
    unfold eO at kM
    refine ah (ah (iG N18 kr kr (Y2 default f 2 λ_ f=>bD f kr (λ_ pq=>XO pq 3) λ_ f=>Y2 default f 3 λ_ f=>?_)))
    rcases cE kM with⟨B9,F10⟩|⟨B9,F16⟩
    ·have f:=f.st 45 (cB B9)
     refine Y2 default f 1 λ_ f=>bD f kr (λ_ pq=>XO pq 3) λ_ f=>Y2 default f 1 λ_ f=>?_
     obtain⟨X3,l3,F11⟩:=bS F10
     obtain⟨Q8,P12,H3,mJ⟩:=N18.rowAddr 2 rfl (bn l3)
     refine bD f kr (λ_ pq=>XIo H3 l3) λ_ f=>?_
     obtain⟨lQ,-,D8,R4⟩:=ae.get K2.toNat (dv bH) (ae.mono (J3.trans J4) _ _ D4) (ig l3)
     obtain rfl:lQ=[S X3]:=D8
     refine bD f kr (λ_ pq=>XR pq 2 H3 R4 0) λ_ f=>Y2 default f 1 λ_ f=>gx f (fu R2) 5 rfl kr kr λ_ f=>Y2 default f 1 λ_ f=>?_
     obtain⟨X4,l4,F12⟩:=bS F11
     obtain⟨C2,rJ,ly,D9,R5⟩:=Sli.aM V4 B2 l4
     obtain rfl:rJ=[S X4]:=D9
     refine bD f kr (λ_ pq=>XI ly l4) λ_ f=>gx f R5 0 rfl kr kr λ_ f=>bD (v:=bO (Op.bytesLess X3 X4)) f kr (λ_ pq=>X_strlt rfl (l:=X3) (m:=X4) kr kr) λ_ f=>Y2 default f 1 λ_ f=>iS rfl ?_
     intro W13 N19
     refine az (RcF f F12 (λB10 F13=>?_) λB10 F15=>?_)
     ·refine St (wp_block (ay (Y f 1 λ_ f=>?_)))
      obtain⟨O3,F14⟩:=nS F13
      refine Y f 1 λ_ f=>?_
      have f:=f.st 59 (iW O3)
      refine Y f 1 λ_ f=>ag rfl (ec (az ?_))
      cases sI F14
      exact⟨⟨_,_⟩,Nat.lt_succ_self _,_,J4,T2,f.kp,N19.kr⟩
     refine wp_exit (dJ (dJ ?_))
     cases sI F15
     exact⟨rfl,_,(sI T2).symm,_,J4,f.kp,N19.kr⟩
    have f:=f.st 45 (cB B9)
    refine Y2 default f 12 λ_ f=>iS rfl ?_
    intro W14 N20
    refine az (jE f kr kr (wp_exit (dJ (dJ ?_))))
    cases sI F16
    exact⟨rfl,_,(sI T2).symm,_,J4,f.kp,N20.kr⟩
   rintro _ _ W16 ⟨rfl,G1,hq_,V5,J5,f,N21⟩
   subst Q7
   refine jV (az (RR (Ye f 1 λ_ f=>RR (Ye f 1 λ_ f=>RR (Y f 2 λ_ f=>Z f (XO N21 3) λ_ f=>Y f 1 λ_ f=>?_)))))
   obtain⟨O4,F17⟩:=nS F9
   obtain⟨Z12,P13,H4,rW,hcn_1⟩:=N21.rowShape 2 rfl
   have f:=f.st 62 (H4)
   refine Z f (qL rfl (A:=Z12) (len:=K1.2.2.length) (cap:=P13) (k:=.i64) (a:=G1) kr kr (e:=9) kr (sz:=1) kr (by omega) (by omega)) λ_ f=>?_
   have f:=f.st 62 (H4.symm)
   obtain⟨Z13,P14,H5,N22⟩:=N21.nilD 9 1 Bs
   have f:=f.st 60 (H5)
   have D10:ae V5 (([]:List Bs).map Dat.str) []:=rfl
   obtain⟨O5,F18⟩:=nS F17
   refine tg (z:=S []) (f:=Dat.str) (xs:=([]:List Bs)) (ys:=K1.2.2) (lo:=G1.toNat) (hi:=K1.2.2.length) f N22 bH D10 D4.mo 3 rfl H4 (by omega) (by omega) kr kr rfl rfl rfl kr kr kr kr O5 (by omega) λZ14 P15 L4 W17 N23 D11 _ f=>Ye f 1 λ_ f=>RR (Y f 2 λ_ f=>Z f (XO N23 4) λ_ f=>Y f 1 λ_ f=>?_)
   obtain⟨O6,F19⟩:=nS F18
   obtain⟨Z15,P16,H6,hcap_3,hcn_2⟩:=N23.rowShape 2 rfl
   have f:=f.st 68 (H6)
   refine Z f (qL rfl (A:=Z15) (len:=K1.2.1.length) (cap:=P16) (k:=.i64) (a:=G1) kr kr (e:=26) kr (sz:=6) kr (by omega) (by omega)) λ_ f=>?_
   have f:=f.st 68 (H6.symm)
   obtain⟨Z16,P17,H7,N24⟩:=N23.nilD 26 6 (TE0)
   have f:=f.st 66 (H7)
   have D12:ae V5 (([]:List TE0).map ai) []:=rfl
   obtain⟨O7,F20⟩:=nS F19
   refine tg (z:=.agg #[iB 0,bO false,iL 0,S [],Sn,Sn]) (f:=ai) (xs:=([]:List TE0)) (ys:=K1.2.1) (lo:=G1.toNat) (hi:=K1.2.1.length) f N24 jx D12 D3.mo 3 rfl H6 (by omega) (by omega) kr kr rfl rfl rfl kr kr kr kr O7 (by omega) λZ17 P18 L5 W18 N25 D13 _ f=>Ye f 1 λ_ f=>ah ?_
   obtain⟨eF,cL,F21⟩:=bS F20
   refine aW (λa_110 W40=>∃G2,eF=G2∧∃V9,V5.le V9∧∃Z30 P31 L12,ae V9 (G2.map Dat.str) L12∧Frm 97 (kpL [1,2,3,4,5,6,8] f.fr) a_110∧Hp w0 V9 ((rO 9 1 Z30 G2 P31 L12)::setE (selE [0,2,3,5,6] 7 N25.en) 3 5 [sL Z30 G2 P31]) W40) ?_ ?_
   ·have N38:=N25.pl [6,6,5,5,4,6,6]
    obtain⟨X5,l5,F22⟩:=bS cL
    obtain⟨O8,F23⟩:=nS F22
    obtain⟨O9,F24⟩:=nS F23
    obtain⟨O10,F25⟩:=nS F24
    refine dG [13,14] 2 N38 (.quiet 0 (.quiet 1 (.quiet 2 (.quiet 4 (.quiet 5 (.quiet 6 (.quiet 7 (.quiet 8 (.quiet 11 (.alt 3 (.alt 9 (.alt 10 (.alt 12 .done .none) .none) .none) (.alt 9 (.alt 3 (.alt 10 (.alt 12 .done .none) .none) .none) .none))))))))))) (Y1 (v:=Pa (⟨Q3,5,none⟩)) rfl f rfl rfl (λ_ _=>by kernel_rfl) λ_ f=>Y1 rfl f rfl rfl (λ_ pq=>XO pq 3) λ_ f=>Y1 (v:=iL G1) rfl f rfl rfl (λ_ _=>by kernel_rfl) λ_ f=>Y1 (v:=Pa ((⟨Q1,0,none⟩:Addr).add 5)) rfl f rfl rfl (λ_ _=>by kernel_rfl) λ_ f=>Y1 rfl f rfl rfl (λ_ pq=>XK pq (fu R2) 5) λ_ f=>Y1 (v:=iL K1.1) rfl f rfl rfl (λ_ _=>by kernel_rfl) λ_ f=>?_)
    obtain⟨C4,c_6,qn,D18,R7⟩:=Sli.aM V5 B2 l5
    obtain rfl:c_6=[S X5]:=D18
    refine Y1 rfl f rfl rfl (λ_ pq=>XI qn l5) λ_ f=>Y1 rfl f rfl rfl (λ_ pq=>XK pq R7 0) λ_ f=>Y1 (v:=sL Z14 (([]:List Bs)++(K1.2.2.take K1.2.2.length).drop G1.toNat) P15) rfl f rfl rfl (λ_ _=>by kernel_rfl) λ_ f=>ao rfl (λW22 N39=>?_) ?_
    ·obtain⟨Z22,P23,H10,hcap_5,hcn_4⟩:=N39.rowShape 1 rfl
     have f:=f.st 73 (H10)
     refine Z f (og rfl (A:=Z22) (len:=K1.2.2.length) (cap:=P23) (k':=.i64) (b:=G1) kr kr (e:=9) kr (sz:=1) kr (by omega) (by omega)) λ_ f=>?_
     have f:=f.st 73 (H10.symm)
     refine ag rfl (ap 2 mL N39 (ao rfl (λW23 N40=>?_) ?_))
     ·refine aE (k:=1) (c:=1) f N40 (.cells #[S X5] 9 (0,0)) kr (λ_=>by kernel_rfl) λQ10 W24 N41 _ f=>ag rfl (ap 3 mL N41 (ao rfl (λW25 N42=>?_) ?_))
      ·have N43:=N42.pl [2]
       have D19:ae V5 ((K1.2.2.take G1.toNat).map Dat.str) (L2.take (G1.toNat*1)):=by rw[List.map_take];exact ae.takeD _ (dv bH) D4.mo
       have rX: (K1.2.2.take G1.toNat).length=G1.toNat:=by rw[List.length_take];omega
       have N44:Hp w0 V5 ((Ent.row 9 1 (.slice (cutA Z22 1 0 P23) (K1.2.2.take G1.toNat).length P23) (K1.2.2.take G1.toNat).length (L2.take (G1.toNat*1)))::(oC Q10 #[S X5] 9)::(rO 9 1 Z14 (([]:List Bs)++(K1.2.2.take K1.2.2.length).drop G1.toNat) P15 L4)::(rO 26 6 Z17 (([]:List TE0)++(K1.2.1.take K1.2.1.length).drop G1.toNat) P18 L5)::(Ent.obj Q5 (.cells (aTE0 X2 Z9 P9 Z10 P10) 26 (0,0)))::(rO 26 6 Z5 K1.2.1 P5 L1)::(oC Q3 #[iB d0.ab,bO d0.an,iL d0.ak,S d0.aa,sL Z5 K1.2.1 P5,sL Z6 K1.2.2 P6] 26)::(oC Q2 #[iB 0,bO false,iL 0,S [],Sn,Sn] 26)::H) W25:=by rw[rX];exact N43.rowFront H10 (by omega)
       have f:=Frm.set f 75 (v:=.slice (cutA Z22 1 0 P23) G1.toNat P23) (v':=.slice (cutA Z22 1 0 P23) (K1.2.2.take G1.toNat).length P23) (by kernel_rfl) (by rw[rX])
       refine dM X5 0 f (N44.toRow 0 9 1 (cutA Z22 1 0 P23) P23 D19) D19 rfl O9 λZ23 P24 L8 W26 N45 D20 _ f=>ag rfl (ap 2 mL N45 (ao rfl (λW27 N46=>?_) ?_))
       ·obtain⟨Z24,P25,V7,H11,J7,N47,B12⟩:=N46.rowSliK (f:=Dat.str) (xs:=([]:List Bs)++(K1.2.2.take K1.2.2.length).drop G1.toNat) 1 9 Z14 P15 bH D11
        have f:=f.st 83 (H11)
        refine ms (z:=S []) (f:=Dat.str) (xs:=(K1.2.2.take G1.toNat)++[X5]) (ys:=([]:List Bs)++(K1.2.2.take K1.2.2.length).drop G1.toNat) (c:=P25) f N47 D20.mo B12 kr kr rfl rfl rfl kr kr kr kr O10 (by omega) λZ25 P26 L9 W28 N48 D21 _ f=>ag rfl (ap 1 J7 N48 (dp λW29 N49=>Y f 1 λ_ f=>Wt f N49 4 5 (sL Z25 (((K1.2.2.take G1.toNat)++[X5])++(([]:List Bs)++(K1.2.2.take K1.2.2.length).drop G1.toNat)) P26) λW30 N50 _ f=>ag rfl (jD (az ?_))))
        exact⟨_,(sI F25).symm,_,J7,Z25,P26,L9,D21,f.kp,N50.kr⟩
       exact al
      exact al
     exact al
    refine ao rfl (λW31 N51=>?_) ?_
    ·refine aE (k:=1) (c:=1) f N51 (.cells #[S X5] 9 (0,0)) kr (λ_=>by kernel_rfl) λQ11 W32 N52 _ f=>ag rfl (ap 3 mL N52 (ao rfl (λW33 N53=>?_) ?_))
     ·obtain⟨Z26,P27,H12,hcap_6,hcn_5⟩:=N53.rowShape 2 rfl
      have f:=f.st 73 (H12)
      refine Z f (og rfl (A:=Z26) (len:=K1.2.2.length) (cap:=P27) (k':=.i64) (b:=G1) kr kr (e:=9) kr (sz:=1) kr (by omega) (by omega)) λ_ f=>?_
      have f:=f.st 73 (H12.symm)
      refine ag rfl (ap 3 mL N53 (ao rfl (λW34 N54=>?_) ?_))
      ·have N55:=N54.pl [2]
       have D22:ae V5 ((K1.2.2.take G1.toNat).map Dat.str) (L2.take (G1.toNat*1)):=by rw[List.map_take];exact ae.takeD _ (dv bH) D4.mo
       have hl_8: (K1.2.2.take G1.toNat).length=G1.toNat:=by rw[List.length_take];omega
       have N56:Hp w0 V5 ((Ent.row 9 1 (.slice (cutA Z26 1 0 P27) (K1.2.2.take G1.toNat).length P27) (K1.2.2.take G1.toNat).length (L2.take (G1.toNat*1)))::(oC Q11 #[S X5] 9)::(rO 9 1 Z14 (([]:List Bs)++(K1.2.2.take K1.2.2.length).drop G1.toNat) P15 L4)::(rO 26 6 Z17 (([]:List TE0)++(K1.2.1.take K1.2.1.length).drop G1.toNat) P18 L5)::(Ent.obj Q5 (.cells (aTE0 X2 Z9 P9 Z10 P10) 26 (0,0)))::(rO 26 6 Z5 K1.2.1 P5 L1)::(oC Q3 #[iB d0.ab,bO d0.an,iL d0.ak,S d0.aa,sL Z5 K1.2.1 P5,sL Z6 K1.2.2 P6] 26)::(oC Q2 #[iB 0,bO false,iL 0,S [],Sn,Sn] 26)::H) W34:=by rw[hl_8];exact N55.rowFront H12 (by omega)
       have f:=Frm.set f 75 (v:=.slice (cutA Z26 1 0 P27) G1.toNat P27) (v':=.slice (cutA Z26 1 0 P27) (K1.2.2.take G1.toNat).length P27) (by kernel_rfl) (by rw[hl_8])
       refine dM X5 0 f (N56.toRow 0 9 1 (cutA Z26 1 0 P27) P27 D22) D22 rfl O9 λZ27 P28 L10 W35 N57 D23 _ f=>ag rfl (ap 2 mL N57 (ao rfl (λW36 N58=>?_) ?_))
       ·obtain⟨Z28,P29,V8,H13,J8,N59,B13⟩:=N58.rowSliK (f:=Dat.str) (xs:=([]:List Bs)++(K1.2.2.take K1.2.2.length).drop G1.toNat) 1 9 Z14 P15 bH D11
        have f:=f.st 83 (H13)
        refine ms (z:=S []) (f:=Dat.str) (xs:=(K1.2.2.take G1.toNat)++[X5]) (ys:=([]:List Bs)++(K1.2.2.take K1.2.2.length).drop G1.toNat) (c:=P29) f N59 D23.mo B13 kr kr rfl rfl rfl kr kr kr kr O10 (by omega) λZ29 P30 L11 W37 N60 D24 _ f=>ag rfl (ap 1 J8 N60 (dp λW38 N61=>Y f 1 λ_ f=>Wt f N61 4 5 (sL Z29 (((K1.2.2.take G1.toNat)++[X5])++(([]:List Bs)++(K1.2.2.take K1.2.2.length).drop G1.toNat)) P30) λW39 N62 _ f=>ag rfl (jD (az ?_))))
        exact⟨_,(sI F25).symm,_,J8,Z29,P30,L11,D24,f.kp,N62.kr⟩
       exact al
      exact al
     exact al
    exact al
   rintro a_110 W40 ⟨G2,eS,V9,J9,Z30,P31,L12,D25,f,N63⟩
   dsimp only[Hp.en] at N63
   subst eF
   refine az ?_
   obtain⟨lb,iJ,F26⟩:=bS F21
   refine aW (λa_137 W62=>∃G3,lb=G3∧∃V13,V9.le V13∧∃Z43 P44 L19,ae V13 (G3.map ai) L19∧Frm 97 (kpL [1,2,3,4] f.fr) a_137∧Hp w0 V13 ((rO 26 6 Z43 G3 P44 L19)::setE (selE [0,2,4,5] 6 N63.en) 2 4 [sL Z43 G3 P44]) W62) ?_ ?_
   ·have N75:=N63.pl [5,5,4,3,5,5]
    obtain⟨O11,F27⟩:=nS iJ
    obtain⟨O12,F28⟩:=nS F27
    obtain⟨O13,F29⟩:=nS F28
    refine dG [9,10] 2 N75 (.quiet 0 (.quiet 1 (.quiet 2 (.quiet 4 (.quiet 7 (.alt 3 (.alt 5 (.alt 6 (.alt 8 .done .none) .none) .none) (.alt 5 (.alt 3 (.alt 6 (.alt 8 .done .none) .none) .none) .none))))))) (Y1 (v:=Pa (⟨Q3,4,none⟩)) rfl f rfl rfl (λ_ _=>by kernel_rfl) λ_ f=>Y1 rfl f rfl rfl (λ_ pq=>XO pq 2) λ_ f=>Y1 (v:=iL G1) rfl f rfl rfl (λ_ _=>by kernel_rfl) λ_ f=>Y1 rfl f rfl rfl (λ_ pq=>XO pq 1) λ_ f=>Y1 (v:=sL Z17 (([]:List TE0)++(K1.2.1.take K1.2.1.length).drop G1.toNat) P18) rfl f rfl rfl (λ_ _=>by kernel_rfl) λ_ f=>ao rfl (λW44 N76=>?_) ?_)
    ·obtain⟨Z35,P36,H16,hcap_8,hcn_7⟩:=N76.rowShape 1 rfl
     have f:=f.st 87 (H16)
     refine Z f (og rfl (A:=Z35) (len:=K1.2.1.length) (cap:=P36) (k':=.i64) (b:=G1) kr kr (e:=26) kr (sz:=6) kr (by omega) (by omega)) λ_ f=>?_
     have f:=f.st 87 (H16.symm)
     refine ag rfl (ap 2 mL N76 (ao rfl (λW45 N77=>?_) ?_))
     ·refine aE (k:=1) (c:=1) f N77 (.cells (aTE0 X2 Z9 P9 Z10 P10) 26 (0,0)) kr (λ_=>by kernel_rfl) λQ13 W46 N78 _ f=>ag rfl (ap 3 mL N78 (ao rfl (λW47 N79=>?_) ?_))
      ·have N80:=N79.pl [2]
       have D29:ae V9 ((K1.2.1.take G1.toNat).map ai) (L1.take (G1.toNat*6)):=by rw[List.map_take];exact ae.takeD _ (dv jx) D3.mo
       have qR: (K1.2.1.take G1.toNat).length=G1.toNat:=by rw[List.length_take];omega
       have N81:Hp w0 V9 ((Ent.row 26 6 (.slice (cutA Z35 6 0 P36) (K1.2.1.take G1.toNat).length P36) (K1.2.1.take G1.toNat).length (L1.take (G1.toNat*6)))::(Ent.obj Q13 (.cells (aTE0 X2 Z9 P9 Z10 P10) 26 (0,0)))::(rO 26 6 Z17 (([]:List TE0)++(K1.2.1.take K1.2.1.length).drop G1.toNat) P18 L5)::(rO 9 1 Z30 G2 P31 L12)::(Ent.obj Q5 (.cells (aTE0 X2 Z9 P9 Z10 P10) 26 (0,0)))::(oC Q3 #[iB d0.ab,bO d0.an,iL d0.ak,S d0.aa,sL Z5 K1.2.1 P5,sL Z30 G2 P31] 26)::(oC Q2 #[iB 0,bO false,iL 0,S [],Sn,Sn] 26)::H) W47:=by rw[qR];exact N80.rowFront H16 (by omega)
       have f:=Frm.set f 89 (v:=.slice (cutA Z35 6 0 P36) G1.toNat P36) (v':=.slice (cutA Z35 6 0 P36) (K1.2.1.take G1.toNat).length P36) (by kernel_rfl) (by rw[qR])
       refine dM X2 0 f (N81.toRow 0 26 6 (cutA Z35 6 0 P36) P36 D29) D29 (TE0.shutx B6.mo B7.mo) O12 λZ36 P37 L15 W48 N82 D30 _ f=>ag rfl (ap 2 mL N82 (ao rfl (λW49 N83=>?_) ?_))
       ·obtain⟨Z37,P38,V11,H17,J11,N84,B15⟩:=N83.rowSliK (f:=ai) (xs:=([]:List TE0)++(K1.2.1.take K1.2.1.length).drop G1.toNat) 1 26 Z17 P18 jx D13.mo
        have f:=f.st 93 (H17)
        refine ms (z:=.agg #[iB 0,bO false,iL 0,S [],Sn,Sn]) (f:=ai) (xs:=(K1.2.1.take G1.toNat)++[X2]) (ys:=([]:List TE0)++(K1.2.1.take K1.2.1.length).drop G1.toNat) (c:=P38) f N84 D30.mo B15 kr kr rfl rfl rfl kr kr kr kr O13 (by omega) λZ38 P39 L16 W50 N85 D31 _ f=>ag rfl (ap 1 J11 N85 (dp λW51 N86=>Y f 1 λ_ f=>Wt f N86 3 4 (sL Z38 (((K1.2.1.take G1.toNat)++[X2])++(([]:List TE0)++(K1.2.1.take K1.2.1.length).drop G1.toNat)) P39) λW52 N87 _ f=>ag rfl (jD (az ?_))))
        exact⟨_,(sI F29).symm,_,J11,Z38,P39,L16,D31,f.kp,N87.kr⟩
       exact al
      exact al
     exact al
    refine ao rfl (λW53 N88=>?_) ?_
    ·refine aE (k:=1) (c:=1) f N88 (.cells (aTE0 X2 Z9 P9 Z10 P10) 26 (0,0)) kr (λ_=>by kernel_rfl) λQ14 W54 N89 _ f=>ag rfl (ap 3 mL N89 (ao rfl (λW55 N90=>?_) ?_))
     ·obtain⟨Z39,P40,H18,hcap_9,hcn_8⟩:=N90.rowShape 2 rfl
      have f:=f.st 87 (H18)
      refine Z f (og rfl (A:=Z39) (len:=K1.2.1.length) (cap:=P40) (k':=.i64) (b:=G1) kr kr (e:=26) kr (sz:=6) kr (by omega) (by omega)) λ_ f=>?_
      have f:=f.st 87 (H18.symm)
      refine ag rfl (ap 3 mL N90 (ao rfl (λW56 N91=>?_) ?_))
      ·have N92:=N91.pl [2]
       have D32:ae V9 ((K1.2.1.take G1.toNat).map ai) (L1.take (G1.toNat*6)):=by rw[List.map_take];exact ae.takeD _ (dv jx) D3.mo
       have qS: (K1.2.1.take G1.toNat).length=G1.toNat:=by rw[List.length_take];omega
       have N93:Hp w0 V9 ((Ent.row 26 6 (.slice (cutA Z39 6 0 P40) (K1.2.1.take G1.toNat).length P40) (K1.2.1.take G1.toNat).length (L1.take (G1.toNat*6)))::(Ent.obj Q14 (.cells (aTE0 X2 Z9 P9 Z10 P10) 26 (0,0)))::(rO 26 6 Z17 (([]:List TE0)++(K1.2.1.take K1.2.1.length).drop G1.toNat) P18 L5)::(rO 9 1 Z30 G2 P31 L12)::(Ent.obj Q5 (.cells (aTE0 X2 Z9 P9 Z10 P10) 26 (0,0)))::(oC Q3 #[iB d0.ab,bO d0.an,iL d0.ak,S d0.aa,sL Z5 K1.2.1 P5,sL Z30 G2 P31] 26)::(oC Q2 #[iB 0,bO false,iL 0,S [],Sn,Sn] 26)::H) W56:=by rw[qS];exact N92.rowFront H18 (by omega)
       have f:=Frm.set f 89 (v:=.slice (cutA Z39 6 0 P40) G1.toNat P40) (v':=.slice (cutA Z39 6 0 P40) (K1.2.1.take G1.toNat).length P40) (by kernel_rfl) (by rw[qS])
       refine dM X2 0 f (N93.toRow 0 26 6 (cutA Z39 6 0 P40) P40 D32) D32 (TE0.shutx B6.mo B7.mo) O12 λZ40 P41 L17 W57 N94 D33 _ f=>ag rfl (ap 2 mL N94 (ao rfl (λW58 N95=>?_) ?_))
       ·obtain⟨Z41,P42,V12,H19,J12,N96,B16⟩:=N95.rowSliK (f:=ai) (xs:=([]:List TE0)++(K1.2.1.take K1.2.1.length).drop G1.toNat) 1 26 Z17 P18 jx D13.mo
        have f:=f.st 93 (H19)
        refine ms (z:=.agg #[iB 0,bO false,iL 0,S [],Sn,Sn]) (f:=ai) (xs:=(K1.2.1.take G1.toNat)++[X2]) (ys:=([]:List TE0)++(K1.2.1.take K1.2.1.length).drop G1.toNat) (c:=P42) f N96 D33.mo B16 kr kr rfl rfl rfl kr kr kr kr O13 (by omega) λZ42 P43 L18 W59 N97 D34 _ f=>ag rfl (ap 1 J12 N97 (dp λW60 N98=>Y f 1 λ_ f=>Wt f N98 3 4 (sL Z42 (((K1.2.1.take G1.toNat)++[X2])++(([]:List TE0)++(K1.2.1.take K1.2.1.length).drop G1.toNat)) P43) λW61 N99 _ f=>ag rfl (jD (az ?_))))
        exact⟨_,(sI F29).symm,_,J12,Z42,P43,L18,D34,f.kp,N99.kr⟩
       exact al
      exact al
     exact al
    exact al
   rintro a_137 W62 ⟨G3,hZ,V13,J13,Z43,P44,L19,D35,f,N100⟩
   dsimp only[Hp.en] at N100
   subst lb
   refine ec (az (ay (Y f 1 λ_ f=>?_)))
   obtain⟨O14,F30⟩:=nS F26
   refine Y f 1 λ_ f=>?_
   have f:=f.st 24 (iW O14)
   refine Y f 1 λ_ f=>ag rfl ?_
   have N111:=N100.pl [4,4,3,3,4]
   refine az ?_
   cases sI F30
   exact⟨⟨_,_,Z43,P44,L19,Z30,P31,L12⟩,Nat.lt_succ_self _,_,mL,⟨T1,D35,D25.mo⟩,f.kp,(N111.dropN 1).kr⟩
  refine wp_exit (dJ (dJ ?_))
  cases sI F31
  exact⟨rfl,_,(sI T1).symm,_,J2,Z5,P5,L1,Z6,P6,L2,D3,D4,f.kp,N11.kr⟩
 rintro _ _ W64 ⟨rfl,G4,hq_,V14,J14,Z44,P45,L20,Z45,P46,L21,D36,D37,f,N101⟩
 subst Q4
 refine jV (az (RR (Z f (XO N101 2) λ_ f=>?_)))
 obtain⟨Z46,P47,V15,H20,J15,N112,B17⟩:=N101.rowSliK (f:=ai) (xs:=G4.1) 0 26 Z44 P45 jx D36
 have f:=Frm.set f 96 (v:=.agg #[.int .i8 d0.ab,.bool d0.an,.int .i64 d0.ak,S d0.aa,.slice Z44 G4.1.length P45,.slice Z45 G4.2.length P46]) (v':=.agg #[.int .i8 d0.ab,.bool d0.an,.int .i64 d0.ak,S d0.aa,.slice Z46 G4.1.length P47,.slice Z45 G4.2.length P46]) (by kernel_rfl) (by rw[H20])
 try simp only[sL] at H20 N112
 rw[H20] at N112
 obtain⟨Z47,P48,V16,H21,J16,N114,B18⟩:=N112.rowSliK (f:=Dat.str) (xs:=G4.2) 0 9 Z45 P46 bH D37.mo
 have f:=Frm.set f 96 (v:=.agg #[.int .i8 d0.ab,.bool d0.an,.int .i64 d0.ak,S d0.aa,.slice Z46 G4.1.length P47,.slice Z45 G4.2.length P46]) (v':=.agg #[.int .i8 d0.ab,.bool d0.an,.int .i64 d0.ak,S d0.aa,.slice Z46 G4.1.length P47,.slice Z47 G4.2.length P48]) (by kernel_rfl) (by rw[H21])
 try simp only[sL] at H21 N114
 rw[H21] at N114
 refine Wu f N114 1 0 [iB d0.ab,bO d0.an,iL d0.ak,S d0.aa,sL Z46 G4.1 P47,sL Z47 G4.2 P48] λW65 N116 _ f=>Er (bM f rfl (Rv.oN [iB d0.ab,bO d0.an,iL d0.ak,S d0.aa,sL Z46 G4.1 P47,sL Z47 G4.2 P48] f N116 1 0) ?_)
 cases sI F1
 exact⟨_,rfl,_,mL,(N116.dropN 2).kr,⟨_,rfl,(TE0.shutx B17.mo B18)⟩⟩
def dq (n:Nat):Nat→TE0→Option TE0
 |0=>λ_=>none
 |k+1=>iX n (dq n k)
def mU (n:Nat) (d0:TE0):Option TE0:=dq n n d0
theorem rg (n:Nat) (M:Mem) (c0:Lv) (d0:TE0) (h0:Rep M (ai d0) c0) (r:TE0) (hF:mU n d0=some r):Ok Tryz.prog M 134 [.agg c0.toArray] (λM' v=>∃ (c0:Lv),v=.agg c0.toArray∧Rep M' (ai r) c0):=by
 have key: ∀ (k:Nat) (M:Mem) (c0:Lv) (d0:TE0) (h0:Rep M (ai d0) c0) (r:TE0) (hF:dq n k d0=some r),Ok Tryz.prog M 134 [.agg c0.toArray] (λM' v=>∃ (c0:Lv),v=.agg c0.toArray∧Rep M' (ai r) c0):=by
  intro k
  induction k with
  |zero=>intro M c0 d0 h0 r hF;simp[dq] at hF
  |succ k ih=>intro M c0 d0 h0 r hF;exact pW n (dq n k) ih M c0 d0 h0 r hF
 exact key n M c0 d0 h0 r hF
def li (n:Nat) (d0:TE0):Option TE0:=
 (jX n d0).bind λX1=>
 bif(!(decide (X1=0))) then
  (some (d0))
 else
  (mU n d0).bind λX2=>
  some (X2)
theorem re (n:Nat) (M:Mem) (c0:Lv) (d0:TE0) (h0:Rep M (ai d0) c0) (r:TE0) (hF:li n d0=some r):Ok Tryz.prog M 102 [.agg c0.toArray] (λM' v=>∃ (c0:Lv),v=.agg c0.toArray∧Rep M' (ai r) c0):=by
 unfold li at hF
 intro M1 hM0 w0 H w p0
 replace h0:=Rep.mono hM0 _ _ h0
 obtain⟨Z1,P1,Z2,P2,rfl,B1,B2⟩:=TE0.opn h0
 refine Re 9 Tryz.func102 rfl λa0 f0=>RR (Y5 (cs:=(aTE0 d0 Z1 P1 Z2 P2)) (T:=26) f0 p0 λQ1 V1 W1 J1 R1 N1 _ f=>?_)
 have R2:=aU R1
 refine Y4 f N1 (.cells #[iB 0,bO false,iL 0,S [],Sn,Sn] 26 (0,0)) λQ2 W2 N2 _ f=>eT (ah (RR (Z f (XK N2 R2 0) λ_ f=>?_)))
 obtain⟨X1,l1,F1⟩:=bS hF
 refine Y9 f N2 (nO n _ _ d0 h0.mo X1 l1) λW3 N3 _ f=>Ye f 1 λ_ f=>RcF f F1 (λB3 F2=>?_) λB3 F3=>?_
 ·refine RR (Z f (XK N3 R2 0) λ_ f=>Wu f N3 0 0 (lTE0 d0 Z1 P1 Z2 P2) λW4 N4 _ f=>Er (bl (bM f rfl (Rv.oN (lTE0 d0 Z1 P1 Z2 P2) f N4 0 0) ?_)))
  cases sI F2
  exact⟨_,rfl,_,J1,(N4.dropN 1).kr,⟨_,rfl,h0.mo⟩⟩
 refine St (RR (Z f (XK N3 R2 0) λ_ f=>?_))
 obtain⟨X2,l2,F4⟩:=bS F3
 refine Y8 f N3 (rg n _ _ d0 h0.mo X2 l2) λ_ V2 W5 J2 N5 ef _ f=>?_
 obtain⟨dW,rfl,D1⟩:=ef
 obtain⟨Z3,P3,Z4,P4,rfl,B4,B5⟩:=TE0.opn D1
 refine Wu f N5 0 0 (lTE0 X2 Z3 P3 Z4 P4) λW6 N6 _ f=>Er (bM f rfl (Rv.oN (lTE0 X2 Z3 P3 Z4 P4) f N6 0 0) ?_)
 cases sI F4
 exact⟨_,rfl,_,mL,(N6.dropN 1).kr,⟨_,rfl,D1.mo⟩⟩
def jT (n:Nat) (d0:TE0):Option (List Bs):=
 (li n d0).bind λX1=>
 some (X1.af)
theorem ml (n:Nat) (M:Mem) (c0:Lv) (d0:TE0) (h0:Rep M (ai d0) c0) (r:List Bs) (hF:jT n d0=some r):Ok Tryz.prog M 59 [.agg c0.toArray] (λM' v=>∃ (A0:Oa) (k0:Nat),v=sL A0 r k0∧Sli M' 1 Dat.str A0 k0 r):=by
 unfold jT at hF
 intro M1 hM0 w0 H w p0
 replace h0:=Rep.mono hM0 _ _ h0
 obtain⟨Z1,P1,Z2,P2,rfl,B1,B2⟩:=TE0.opn h0
 refine Re 6 Tryz.func59 rfl λa0 f0=>RR (Y5 (cs:=(aTE0 d0 Z1 P1 Z2 P2)) (T:=26) f0 p0 λQ1 V1 W1 J1 R1 N1 _ f=>?_)
 have R2:=aU R1
 refine Ye f 1 λ_ f=>RR (Z f (XK N1 R2 0) λ_ f=>?_)
 obtain⟨X1,l1,F1⟩:=bS hF
 refine Y8 f N1 (re n _ _ d0 h0.mo X1 l1) λ_ V2 W2 J2 N2 ef _ f=>?_
 obtain⟨dW,rfl,D1⟩:=ef
 obtain⟨Z3,P3,Z4,P4,rfl,B3,B4⟩:=TE0.opn D1
 refine Ye f 2 λ_ f=>wp_ret (am f rfl (Lk 2 (sL Z4 X1.af P4)) ?_)
 cases sI F1
 exact⟨_,rfl,_,mL,N2.kr,⟨Z4,P4,rfl,B4⟩⟩
def cG (n:Nat) (d3:List Bs) (X2:List Bs) (K1:Int×Int×Bs) (K2:Bool×Int):Option (Lp (Bool×Int) Bool):=
    bif(decide (K2.2<((d3.length:Nat):Int))) then
     (bif K2.1 then
      (aL (inR .i64 (K2.2+1))<|
      some (.nx ((true),K2.2+1)))
     else
      (aB d3 K2.2).bind λX3=>
      (aB X2 K1.1).bind λX4=>
      aL (inR .i64 (K2.2+1))<|
      some (.nx ((decide (X3=X4)),K2.2+1)))
    else
     some (.br (K2.1))
def db (n:Nat) (d2:Bs) (d3:List Bs) (X2:List Bs) (K1:Int×Int×Bs):Option (Lp (Int×Int×Bs) (Sum (Int×Bs) (Int×Bs))):=
    bif(decide (K1.1<((X2.length:Nat):Int))) then
     ((au (cG n d3 X2 K1) n ((false),(0:Int))).bind λG1=>
     bif !G1 then
      ((aB X2 K1.1).bind λX5=>
      (bt n d2 X5).bind λX6=>
      (aq n K1.2.1 K1.2.2 (120:Int) X6).bind λX7=>
      some (.br (.inl (X7.1,X7.2))))
     else
      aL (inR .i64 (K1.1+1))<|
      some (.nx (K1.1+1,K1.2.1,K1.2.2)))
    else
     some (.br (.inr (K1.2.1,K1.2.2)))
def bk (n:Nat) (aO:Int) (aC:Bs) (d1:TE0) (d2:Bs) (d3:List Bs):Option (Bool×Int×Bs):=
 bif(!(decide (aO=0))) then
  (some (((false),aO,aC)))
 else
  bif(!(decide (d1.ab=5))) then
   ((aq n aO aC (120:Int) d2).bind λX1=>
   some (((false),X1.1,X1.2)))
  else
   (jT n d1).bind λX2=>
   (au (db n d2 d3 X2) n ((0:Int),aO,aC)).bind λQ2=>
   (match Q2 with
   |.inl G2=>some (((false),G2.1,G2.2))
   |.inr G3=>some (((true),G3.1,G3.2)))
set_option maxRecDepth 20000 in
theorem da (n:Nat) (M:Mem) (b0:Nat) (aO:Int) (aC:Bs) (c1:Lv) (d1:TE0) (h1:Rep M (ai d1) c1) (d2:Bs) (A3:Oa) (cap3:Nat) (d3:List Bs) (h3:Sli M 1 Dat.str A3 cap3 d3) (r:Bool×Int×Bs) (hF:bk n aO aC d1 d2 d3=some r):OkH Tryz.prog M [oC b0 #[iL aO,S aC] 54] 57 [pP b0,.agg c1.toArray,S d2,sL A3 d3 cap3] (λM' E' v=>v=bO r.1∧E'=[oC b0 #[iL r.2.1,S r.2.2] 54]):=by
 unfold bk at hF
 intro M1 hM0 w0 H w p0
 replace h1:=Rep.mono hM0 _ _ h1
 replace h3:=h3.mono hM0
 obtain⟨Z1,P1,Z2,P2,rfl,B1,B2⟩:=TE0.opn h1
 refine Re 60 Tryz.func57 rfl λa0 f0=>RR (Y5 (cs:=(aTE0 d1 Z1 P1 Z2 P2)) (T:=26) f0 p0 λQ1 V1 W1 J1 R1 N1 _ f=>?_)
 have R2:=aU R1
 refine Ye f 1 λ_ f=>ah (RR (Y f 3 λ_ f=>Z f (XO N1 0) λ_ f=>Ye f 1 λ_ f=>RcF f hF (λB3 F1=>?_) λB3 F2=>?_))
 ·refine RR (Ye f 1 λ_ f=>wp_ret (bl (am f rfl (Lk 8 (bO false)) ?_)))
  cases sI F1
  exact⟨_,rfl,_,_,J1,N1.kr,⟨rfl,rfl⟩⟩
 refine St (ah (RR (Y f 1 λ_ f=>Y7 f N1 R2 0 rfl λ_ f=>Ye f 1 λ_ f=>RcF f F2 (λB4 F3=>?_) λB4 F5=>?_)))
 ·refine RR (Y f 2 λ_ f=>?_)
  obtain⟨X1,l1,F4⟩:=bS F3
  refine Ch f N1 (ax n _ b0 aO aC (120:Int) d2 X1 l1) λ_ V2 mG W2 J2 N2 ef _ f=>?_
  obtain⟨rfl,rfl⟩:=ef
  refine eT (RR (Ye f 1 λ_ f=>wp_ret (bl (am f rfl (Lk 8 (bO false)) ?_))))
  cases sI F4
  exact⟨_,rfl,_,_,mL,N2.kr,⟨rfl,rfl⟩⟩
 refine St (RR (Z f (XK N1 R2 0) λ_ f=>?_))
 obtain⟨X2,l2,F6⟩:=bS F5
 refine Y8 f N1 (ml n _ _ d1 h1.mo X2 l2) λ_ V3 W3 J3 N3 iK _ f=>?_
 obtain⟨Z3,P3,rfl,B5⟩:=iK
 refine Ye f 1 λ_ f=>ah (RR (Ye f 1 λ_ f=>wp_block ?_))
 obtain⟨Q2,ce,F7⟩:=bS F6
 refine wp_mono (Q:=λe a w=>(e=.ret∧(∃G2,Q2=.inl G2∧∃V8,V3.le V8∧Frm 60 [(8,bO false)] a∧Hp w0 V8 (setE (setE (N3.en) 0 0 [iL G2.1]) 0 1 [S G2.2]) w))∨(e=.exit 0∧(∃G3,Q2=.inr G3∧∃V9,V3.le V9∧Frm 60 [] a∧Hp w0 V9 (setE (setE (N3.en) 0 0 [iL G3.1]) 0 1 [S G3.2]) w))) (aZ (σ:=(Int×Int×Bs)) (λx=>match x with|(I1,K1)=>(((10,iL K1.1)::kpL [0,2,3,9] f.fr),(setE (setE (N3.en) 0 0 [iL K1.2.1]) 0 1 [S K1.2.2]),λMM=>au (db n d2 d3 X2) I1 K1=some Q2)) (n,((0:Int),aO,aC)) (f.kp) N3.kr ce ?_) ?_
 ·rintro⟨I1,K1⟩ V4 _ W4 J4 gL f N4
  have ci:=gL
  dsimp only[Hp.en] at N4
  obtain⟨I2,lT,rfl,bg,T1⟩:=aK ci
  unfold db at bg
  refine ah (RR (Ye f 4 λ_ f=>RcF f bg (λB6 F8=>?_) λB6 F24=>?_))
  ·refine St (ah (wp_block (RR (Ye f 1 λ_ f=>ah (RR (Ye f 1 λ_ f=>wp_block ?_))))))
   obtain⟨Q3,nI,F9⟩:=bS F8
   refine wp_mono (Q:=λe a w=>(e=.exit 2∧(∃G1,Q3=G1∧∃V6,V4.le V6∧Frm 60 ((11,bO G1)::kpL [0,2,3,9,10] f.fr) a∧Hp w0 V6 (N4.en) w))) (aZ (σ:=(Bool×Int)) (λx=>match x with|(I3,K2)=>(((11,bO K2.1)::(12,iL K2.2)::kpL [0,2,3,9,10] f.fr),(N4.en),λMM=>au (cG n d3 X2 K1) I3 K2=some Q3)) (n,((false),(0:Int))) (f.kp) N4.kr nI ?_) ?_
   ·rintro⟨I3,K2⟩ V5 _ W5 J5 I_2 f N5
    have nv:=I_2
    dsimp only[Hp.en] at N5
    obtain⟨I4,r_2,rfl,kM,T2⟩:=aK nv
    unfold cG at kM
    refine ah (RR (Ye f 4 λ_ f=>RcF f kM (λB7 F10=>?_) λB7 F17=>?_))
    ·refine St (ah (wp_block (iG N5 kr kr (Y2 default f 2 λ_ f=>?_))))
     rcases cE F10 with⟨B8,F11⟩|⟨B8,F13⟩
     ·have f:=f.st 39 (cB B8)
      refine Y2 default f 11 λ_ f=>iS rfl ?_
      intro W6 N6
      refine ec (az (ay (Y f 1 λ_ f=>?_)))
      obtain⟨O1,F12⟩:=nS F11
      refine Y f 1 λ_ f=>?_
      have f:=f.st 37 (iW O1)
      refine Ye f 1 λ_ f=>?_
      cases sI F12
      exact⟨⟨_,_⟩,Nat.lt_succ_self _,_,J5,T2,f.kp,N6.kr⟩
     have f:=f.st 39 (cB B8)
     refine Y2 default f 2 λ_ f=>?_
     obtain⟨X3,l3,F14⟩:=bS F13
     obtain⟨C1,dW,jC,D1,R3⟩:=Sli.aM V5 h3 l3
     obtain rfl:dW=[S X3]:=D1
     refine bD f kr (λ_ pq=>XI jC l3) λ_ f=>gx f R3 0 rfl kr kr λ_ f=>Y2 default f 2 λ_ f=>?_
     obtain⟨X4,l4,F15⟩:=bS F14
     obtain⟨C2,ie,ly,D2,R4⟩:=Sli.aM V5 B5 l4
     obtain rfl:ie=[S X4]:=D2
     refine bD f kr (λ_ pq=>XI ly l4) λ_ f=>gx f R4 0 rfl kr kr λ_ f=>bD (v:=bO (decide (X3=X4))) f kr (λ_ pq=>Y11 rfl (l:=X3) (m:=X4)) λ_ f=>Y2 default f 2 λ_ f=>iS rfl ?_
     intro W7 N7
     refine ec (az (ay (Y f 1 λ_ f=>?_)))
     obtain⟨O2,F16⟩:=nS F15
     refine Y f 1 λ_ f=>?_
     have f:=f.st 37 (iW O2)
     refine Ye f 1 λ_ f=>?_
     cases sI F16
     exact⟨⟨_,_⟩,Nat.lt_succ_self _,_,J5,T2,f.kp,N7.kr⟩
    refine wp_exit (dJ (dJ ?_))
    cases sI F17
    exact⟨rfl,_,(sI T2).symm,_,J5,f.kp,N5.kr⟩
   rintro _ _ W9 ⟨rfl,G1,hq_,V6,J6,f,N8⟩
   subst Q3
   refine jV (az (RR (Ye f 2 λ_ f=>RcF f F9 (λB9 F18=>?_) λB9 F22=>?_)))
   ·refine RR (Y f 4 λ_ f=>?_)
    obtain⟨X5,l5,F19⟩:=bS F18
    obtain⟨C3,lQ,qm,D3,R5⟩:=N8.at_ B5 l5
    obtain rfl:lQ=[S X5]:=D3
    refine Z f (XI qm l5) λ_ f=>Y7 f N8 R5 0 rfl λ_ f=>?_
    obtain⟨X6,l6,F20⟩:=bS F19
    refine Y9 f N8 (be n _ d2 X5 X6 l6) λW10 N9 _ f=>?_
    obtain⟨X7,l7,F21⟩:=bS F20
    refine Ch f N9 (ax n _ b0 K1.2.1 K1.2.2 (120:Int) X6 X7 l7) λ_ V7 rB W11 J7 N10 mi _ f=>?_
    obtain⟨rfl,rfl⟩:=mi
    refine eT (RR (Ye f 1 λ_ f=>wp_ret (eu (bl (bl ?_)))))
    cases sI F21
    exact .inl ⟨rfl,_,(sI T1).symm,_,mL,f.kp,N10.kr⟩
   refine wp_skip (ec (az (ay (Y f 1 λ_ f=>?_))))
   obtain⟨O3,F23⟩:=nS F22
   refine Y f 1 λ_ f=>?_
   have f:=f.st 31 (iW O3)
   refine Ye f 1 λ_ f=>?_
   cases sI F23
   exact⟨⟨_,_⟩,Nat.lt_succ_self _,_,mL,T1,f.kp,N8.kr⟩
  refine wp_exit (dJ (dJ ?_))
  cases sI F24
  exact .inr ⟨rfl,_,(sI T1).symm,_,J4,f.kp,N4.kr⟩
 rintro _ _ W14 (⟨rfl,G2,rfl,V8,J8,f,N11⟩|⟨rfl,G3,rfl,V9,J9,f,N12⟩)
 ·refine eu (bl (am f rfl (Lk 8 (bO false)) ?_))
  cases sI F7
  exact⟨_,rfl,_,_,mL,N11.kr,⟨rfl,rfl⟩⟩
 refine jV (az (RR (Ye f 1 λ_ f=>wp_ret (am f rfl (Lk 8 (bO true)) ?_))))
 cases sI F7
 exact⟨_,rfl,_,_,mL,N12.kr,⟨rfl,rfl⟩⟩
def jr (n:Nat) (d0:TE0) (d1:Bs) (K1:Int×Int×Bool×Int×Bs×List TE0×List Bs):Option (Lp (Int×Int×Bool×Int×Bs×List TE0×List Bs) (Sum (Int×Bool×Int×Bs×List TE0×List Bs) (Int×Bool×Int×Bs×List TE0×List Bs))):=
    bif(decide (K1.1<((d0.af.length:Nat):Int))) then
     ((aB d0.af K1.1).bind λX1=>
     bif(decide (X1=d1)) then
      ((aB d0.ac K1.1).bind λX2=>
      some (.br (.inl (X2.ab,(X2.an),X2.ak,X2.aa,X2.ac,X2.af))))
     else
      aL (inR .i64 (K1.1+1))<|
      some (.nx (K1.1+1,K1.2.1,(K1.2.2.1),K1.2.2.2.1,K1.2.2.2.2.1,K1.2.2.2.2.2.1,K1.2.2.2.2.2.2)))
    else
     some (.br (.inr (K1.2.1,(K1.2.2.1),K1.2.2.2.1,K1.2.2.2.2.1,K1.2.2.2.2.2.1,K1.2.2.2.2.2.2)))
def eh (n:Nat) (d0:TE0) (d1:Bs):Option (TE0×Bool):=
 ((bif(!(decide (d0.ab=5))) then
  (some ((true)))
   else
    some ((!(decide (((d0.af.length:Nat):Int)=((d0.ac.length:Nat):Int))))):Option Bool)).bind λG1=>
 bif G1 then
  (some ((oO,(false))))
 else
  (au (jr n d0 d1) n ((0:Int),(0:Int),(false),(0:Int),([]:Bs),([]:List TE0),([]:List Bs))).bind λQ3=>
  (match Q3 with
  |.inl G2=>some (((⟨G2.1,(G2.2.1),G2.2.2.1,G2.2.2.2.1,G2.2.2.2.2.1,G2.2.2.2.2.2⟩:TE0),(true)))
  |.inr G3=>some ((oO,(false))))
set_option maxRecDepth 20000 in
theorem cZ (n:Nat) (M:Mem) (c0:Lv) (d0:TE0) (h0:Rep M (ai d0) c0) (d1:Bs) (r:TE0×Bool) (hF:eh n d0 d1=some r):Ok Tryz.prog M 58 [.agg c0.toArray,S d1] (λM' v=>∃ (c0:Lv),v=.tuple #[.agg c0.toArray,bO r.2]∧Rep M' (ai r.1) c0):=by
 unfold eh at hF
 intro M1 hM0 w0 H w p0
 replace h0:=Rep.mono hM0 _ _ h0
 obtain⟨Z1,P1,Z2,P2,rfl,B1,B2⟩:=TE0.opn h0
 refine Re 40 Tryz.func58 rfl λa0 f0=>RR (Y5 (cs:=(aTE0 d0 Z1 P1 Z2 P2)) (T:=26) f0 p0 λQ1 V1 W1 J1 R1 N1 _ f=>?_)
 have R2:=aU R1
 refine Y4 f N1 (.cells #[iB 0,bO false,iL 0,S [],Sn,Sn] 26 (0,0)) λQ2 W2 N2 _ f=>Ye f 1 λ_ f=>ah (ah ?_)
 obtain⟨eF,cL,F1⟩:=bS hF
 refine aW (λa_13 W3=>∃G1,eF=G1∧∃V2,V1.le V2∧Frm 40 ((18,bO G1)::kpL [1,2,4] f.fr) a_13∧Hp w0 V2 (N2.en) W3) ?_ ?_
 ·refine ay (Y f 1 λ_ f=>Y7 f N2 R2 0 rfl λ_ f=>Y f 2 λ_ f=>?_)
  rcases cE cL with⟨B3,F2⟩|⟨B3,F3⟩
  ·have f:=f.st 10 (cB B3)
   refine Ye f 8 λ_ f=>?_
   exact⟨_,(sI F2).symm,_,mL,f.kp,N2.kr⟩
  have f:=f.st 10 (cB B3)
  refine Y f 1 λ_ f=>Y7 f N2 R2 5 rfl λ_ f=>Y f 2 λ_ f=>Y7 f N2 R2 4 rfl λ_ f=>Ye f 3 λ_ f=>?_
  exact⟨_,(sI F3).symm,_,mL,f.kp,N2.kr⟩
 rintro a_13 W3 ⟨G1,eS,V2,J2,f,N3⟩
 dsimp only[Hp.en] at N3
 subst eF
 refine az (RcF f F1 (λB4 F4=>?_) λB4 F5=>?_)
 ·refine RR (Y f 1 λ_ f=>Wu f N3 0 0 [iB 0,bO false,iL 0,S [],Sn,Sn] λW4 N4 _ f=>Ye f 1 λ_ f=>wp_ret (bl (nn f rfl (Rv.oN [iB 0,bO false,iL 0,S [],Sn,Sn] f N4 0 0) (Rv.slot (v:=bO false) f kr) ?_)))
  cases sI F4
  exact⟨_,rfl,_,mL,(N4.dropN 1).kr,⟨_,rfl,(TE0.shutx Sli.nil Sli.nil)⟩⟩
 refine St (ah (RR (Ye f 1 λ_ f=>wp_block ?_)))
 obtain⟨Q3,ce,F6⟩:=bS F5
 refine wp_mono (Q:=λe a w=>(e=.ret∧(∃G2,Q3=.inl G2∧∃V4,V2.le V4∧∃Z7 P7 Z8 P8,Sli V4 6 ai Z7 P7 G2.t4.1∧Sli V4 1 Dat.str Z8 P8 G2.t5∧Frm 40 [(4,pP Q2),(5,bO true)] a∧Hp w0 V4 ((oC Q2 #[iB G2.1,bO G2.2.1,iL G2.2.2.1,S G2.t3.1,sL Z7 G2.t4.1 P7,sL Z8 G2.t5 P8] 26)::H) w))∨(e=.exit 0∧(∃G3,Q3=.inr G3∧∃V5,V2.le V5∧∃Z9 P9 Z10 P10,Sli V5 6 ai Z9 P9 G3.t4.1∧Sli V5 1 Dat.str Z10 P10 G3.t5∧Frm 40 [(4,pP Q2)] a∧Hp w0 V5 ((oC Q2 #[iB G3.1,bO G3.2.1,iL G3.2.2.1,S G3.t3.1,sL Z9 G3.t4.1 P9,sL Z10 G3.t5 P10] 26)::H) w))) (aZ (σ:=(Int×Int×Bool×Int×Bs×List TE0×List Bs)×Oa×Nat×Oa×Nat) (λx=>match x with|(I1,K1,Z3,P3,Z4,P4)=>(((6,iL K1.1)::kpL [1,2,4] f.fr),((oC Q2 #[iB K1.2.1,bO K1.2.2.1,iL K1.t3.1,S K1.t4.1,sL Z3 K1.t5.1 P3,sL Z4 K1.t6 P4] 26)::H),λMM=>au (jr n d0 d1) I1 K1=some Q3∧Sli MM 6 ai Z3 P3 K1.t5.1∧Sli MM 1 Dat.str Z4 P4 K1.t6)) (n,((0:Int),(0:Int),(false),(0:Int),([]:Bs),([]:List TE0),([]:List Bs)),none,0,none,0) (f.kp) N3.kr ⟨ce,Sli.nil,Sli.nil⟩ ?_) ?_
 ·rintro⟨I1,K1,Z3,P3,Z4,P4⟩ V3 _ W5 J3 gL f N5
  obtain⟨ci,B5,B6⟩:=gL
  dsimp only at N5
  obtain⟨I2,lT,rfl,bg,T1⟩:=aK ci
  unfold jr at bg
  refine ah (RR (Y f 2 λ_ f=>Y7 f N5 (fu R2) 5 rfl λ_ f=>Ye f 2 λ_ f=>RcF f bg (λB7 F7=>?_) λB7 F13=>?_))
  ·refine St (ah (wp_block (RR (Y f 1 λ_ f=>Y7 f N5 (fu R2) 5 rfl λ_ f=>Y f 1 λ_ f=>?_))))
   obtain⟨X1,l1,F8⟩:=bS F7
   obtain⟨C1,dW,jC,D1,R3⟩:=N5.at_ B2 l1
   obtain rfl:dW=[S X1]:=D1
   refine Z f (XI jC l1) λ_ f=>Y7 f N5 R3 0 rfl λ_ f=>Y f 1 λ_ f=>Z f (Y11 rfl (l:=X1) (m:=d1)) λ_ f=>eT (RcF f F8 (λB8 F9=>?_) λB8 F11=>?_)
   ·refine RR (Y f 1 λ_ f=>Y7 f N5 (fu R2) 4 rfl λ_ f=>Y f 1 λ_ f=>?_)
    obtain⟨X2,l2,F10⟩:=bS F9
    obtain⟨C2,ie,ly,D2,R4⟩:=N5.at_ B1 l2
    obtain⟨Z5,P5,Z6,P6,rfl,B9,B10⟩:=TE0.opn D2
    refine Z f (XI ly l2) λ_ f=>Z f (XK N5 R4 0) λ_ f=>Wu f N5 0 0 (lTE0 X2 Z5 P5 Z6 P6) λW6 N6 _ f=>Ye f 1 λ_ f=>wp_ret (eu (bl (bl ?_)))
    cases sI F10
    exact .inl ⟨rfl,_,(sI T1).symm,_,J3,Z5,P5,Z6,P6,B9,B10,f.kp,N6.kr⟩
   refine wp_skip (ec (az (ay (Y f 1 λ_ f=>?_))))
   obtain⟨O1,F12⟩:=nS F11
   refine Y f 1 λ_ f=>?_
   have f:=f.st 26 (iW O1)
   refine Ye f 1 λ_ f=>?_
   cases sI F12
   exact⟨⟨_,_,Z3,P3,Z4,P4⟩,Nat.lt_succ_self _,_,J3,⟨T1,B5,B6⟩,f.kp,N5.kr⟩
  refine wp_exit (dJ (dJ ?_))
  cases sI F13
  exact .inr ⟨rfl,_,(sI T1).symm,_,J3,Z3,P3,Z4,P4,B5,B6,f.kp,N5.kr⟩
 rintro _ _ W9 (⟨rfl,G2,rfl,V4,J4,Z7,P7,Z8,P8,B11,B12,f,N7⟩|⟨rfl,G3,rfl,V5,J5,Z9,P9,Z10,P10,B13,B14,f,N8⟩)
 ·refine eu (bl (nn f rfl (Rv.oN [iB G2.1,bO G2.2.1,iL G2.2.2.1,S G2.t3.1,sL Z7 G2.t4.1 P7,sL Z8 G2.t5 P8] f N7 0 0) (Rv.slot (v:=bO true) f kr) ?_))
  cases sI F6
  exact⟨_,rfl,_,mL,(N7.dropN 1).kr,⟨_,rfl,(TE0.shutx B11 B12)⟩⟩
 refine jV (az (RR (Y f 1 λ_ f=>Wu f N8 0 0 [iB 0,bO false,iL 0,S [],Sn,Sn] λW10 N9 _ f=>Ye f 1 λ_ f=>wp_ret (nn f rfl (Rv.oN [iB 0,bO false,iL 0,S [],Sn,Sn] f N9 0 0) (Rv.slot (v:=bO false) f kr) ?_))))
 cases sI F6
 exact⟨_,rfl,_,mL,(N9.dropN 1).kr,⟨_,rfl,(TE0.shutx Sli.nil Sli.nil)⟩⟩
def cN (n:Nat) (aO:Int) (aC:Bs) (d1:TE0) (d2:Bs) (d3:Bs):Option (TE0×Bool×Int×Bs):=
 (eh n d1 d3).bind λX1=>
 ((bif !X1.2 then
  ((aq n aO aC (120:Int) d2).bind λX2=>
  some ((X2.1,X2.2)))
   else
    some ((aO,aC)):Option (Int×Bs))).bind λG1=>
 bif X1.2 then
  (some ((X1.1,(decide (G1.1=0)),G1.1,G1.2)))
 else
  some ((X1.1,(false),G1.1,G1.2))
theorem gG (n:Nat) (M:Mem) (b0:Nat) (aO:Int) (aC:Bs) (c1:Lv) (d1:TE0) (h1:Rep M (ai d1) c1) (d2:Bs) (d3:Bs) (r:TE0×Bool×Int×Bs) (hF:cN n aO aC d1 d2 d3=some r):OkH Tryz.prog M [oC b0 #[iL aO,S aC] 54] 105 [pP b0,.agg c1.toArray,S d2,S d3] (λM' E' v=>∃ (c0:Lv),v=.tuple #[.agg c0.toArray,bO r.2.1]∧E'=[oC b0 #[iL r.2.2.1,S r.t3] 54]∧Rep M' (ai r.1) c0):=by
 unfold cN at hF
 intro M1 hM0 w0 H w p0
 replace h1:=Rep.mono hM0 _ _ h1
 obtain⟨Z1,P1,Z2,P2,rfl,B1,B2⟩:=TE0.opn h1
 refine Re 32 Tryz.func105 rfl λa0 f0=>RR (Y5 (cs:=(aTE0 d1 Z1 P1 Z2 P2)) (T:=26) f0 p0 λQ1 V1 W1 J1 R1 N1 _ f=>?_)
 have R2:=aU R1
 refine Y4 f N1 (.cells #[iB 0,bO false,iL 0,S [],Sn,Sn] 26 (0,0)) λQ2 W2 N2 _ f=>Ye f 1 λ_ f=>RR (Z f (XK N2 R2 0) λ_ f=>Y f 1 λ_ f=>?_)
 obtain⟨X1,l1,F1⟩:=bS hF
 refine Y8 f N2 (cZ n _ _ d1 h1.mo d3 X1 l1) λ_ V2 W3 J2 N3 ef _ f=>?_
 obtain⟨dW,rfl,D1⟩:=ef
 obtain⟨Z3,P3,Z4,P4,rfl,B3,B4⟩:=TE0.opn D1
 refine Y f 3 λ_ f=>Y4 f N3 (.cells #[iB 0,bO false,iL 0,S [],Sn,Sn] 26 (0,0)) λQ3 W4 N4 _ f=>Wu f N4 0 0 (lTE0 X1.1 Z3 P3 Z4 P4) λW5 N5 _ f=>Ye f 1 λ_ f=>ah (RR (Ye f 2 λ_ f=>?_))
 obtain⟨eF,cL,F2⟩:=bS F1
 refine aW (λa_14 W7=>∃G1,eF=G1∧∃V4,V2.le V4∧Frm 32 (kpL [0,8,10,11] f.fr) a_14∧Hp w0 V4 (setE (setE (selE [2,0,1] 3 N5.en) 0 0 [iL G1.1]) 0 1 [S G1.2]) W7) ?_ ?_
 ·refine RcF f cL (λB5 F3=>?_) λB5 F5=>?_
  ·refine ay (Y f 2 λ_ f=>?_)
   obtain⟨X2,l2,F4⟩:=bS F3
   have N7:=N5.pl [2]
   refine Ch f N7 (ax n _ b0 aO aC (120:Int) d2 X2 l2) λ_ V3 mG W6 J3 N6 iK _ f=>?_
   obtain⟨rfl,rfl⟩:=iK
   refine eT ?_
   exact⟨_,(sI F4).symm,_,J3,f.kp,N6.kr⟩
  refine wp_skip ?_
  have N11:=N5.pl [1,1,2]
  refine az ?_
  exact⟨_,(sI F5).symm,_,mL,f.kp,N11.kr⟩
 rintro a_14 W7 ⟨G1,eS,V4,J4,f,N8⟩
 dsimp only[Hp.en] at N8
 subst eF
 refine az (ah ?_)
 have N14:=N8.pl [1,1,2]
 refine cu 1 [(0,true),(1,true),(2,true),(3,true),(4,true),(5,true),(6,true),(7,true),(8,true),(9,false),(10,true)] N14 (bG f kr kr rfl rfl (λ_ pq=>XO pq 1) λ_ f=>Y0 default f 2 λ_ f=>?_)
 rcases cE F2 with⟨B6,F6⟩|⟨B6,F7⟩
 ·have f:=f.st 25 (cB B6)
  refine Y0 default f 3 λ_ f=>bG f kr kr rfl rfl (λ_ pq=>XO pq 0) λ_ f=>Y0 default f 2 λ_ f=>bI λW8 N15=>Wu f N15 0 0 (lTE0 X1.1 Z3 P3 Z4 P4) λW9 N16 _ f=>ag rfl (bL 1 mL N16 (Y0 default f 1 λ_ f=>dx rfl λW10 N17=>az (wp_ret (nn f rfl (Rv.oN (lTE0 X1.1 Z3 P3 Z4 P4) f N17 0 0) (Rv.slot (v:=bO (decide (G1.1=0))) f kr) ?_))))
  cases sI F6
  have N20:=N17.pl [1,2,2]
  exact⟨_,rfl,_,_,mL,(N20.dropN 2).kr,⟨_,rfl,rfl,(TE0.shutx B3.mo B4.mo)⟩⟩
 have f:=f.st 25 (cB B6)
 refine Y0 default f 6 λ_ f=>bI λW11 N21=>Wu f N21 0 0 (lTE0 X1.1 Z3 P3 Z4 P4) λW12 N22 _ f=>ag rfl (bL 1 mL N22 (Y0 default f 1 λ_ f=>dx rfl λW13 N23=>az (wp_ret (nn f rfl (Rv.oN (lTE0 X1.1 Z3 P3 Z4 P4) f N23 0 0) (Rv.slot (v:=bO false) f kr) ?_))))
 cases sI F7
 have N26:=N23.pl [1,2,2]
 exact⟨_,rfl,_,_,mL,(N26.dropN 2).kr,⟨_,rfl,rfl,(TE0.shutx B3.mo B4.mo)⟩⟩
def kC (n:Nat) (d0:TE0) (d1:Bool):Option Bool:=
 bif d1 then
  (some ((decide (d0.ab=2))))
 else
  (iZ n d0).bind λX1=>
  some ((X1))
theorem oJ (n:Nat) (M:Mem) (c0:Lv) (d0:TE0) (h0:Rep M (ai d0) c0) (d1:Bool) (r:Bool) (hF:kC n d0 d1=some r):Ok Tryz.prog M 106 [.agg c0.toArray,bO d1] (λ_ v=>v=bO r):=by
 unfold kC at hF
 intro M1 hM0 w0 H w p0
 replace h0:=Rep.mono hM0 _ _ h0
 obtain⟨Z1,P1,Z2,P2,rfl,B1,B2⟩:=TE0.opn h0
 refine Re 11 Tryz.func106 rfl λa0 f0=>RR (Y5 (cs:=(aTE0 d0 Z1 P1 Z2 P2)) (T:=26) f0 p0 λQ1 V1 W1 J1 R1 N1 _ f=>?_)
 have R2:=aU R1
 refine Ye f 1 λ_ f=>ah (RR (Ye f 1 λ_ f=>RcF f hF (λB3 F1=>?_) λB3 F2=>?_))
 ·refine RR (Y f 1 λ_ f=>Y7 f N1 R2 0 rfl λ_ f=>Ye f 2 λ_ f=>wp_ret (bl (am f rfl (Lk 4 (bO (decide (d0.ab=2)))) ?_)))
  cases sI F1
  exact⟨_,rfl,_,J1,N1.kr,rfl⟩
 refine St (RR (Z f (XK N1 R2 0) λ_ f=>?_))
 obtain⟨X1,l1,F3⟩:=bS F2
 refine Y9 f N1 (mp n _ _ d0 h0.mo X1 l1) λW2 N2 _ f=>Ye f 1 λ_ f=>wp_ret (am f rfl (Lk 4 (bO X1)) ?_)
 cases sI F3
 exact⟨_,rfl,_,J1,N2.kr,rfl⟩
def bh (n:Nat) (X2:TE0×Bool×Int×Bs) (X9:TE0×Bool) (X10:Bs) (K1:Int×Int×Bs):Option (Lp (Int×Int×Bs) (Int×Bs)):=
    bif(decide (K1.1<((X9.1.ac.length:Nat):Int))) then
     ((aB X9.1.ac K1.1).bind λX13=>
     (kC n X13 (decide (X2.1.aa=[78,117,109,98,101,114]))).bind λX14=>
     bif !X14 then
      ((bx n X10 K1.1).bind λX15=>
      (aq n K1.2.1 K1.2.2 (120:Int) X15).bind λX16=>
      aL (inR .i64 (K1.1+1))<|
      some (.nx (K1.1+1,X16.1,X16.2)))
     else
      aL (inR .i64 (K1.1+1))<|
      some (.nx (K1.1+1,K1.2.1,K1.2.2)))
    else
     some (.br (K1.2.1,K1.2.2))
def bZ (n:Nat) (aO:Int) (aC:Bs) (d1:Bs) (d2:TE0) (d3:Bs):Option (TD0×Int×Bs):=
 (bk n aO aC d2 d3 ([[84,121,112,101],[68,101,102,97,117,108,116],[65,108,108,111,119,101,100,86,97,108,117,101,115]]:List Bs)).bind λX1=>
 bif !X1.1 then
  (some (((⟨d1,(false),(false),oO,([]:List TE0)⟩:TD0),X1.2.1,X1.2.2)))
 else
  (cN n X1.2.1 X1.2.2 d2 d3 [84,121,112,101]).bind λX2=>
  bif !X2.2.1 then
   (some (((⟨d1,(false),(false),oO,([]:List TE0)⟩:TD0),X2.2.2.1,X2.2.2.2)))
  else
   ((bif(!(decide (X2.1.ab=3))) then
    (some ((true)))
     else
      bif(!(decide (X2.1.aa=[83,116,114,105,110,103]))) then
       (some ((!(decide (X2.1.aa=[78,117,109,98,101,114])))))
      else
       some ((false)):Option Bool)).bind λG1=>
   ((bif G1 then
    ((bt n d3 [84,121,112,101]).bind λX3=>
    (aq n X2.2.2.1 X2.2.2.2 (120:Int) X3).bind λX4=>
    some ((X4.1,X4.2)))
     else
      some ((X2.2.2.1,X2.2.2.2)):Option (Int×Bs))).bind λG2=>
   (eh n d2 [68,101,102,97,117,108,116]).bind λX5=>
   ((bif X5.2 then
    ((kC n X5.1 (decide (X2.1.aa=[78,117,109,98,101,114]))).bind λX6=>
    bif !X6 then
     ((bt n d3 [68,101,102,97,117,108,116]).bind λX7=>
     (aq n G2.1 G2.2 (120:Int) X7).bind λX8=>
     some ((X8.1,X8.2,(true),X5.1.ab,(X5.1.an),X5.1.ak,X5.1.aa,X5.1.ac,X5.1.af)))
    else
     some ((G2.1,G2.2,(true),X5.1.ab,(X5.1.an),X5.1.ak,X5.1.aa,X5.1.ac,X5.1.af)))
     else
      some ((G2.1,G2.2,(false),(0:Int),(false),(0:Int),([]:Bs),([]:List TE0),([]:List Bs))):Option (Int×Bs×Bool×Int×Bool×Int×Bs×List TE0×List Bs))).bind λG3=>
   (eh n d2 [65,108,108,111,119,101,100,86,97,108,117,101,115]).bind λX9=>
   bif !X9.2 then
    (some (((⟨d1,(decide (X2.1.aa=[78,117,109,98,101,114])),(G3.2.2.1),(⟨G3.2.2.2.1,(G3.2.2.2.2.1),G3.2.2.2.2.2.1,G3.2.2.2.2.2.2.1,G3.2.2.2.2.2.2.2.1,G3.2.2.2.2.2.2.2.2⟩:TE0),([]:List TE0)⟩:TD0),G3.1,G3.2.1)))
   else
    (bt n d3 [65,108,108,111,119,101,100,86,97,108,117,101,115]).bind λX10=>
    ((bif(!(decide (X9.1.ab=4))) then
     (some ((true)))
      else
       some ((decide (((X9.1.ac.length:Nat):Int)=0))):Option Bool)).bind λG4=>
    bif G4 then
     ((aq n G3.1 G3.2.1 (120:Int) X10).bind λX11=>
     some (((⟨d1,(decide (X2.1.aa=[78,117,109,98,101,114])),(G3.2.2.1),(⟨G3.2.2.2.1,(G3.2.2.2.2.1),G3.2.2.2.2.2.1,G3.2.2.2.2.2.2.1,G3.2.2.2.2.2.2.2.1,G3.2.2.2.2.2.2.2.2⟩:TE0),([]:List TE0)⟩:TD0),X11.1,X11.2)))
    else
     ((bif(decide ((8:Int)<((X9.1.ac.length:Nat):Int))) then
      ((aq n G3.1 G3.2.1 (3:Int) X10).bind λX12=>
      some ((X12.1,X12.2)))
       else
        some ((G3.1,G3.2.1)):Option (Int×Bs))).bind λG5=>
     (au (bh n X2 X9 X10) n ((0:Int),G5.1,G5.2)).bind λG6=>
     some (((⟨d1,(decide (X2.1.aa=[78,117,109,98,101,114])),(G3.2.2.1),(⟨G3.2.2.2.1,(G3.2.2.2.2.1),G3.2.2.2.2.2.1,G3.2.2.2.2.2.2.1,G3.2.2.2.2.2.2.2.1,G3.2.2.2.2.2.2.2.2⟩:TE0),X9.1.ac⟩:TD0),G6.1,G6.2))
set_option maxRecDepth 20000 in
theorem nu (n:Nat) (M:Mem) (b0:Nat) (aO:Int) (aC:Bs) (d1:Bs) (c2:Lv) (d2:TE0) (h2:Rep M (ai d2) c2) (d3:Bs) (r:TD0×Int×Bs) (hF:bZ n aO aC d1 d2 d3=some r):OkH Tryz.prog M [oC b0 #[iL aO,S aC] 54] 61 [pP b0,S d1,.agg c2.toArray,S d3] (λM' E' v=>∃ (c0:Lv),v=.agg c0.toArray∧E'=[oC b0 #[iL r.2.1,S r.2.2] 54]∧Rep M' (ba r.1) c0):=by
 unfold bZ at hF
 intro M1 hM0 w0 H w p0
 replace h2:=Rep.mono hM0 _ _ h2
 obtain⟨Z1,P1,Z2,P2,rfl,B1,B2⟩:=TE0.opn h2
 refine Re 129 Tryz.func61 rfl λa0 f0=>RR (Y5 (cs:=(aTE0 d2 Z1 P1 Z2 P2)) (T:=26) f0 p0 λQ1 V1 W1 J1 R1 N1 _ f=>?_)
 have R2:=aU R1
 refine Y4 f N1 (.cells #[S [],bO false,bO false,iB 0,bO false,iL 0,S [],Sn,Sn,Sn] 58 (0,0)) λQ2 W2 N2 _ f=>eT (RR (Y f 2 λ_ f=>Y4 f N2 (.cells #[S [],bO false,bO false,iB 0,bO false,iL 0,S [],Sn,Sn,Sn] 58 (0,0)) λQ3 W3 N3 _ f=>Wu f N3 0 0 [S d1,bO false,bO false,iB 0,bO false,iL 0,S [],Sn,Sn,Sn] λW4 N4 _ f=>eT (ah (RR (Y f 1 λ_ f=>Z f (XK N4 R2 0) λ_ f=>Y f 1 λ_ f=>aE (k:=3) (c:=3) f N4 (.cells #[S [84,121,112,101],S [68,101,102,97,117,108,116],S [65,108,108,111,119,101,100,86,97,108,117,101,115]] 9 (0,0)) kr (λ_=>by kernel_rfl) λQ4 W5 N5 _ f=>?_)))))
 obtain⟨Z3,P3,V2,H1,J2,N6,B3⟩:=N5.litS (f:=Dat.str) 3 bH (dD ([[84,121,112,101],[68,101,102,97,117,108,116],[65,108,108,111,119,101,100,86,97,108,117,101,115]]:List Bs))
 have f:=f.st 21 (H1)
 obtain⟨X1,l1,F1⟩:=bS hF
 have N8:=N6.pl [2]
 refine Ch f N8 (da n _ b0 aO aC _ d2 h2.mo d3 Z3 P3 ([[84,121,112,101],[68,101,102,97,117,108,116],[65,108,108,111,119,101,100,86,97,108,117,101,115]]:List Bs) B3 X1 l1) λ_ V3 mG W6 J3 N7 ef _ f=>?_
 obtain⟨rfl,rfl⟩:=ef
 refine Ye f 1 λ_ f=>RcF f F1 (λB4 F2=>?_) λB4 F3=>?_
 ·refine RR (Z f (XO N7 1) λ_ f=>Wu f N7 2 0 [S d1,bO false,bO false,iB 0,bO false,iL 0,S [],Sn,Sn,Sn] λW7 N9 _ f=>Er (bl (bM f rfl (Rv.oN [S d1,bO false,bO false,iB 0,bO false,iL 0,S [],Sn,Sn,Sn] f N9 2 0) ?_)))
  cases sI F2
  have N11:=N9.pl [2,2]
  exact⟨_,rfl,_,_,mL,(N11.dropN 2).kr,⟨_,rfl,rfl,(TD0.shutx Sli.nil Sli.nil Sli.nil)⟩⟩
 refine St (RR (Y f 1 λ_ f=>Z f (XK N7 R2 0) λ_ f=>Y f 1 λ_ f=>?_))
 obtain⟨X2,l2,F4⟩:=bS F3
 refine Ch f N7 (gG n _ b0 X1.2.1 X1.2.2 _ d2 h2.mo d3 [84,121,112,101] X2 l2) λ_ V4 rB W8 J4 N12 iK _ f=>?_
 obtain⟨dW,rfl,rfl,D1⟩:=iK
 obtain⟨Z4,P4,Z5,P5,rfl,B5,B6⟩:=TE0.opn D1
 refine Y f 3 λ_ f=>Y4 f N12 (.cells #[iB 0,bO false,iL 0,S [],Sn,Sn] 26 (0,0)) λQ5 W9 N13 _ f=>Wu f N13 0 0 (lTE0 X2.1 Z4 P4 Z5 P5) λW10 N14 _ f=>Ye f 1 λ_ f=>ah (RR (Ye f 2 λ_ f=>RcF f F4 (λB7 F5=>?_) λB7 F6=>?_))
 ·refine RR (Z f (XO N14 2) λ_ f=>Wu f N14 3 0 [S d1,bO false,bO false,iB 0,bO false,iL 0,S [],Sn,Sn,Sn] λW11 N15 _ f=>Er (bl (bM f rfl (Rv.oN [S d1,bO false,bO false,iB 0,bO false,iL 0,S [],Sn,Sn,Sn] f N15 3 0) ?_)))
  cases sI F5
  have N19:=N15.pl [1,3,3,3]
  exact⟨_,rfl,_,_,mL,(N19.dropN 3).kr,⟨_,rfl,rfl,(TD0.shutx Sli.nil Sli.nil Sli.nil)⟩⟩
 refine St (ah (ah ?_))
 obtain⟨eF,cL,F7⟩:=bS F6
 refine aW (λa_38 W12=>∃G1,eF=G1∧∃V5,V4.le V5∧Frm 129 ((47,bO G1)::kpL [0,3,6,8,9,10] f.fr) a_38∧Hp w0 V5 (N14.en) W12) ?_ ?_
 ·refine ay (Y f 1 λ_ f=>Z f (XO N14 0) λ_ f=>Y f 2 λ_ f=>?_)
  rcases cE cL with⟨B8,F8⟩|⟨B8,F9⟩
  ·have f:=f.st 38 (cB B8)
   refine Ye f 9 λ_ f=>?_
   exact⟨_,(sI F8).symm,_,mL,f.kp,N14.kr⟩
  have f:=f.st 38 (cB B8)
  refine Y f 1 λ_ f=>Z f (XO N14 0) λ_ f=>Z f (ep rfl (l:=X2.1.aa) (m:=[83,116,114,105,110,103]) kr kr) λ_ f=>Y f 1 λ_ f=>?_
  rcases cE F9 with⟨B9,F10⟩|⟨B9,F11⟩
  ·have f:=f.st 42 (cB B9)
   refine Y f 1 λ_ f=>Z f (XO N14 0) λ_ f=>Z f (ep rfl (l:=X2.1.aa) (m:=[78,117,109,98,101,114]) kr kr) λ_ f=>Ye f 2 λ_ f=>?_
   exact⟨_,(sI F10).symm,_,mL,f.kp,N14.kr⟩
  have f:=f.st 42 (cB B9)
  refine Ye f 5 λ_ f=>?_
  exact⟨_,(sI F11).symm,_,mL,f.kp,N14.kr⟩
 rintro a_38 W12 ⟨G1,eS,V5,J5,f,N20⟩
 dsimp only[Hp.en] at N20
 subst eF
 refine az ?_
 obtain⟨lb,iJ,F12⟩:=bS F7
 refine aW (λa_42 W15=>∃G2,lb=G2∧∃V7,V5.le V7∧Frm 129 (kpL [0,3,6,8,9,10] f.fr) a_42∧Hp w0 V7 (setE (setE (selE [1,0,2,3] 4 N20.en) 0 0 [iL G2.1]) 0 1 [S G2.2]) W15) ?_ ?_
 ·refine RcF f iJ (λB10 F13=>?_) λB10 F16=>?_
  ·refine ay (Y f 2 λ_ f=>?_)
   obtain⟨X3,l3,F14⟩:=bS F13
   refine Y9 f N20 (be n _ d3 [84,121,112,101] X3 l3) λW13 N21 _ f=>?_
   obtain⟨X4,l4,F15⟩:=bS F14
   have N23:=N21.pl [1]
   refine Ch f N23 (ax n _ b0 X2.2.2.1 X2.t3 (120:Int) X3 X4 l4) λ_ V6 E_3 W14 J6 N22 mi _ f=>?_
   obtain⟨rfl,rfl⟩:=mi
   refine eT ?_
   exact⟨_,(sI F15).symm,_,J6,f.kp,N22.kr⟩
  refine wp_skip ?_
  have N28:=N20.pl [3,3,2,3]
  refine az ?_
  exact⟨_,(sI F16).symm,_,mL,f.kp,N28.kr⟩
 rintro a_42 W15 ⟨G2,hZ,V7,J7,f,N24⟩
 dsimp only[Hp.en] at N24
 subst lb
 refine az (RR (Y f 1 λ_ f=>Z f (XO N24 1) λ_ f=>Z f (Y11 rfl (l:=X2.1.aa) (m:=[78,117,109,98,101,114])) λ_ f=>Y f 1 λ_ f=>Wt f N24 2 1 (bO (decide (X2.1.aa=[78,117,109,98,101,114]))) λW16 N29 _ f=>eT (RR (Z f (XK N29 R2 0) λ_ f=>?_))))
 obtain⟨X5,l5,F17⟩:=bS F12
 refine Y8 f N29 (cZ n _ _ d2 h2.mo [68,101,102,97,117,108,116] X5 l5) λ_ V8 W17 J8 N30 nt _ f=>?_
 obtain⟨ie,rfl,D2⟩:=nt
 obtain⟨Z6,P6,Z7,P7,rfl,B11,B12⟩:=TE0.opn D2
 refine Y f 3 λ_ f=>Y4 f N30 (.cells #[iB 0,bO false,iL 0,S [],Sn,Sn] 26 (0,0)) λQ6 W18 N31 _ f=>Wu f N31 0 0 (lTE0 X5.1 Z6 P6 Z7 P7) λW19 N32 _ f=>Ye f 1 λ_ f=>ah (RR (Ye f 1 λ_ f=>?_))
 obtain⟨ns,la,F18⟩:=bS F17
 refine aW (λa_68 W25=>∃G3,ns=G3∧∃V10,V8.le V10∧∃Z8 P8 Z9 P9,Sli V10 6 ai Z8 P8 G3.t7.1∧Sli V10 1 Dat.str Z9 P9 G3.t8∧Frm 129 (kpL [0,3,6,8,9] f.fr) a_68∧Hp w0 V10 (setE (setE (setE (setE (setE (setE (setE (setE (setE (selE [1,0,2,3,4] 5 N32.en) 0 0 [iL G3.1]) 0 1 [S G3.2.1]) 3 2 [bO G3.2.2.1]) 3 3 [iB G3.t3.1]) 3 4 [bO G3.t4.1]) 3 5 [iL G3.t5.1]) 3 6 [S G3.t6.1]) 3 7 [sL Z8 G3.t7.1 P8]) 3 8 [sL Z9 G3.t8 P9]) W25) ?_ ?_
 ·refine RcF f la (λB13 F19=>?_) λB13 F25=>?_
  ·refine RR (Y f 1 λ_ f=>Wt f N32 3 2 (bO true) λW20 N33 _ f=>eT (RR (Z f (XO N33 0) λ_ f=>Y f 1 λ_ f=>Wu f N33 3 3 (lTE0 X5.1 Z6 P6 Z7 P7) λW21 N34 _ f=>eT (RR (Z f (XO N34 0) λ_ f=>Y f 1 λ_ f=>Z f (XO N34 3) λ_ f=>?_)))))
   obtain⟨X6,l6,F20⟩:=bS F19
   refine Y9 f N34 (oJ n _ _ X5.1 D2.mo (decide (X2.1.aa=[78,117,109,98,101,114])) X6 l6) λW22 N35 _ f=>Ye f 1 λ_ f=>RcF f F20 (λB14 F21=>?_) λB14 F24=>?_
   ·refine ay (Y f 2 λ_ f=>?_)
    obtain⟨X7,l7,F22⟩:=bS F21
    refine Y9 f N35 (be n _ d3 [68,101,102,97,117,108,116] X7 l7) λW23 N36 _ f=>?_
    obtain⟨X8,l8,F23⟩:=bS F22
    have N38:=N36.pl [1]
    refine Ch f N38 (ax n _ b0 G2.1 G2.2 (120:Int) X7 X8 l8) λ_ V9 E_4 W24 J9 N37 pg _ f=>?_
    obtain⟨rfl,rfl⟩:=pg
    refine eT ?_
    exact⟨_,(sI F23).symm,_,J9,Z6,P6,Z7,P7,B11.mo,B12.mo,f.kp,N37.kr⟩
   refine wp_skip ?_
   have N44:=N35.pl [4,4,4,3,4]
   refine az ?_
   exact⟨_,(sI F24).symm,_,mL,Z6,P6,Z7,P7,B11,B12,f.kp,N44.kr⟩
  refine wp_skip ?_
  have N49:=N32.pl [4,4,4,3,4]
  refine az ?_
  exact⟨_,(sI F25).symm,_,mL,none,0,none,0,Sli.nil,Sli.nil,f.kp,N49.kr⟩
 rintro a_68 W25 ⟨G3,qt,V10,J10,Z8,P8,Z9,P9,B15,B16,f,N39⟩
 dsimp only[Hp.en] at N39
 subst ns
 refine az (RR (Z f (XK N39 R2 0) λ_ f=>?_))
 obtain⟨X9,l9,F26⟩:=bS F18
 refine Y8 f N39 (cZ n _ _ d2 h2.mo [65,108,108,111,119,101,100,86,97,108,117,101,115] X9 l9) λ_ V11 W26 J11 N50 so _ f=>?_
 obtain⟨lQ,rfl,D3⟩:=so
 obtain⟨Z10,P10,Z11,P11,rfl,B17,B18⟩:=TE0.opn D3
 refine Y f 3 λ_ f=>Y4 f N50 (.cells #[iB 0,bO false,iL 0,S [],Sn,Sn] 26 (0,0)) λQ7 W27 N51 _ f=>Wu f N51 0 0 (lTE0 X9.1 Z10 P10 Z11 P11) λW28 N52 _ f=>Ye f 1 λ_ f=>ah (RR (Ye f 2 λ_ f=>RcF f F26 (λB19 F27=>?_) λB19 F28=>?_))
 ·refine RR (Z f (XO N52 4) λ_ f=>Wu f N52 5 0 [S d1,bO (decide (X2.1.aa=[78,117,109,98,101,114])),bO G3.2.2.1,iB G3.t3.1,bO G3.t4.1,iL G3.t5.1,S G3.t6.1,sL Z8 G3.t7.1 P8,sL Z9 G3.t8 P9,Sn] λW29 N53 _ f=>Er (bl (bM f rfl (Rv.oN [S d1,bO (decide (X2.1.aa=[78,117,109,98,101,114])),bO G3.2.2.1,iB G3.t3.1,bO G3.t4.1,iL G3.t5.1,S G3.t6.1,sL Z8 G3.t7.1 P8,sL Z9 G3.t8 P9,Sn] f N53 5 0) ?_)))
  cases sI F27
  have N59:=N53.pl [1,5,5,5,5,5]
  exact⟨_,rfl,_,_,mL,(N59.dropN 5).kr,⟨_,rfl,rfl,(TD0.shutx B15.mo B16.mo Sli.nil)⟩⟩
 refine St (RR (Y f 1 λ_ f=>?_))
 obtain⟨X10,l10,F29⟩:=bS F28
 refine Y9 f N52 (be n _ d3 [65,108,108,111,119,101,100,86,97,108,117,101,115] X10 l10) λW30 N60 _ f=>Ye f 1 λ_ f=>ah (ah ?_)
 obtain⟨qh,mK,F30⟩:=bS F29
 refine aW (λa_88 W31=>∃G4,qh=G4∧∃V12,V11.le V12∧Frm 129 ((92,bO G4)::kpL [0,3,8,9,14] f.fr) a_88∧Hp w0 V12 (N60.en) W31) ?_ ?_
 ·refine ay (Y f 1 λ_ f=>Z f (XO N60 0) λ_ f=>Y f 2 λ_ f=>?_)
  rcases cE mK with⟨B20,F31⟩|⟨B20,F32⟩
  ·have f:=f.st 87 (cB B20)
   refine Ye f 5 λ_ f=>?_
   exact⟨_,(sI F31).symm,_,mL,f.kp,N60.kr⟩
  have f:=f.st 87 (cB B20)
  refine Y f 1 λ_ f=>Z f (XO N60 0) λ_ f=>Ye f 3 λ_ f=>?_
  exact⟨_,(sI F32).symm,_,mL,f.kp,N60.kr⟩
 rintro a_88 W31 ⟨G4,rY,V12,J12,f,N61⟩
 dsimp only[Hp.en] at N61
 subst qh
 refine az (RcF f F30 (λB21 F33=>?_) λB21 F35=>?_)
 ·refine RR (Y f 2 λ_ f=>?_)
  obtain⟨X11,l11,F34⟩:=bS F33
  have N63:=N61.pl [1]
  refine Ch f N63 (ax n _ b0 G3.1 G3.2.1 (120:Int) X10 X11 l11) λ_ V13 E_5 W32 J13 N62 q_7 _ f=>?_
  obtain⟨rfl,rfl⟩:=q_7
  refine eT (RR (Z f (XO N62 4) λ_ f=>Wu f N62 5 0 [S d1,bO (decide (X2.1.aa=[78,117,109,98,101,114])),bO G3.2.2.1,iB G3.t3.1,bO G3.t4.1,iL G3.t5.1,S G3.t6.1,sL Z8 G3.t7.1 P8,sL Z9 G3.t8 P9,Sn] λW33 N64 _ f=>Er (bl (bM f rfl (Rv.oN [S d1,bO (decide (X2.1.aa=[78,117,109,98,101,114])),bO G3.2.2.1,iB G3.t3.1,bO G3.t4.1,iL G3.t5.1,S G3.t6.1,sL Z8 G3.t7.1 P8,sL Z9 G3.t8 P9,Sn] f N64 5 0) ?_))))
  cases sI F34
  have N69:=N64.pl [5,5,5,5,5]
  exact⟨_,rfl,_,_,mL,(N69.dropN 5).kr,⟨_,rfl,rfl,(TD0.shutx B15.mo B16.mo Sli.nil)⟩⟩
 refine St (ah (RR (Y f 1 λ_ f=>Z f (XO N61 0) λ_ f=>Ye f 2 λ_ f=>?_)))
 obtain⟨j_5,hj_5,F36⟩:=bS F35
 refine aW (λa_98 W35=>∃G5,j_5=G5∧∃V15,V12.le V15∧Frm 129 (kpL [0,3,8,9,14] f.fr) a_98∧Hp w0 V15 (setE (setE (selE [1,0,2,3,4,5] 6 N61.en) 0 0 [iL G5.1]) 0 1 [S G5.2]) W35) ?_ ?_
 ·refine RcF f hj_5 (λB22 F37=>?_) λB22 F39=>?_
  ·refine ay (Y f 2 λ_ f=>?_)
   obtain⟨X12,l12,F38⟩:=bS F37
   have N71:=N61.pl [1]
   refine Ch f N71 (ax n _ b0 G3.1 G3.2.1 (3:Int) X10 X12 l12) λ_ V14 E_6 W34 J14 N70 q_8 _ f=>?_
   obtain⟨rfl,rfl⟩:=q_8
   refine eT ?_
   exact⟨_,(sI F38).symm,_,J14,f.kp,N70.kr⟩
  refine wp_skip ?_
  have N78:=N61.pl [5,5,5,5,4,5]
  refine az ?_
  exact⟨_,(sI F39).symm,_,mL,f.kp,N78.kr⟩
 rintro a_98 W35 ⟨G5,hq_5,V15,J15,f,N72⟩
 dsimp only[Hp.en] at N72
 subst j_5
 refine az (ah (RR (Ye f 1 λ_ f=>wp_block ?_)))
 obtain⟨Q8,ce,F40⟩:=bS F36
 refine wp_mono (Q:=λe a w=>(e=.exit 0∧(∃G6,Q8=G6∧∃V18,V15.le V18∧Frm 129 (kpL [8,9,14] f.fr) a∧Hp w0 V18 (setE (setE (N72.en) 0 0 [iL G6.1]) 0 1 [S G6.2]) w))) (aZ (σ:=(Int×Int×Bs)) (λx=>match x with|(I1,K1)=>(((15,iL K1.1)::kpL [0,3,8,9,14] f.fr),(setE (setE (N72.en) 0 0 [iL K1.2.1]) 0 1 [S K1.2.2]),λMM=>au (bh n X2 X9 X10) I1 K1=some Q8)) (n,((0:Int),G5.1,G5.2)) (f.kp) N72.kr ce ?_) ?_
 ·rintro⟨I1,K1⟩ V16 _ W36 J16 gL f N79
  have ci:=gL
  dsimp only[Hp.en] at N79
  obtain⟨I2,lT,rfl,bg,T1⟩:=aK ci
  unfold bh at bg
  refine ah (RR (Y f 2 λ_ f=>Z f (XO N79 1) λ_ f=>Ye f 2 λ_ f=>RcF f bg (λB23 F41=>?_) λB23 F50=>?_))
  ·refine St (ah (wp_block (ah (iG N79 kr kr (Y2 default f 1 λ_ f=>bD f kr (λ_ pq=>XO pq 1) λ_ f=>Y2 default f 1 λ_ f=>?_)))))
   obtain⟨X13,l13,F42⟩:=bS F41
   obtain⟨C1,rJ,jC,D4,R3⟩:=Sli.aM V16 B17 l13
   obtain⟨Z12,P12,Z13,P13,rfl,B24,B25⟩:=TE0.opn D4
   refine bD f kr (λ_ pq=>XI jC l13) λ_ f=>bD f kr (λ_ pq=>XK pq R3 0) λ_ f=>Y2 default f 1 λ_ f=>bD f kr (λ_ pq=>XO pq 4) λ_ f=>?_
   obtain⟨X14,l14,F43⟩:=bS F42
   refine ls f (oJ n _ _ X13 D4.mo (decide (X2.1.aa=[78,117,109,98,101,114])) X14 l14) kr (λ_=>by kernel_rfl) λ_ f=>Y2 default f 1 λ_ f=>iS rfl ?_
   intro W38 N81
   refine az (RcF f F43 (λB26 F44=>?_) λB26 F48=>?_)
   ·refine ay (Y f 3 λ_ f=>?_)
    obtain⟨X15,l15,F45⟩:=bS F44
    refine Y9 f N81 (cH n _ X10 K1.1 X15 l15) λW39 N82 _ f=>?_
    obtain⟨X16,l16,F46⟩:=bS F45
    refine Ch f N82 (ax n _ b0 K1.2.1 K1.2.2 (120:Int) X15 X16 l16) λ_ V17 E_7 W40 J17 N83 q_9 _ f=>?_
    obtain⟨rfl,rfl⟩:=q_9
    refine ag rfl (ec (az (ay (Y f 1 λ_ f=>?_))))
    obtain⟨O1,F47⟩:=nS F46
    refine Y f 1 λ_ f=>?_
    have f:=f.st 110 (iW O1)
    refine Ye f 1 λ_ f=>?_
    cases sI F47
    exact⟨⟨_,_⟩,Nat.lt_succ_self _,_,mL,T1,f.kp,N83.kr⟩
   refine wp_skip (ec (az (ay (Y f 1 λ_ f=>?_))))
   obtain⟨O2,F49⟩:=nS F48
   refine Y f 1 λ_ f=>?_
   have f:=f.st 110 (iW O2)
   refine Ye f 1 λ_ f=>?_
   cases sI F49
   exact⟨⟨_,_⟩,Nat.lt_succ_self _,_,J16,T1,f.kp,N81.kr⟩
  refine wp_exit (dJ (dJ ?_))
  cases sI F50
  exact⟨rfl,_,(sI T1).symm,_,J16,f.kp,N79.kr⟩
 rintro _ _ W42 ⟨rfl,G6,hq_,V18,J18,f,N84⟩
 subst Q8
 refine jV (az (RR (Y f 1 λ_ f=>Z f (XO N84 1) λ_ f=>Y f 1 λ_ f=>Wt f N84 4 9 (sL Z10 X9.1.ac P10) λW43 N85 _ f=>eT (RR (Z f (XO N85 4) λ_ f=>Wu f N85 5 0 [S d1,bO (decide (X2.1.aa=[78,117,109,98,101,114])),bO G3.2.2.1,iB G3.t3.1,bO G3.t4.1,iL G3.t5.1,S G3.t6.1,sL Z8 G3.t7.1 P8,sL Z9 G3.t8 P9,sL Z10 X9.1.ac P10] λW44 N86 _ f=>Er (bM f rfl (Rv.oN [S d1,bO (decide (X2.1.aa=[78,117,109,98,101,114])),bO G3.2.2.1,iB G3.t3.1,bO G3.t4.1,iL G3.t5.1,S G3.t6.1,sL Z8 G3.t7.1 P8,sL Z9 G3.t8 P9,sL Z10 X9.1.ac P10] f N86 5 0) ?_))))))
 cases sI F40
 have N91:=N86.pl [5,5,5,5,5]
 exact⟨_,rfl,_,_,mL,(N91.dropN 5).kr,⟨_,rfl,rfl,(TD0.shutx B15.mo B16.mo B17.mo)⟩⟩
def cp (n:Nat) (rec_ref13_reader_cond:Int→Bs→TE0→Bs→Option (TH0×Int×Bs)) (X4:TE0) (X5:Bs) (K1:Int×Int×Bs×List TH0):Option (Lp (Int×Int×Bs×List TH0) (List TH0×Int×Bs)):=
    ((bif(decide (K1.1<((X4.ac.length:Nat):Int))) then
     (some ((decide (K1.2.1=0))))
      else
       some ((false)):Option Bool)).bind λG7=>
    bif G7 then
     ((((aB X4.ac K1.1).bind λX23=>
       (bx n X5 K1.1).bind λX24=>
       (rec_ref13_reader_cond K1.2.1 K1.2.2.1 X23 X24).bind λX25=>
       aL ((K1.2.2.2.length+1)*224≤140737488355328)<|
       some ((X25.2.1,X25.2.2,K1.2.2.2++[X25.1])):Option (Int×Bs×List TH0))).bind λG8=>
     aL (inR .i64 (K1.1+1))<|
     some (.nx (K1.1+1,G8.1,G8.2.1,G8.2.2)))
    else
     some (.br (K1.2.2.2,K1.2.1,K1.2.2.1))
def eU (n:Nat) (rec_ref13_reader_cond:Int→Bs→TE0→Bs→Option (TH0×Int×Bs)) (aO:Int) (aC:Bs) (d1:TE0) (d2:Bs):Option (TH0×Int×Bs):=
 (bk n aO aC d1 d2 ([[69,113,117,97,108,115],[65,110,100],[79,114],[78,111,116],[67,111,110,100,105,116,105,111,110]]:List Bs)).bind λX1=>
 bif !X1.1 then
  (some (((⟨([]:Bs),(0:Int),aQ,aQ,([]:List TH0)⟩:TH0),X1.2.1,X1.2.2)))
 else
  bif(!(decide (((d1.af.length:Nat):Int)=1))) then
   ((aq n X1.2.1 X1.2.2 (120:Int) d2).bind λX2=>
   some (((⟨([]:Bs),(0:Int),aQ,aQ,([]:List TH0)⟩:TH0),X2.1,X2.2)))
  else
   (aB d1.af (0:Int)).bind λX3=>
   (aB d1.ac (0:Int)).bind λX4=>
   (bt n d2 X3).bind λX5=>
   bif(decide (X3=[67,111,110,100,105,116,105,111,110])) then
    ((dU n X4).bind λX6=>
    ((bif !X6 then
     ((aq n X1.2.1 X1.2.2 (120:Int) X5).bind λX7=>
     some ((X7.1,X7.2)))
      else
       some ((X1.2.1,X1.2.2)):Option (Int×Bs))).bind λG1=>
    some (((⟨X4.aa,(4:Int),aQ,aQ,([]:List TH0)⟩:TH0),G1.1,G1.2)))
   else
    ((bif(!(decide (X4.ab=4))) then
     (some ((true)))
      else
       bif(decide (X3=[69,113,117,97,108,115])) then
        (bif(!(decide (((X4.ac.length:Nat):Int)=2))) then
         (some ((true)))
        else
         bif(decide (X3=[78,111,116])) then
          (bif(!(decide (((X4.ac.length:Nat):Int)=1))) then
           (some ((true)))
          else
           bif(decide (((X4.ac.length:Nat):Int)<1)) then
            (some ((true)))
           else
            some ((decide ((4:Int)<((X4.ac.length:Nat):Int)))))
         else
          bif(decide (((X4.ac.length:Nat):Int)<1)) then
           (some ((true)))
          else
           some ((decide ((4:Int)<((X4.ac.length:Nat):Int)))))
       else
        bif(decide (X3=[78,111,116])) then
         (bif(!(decide (((X4.ac.length:Nat):Int)=1))) then
          (some ((true)))
         else
          bif(decide (((X4.ac.length:Nat):Int)<1)) then
           (some ((true)))
          else
           some ((decide ((4:Int)<((X4.ac.length:Nat):Int)))))
        else
         bif(decide (((X4.ac.length:Nat):Int)<1)) then
          (some ((true)))
         else
          some ((decide ((4:Int)<((X4.ac.length:Nat):Int)))):Option Bool)).bind λG2=>
    bif G2 then
     ((aq n X1.2.1 X1.2.2 (120:Int) X5).bind λX8=>
     some (((⟨([]:Bs),(0:Int),aQ,aQ,([]:List TH0)⟩:TH0),X8.1,X8.2)))
    else
     bif(decide (X3=[69,113,117,97,108,115])) then
      ((((aB X4.ac (0:Int)).bind λX9=>
        (bx n X5 (0:Int)).bind λX10=>
        (cf n X1.2.1 X1.2.2 X9 X10).bind λX11=>
        some ((X11.1,X11.2.1,X11.2.2)):Option (TG0×Int×Bs))).bind λG3=>
      (((aB X4.ac (1:Int)).bind λX16=>
        (bx n X5 (1:Int)).bind λX17=>
        (cf n G3.2.1 G3.2.2 X16 X17).bind λX18=>
        some ((X18.1,X18.2.1,X18.2.2)):Option (TG0×Int×Bs))).bind λG4=>
      some (((⟨([]:Bs),(0:Int),G3.1,G4.1,([]:List TH0)⟩:TH0),G4.2.1,G4.2.2)))
     else
      ((bif(decide (X3=[79,114])) then
       (some ((2:Int)))
        else
         some ((1:Int)):Option Int)).bind λG5=>
      ((bif(decide (X3=[78,111,116])) then
       (some ((3:Int)))
        else
         some (G5):Option Int)).bind λG6=>
      (au (cp n rec_ref13_reader_cond X4 X5) n ((0:Int),X1.2.1,X1.2.2,([]:List TH0))).bind λG9=>
      some (((⟨([]:Bs),G6,aQ,aQ,G9.1⟩:TH0),G9.2.1,G9.2.2))
set_option maxRecDepth 20000 in
theorem na (n:Nat) (rec_ref13_reader_cond:Int→Bs→TE0→Bs→Option (TH0×Int×Bs)) (hrec_ref13_reader_cond: ∀ (M:Mem) (b0:Nat) (aO:Int) (aC:Bs) (c1:Lv) (d1:TE0) (h1:Rep M (ai d1) c1) (d2:Bs) (r:TH0×Int×Bs) (hF:rec_ref13_reader_cond aO aC d1 d2=some r),OkH Tryz.prog M [oC b0 #[iL aO,S aC] 54] 107 [pP b0,.agg c1.toArray,S d2] (λM' E' v=>∃ (c0:Lv),v=.agg c0.toArray∧E'=[oC b0 #[iL r.2.1,S r.2.2] 54]∧Rep M' (aH r.1) c0)) (M:Mem) (b0:Nat) (aO:Int) (aC:Bs) (c1:Lv) (d1:TE0) (h1:Rep M (ai d1) c1) (d2:Bs) (r:TH0×Int×Bs) (hF:eU n rec_ref13_reader_cond aO aC d1 d2=some r):OkH Tryz.prog M [oC b0 #[iL aO,S aC] 54] 107 [pP b0,.agg c1.toArray,S d2] (λM' E' v=>∃ (c0:Lv),v=.agg c0.toArray∧E'=[oC b0 #[iL r.2.1,S r.2.2] 54]∧Rep M' (aH r.1) c0):=by
 unfold eU at hF
 intro M1 hM0 w0 H w p0
 replace h1:=Rep.mono hM0 _ _ h1
 obtain⟨Z1,P1,Z2,P2,rfl,B1,B2⟩:=TE0.opn h1
 refine Re 141 Tryz.func107 rfl λa0 f0=>RR (Y5 (cs:=(aTE0 d1 Z1 P1 Z2 P2)) (T:=26) f0 p0 λQ1 V1 W1 J1 R1 N1 _ f=>?_)
 have R2:=aU R1
 refine Y4 f N1 (.cells #[S [],iB 0,iB 0,S [],iL 0,S [],S [],Sn,iB 0,S [],iL 0,S [],S [],Sn,Sn] 61 (0,0)) λQ2 W2 N2 _ f=>eT (ah (RR (Y f 1 λ_ f=>Z f (XK N2 R2 0) λ_ f=>Y f 1 λ_ f=>aE (k:=5) (c:=5) f N2 (.cells #[S [69,113,117,97,108,115],S [65,110,100],S [79,114],S [78,111,116],S [67,111,110,100,105,116,105,111,110]] 9 (0,0)) kr (λ_=>by kernel_rfl) λQ3 W3 N3 _ f=>?_)))
 obtain⟨Z3,P3,V2,H1,J2,N4,B3⟩:=N3.litS (f:=Dat.str) 5 bH (dD ([[69,113,117,97,108,115],[65,110,100],[79,114],[78,111,116],[67,111,110,100,105,116,105,111,110]]:List Bs))
 have f:=f.st 17 (H1)
 obtain⟨X1,l1,F1⟩:=bS hF
 have N6:=N4.pl [1]
 refine Ch f N6 (da n _ b0 aO aC _ d1 h1.mo d2 Z3 P3 ([[69,113,117,97,108,115],[65,110,100],[79,114],[78,111,116],[67,111,110,100,105,116,105,111,110]]:List Bs) B3 X1 l1) λ_ V3 mG W4 J3 N5 ef _ f=>?_
 obtain⟨rfl,rfl⟩:=ef
 refine Ye f 1 λ_ f=>RcF f F1 (λB4 F2=>?_) λB4 F3=>?_
 ·refine RR (Y f 1 λ_ f=>Wu f N5 1 0 [S [],iB 0,iB 0,S [],iL 0,S [],S [],Sn,iB 0,S [],iL 0,S [],S [],Sn,Sn] λW5 N7 _ f=>Er (bl (bM f rfl (Rv.oN [S [],iB 0,iB 0,S [],iL 0,S [],S [],Sn,iB 0,S [],iL 0,S [],S [],Sn,Sn] f N7 1 0) ?_)))
  cases sI F2
  have N8:=N7.pl [1]
  exact⟨_,rfl,_,_,mL,(N8.dropN 1).kr,⟨_,rfl,rfl,(TH0.shutx Sli.nil Sli.nil Sli.nil)⟩⟩
 refine St (ah (RR (Y f 1 λ_ f=>Y7 f N5 (fu R2) 5 rfl λ_ f=>Ye f 2 λ_ f=>RcF f F3 (λB5 F4=>?_) λB5 F6=>?_)))
 ·refine RR (Y f 2 λ_ f=>?_)
  obtain⟨X2,l2,F5⟩:=bS F4
  refine Ch f N5 (ax n _ b0 X1.2.1 X1.2.2 (120:Int) d2 X2 l2) λ_ V4 rB W6 J4 N9 iK _ f=>?_
  obtain⟨rfl,rfl⟩:=iK
  refine eT (RR (Y f 1 λ_ f=>Wu f N9 1 0 [S [],iB 0,iB 0,S [],iL 0,S [],S [],Sn,iB 0,S [],iL 0,S [],S [],Sn,Sn] λW7 N10 _ f=>Er (bl (bM f rfl (Rv.oN [S [],iB 0,iB 0,S [],iL 0,S [],S [],Sn,iB 0,S [],iL 0,S [],S [],Sn,Sn] f N10 1 0) ?_))))
  cases sI F5
  have N11:=N10.pl [1]
  exact⟨_,rfl,_,_,mL,(N11.dropN 1).kr,⟨_,rfl,rfl,(TH0.shutx Sli.nil Sli.nil Sli.nil)⟩⟩
 refine St (ah (cu 0 [(0,true),(1,true),(2,true),(3,true),(4,true),(5,true),(6,true),(7,true),(8,false),(9,true),(10,false)] N5 (Y0 default f 1 λ_ f=>bG f kr kr rfl rfl (λ_ pq=>XK pq (fu R2) 5) λ_ f=>?_)))
 obtain⟨X3,l3,F7⟩:=bS F6
 obtain⟨C1,dW,jC,D1,R3⟩:=Sli.aM V3 B2 l3
 obtain rfl:dW=[S X3]:=D1
 refine bG f kr kr rfl rfl (λ_ pq=>XI jC l3) λ_ f=>bG f kr kr rfl rfl (λ_ pq=>XK pq R3 0) λ_ f=>Y0 default f 1 λ_ f=>bG f kr kr rfl rfl (λ_ pq=>XK pq (fu R2) 4) λ_ f=>?_
 obtain⟨X4,l4,F8⟩:=bS F7
 obtain⟨C2,ie,ly,D2,R4⟩:=Sli.aM V3 B1 l4
 obtain⟨Z4,P4,Z5,P5,rfl,B6,B7⟩:=TE0.opn D2
 refine bG f kr kr rfl rfl (λ_ pq=>XI ly l4) λ_ f=>bG f kr kr rfl rfl (λ_ pq=>XK pq R4 0) λ_ f=>bI λW8 N12=>Y4 f N12 (.cells #[iB 0,bO false,iL 0,S [],Sn,Sn] 26 (0,0)) λQ4 W9 N13 _ f=>ag rfl (bL 1 mL N13 (Y0 default f 1 λ_ f=>bI λW10 N14=>Wu f N14 0 0 (lTE0 X4 Z4 P4 Z5 P5) λW11 N15 _ f=>ag rfl (bL 1 mL N15 (dx rfl λW12 N16=>az (RR (Y f 2 λ_ f=>?_))))))
 obtain⟨X5,l5,F9⟩:=bS F8
 refine Y9 f N16 (be n _ d2 X3 X5 l5) λW13 N17 _ f=>Ye f 1 λ_ f=>ah (RR (Y f 1 λ_ f=>Z f (Y11 rfl (l:=X3) (m:=[67,111,110,100,105,116,105,111,110])) λ_ f=>eT (RcF f F9 (λB8 F10=>?_) λB8 F16=>?_)))
 ·refine ah (RR (Z f (XO N17 0) λ_ f=>?_))
  obtain⟨X6,l6,F11⟩:=bS F10
  refine Y9 f N17 (gf n _ _ X4 D2.mo X6 l6) λW14 N18 _ f=>Ye f 1 λ_ f=>?_
  obtain⟨eF,cL,F12⟩:=bS F11
  refine aW (λa_39 W16=>∃G1,eF=G1∧∃V6,V3.le V6∧Frm 141 (kpL [6,8] f.fr) a_39∧Hp w0 V6 (setE (setE (selE [1,0,2] 3 N18.en) 0 0 [iL G1.1]) 0 1 [S G1.2]) W16) ?_ ?_
  ·refine RcF f cL (λB9 F13=>?_) λB9 F15=>?_
   ·refine ay (Y f 2 λ_ f=>?_)
    obtain⟨X7,l7,F14⟩:=bS F13
    have N20:=N18.pl [1]
    refine Ch f N20 (ax n _ b0 X1.2.1 X1.2.2 (120:Int) X5 X7 l7) λ_ V5 E_3 W15 J5 N19 mi _ f=>?_
    obtain⟨rfl,rfl⟩:=mi
    refine eT ?_
    exact⟨_,(sI F14).symm,_,J5,f.kp,N19.kr⟩
   refine wp_skip ?_
   have N24:=N18.pl [2,1,2]
   refine az ?_
   exact⟨_,(sI F15).symm,_,mL,f.kp,N24.kr⟩
  rintro a_39 W16 ⟨G1,eS,V6,J6,f,N21⟩
  dsimp only[Hp.en] at N21
  subst eF
  refine az (RR (Y f 1 λ_ f=>Z f (XO N21 1) λ_ f=>Y f 1 λ_ f=>Wu f N21 2 0 [S X4.aa,iB 4,iB 0,S [],iL 0,S [],S [],Sn,iB 0,S [],iL 0,S [],S [],Sn,Sn] λW17 N25 _ f=>Er (bl (bM f rfl (Rv.oN [S X4.aa,iB 4,iB 0,S [],iL 0,S [],S [],Sn,iB 0,S [],iL 0,S [],S [],Sn,Sn] f N25 2 0) ?_))))
  cases sI F12
  have N27:=N25.pl [2,2]
  exact⟨_,rfl,_,_,mL,(N27.dropN 2).kr,⟨_,rfl,rfl,(TH0.shutx Sli.nil Sli.nil Sli.nil)⟩⟩
 refine St (RR (Y f 1 λ_ f=>Z f (XO N17 0) λ_ f=>Ye f 2 λ_ f=>ah (ah ?_)))
 obtain⟨lb,iJ,F17⟩:=bS F16
 refine aW (λa_78 W18=>∃G2,lb=G2∧∃V7,V3.le V7∧Frm 141 ((80,bO G2)::kpL [0,2,6,7,8,9] f.fr) a_78∧Hp w0 V7 (N17.en) W18) ?_ ?_
 ·refine ay (Y f 1 λ_ f=>Z f (XO N17 0) λ_ f=>Y f 2 λ_ f=>?_)
  rcases cE iJ with⟨B10,F18⟩|⟨B10,F19⟩
  ·have f:=f.st 57 (cB B10)
   refine Ye f 23 λ_ f=>?_
   exact⟨_,(sI F18).symm,_,mL,f.kp,N17.kr⟩
  have f:=f.st 57 (cB B10)
  refine Y f 1 λ_ f=>Z f (Y11 rfl (l:=X3) (m:=[69,113,117,97,108,115])) λ_ f=>Y f 1 λ_ f=>?_
  rcases cE F19 with⟨B11,F20⟩|⟨B11,F31⟩
  ·have f:=f.st 60 (cB B11)
   refine Y f 5 λ_ f=>?_
   rcases cE F20 with⟨B12,F21⟩|⟨B12,F22⟩
   ·have f:=f.st 65 (cB B12)
    refine Ye f 15 λ_ f=>?_
    exact⟨_,(sI F21).symm,_,mL,f.kp,N17.kr⟩
   have f:=f.st 65 (cB B12)
   refine Y f 1 λ_ f=>Z f (Y11 rfl (l:=X3) (m:=[78,111,116])) λ_ f=>Y f 1 λ_ f=>?_
   rcases cE F22 with⟨B13,F23⟩|⟨B13,F28⟩
   ·have f:=f.st 68 (cB B13)
    refine Y f 5 λ_ f=>?_
    rcases cE F23 with⟨B14,F24⟩|⟨B14,F25⟩
    ·have f:=f.st 73 (cB B14)
     refine Ye f 7 λ_ f=>?_
     exact⟨_,(sI F24).symm,_,mL,f.kp,N17.kr⟩
    have f:=f.st 73 (cB B14)
    refine Y f 4 λ_ f=>?_
    rcases cE F25 with⟨B15,F26⟩|⟨B15,F27⟩
    ·have f:=f.st 77 (cB B15)
     refine Ye f 3 λ_ f=>?_
     exact⟨_,(sI F26).symm,_,mL,f.kp,N17.kr⟩
    have f:=f.st 77 (cB B15)
    refine Ye f 3 λ_ f=>?_
    exact⟨_,(sI F27).symm,_,mL,f.kp,N17.kr⟩
   have f:=f.st 68 (cB B13)
   refine Y f 9 λ_ f=>?_
   rcases cE F28 with⟨B16,F29⟩|⟨B16,F30⟩
   ·have f:=f.st 77 (cB B16)
    refine Ye f 3 λ_ f=>?_
    exact⟨_,(sI F29).symm,_,mL,f.kp,N17.kr⟩
   have f:=f.st 77 (cB B16)
   refine Ye f 3 λ_ f=>?_
   exact⟨_,(sI F30).symm,_,mL,f.kp,N17.kr⟩
  have f:=f.st 60 (cB B11)
  refine Y f 6 λ_ f=>Z f (Y11 rfl (l:=X3) (m:=[78,111,116])) λ_ f=>Y f 1 λ_ f=>?_
  rcases cE F31 with⟨B17,F32⟩|⟨B17,F37⟩
  ·have f:=f.st 68 (cB B17)
   refine Y f 5 λ_ f=>?_
   rcases cE F32 with⟨B18,F33⟩|⟨B18,F34⟩
   ·have f:=f.st 73 (cB B18)
    refine Ye f 7 λ_ f=>?_
    exact⟨_,(sI F33).symm,_,mL,f.kp,N17.kr⟩
   have f:=f.st 73 (cB B18)
   refine Y f 4 λ_ f=>?_
   rcases cE F34 with⟨B19,F35⟩|⟨B19,F36⟩
   ·have f:=f.st 77 (cB B19)
    refine Ye f 3 λ_ f=>?_
    exact⟨_,(sI F35).symm,_,mL,f.kp,N17.kr⟩
   have f:=f.st 77 (cB B19)
   refine Ye f 3 λ_ f=>?_
   exact⟨_,(sI F36).symm,_,mL,f.kp,N17.kr⟩
  have f:=f.st 68 (cB B17)
  refine Y f 9 λ_ f=>?_
  rcases cE F37 with⟨B20,F38⟩|⟨B20,F39⟩
  ·have f:=f.st 77 (cB B20)
   refine Ye f 3 λ_ f=>?_
   exact⟨_,(sI F38).symm,_,mL,f.kp,N17.kr⟩
  have f:=f.st 77 (cB B20)
  refine Ye f 3 λ_ f=>?_
  exact⟨_,(sI F39).symm,_,mL,f.kp,N17.kr⟩
 rintro a_78 W18 ⟨G2,hZ,V7,J7,f,N28⟩
 dsimp only[Hp.en] at N28
 subst lb
 refine az (RcF f F17 (λB21 F40=>?_) λB21 F42=>?_)
 ·refine RR (Y f 2 λ_ f=>?_)
  obtain⟨X8,l8,F41⟩:=bS F40
  have N30:=N28.pl [1]
  refine Ch f N30 (ax n _ b0 X1.2.1 X1.2.2 (120:Int) X5 X8 l8) λ_ V8 E_4 W19 J8 N29 nt _ f=>?_
  obtain⟨rfl,rfl⟩:=nt
  refine eT (RR (Y f 1 λ_ f=>Wu f N29 2 0 [S [],iB 0,iB 0,S [],iL 0,S [],S [],Sn,iB 0,S [],iL 0,S [],S [],Sn,Sn] λW20 N31 _ f=>Er (bl (bM f rfl (Rv.oN [S [],iB 0,iB 0,S [],iL 0,S [],S [],Sn,iB 0,S [],iL 0,S [],S [],Sn,Sn] f N31 2 0) ?_))))
  cases sI F41
  have N33:=N31.pl [2,2]
  exact⟨_,rfl,_,_,mL,(N33.dropN 2).kr,⟨_,rfl,rfl,(TH0.shutx Sli.nil Sli.nil Sli.nil)⟩⟩
 refine St (ah (RR (Y f 1 λ_ f=>Z f (Y11 rfl (l:=X3) (m:=[69,113,117,97,108,115])) λ_ f=>eT (RcF f F42 (λB22 F43=>?_) λB22 F52=>?_))))
 ·refine ah ?_
  obtain⟨ns,la,F44⟩:=bS F43
  refine aW (λa_106 W37=>∃G3,ns=G3∧∃V12,V7.le V12∧∃C5 c_8,Rep V12 (aA G3.1) c_8∧(∀j u,c_8[j]? =some u→V12.cell? (C5.add j)=some u)∧Frm 141 ((10,Pa C5)::kpL [0,2,6,8] f.fr) a_106∧Hp w0 V12 (setE (setE (selE [1,0,2] 3 N28.en) 0 0 [iL G3.2.1]) 0 1 [S G3.2.2]) W37) ?_ ?_
  ·have N40:=N28.pl [2,1,2]
   obtain⟨X9,l9,F45⟩:=bS la
   obtain⟨X10,l10,F46⟩:=bS F45
   obtain⟨X11,l11,F47⟩:=bS F46
   refine dG [9] 1 N40 (.quiet 0 (.quiet 1 (.quiet 2 (.quiet 3 (.quiet 4 (.quiet 5 (.quiet 6 (.alt 7 (.alt 8 .done .none) (.alt 8 (.alt 7 .done .none) .none))))))))) (Y1 (v:=pP b0) rfl f rfl rfl (λ_ _=>by kernel_rfl) λ_ f=>Y1 (v:=Pa (⟨Q4,4,none⟩)) rfl f rfl rfl (λ_ _=>by kernel_rfl) λ_ f=>Y1 rfl f rfl rfl (λ_ pq=>XO pq 0) λ_ f=>?_)
   obtain⟨C4,c_5,qn,D5,R6⟩:=Sli.aM V7 B6 l9
   obtain⟨Z9,P9,Z10,P10,rfl,B26,B27⟩:=TE0.opn D5
   refine Y1 rfl f rfl rfl (λ_ pq=>XI qn l9) λ_ f=>Y1 rfl f rfl rfl (λ_ pq=>XK pq R6 0) λ_ f=>Y1 (v:=S X5) rfl f rfl rfl (λ_ _=>by kernel_rfl) λ_ f=>oD (v:=S X10) rfl f kr kr rfl rfl (λ_=>by kernel_rfl) (cH n _ X5 (0:Int) X10 l10) λ_ f=>ao rfl (λW25 N42=>?_) ?_
   ·refine Ch f N42 (dA n _ b0 X1.2.1 X1.2.2 _ X9 D5.mo X10 X11 l11) λ_ V10 E_6 W26 J10 N43 so _ f=>?_
    obtain⟨c_6,rfl,rfl,D6⟩:=so
    obtain⟨Z11,P11,rfl,B28⟩:=TG0.opn D6
    refine ag rfl (ap 1 J10 N43 (ao rfl (λW27 N44=>?_) ?_))
    ·refine Y4 f N44 (.cells #[iB 0,S [],iL 0,S [],S [],Sn] 31 (0,0)) λQ6 W28 N45 _ f=>ag rfl (ap 2 J10 N45 (dp λW29 N46=>Wu f N46 0 0 (lTG0 X11.1 Z11 P11) λW30 N47 _ f=>ag rfl (jD ?_)))
     obtain⟨V13,J13,N56,R7⟩:=N47.fzOwn
     refine az ?_
     exact⟨_,(sI F47).symm,_,mL,⟨Q6,0,none⟩,_,D6.mo,(bF (R7) 0 rfl),f.kp,N56.kr⟩
    exact al
   refine ao rfl (λW31 N48=>?_) ?_
   ·refine Y4 f N48 (.cells #[iB 0,S [],iL 0,S [],S [],Sn] 31 (0,0)) λQ7 W32 N49 _ f=>ag rfl (ap 2 mL N49 (ao rfl (λW33 N50=>?_) ?_))
    ·have N52:=N50.pl [1]
     refine Ch f N52 (dA n _ b0 X1.2.1 X1.2.2 _ X9 D5.mo X10 X11 l11) λ_ V11 E_7 W34 J11 N51 q_7 _ f=>?_
     obtain⟨c_7,rfl,rfl,D7⟩:=q_7
     obtain⟨Z12,P12,rfl,B29⟩:=TG0.opn D7
     refine ag rfl (ap 2 J11 N51 (dp λW35 N53=>Wu f N53 1 0 (lTG0 X11.1 Z12 P12) λW36 N54 _ f=>ag rfl (jD ?_)))
     have N57:=N54.pl [1]
     obtain⟨V14,J14,N58,R8⟩:=N57.fzOwn
     refine az ?_
     exact⟨_,(sI F47).symm,_,mL,⟨Q7,0,none⟩,_,D7.mo,(bF (R8) 0 rfl),f.kp,N58.kr⟩
    exact al
   exact al
  rintro a_106 W37 ⟨G3,rY,V12,J12,C5,c_8,D8,qt,f,N55⟩
  dsimp only[Hp.en] at N55
  subst ns
  obtain⟨Z13,P13,rfl,B30⟩:=TG0.opn D8
  refine az (ah ?_)
  obtain⟨qh,mK,F48⟩:=bS F44
  refine aW (λa_128 W54=>∃G4,qh=G4∧∃V18,V12.le V18∧∃C8 c_14,Rep V18 (aA G4.1) c_14∧(∀j u,c_14[j]? =some u→V18.cell? (C8.add j)=some u)∧Frm 141 ((11,Pa C8)::kpL [6,10] f.fr) a_128∧Hp w0 V18 (setE (setE (N55.en) 0 0 [iL G4.2.1]) 0 1 [S G4.2.2]) W54) ?_ ?_
  ·obtain⟨X16,l12,F49⟩:=bS mK
   obtain⟨X17,l13,F50⟩:=bS F49
   obtain⟨X18,l14,F51⟩:=bS F50
   refine dG [9] 1 N55 (.quiet 0 (.quiet 1 (.quiet 2 (.quiet 3 (.quiet 4 (.quiet 5 (.quiet 6 (.alt 7 (.alt 8 .done .none) (.alt 8 (.alt 7 .done .none) .none))))))))) (Y1 (v:=pP b0) rfl f rfl rfl (λ_ _=>by kernel_rfl) λ_ f=>Y1 (v:=Pa (⟨Q4,4,none⟩)) rfl f rfl rfl (λ_ _=>by kernel_rfl) λ_ f=>Y1 rfl f rfl rfl (λ_ pq=>XO pq 0) λ_ f=>?_)
   obtain⟨C7,c_11,e_6,D11,R10⟩:=Sli.aM V12 B6 l12
   obtain⟨Z17,P17,Z18,P18,rfl,B34,B35⟩:=TE0.opn D11
   refine Y1 rfl f rfl rfl (λ_ pq=>XI e_6 l12) λ_ f=>Y1 rfl f rfl rfl (λ_ pq=>XK pq R10 0) λ_ f=>Y1 (v:=S X5) rfl f rfl rfl (λ_ _=>by kernel_rfl) λ_ f=>oD (v:=S X17) rfl f kr kr rfl rfl (λ_=>by kernel_rfl) (cH n _ X5 (1:Int) X17 l13) λ_ f=>ao rfl (λW42 N63=>?_) ?_
   ·refine Ch f N63 (dA n _ b0 G3.2.1 G3.2.2 _ X16 D11.mo X17 X18 l14) λ_ V16 E_9 W43 J16 N64 q_9 _ f=>?_
    obtain⟨c_12,rfl,rfl,D12⟩:=q_9
    obtain⟨Z19,P19,rfl,B36⟩:=TG0.opn D12
    refine ag rfl (ap 1 J16 N64 (ao rfl (λW44 N65=>?_) ?_))
    ·refine Y4 f N65 (.cells #[iB 0,S [],iL 0,S [],S [],Sn] 31 (0,0)) λQ9 W45 N66 _ f=>ag rfl (ap 2 J16 N66 (dp λW46 N67=>Wu f N67 0 0 (lTG0 X18.1 Z19 P19) λW47 N68 _ f=>ag rfl (jD ?_)))
     obtain⟨V19,J19,N77,R11⟩:=N68.fzOwn
     refine az ?_
     exact⟨_,(sI F51).symm,_,mL,⟨Q9,0,none⟩,_,D12.mo,(bF (R11) 0 rfl),f.kp,N77.kr⟩
    exact al
   refine ao rfl (λW48 N69=>?_) ?_
   ·refine Y4 f N69 (.cells #[iB 0,S [],iL 0,S [],S [],Sn] 31 (0,0)) λQ10 W49 N70 _ f=>ag rfl (ap 2 mL N70 (ao rfl (λW50 N71=>?_) ?_))
    ·have N73:=N71.pl [1]
     refine Ch f N73 (dA n _ b0 G3.2.1 G3.2.2 _ X16 D11.mo X17 X18 l14) λ_ V17 E_10 W51 J17 N72 q_10 _ f=>?_
     obtain⟨c_13,rfl,rfl,D13⟩:=q_10
     obtain⟨Z20,P20,rfl,B37⟩:=TG0.opn D13
     refine ag rfl (ap 2 J17 N72 (dp λW52 N74=>Wu f N74 1 0 (lTG0 X18.1 Z20 P20) λW53 N75 _ f=>ag rfl (jD ?_)))
     have N78:=N75.pl [1]
     obtain⟨V20,J20,N79,R12⟩:=N78.fzOwn
     refine az ?_
     exact⟨_,(sI F51).symm,_,mL,⟨Q10,0,none⟩,_,D13.mo,(bF (R12) 0 rfl),f.kp,N79.kr⟩
    exact al
   exact al
  rintro a_128 W54 ⟨G4,hq_6,V18,J18,C8,c_14,D14,hq_5,f,N76⟩
  dsimp only[Hp.en] at N76
  subst qh
  obtain⟨Z21,P21,rfl,B38⟩:=TG0.opn D14
  refine az (RR (Z f (XK N76 qt 0) λ_ f=>Z f (XK N76 hq_5 0) λ_ f=>Y f 1 λ_ f=>Wu f N76 2 0 [S [],iB 0,iB G3.1.ab,S G3.1.aa,iL G3.1.ak,S G3.1.av,S G3.1.aF,sL Z13 G3.1.fL P13,iB G4.1.ab,S G4.1.aa,iL G4.1.ak,S G4.1.av,S G4.1.aF,sL Z21 G4.1.fL P21,Sn] λW55 N80 _ f=>Er (bl (bM f rfl (Rv.oN [S [],iB 0,iB G3.1.ab,S G3.1.aa,iL G3.1.ak,S G3.1.av,S G3.1.aF,sL Z13 G3.1.fL P13,iB G4.1.ab,S G4.1.aa,iL G4.1.ak,S G4.1.av,S G4.1.aF,sL Z21 G4.1.fL P21,Sn] f N80 2 0) ?_))))
  cases sI F48
  have N82:=N80.pl [2,2]
  exact⟨_,rfl,_,_,mL,(N82.dropN 2).kr,⟨_,rfl,rfl,(TH0.shutx B30.mo B38 Sli.nil)⟩⟩
 refine St (RR (Y f 1 λ_ f=>Y4 f N28 (.cells #[S [],iB 0,iB 0,S [],iL 0,S [],S [],Sn,iB 0,S [],iL 0,S [],S [],Sn,Sn] 61 (0,0)) λQ11 W56 N83 _ f=>Wu f N83 0 0 [S [],iB 1,iB 0,S [],iL 0,S [],S [],Sn,iB 0,S [],iL 0,S [],S [],Sn,Sn] λW57 N84 _ f=>eT (ah (RR (Y f 1 λ_ f=>Z f (Y11 rfl (l:=X3) (m:=[79,114])) λ_ f=>eT ?_)))))
 obtain⟨j_5,hj_5,F53⟩:=bS F52
 refine aW (λa_140 W59=>∃G5,j_5=G5∧∃V21,V7.le V21∧Frm 141 (kpL [0,2,6,7,8,9,12] f.fr) a_140∧Hp w0 V21 (setE (N84.en) 0 1 [iB G5]) W59) ?_ ?_
 ·refine RcF f hj_5 (λB39 F54=>?_) λB39 F55=>?_
  ·refine ay (Y f 1 λ_ f=>Wt f N84 0 1 (iB 2) λW58 N85 _ f=>eT ?_)
   exact⟨_,(sI F54).symm,_,mL,f.kp,N85.kr⟩
  refine St ?_
  exact⟨_,(sI F55).symm,_,mL,f.kp,N84.kr⟩
 rintro a_140 W59 ⟨G5,hq_7,V21,J21,f,N86⟩
 dsimp only[Hp.en] at N86
 subst j_5
 refine az (ah (RR (Y f 1 λ_ f=>Z f (Y11 rfl (l:=X3) (m:=[78,111,116])) λ_ f=>eT ?_)))
 obtain⟨j_6,hj_6,F56⟩:=bS F53
 refine aW (λa_145 W61=>∃G6,j_6=G6∧∃V22,V21.le V22∧Frm 141 (kpL [0,2,6,8,9,12] f.fr) a_145∧Hp w0 V22 (setE (N86.en) 0 1 [iB G6]) W61) ?_ ?_
 ·refine RcF f hj_6 (λB40 F57=>?_) λB40 F58=>?_
  ·refine ay (Y f 1 λ_ f=>Wt f N86 0 1 (iB 3) λW60 N87 _ f=>eT ?_)
   exact⟨_,(sI F57).symm,_,mL,f.kp,N87.kr⟩
  refine St ?_
  exact⟨_,(sI F58).symm,_,mL,f.kp,N86.kr⟩
 rintro a_145 W61 ⟨G6,hq_8,V22,J22,f,N88⟩
 dsimp only[Hp.en] at N88
 subst j_6
 refine az (ah (RR (Ye f 1 λ_ f=>wp_block ?_)))
 obtain⟨Z22,P22,H2,N89⟩:=N88.nilC 0 14 61 15 (TH0)
 have D15:ae V22 (([]:List TH0).map aH) []:=rfl
 obtain⟨Q12,ce,F59⟩:=bS F56
 refine wp_mono (Q:=λe a w=>(e=.exit 0∧(∃G9,Q12=G9∧∃V28,V22.le V28∧∃Z37 P37 L5,ae V28 (G9.1.map aH) L5∧Frm 141 (kpL [6,12] f.fr) a∧Hp w0 V28 ((rO 61 15 Z37 G9.1 P37 L5)::setE (setE (setE (N89.en.drop 1) 0 14 [sL Z37 G9.1 P37]) 2 0 [iL G9.2.1]) 2 1 [S G9.2.2]) w))) (aZ (σ:=(Int×Int×Bs×List TH0)×Oa×Nat×Lv) (λx=>match x with|(I1,K1,Z23,P23,L1)=>(((13,iL K1.1)::kpL [0,2,6,8,9,12] f.fr),((rO 61 15 Z23 K1.t3 P23 L1)::setE (setE (setE (N89.en.drop 1) 0 14 [sL Z23 K1.t3 P23]) 2 0 [iL K1.2.1]) 2 1 [S K1.2.2.1]),λMM=>au (cp n rec_ref13_reader_cond X4 X5) I1 K1=some Q12∧ae MM (K1.t3.map aH) L1)) (n,((0:Int),X1.2.1,X1.2.2,([]:List TH0)),Z22,P22,[]) (f.kp) N89.kr ⟨ce,D15⟩ ?_) ?_
 ·rintro⟨I1,K1,Z23,P23,L1⟩ V23 _ W62 J23 gL f N90
  obtain⟨ci,D16⟩:=gL
  dsimp only[Hp.en] at N90
  obtain⟨I2,lT,rfl,bg,T1⟩:=aK ci
  unfold cp at bg
  refine ah (ah ?_)
  obtain⟨j_7,hj_7,F60⟩:=bS bg
  refine aW (λa_153 W63=>∃G7,j_7=G7∧∃V24,V23.le V24∧Frm 141 ((122,bO G7)::kpL [0,2,6,8,9,12,13] f.fr) a_153∧Hp w0 V24 (N90.en) W63) ?_ ?_
  ·refine ay (Y f 4 λ_ f=>?_)
   rcases cE hj_7 with⟨B41,F61⟩|⟨B41,F62⟩
   ·have f:=f.st 116 (cB B41)
    refine Y f 3 λ_ f=>Z f (XO N90 3) λ_ f=>Ye f 2 λ_ f=>?_
    exact⟨_,(sI F61).symm,_,mL,f.kp,N90.kr⟩
   have f:=f.st 116 (cB B41)
   refine Ye f 6 λ_ f=>?_
   exact⟨_,(sI F62).symm,_,mL,f.kp,N90.kr⟩
  rintro a_153 W63 ⟨G7,hq_9,V24,J24,f,N91⟩
  dsimp only[Hp.en] at N91
  subst j_7
  refine az (RcF f F60 (λB42 F63=>?_) λB42 F70=>?_)
  ·refine St (ah (wp_block ?_))
   obtain⟨j_8,hj_8,F64⟩:=bS F63
   refine aW (λa_182 W77=>∃G8,j_8=G8∧∃V27,V24.le V27∧∃Z36 P36 L4,ae V27 (G8.2.2.map aH) L4∧Frm 141 (kpL [0,2,6,8,9,12,13] f.fr) a_182∧Hp w0 V27 ((rO 61 15 Z36 G8.2.2 P36 L4)::setE (setE (setE (selE [3,1,2,4] 5 N91.en) 0 0 [iL G8.1]) 0 1 [S G8.2.1]) 1 14 [sL Z36 G8.2.2 P36]) W77) ?_ ?_
   ·have N101:=N91.pl [4,3,3,4,4]
    obtain⟨X23,l15,F65⟩:=bS hj_8
    obtain⟨X24,l16,F66⟩:=bS F65
    obtain⟨X25,l17,F67⟩:=bS F66
    obtain⟨O1,F68⟩:=nS F67
    refine dG [14,15] 2 N101 (.quiet 0 (.quiet 1 (.quiet 2 (.quiet 3 (.quiet 4 (.quiet 5 (.quiet 6 (.quiet 7 (.quiet 8 (.quiet 9 (.quiet 10 (.alt 11 (.alt 12 (.alt 13 .done .none) .none) .none)))))))))))) (Y1 (v:=Pa (⟨Q11,14,none⟩)) rfl f rfl rfl (λ_ _=>by kernel_rfl) λ_ f=>Y1 rfl f rfl rfl (λ_ pq=>XO pq 0) λ_ f=>Y1 (v:=pP b0) rfl f rfl rfl (λ_ _=>by kernel_rfl) λ_ f=>Y1 (v:=Pa (⟨Q4,4,none⟩)) rfl f rfl rfl (λ_ _=>by kernel_rfl) λ_ f=>Y1 rfl f rfl rfl (λ_ pq=>XO pq 1) λ_ f=>Y1 (v:=iL K1.1) rfl f rfl rfl (λ_ _=>by kernel_rfl) λ_ f=>?_)
    obtain⟨C10,c_17,e_8,D20,R14⟩:=Sli.aM V24 B6 l15
    obtain⟨Z30,P30,Z31,P31,rfl,B48,B49⟩:=TE0.opn D20
    refine Y1 rfl f rfl rfl (λ_ pq=>XI e_8 l15) λ_ f=>Y1 rfl f rfl rfl (λ_ pq=>XK pq R14 0) λ_ f=>Y1 (v:=S X5) rfl f rfl rfl (λ_ _=>by kernel_rfl) λ_ f=>Y1 (v:=iL K1.1) rfl f rfl rfl (λ_ _=>by kernel_rfl) λ_ f=>oD (v:=S X24) rfl f kr kr rfl rfl (λ_=>by kernel_rfl) (cH n _ X5 K1.1 X24 l16) λ_ f=>ao rfl (λW69 N103=>?_) ?_
    ·have N105:=N103.pl [1]
     refine Ch f N105 (hrec_ref13_reader_cond _ b0 K1.2.1 K1.2.2.1 _ X23 D20.mo X24 X25 l17) λ_ V26 E_12 W70 J26 N104 q_12 _ f=>?_
     obtain⟨c_18,rfl,rfl,D21⟩:=q_12
     obtain⟨Z32,P32,Z33,P33,Z34,P34,rfl,B50,B51,B52⟩:=TH0.opn D21
     refine ag rfl (ap 2 J26 N104 (ao rfl (λW71 N106=>?_) ?_))
     ·refine aE (k:=1) (c:=1) f N106 (.cells (aTH0 X25.1 Z32 P32 Z33 P33 Z34 P34) 61 (0,0)) kr (λ_=>by kernel_rfl) λQ14 W72 N107 _ f=>ag rfl (ap 3 J26 N107 (ao rfl (λW73 N108=>?_) ?_))
      ·refine dM X25.1 0 f (N108.toRow 2 61 15 Z23 P23 D16.mo) D16.mo (TH0.shutx B50 B51 B52) O1 λZ35 P35 L3 W74 N109 D22 _ f=>ag rfl (ap 2 J26 N109 (dp λW75 N110=>Y f 1 λ_ f=>Wt f N110 2 14 (sL Z35 (K1.t3++[X25.1]) P35) λW76 N111 _ f=>ag rfl (jD (az ?_))))
       exact⟨_,(sI F68).symm,_,J26,Z35,P35,L3,D22,f.kp,N111.kr⟩
      exact al
     exact al
    exact al
   rintro a_182 W77 ⟨G8,hq_10,V27,J27,Z36,P36,L4,D23,f,N112⟩
   dsimp only[Hp.en] at N112
   subst j_8
   refine ec (az (ay (Y f 1 λ_ f=>?_)))
   obtain⟨O2,F69⟩:=nS F64
   refine Y f 1 λ_ f=>?_
   have f:=f.st 124 (iW O2)
   refine Y f 1 λ_ f=>ag rfl ?_
   have N118:=N112.pl [4,2,4,4,4]
   refine az ?_
   cases sI F69
   exact⟨⟨_,_,Z36,P36,L4⟩,Nat.lt_succ_self _,_,mL,⟨T1,D23⟩,f.kp,N118.kr⟩
  refine wp_exit (dJ (dJ ?_))
  cases sI F70
  exact⟨rfl,_,(sI T1).symm,_,mL,Z23,P23,L1,D16.mo,f.kp,N91.kr⟩
 rintro _ _ W79 ⟨rfl,G9,hq_,V28,J28,Z37,P37,L5,D24,f,N113⟩
 subst Q12
 refine jV (az (RR (Z f (XO N113 1) λ_ f=>?_)))
 obtain⟨Z38,P38,V29,H3,J29,N119,B53⟩:=N113.rowSliK (f:=aH) (xs:=G9.1) 0 61 Z37 P37 dH D24
 have f:=Frm.set f 140 (v:=.agg #[S [],.int .i8 G6,.int .i8 0,S [],.int .i64 0,S [],S [],.slice none 0 0,.int .i8 0,S [],.int .i64 0,S [],S [],.slice none 0 0,.slice Z37 G9.1.length P37]) (v':=.agg #[S [],.int .i8 G6,.int .i8 0,S [],.int .i64 0,S [],S [],.slice none 0 0,.int .i8 0,S [],.int .i64 0,S [],S [],.slice none 0 0,.slice Z38 G9.1.length P38]) (by kernel_rfl) (by rw[H3])
 try simp only[sL] at H3 N119
 rw[H3] at N119
 refine Wu f N119 3 0 [S [],iB G6,iB 0,S [],iL 0,S [],S [],Sn,iB 0,S [],iL 0,S [],S [],Sn,sL Z38 G9.1 P38] λW80 N121 _ f=>Er (bM f rfl (Rv.oN [S [],iB G6,iB 0,S [],iL 0,S [],S [],Sn,iB 0,S [],iL 0,S [],S [],Sn,sL Z38 G9.1 P38] f N121 3 0) ?_)
 cases sI F59
 have N125:=N121.pl [2,3,3,3]
 exact⟨_,rfl,_,_,mL,(N125.dropN 3).kr,⟨_,rfl,rfl,(TH0.shutx Sli.nil Sli.nil B53)⟩⟩
def cJ (n:Nat):Nat→Int→Bs→TE0→Bs→Option (TH0×Int×Bs)
 |0=>λ_ _ _ _=>none
 |k+1=>eU n (cJ n k)
def kj (n:Nat) (aO:Int) (aC:Bs) (d1:TE0) (d2:Bs):Option (TH0×Int×Bs):=cJ n n aO aC d1 d2
theorem nU (n:Nat) (M:Mem) (b0:Nat) (aO:Int) (aC:Bs) (c1:Lv) (d1:TE0) (h1:Rep M (ai d1) c1) (d2:Bs) (r:TH0×Int×Bs) (hF:kj n aO aC d1 d2=some r):OkH Tryz.prog M [oC b0 #[iL aO,S aC] 54] 107 [pP b0,.agg c1.toArray,S d2] (λM' E' v=>∃ (c0:Lv),v=.agg c0.toArray∧E'=[oC b0 #[iL r.2.1,S r.2.2] 54]∧Rep M' (aH r.1) c0):=by
 have key: ∀ (k:Nat) (M:Mem) (b0:Nat) (aO:Int) (aC:Bs) (c1:Lv) (d1:TE0) (h1:Rep M (ai d1) c1) (d2:Bs) (r:TH0×Int×Bs) (hF:cJ n k aO aC d1 d2=some r),OkH Tryz.prog M [oC b0 #[iL aO,S aC] 54] 107 [pP b0,.agg c1.toArray,S d2] (λM' E' v=>∃ (c0:Lv),v=.agg c0.toArray∧E'=[oC b0 #[iL r.2.1,S r.2.2] 54]∧Rep M' (aH r.1) c0):=by
  intro k
  induction k with
  |zero=>intro M b0 aO aC c1 d1 h1 d2 r hF;simp[cJ] at hF
  |succ k ih=>intro M b0 aO aC c1 d1 h1 d2 r hF;exact na n (cJ n k) ih M b0 aO aC c1 d1 h1 d2 r hF
 exact key n M b0 aO aC c1 d1 h1 d2 r hF
def bK (n:Nat) (aO:Int) (aC:Bs) (d1:Bs) (d2:TE0) (d3:Bs):Option (TH0×Int×Bs):=
 (kj n aO aC d2 d3).bind λX1=>
 bif(decide (X1.1.ab=4)) then
  ((bt n d3 [67,111,110,100,105,116,105,111,110]).bind λX2=>
  (aq n X1.2.1 X1.2.2 (120:Int) X2).bind λX3=>
  some (((⟨d1,X1.1.ab,X1.1.fA,X1.1.fB,X1.1.fL⟩:TH0),X3.1,X3.2)))
 else
  some (((⟨d1,X1.1.ab,X1.1.fA,X1.1.fB,X1.1.fL⟩:TH0),X1.2.1,X1.2.2))
theorem mA (n:Nat) (M:Mem) (b0:Nat) (aO:Int) (aC:Bs) (d1:Bs) (c2:Lv) (d2:TE0) (h2:Rep M (ai d2) c2) (d3:Bs) (r:TH0×Int×Bs) (hF:bK n aO aC d1 d2 d3=some r):OkH Tryz.prog M [oC b0 #[iL aO,S aC] 54] 62 [pP b0,S d1,.agg c2.toArray,S d3] (λM' E' v=>∃ (c0:Lv),v=.agg c0.toArray∧E'=[oC b0 #[iL r.2.1,S r.2.2] 54]∧Rep M' (aH r.1) c0):=by
 unfold bK at hF
 intro M1 hM0 w0 H w p0
 replace h2:=Rep.mono hM0 _ _ h2
 obtain⟨Z1,P1,Z2,P2,rfl,B1,B2⟩:=TE0.opn h2
 refine Re 24 Tryz.func62 rfl λa0 f0=>RR (Y5 (cs:=(aTE0 d2 Z1 P1 Z2 P2)) (T:=26) f0 p0 λQ1 V1 W1 J1 R1 N1 _ f=>?_)
 have R2:=aU R1
 refine Y4 f N1 (.cells #[S [],iB 0,iB 0,S [],iL 0,S [],S [],Sn,iB 0,S [],iL 0,S [],S [],Sn,Sn] 61 (0,0)) λQ2 W2 N2 _ f=>eT (RR (Y f 1 λ_ f=>Z f (XK N2 R2 0) λ_ f=>Y f 1 λ_ f=>?_))
 obtain⟨X1,l1,F1⟩:=bS hF
 have N4:=N2.pl [1]
 refine Ch f N4 (nU n _ b0 aO aC _ d2 h2.mo d3 X1 l1) λ_ V2 mG W3 J2 N3 ef _ f=>?_
 obtain⟨dW,rfl,rfl,D1⟩:=ef
 obtain⟨Z3,P3,Z4,P4,Z5,P5,rfl,B3,B4,B5⟩:=TH0.opn D1
 refine Y4 f N3 (.cells #[S [],iB 0,iB 0,S [],iL 0,S [],S [],Sn,iB 0,S [],iL 0,S [],S [],Sn,Sn] 61 (0,0)) λQ3 W4 N5 _ f=>Wu f N5 0 0 (lTH0 X1.1 Z3 P3 Z4 P4 Z5 P5) λW5 N6 _ f=>eT (ah (RR (Y f 1 λ_ f=>Z f (XO N6 0) λ_ f=>Ye f 1 λ_ f=>RcF f F1 (λB6 F2=>?_) λB6 F5=>?_)))
 ·refine ay (Y f 2 λ_ f=>?_)
  obtain⟨X2,l2,F3⟩:=bS F2
  refine Y9 f N6 (be n _ d3 [67,111,110,100,105,116,105,111,110] X2 l2) λW6 N7 _ f=>?_
  obtain⟨X3,l3,F4⟩:=bS F3
  have N9:=N7.pl [1]
  refine Ch f N9 (ax n _ b0 X1.2.1 X1.2.2 (120:Int) X2 X3 l3) λ_ V3 rB W7 J3 N8 iK _ f=>?_
  obtain⟨rfl,rfl⟩:=iK
  refine eT (RR (Y f 2 λ_ f=>Wt f N8 1 0 (S d1) λW8 N10 _ f=>eT (RR (Z f (XO N10 1) λ_ f=>Wu f N10 2 0 [S d1,iB X1.1.ab,iB X1.1.fA.ab,S X1.1.fA.aa,iL X1.1.fA.ak,S X1.1.fA.av,S X1.1.fA.aF,sL Z3 X1.1.fA.fL P3,iB X1.1.fB.ab,S X1.1.fB.aa,iL X1.1.fB.ak,S X1.1.fB.av,S X1.1.fB.aF,sL Z4 X1.1.fB.fL P4,sL Z5 X1.1.fL P5] λW9 N11 _ f=>Er (bM f rfl (Rv.oN [S d1,iB X1.1.ab,iB X1.1.fA.ab,S X1.1.fA.aa,iL X1.1.fA.ak,S X1.1.fA.av,S X1.1.fA.aF,sL Z3 X1.1.fA.fL P3,iB X1.1.fB.ab,S X1.1.fB.aa,iL X1.1.fB.ak,S X1.1.fB.av,S X1.1.fB.aF,sL Z4 X1.1.fB.fL P4,sL Z5 X1.1.fL P5] f N11 2 0) ?_)))))
  cases sI F4
  have N13:=N11.pl [2,2]
  exact⟨_,rfl,_,_,mL,(N13.dropN 2).kr,⟨_,rfl,rfl,(TH0.shutx B3.mo B4.mo B5.mo)⟩⟩
 refine St (RR (Y f 2 λ_ f=>Wt f N6 0 0 (S d1) λW10 N14 _ f=>eT (RR (Z f (XO N14 0) λ_ f=>Wu f N14 2 0 [S d1,iB X1.1.ab,iB X1.1.fA.ab,S X1.1.fA.aa,iL X1.1.fA.ak,S X1.1.fA.av,S X1.1.fA.aF,sL Z3 X1.1.fA.fL P3,iB X1.1.fB.ab,S X1.1.fB.aa,iL X1.1.fB.ak,S X1.1.fB.av,S X1.1.fB.aF,sL Z4 X1.1.fB.fL P4,sL Z5 X1.1.fL P5] λW11 N15 _ f=>Er (bM f rfl (Rv.oN [S d1,iB X1.1.ab,iB X1.1.fA.ab,S X1.1.fA.aa,iL X1.1.fA.ak,S X1.1.fA.av,S X1.1.fA.aF,sL Z3 X1.1.fA.fL P3,iB X1.1.fB.ab,S X1.1.fB.aa,iL X1.1.fB.ak,S X1.1.fB.av,S X1.1.fB.aF,sL Z4 X1.1.fB.fL P4,sL Z5 X1.1.fL P5] f N15 2 0) ?_)))))
 cases sI F5
 have N18:=N15.pl [1,2,2]
 exact⟨_,rfl,_,_,mL,(N18.dropN 2).kr,⟨_,rfl,rfl,(TH0.shutx B3 B4 B5)⟩⟩
def cU (n:Nat) (aO:Int) (aC:Bs) (d1:TE0) (d2:Bs) (d3:Bs):Option (Bs×Int×Bs):=
 (eh n d1 d3).bind λX1=>
 bif !X1.2 then
  (some ((([]:Bs),aO,aC)))
 else
  (dU n X1.1).bind λX2=>
  bif !X2 then
   ((bt n d2 d3).bind λX3=>
   (aq n aO aC (120:Int) X3).bind λX4=>
   some ((X1.1.aa,X4.1,X4.2)))
  else
   some ((X1.1.aa,aO,aC))
theorem kx (n:Nat) (M:Mem) (b0:Nat) (aO:Int) (aC:Bs) (c1:Lv) (d1:TE0) (h1:Rep M (ai d1) c1) (d2:Bs) (d3:Bs) (r:Bs×Int×Bs) (hF:cU n aO aC d1 d2 d3=some r):OkH Tryz.prog M [oC b0 #[iL aO,S aC] 54] 108 [pP b0,.agg c1.toArray,S d2,S d3] (λM' E' v=>v=S r.1∧E'=[oC b0 #[iL r.2.1,S r.2.2] 54]):=by
 unfold cU at hF
 intro M1 hM0 w0 H w p0
 replace h1:=Rep.mono hM0 _ _ h1
 obtain⟨Z1,P1,Z2,P2,rfl,B1,B2⟩:=TE0.opn h1
 refine Re 29 Tryz.func108 rfl λa0 f0=>RR (Y5 (cs:=(aTE0 d1 Z1 P1 Z2 P2)) (T:=26) f0 p0 λQ1 V1 W1 J1 R1 N1 _ f=>?_)
 have R2:=aU R1
 refine Ye f 1 λ_ f=>RR (Z f (XK N1 R2 0) λ_ f=>Y f 1 λ_ f=>?_)
 obtain⟨X1,l1,F1⟩:=bS hF
 refine Y8 f N1 (cZ n _ _ d1 h1.mo d3 X1 l1) λ_ V2 W2 J2 N2 ef _ f=>?_
 obtain⟨dW,rfl,D1⟩:=ef
 obtain⟨Z3,P3,Z4,P4,rfl,B3,B4⟩:=TE0.opn D1
 refine Y f 3 λ_ f=>Y4 f N2 (.cells #[iB 0,bO false,iL 0,S [],Sn,Sn] 26 (0,0)) λQ2 W3 N3 _ f=>Wu f N3 0 0 (lTE0 X1.1 Z3 P3 Z4 P4) λW4 N4 _ f=>Ye f 1 λ_ f=>ah (RR (Ye f 2 λ_ f=>RcF f F1 (λB5 F2=>?_) λB5 F3=>?_))
 ·refine RR (Ye f 1 λ_ f=>wp_ret (bl (am f rfl (Lk 8 (S [])) ?_)))
  cases sI F2
  exact⟨_,rfl,_,_,mL,(N4.dropN 1).kr,⟨rfl,rfl⟩⟩
 refine St (ah (RR (Z f (XO N4 0) λ_ f=>?_)))
 obtain⟨X2,l2,F4⟩:=bS F3
 refine Y9 f N4 (gf n _ _ X1.1 D1.mo X2 l2) λW5 N5 _ f=>Ye f 1 λ_ f=>RcF f F4 (λB6 F5=>?_) λB6 F8=>?_
 ·refine ay (Y f 3 λ_ f=>?_)
  obtain⟨X3,l3,F6⟩:=bS F5
  refine Y9 f N5 (be n _ d2 d3 X3 l3) λW6 N6 _ f=>?_
  obtain⟨X4,l4,F7⟩:=bS F6
  have N8:=N6.pl [1]
  refine Ch f N8 (ax n _ b0 aO aC (120:Int) X3 X4 l4) λ_ V3 mG W7 J3 N7 iK _ f=>?_
  obtain⟨rfl,rfl⟩:=iK
  refine eT (RR (Y f 1 λ_ f=>Z f (XO N7 1) λ_ f=>Ye f 1 λ_ f=>wp_ret (am f rfl (Lk 8 (S X1.1.aa)) ?_)))
  cases sI F7
  have N9:=N7.pl [1]
  exact⟨_,rfl,_,_,mL,(N9.dropN 1).kr,⟨rfl,rfl⟩⟩
 refine St (RR (Y f 1 λ_ f=>Z f (XO N5 0) λ_ f=>Ye f 1 λ_ f=>wp_ret (am f rfl (Lk 8 (S X1.1.aa)) ?_)))
 cases sI F8
 exact⟨_,rfl,_,_,mL,(N5.dropN 1).kr,⟨rfl,rfl⟩⟩
def ck (n:Nat) (X1:TE0×Bool) (X2:Bs) (K1:List Bs×Int×Int×Bs) (K2:Int×Int×Bs):Option (Lp (Int×Int×Bs) (Int×Bs)):=
    bif(decide (K2.1<((K1.1.length:Nat):Int))) then
     ((aB K1.1 K2.1).bind λX10=>
     (aB X1.1.ac K1.2.1).bind λX11=>
     bif(decide (X10=X11.aa)) then
      ((bx n X2 K1.2.1).bind λX12=>
      (aq n K2.2.1 K2.2.2 (41:Int) X12).bind λX13=>
      aL (inR .i64 (K2.1+1))<|
      some (.nx (K2.1+1,X13.1,X13.2)))
     else
      aL (inR .i64 (K2.1+1))<|
      some (.nx (K2.1+1,K2.2.1,K2.2.2)))
    else
     some (.br (K2.2.1,K2.2.2))
def bQ (n:Nat) (X1:TE0×Bool) (X2:Bs) (K1:List Bs×Int×Int×Bs):Option (Lp (List Bs×Int×Int×Bs) (List Bs×Int×Bs)):=
    ((bif(decide (K1.2.1<((X1.1.ac.length:Nat):Int))) then
     (some ((decide (K1.2.2.1=0))))
      else
       some ((false)):Option Bool)).bind λG3=>
    bif G3 then
     ((aB X1.1.ac K1.2.1).bind λX6=>
     (dU n X6).bind λX7=>
     ((bif !X7 then
      ((bx n X2 K1.2.1).bind λX8=>
      (aq n K1.2.2.1 K1.2.2.2 (120:Int) X8).bind λX9=>
      some ((X9.1,X9.2)))
       else
        some ((K1.2.2.1,K1.2.2.2)):Option (Int×Bs))).bind λG4=>
     (au (ck n X1 X2 K1) n ((0:Int),G4.1,G4.2)).bind λG5=>
     (aB X1.1.ac K1.2.1).bind λX14=>
     aL ((K1.1.length+1)*16≤140737488355328)<|
     aL (inR .i64 (K1.2.1+1))<|
     some (.nx (K1.1++[X14.aa],K1.2.1+1,G5.1,G5.2)))
    else
     some (.br (K1.1,K1.2.2.1,K1.2.2.2))
def cS (n:Nat) (aO:Int) (aC:Bs) (d1:TE0) (d2:Bs):Option (List Bs×Int×Bs):=
 (eh n d1 [68,101,112,101,110,100,115,79,110]).bind λX1=>
 ((bif !X1.2 then
  (some ((true)))
   else
    some ((!(decide (aO=0)))):Option Bool)).bind λG1=>
 bif G1 then
  (some ((([]:List Bs),aO,aC)))
 else
  (bt n d2 [68,101,112,101,110,100,115,79,110]).bind λX2=>
  (dU n X1.1).bind λX3=>
  bif X3 then
   (some ((([X1.1.aa]:List Bs),aO,aC)))
  else
   bif(!(decide (X1.1.ab=4))) then
    ((aq n aO aC (120:Int) X2).bind λX4=>
    some ((([]:List Bs),X4.1,X4.2)))
   else
    ((bif(decide ((8:Int)<((X1.1.ac.length:Nat):Int))) then
     ((aq n aO aC (3:Int) X2).bind λX5=>
     some ((X5.1,X5.2)))
      else
       some ((aO,aC)):Option (Int×Bs))).bind λG2=>
    (au (bQ n X1 X2) n (([]:List Bs),(0:Int),G2.1,G2.2)).bind λG6=>
    some ((G6.1,G6.2.1,G6.2.2))
set_option maxRecDepth 20000 in
theorem mB (n:Nat) (M:Mem) (b0:Nat) (aO:Int) (aC:Bs) (c1:Lv) (d1:TE0) (h1:Rep M (ai d1) c1) (d2:Bs) (r:List Bs×Int×Bs) (hF:cS n aO aC d1 d2=some r):OkH Tryz.prog M [oC b0 #[iL aO,S aC] 54] 109 [pP b0,.agg c1.toArray,S d2] (λM' E' v=>∃ (A0:Oa) (k0:Nat),v=sL A0 r.1 k0∧E'=[oC b0 #[iL r.2.1,S r.2.2] 54]∧Sli M' 1 Dat.str A0 k0 r.1):=by
 unfold cS at hF
 intro M1 hM0 w0 H w p0
 replace h1:=Rep.mono hM0 _ _ h1
 obtain⟨Z1,P1,Z2,P2,rfl,B1,B2⟩:=TE0.opn h1
 refine Re 104 Tryz.func109 rfl λa0 f0=>RR (Y5 (cs:=(aTE0 d1 Z1 P1 Z2 P2)) (T:=26) f0 p0 λQ1 V1 W1 J1 R1 N1 _ f=>?_)
 have R2:=aU R1
 refine Ye f 1 λ_ f=>RR (Z f (XK N1 R2 0) λ_ f=>?_)
 obtain⟨X1,l1,F1⟩:=bS hF
 refine Y8 f N1 (cZ n _ _ d1 h1.mo [68,101,112,101,110,100,115,79,110] X1 l1) λ_ V2 W2 J2 N2 ef _ f=>?_
 obtain⟨dW,rfl,D1⟩:=ef
 obtain⟨Z3,P3,Z4,P4,rfl,B3,B4⟩:=TE0.opn D1
 refine Y f 3 λ_ f=>Y4 f N2 (.cells #[iB 0,bO false,iL 0,S [],Sn,Sn] 26 (0,0)) λQ2 W3 N3 _ f=>Wu f N3 0 0 (lTE0 X1.1 Z3 P3 Z4 P4) λW4 N4 _ f=>Ye f 1 λ_ f=>ah (ah ?_)
 obtain⟨eF,cL,F2⟩:=bS F1
 refine aW (λa_14 W5=>∃G1,eF=G1∧∃V3,V2.le V3∧Frm 104 ((25,bO G1)::kpL [0,2,7] f.fr) a_14∧Hp w0 V3 (N4.en) W5) ?_ ?_
 ·refine ay (Y f 3 λ_ f=>?_)
  rcases cE cL with⟨B5,F3⟩|⟨B5,F4⟩
  ·have f:=f.st 19 (cB B5)
   refine Ye f 6 λ_ f=>?_
   exact⟨_,(sI F3).symm,_,mL,f.kp,N4.kr⟩
  have f:=f.st 19 (cB B5)
  refine Y f 3 λ_ f=>Z f (XO N4 1) λ_ f=>Ye f 2 λ_ f=>?_
  exact⟨_,(sI F4).symm,_,mL,f.kp,N4.kr⟩
 rintro a_14 W5 ⟨G1,eS,V3,J3,f,N5⟩
 dsimp only[Hp.en] at N5
 subst eF
 refine az (RcF f F2 (λB6 F5=>?_) λB6 F6=>?_)
 ·refine RR (Ye f 1 λ_ f=>wp_ret (bl (am f rfl (Lk 6 Sn) ?_)))
  cases sI F5
  exact⟨_,rfl,_,_,mL,(N5.dropN 1).kr,⟨none,0,rfl,rfl,Sli.nil⟩⟩
 refine St (RR (Y f 1 λ_ f=>?_))
 obtain⟨X2,l2,F7⟩:=bS F6
 refine Y9 f N5 (be n _ d2 [68,101,112,101,110,100,115,79,110] X2 l2) λW6 N6 _ f=>Ye f 1 λ_ f=>ah (RR (Z f (XO N6 0) λ_ f=>?_))
 obtain⟨X3,l3,F8⟩:=bS F7
 refine Y9 f N6 (gf n _ _ X1.1 (TE0.shutx B3.mo B4.mo) X3 l3) λW7 N7 _ f=>eT (RcF f F8 (λB7 F9=>?_) λB7 F10=>?_)
 ·refine RR (Y f 1 λ_ f=>Z f (XO N7 0) λ_ f=>aE (k:=1) (c:=1) f N7 (.cells #[S X1.1.aa] 9 (0,0)) kr (λ_=>by kernel_rfl) λQ3 W8 N8 _ f=>Ye f 1 λ_ f=>wp_ret (bl ?_))
  obtain⟨Z5,P5,V4,H1,J4,N9,B8⟩:=N8.litS (f:=Dat.str) 1 bH (dD ([X1.1.aa]:List Bs))
  have f:=f.st 6 (H1)
  refine am f rfl (Lk 6 (sL Z5 ([X1.1.aa]:List Bs) P5)) ?_
  cases sI F9
  exact⟨_,rfl,_,_,mL,(N9.dropN 1).kr,⟨Z5,P5,rfl,rfl,B8⟩⟩
 refine St (ah (RR (Y f 1 λ_ f=>Z f (XO N7 0) λ_ f=>Ye f 1 λ_ f=>RcF f F10 (λB9 F11=>?_) λB9 F13=>?_)))
 ·refine RR (Y f 2 λ_ f=>?_)
  obtain⟨X4,l4,F12⟩:=bS F11
  have N11:=N7.pl [1]
  refine Ch f N11 (ax n _ b0 aO aC (120:Int) X2 X4 l4) λ_ V5 mG W9 J5 N10 iK _ f=>?_
  obtain⟨rfl,rfl⟩:=iK
  refine eT (RR (Ye f 1 λ_ f=>wp_ret (bl (am f rfl (Lk 6 Sn) ?_))))
  cases sI F12
  have N12:=N10.pl [1]
  exact⟨_,rfl,_,_,mL,(N12.dropN 1).kr,⟨none,0,rfl,rfl,Sli.nil⟩⟩
 refine St (ah (RR (Y f 1 λ_ f=>Z f (XO N7 0) λ_ f=>Ye f 2 λ_ f=>?_)))
 obtain⟨lb,iJ,F14⟩:=bS F13
 refine aW (λa_36 W11=>∃G2,lb=G2∧∃V7,V3.le V7∧Frm 104 (kpL [0,2,7] f.fr) a_36∧Hp w0 V7 (setE (setE (selE [1,0] 2 N7.en) 0 0 [iL G2.1]) 0 1 [S G2.2]) W11) ?_ ?_
 ·refine RcF f iJ (λB10 F15=>?_) λB10 F17=>?_
  ·refine ay (Y f 2 λ_ f=>?_)
   obtain⟨X5,l5,F16⟩:=bS F15
   have N14:=N7.pl [1]
   refine Ch f N14 (ax n _ b0 aO aC (3:Int) X2 X5 l5) λ_ V6 rB W10 J6 N13 mi _ f=>?_
   obtain⟨rfl,rfl⟩:=mi
   refine eT ?_
   exact⟨_,(sI F16).symm,_,J6,f.kp,N13.kr⟩
  refine wp_skip ?_
  have N16:=N7.pl [1]
  refine az ?_
  exact⟨_,(sI F17).symm,_,mL,f.kp,N16.kr⟩
 rintro a_36 W11 ⟨G2,hZ,V7,J7,f,N15⟩
 dsimp only[Hp.en] at N15
 subst lb
 refine az (RR (Ye f 1 λ_ f=>ah (RR (Ye f 1 λ_ f=>wp_block ?_))))
 obtain⟨Z6,P6,H2,N17⟩:=N15.nilD 9 1 Bs
 have f:=f.st 9 (H2)
 have D2:ae V7 (([]:List Bs).map Dat.str) []:=rfl
 obtain⟨Q4,ce,F18⟩:=bS F14
 refine wp_mono (Q:=λe a w=>(e=.exit 0∧(∃G6,Q4=G6∧∃V17,V7.le V17∧∃Z16 P16 L3,ae V17 (G6.1.map Dat.str) L3∧Frm 104 [(9,sL Z16 G6.1 P16)] a∧Hp w0 V17 ((rO 9 1 Z16 G6.1 P16 L3)::setE (setE (N17.en.drop 1) 0 0 [iL G6.2.1]) 0 1 [S G6.2.2]) w))) (aZ (σ:=(List Bs×Int×Int×Bs)×Oa×Nat×Lv) (λx=>match x with|(I1,K1,Z7,P7,L1)=>(((9,sL Z7 K1.1 P7)::(10,iL K1.2.1)::kpL [0,2,7] f.fr),((rO 9 1 Z7 K1.1 P7 L1)::setE (setE (N17.en.drop 1) 0 0 [iL K1.2.2.1]) 0 1 [S K1.t3]),λMM=>au (bQ n X1 X2) I1 K1=some Q4∧ae MM (K1.1.map Dat.str) L1)) (n,(([]:List Bs),(0:Int),G2.1,G2.2),Z6,P6,[]) (f.kp) N17.kr ⟨ce,D2⟩ ?_) ?_
 ·rintro⟨I1,K1,Z7,P7,L1⟩ V8 _ W12 J8 gL f N18
  obtain⟨ci,D3⟩:=gL
  dsimp only[Hp.en] at N18
  obtain⟨I2,lT,rfl,bg,T1⟩:=aK ci
  unfold bQ at bg
  refine ah (ah ?_)
  obtain⟨ns,la,F19⟩:=bS bg
  refine aW (λa_47 W13=>∃G3,ns=G3∧∃V9,V8.le V9∧Frm 104 ((57,bO G3)::kpL [0,2,7,9,10] f.fr) a_47∧Hp w0 V9 (N18.en) W13) ?_ ?_
  ·refine ay (Y f 2 λ_ f=>Z f (XO N18 2) λ_ f=>Y f 3 λ_ f=>?_)
   rcases cE la with⟨B11,F20⟩|⟨B11,F21⟩
   ·have f:=f.st 51 (cB B11)
    refine Y f 3 λ_ f=>Z f (XO N18 1) λ_ f=>Ye f 2 λ_ f=>?_
    exact⟨_,(sI F20).symm,_,mL,f.kp,N18.kr⟩
   have f:=f.st 51 (cB B11)
   refine Ye f 6 λ_ f=>?_
   exact⟨_,(sI F21).symm,_,mL,f.kp,N18.kr⟩
  rintro a_47 W13 ⟨G3,qt,V9,J9,f,N19⟩
  dsimp only[Hp.en] at N19
  subst ns
  refine az (RcF f F19 (λB12 F22=>?_) λB12 F44=>?_)
  ·refine St (ah (wp_block (ah (RR (Y f 1 λ_ f=>Z f (XO N19 2) λ_ f=>Y f 1 λ_ f=>?_)))))
   obtain⟨X6,l6,F23⟩:=bS F22
   obtain⟨C1,ie,jC,D4,R3⟩:=N19.at_ B3 l6
   obtain⟨Z8,P8,Z9,P9,rfl,B13,B14⟩:=TE0.opn D4
   refine Z f (XI jC l6) λ_ f=>Z f (XK N19 R3 0) λ_ f=>?_
   obtain⟨X7,l7,F24⟩:=bS F23
   refine Y9 f N19 (gf n _ _ X6 D4.mo X7 l7) λW14 N20 _ f=>Ye f 1 λ_ f=>?_
   obtain⟨qh,mK,F25⟩:=bS F24
   refine aW (λa_58 W17=>∃G4,qh=G4∧∃V11,V9.le V11∧Frm 104 (kpL [0,2,7,9,10] f.fr) a_58∧Hp w0 V11 (setE (setE (selE [1,0,2] 3 N20.en) 0 0 [iL G4.1]) 0 1 [S G4.2]) W17) ?_ ?_
   ·refine RcF f mK (λB15 F26=>?_) λB15 F29=>?_
    ·refine ay (Y f 3 λ_ f=>?_)
     obtain⟨X8,l8,F27⟩:=bS F26
     refine Y9 f N20 (cH n _ X2 K1.2.1 X8 l8) λW15 N21 _ f=>?_
     obtain⟨X9,l9,F28⟩:=bS F27
     have N23:=N21.pl [1]
     refine Ch f N23 (ax n _ b0 K1.2.2.1 K1.t3 (120:Int) X8 X9 l9) λ_ V10 E_3 W16 J10 N22 nt _ f=>?_
     obtain⟨rfl,rfl⟩:=nt
     refine eT ?_
     exact⟨_,(sI F28).symm,_,J10,f.kp,N22.kr⟩
    refine wp_skip ?_
    have N27:=N20.pl [2,1,2]
    refine az ?_
    exact⟨_,(sI F29).symm,_,mL,f.kp,N27.kr⟩
   rintro a_58 W17 ⟨G4,rY,V11,J11,f,N24⟩
   dsimp only[Hp.en] at N24
   subst qh
   refine az (ah (RR (Ye f 1 λ_ f=>wp_block ?_)))
   obtain⟨Q5,nI,F30⟩:=bS F25
   refine wp_mono (Q:=λe a w=>(e=.exit 2∧(∃G5,Q5=G5∧∃V16,V11.le V16∧Frm 104 (kpL [0,2,7,9,10] f.fr) a∧Hp w0 V16 (setE (setE (N24.en) 0 0 [iL G5.1]) 0 1 [S G5.2]) w))) (aZ (σ:=(Int×Int×Bs)) (λx=>match x with|(I3,K2)=>(((11,iL K2.1)::kpL [0,2,7,9,10] f.fr),(setE (setE (N24.en) 0 0 [iL K2.2.1]) 0 1 [S K2.2.2]),λMM=>au (ck n X1 X2 K1) I3 K2=some Q5)) (n,((0:Int),G4.1,G4.2)) (f.kp) N24.kr nI ?_) ?_
   ·rintro⟨I3,K2⟩ V12 _ W18 J12 I_2 f N28
    have nv:=I_2
    dsimp only[Hp.en] at N28
    obtain⟨I4,r_2,rfl,kM,T2⟩:=aK nv
    unfold ck at kM
    refine ah (RR (Ye f 4 λ_ f=>RcF f kM (λB16 F31=>?_) λB16 F40=>?_))
    ·refine St (ah (wp_block (ah ?_)))
     have N29:=N28.pl [1]
     obtain⟨V13,Z10,P10,J13,H3,N30,B17,kc⟩:=N29.lend (f:=Dat.str) (xs:=K1.1) bH D3.mo
     have f:=f.st 9 (H3)
     refine iG N30 kr kr (Y2 default f 2 λ_ f=>?_)
     obtain⟨X10,l10,F32⟩:=bS F31
     obtain⟨C2,lQ,ly,D5,R4⟩:=Sli.aM V13 B17 l10
     obtain rfl:lQ=[S X10]:=D5
     refine bD f kr (λ_ pq=>XI ly l10) λ_ f=>gx f R4 0 rfl kr kr λ_ f=>Y2 default f 1 λ_ f=>bD f kr (λ_ pq=>XO pq 1) λ_ f=>Y2 default f 1 λ_ f=>?_
     obtain⟨X11,l11,F33⟩:=bS F32
     obtain⟨C3,rJ,qm,D6,R5⟩:=Sli.aM V13 B3 l11
     obtain⟨Z11,P11,Z12,P12,rfl,B18,B19⟩:=TE0.opn D6
     refine bD f kr (λ_ pq=>XI qm l11) λ_ f=>Y2 default f 1 λ_ f=>gx f R5 3 rfl kr kr λ_ f=>bD (v:=bO (decide (X10=X11.aa))) f kr (λ_ pq=>Y11 rfl (l:=X10) (m:=X11.aa)) λ_ f=>iS rfl ?_
     intro W19 N31
     obtain⟨V14,J14,N32⟩:=kc _ _ _ (mR _) N31
     have f:=f.st 9 (H3.symm)
     refine az (RcF f F33 (λB20 F34=>?_) λB20 F38=>?_)
     ·refine ay (Y f 3 λ_ f=>?_)
      obtain⟨X12,l12,F35⟩:=bS F34
      refine Y9 f N32 (cH n _ X2 K1.2.1 X12 l12) λW20 N33 _ f=>?_
      obtain⟨X13,l13,F36⟩:=bS F35
      have N35:=N33.pl [1]
      refine Ch f N35 (ax n _ b0 K2.2.1 K2.2.2 (41:Int) X12 X13 l13) λ_ V15 E_4 W21 J15 N34 pg _ f=>?_
      obtain⟨rfl,rfl⟩:=pg
      refine ag rfl (ec (az (ay (Y f 1 λ_ f=>?_))))
      obtain⟨O1,F37⟩:=nS F36
      refine Y f 1 λ_ f=>?_
      have f:=f.st 77 (iW O1)
      refine Ye f 1 λ_ f=>?_
      cases sI F37
      exact⟨⟨_,_⟩,Nat.lt_succ_self _,_,mL,T2,f.kp,N34.kr⟩
     refine wp_skip (ec (az (ay (Y f 1 λ_ f=>?_))))
     obtain⟨O2,F39⟩:=nS F38
     refine Y f 1 λ_ f=>?_
     have f:=f.st 77 (iW O2)
     refine Y f 1 λ_ f=>ag rfl ?_
     have N39:=N32.pl [2,1,2]
     refine az ?_
     cases sI F39
     exact⟨⟨_,_⟩,Nat.lt_succ_self _,_,mL,T2,f.kp,N39.kr⟩
    refine wp_exit (dJ (dJ ?_))
    cases sI F40
    exact⟨rfl,_,(sI T2).symm,_,J12,f.kp,N28.kr⟩
   rintro _ _ W23 ⟨rfl,G5,hq_,V16,J16,f,N36⟩
   subst Q5
   refine jV (az (ay (Y f 2 λ_ f=>Z f (XO N36 2) λ_ f=>Y f 1 λ_ f=>?_)))
   obtain⟨X14,l14,F41⟩:=bS F30
   obtain⟨C4,c_5,qn,D7,R6⟩:=N36.at_ B3 l14
   obtain⟨Z13,P13,Z14,P14,rfl,B21,B22⟩:=TE0.opn D7
   refine Z f (XI qn l14) λ_ f=>Y f 1 λ_ f=>Y7 f N36 R6 3 rfl λ_ f=>aE (k:=1) (c:=1) f N36 (.cells #[S X14.aa] 9 (0,0)) kr (λ_=>by kernel_rfl) λQ6 W24 N40 _ f=>?_
   obtain⟨O3,F42⟩:=nS F41
   refine dM X14.aa 0 f (N40.toRow 2 9 1 Z7 P7 D3.mo) D3.mo rfl O3 λZ15 P15 L2 W25 N41 D8 _ f=>Y f 1 λ_ f=>ag rfl (ec (az (ay (Y f 1 λ_ f=>?_))))
   obtain⟨O4,F43⟩:=nS F42
   refine Y f 1 λ_ f=>?_
   have f:=f.st 59 (iW O4)
   refine Ye f 1 λ_ f=>?_
   cases sI F43
   exact⟨⟨_,_,Z15,P15,L2⟩,Nat.lt_succ_self _,_,mL,⟨T1,D8⟩,f.kp,N41.kr⟩
  refine wp_exit (dJ (dJ ?_))
  cases sI F44
  exact⟨rfl,_,(sI T1).symm,_,mL,Z7,P7,L1,D3.mo,f.kp,N19.kr⟩
 rintro _ _ W27 ⟨rfl,G6,hq_,V17,J17,Z16,P16,L3,D9,f,N42⟩
 subst Q4
 refine jV (az (RR (Ye f 2 λ_ f=>wp_ret ?_)))
 obtain⟨Z17,P17,V18,H4,J18,N43,B23⟩:=N42.rowSliK (f:=Dat.str) (xs:=G6.1) 0 9 Z16 P16 bH D9
 have f:=f.st 6 (H4)
 refine am f rfl (Lk 6 (sL Z17 G6.1 P17)) ?_
 cases sI F18
 have N44:=N43.pl [1]
 exact⟨_,rfl,_,_,mL,(N44.dropN 1).kr,⟨Z17,P17,rfl,rfl,B23⟩⟩
def cM (n:Nat) (d1:TE0) (d2:Bs) (X2:List Bs) (K1:List TF0×Int×Int×Bs):Option (Lp (List TF0×Int×Int×Bs) (List TF0×Int×Bs)):=
    ((bif(decide (K1.2.1<((X2.length:Nat):Int))) then
     (some ((decide (K1.2.2.1=0))))
      else
       some ((false)):Option Bool)).bind λG1=>
    bif G1 then
     ((((aB X2 K1.2.1).bind λX3=>
       (eh n d1 X3).bind λX4=>
       some (X4.1):Option TE0)).bind λG2=>
     (aB X2 K1.2.1).bind λX8=>
     (gt n X8).bind λX9=>
     ((bif !X9 then
      ((aB X2 K1.2.1).bind λX10=>
      (bt n d2 X10).bind λX11=>
      (aq n K1.2.2.1 K1.2.2.2 (120:Int) X11).bind λX12=>
      some ((X12.1,X12.2)))
       else
        some ((K1.2.2.1,K1.2.2.2)):Option (Int×Bs))).bind λG3=>
     (aB X2 K1.2.1).bind λX13=>
     (aB X2 K1.2.1).bind λX14=>
     (bt n d2 X14).bind λX15=>
     (cf n G3.1 G3.2 G2 X15).bind λX16=>
     aL ((K1.1.length+1)*104≤140737488355328)<|
     aL (inR .i64 (K1.2.1+1))<|
     some (.nx (K1.1++[(⟨X13,X16.1⟩:TF0)],K1.2.1+1,X16.2.1,X16.2.2)))
    else
     some (.br (K1.1,K1.2.2.1,K1.2.2.2))
def cV (n:Nat) (aO:Int) (aC:Bs) (d1:TE0) (d2:Bs):Option (List TF0×Int×Bs):=
 bif(!(decide (aO=0))) then
  (some ((([]:List TF0),aO,aC)))
 else
  bif(!(decide (d1.ab=5))) then
   ((aq n aO aC (120:Int) d2).bind λX1=>
   some ((([]:List TF0),X1.1,X1.2)))
  else
   (jT n d1).bind λX2=>
   (au (cM n d1 d2 X2) n (([]:List TF0),(0:Int),aO,aC)).bind λG4=>
   some ((G4.1,G4.2.1,G4.2.2))
end Go.Proofs.YtkopljikappieaaGreatDoor
