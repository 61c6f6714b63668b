/-
  Texts of this claim, packed (what nothing names is left out): Q4i, Q3c, Q4h, Q4d, TreeM, S6, VkG, AllM, AllH, S1. Own work, partly printed by own programs. No condition.
-/
import Derived.Test.YtkhdpnamfndonaaGreatDoorPkS2
import Derived.Test.YtkhdpnamfndonaaGreatDoorPkS1
import Derived.Test.YtkhdpnamfndonaaGreatDoorRows
set_option linter.unusedVariables false
set_option linter.unusedSimpArgs false
set_option maxHeartbeats 2000000
section
namespace Go.Proofs.YtkhdpnamfndonaaGreatDoor
open Go Go.Vc Go.RowKit
def gk (n:Nat) (d0:TF0) (K1:List Int×Int):Option (Lp (List Int×Int) (List Int)):=
    bif(decide (K1.2<(((List.replicate ((d0.ae.length:Nat):Int).toNat (0:Int)).length:Nat):Int))) then
     ((aR K1.1 K1.2).bind λX1=>
     aZ (inR .i64 (K1.2+1))<|
     some (.nx (K1.1.set K1.2.toNat K1.2,K1.2+1)))
    else
     some (.br K1.1)
def kD (n:Nat) (d0:TF0):Option (List Int):=
 aZ (0≤((d0.ae.length:Nat):Int)∧((d0.ae.length:Nat):Int)*8≤140737488355328∧((d0.ae.length:Nat):Int)≤140737488355328)<|
 (aN (gk n d0) n (List.replicate ((d0.ae.length:Nat):Int).toNat (0:Int),(0:Int))).bind λG1=>
 (lU n d0 G1).bind λX2=>
 some (X2)
theorem sr (n:Nat) (M:Mem) (hG:GL M) (ad0:Addr) (c0:List Value) (d0:TF0) (h0:Rep M (ay d0) c0) (q0: ∀j v,c0[j]? =some v→M.cell? (ad0.add j)=some v) (r:List Int) (hF:kD n d0=some r):OkH Tryz.prog M [] 122 [.pointer (some ad0)] (λM' E' v=>∃ (A0:Option Addr) (k0:Nat) (s0:List Value),v=.slice A0 r.length k0∧E'=[.row 3 1 (.slice A0 r.length k0) r.length s0]∧aa M' (r.map (Dat.int .i64)) s0):=by
 unfold kD at hF
 intro M1 hM0 w0 H w p0
 replace hG:=GL.mono hM0 hG
 replace h0:=Rep.mono hM0 _ _ h0
 replace q0:=λj v h=>hM0.cell (q0 j v h)
 obtain⟨Z1,P1,Z2,P2,rfl,B1,B2⟩:=TF0.opn h0
 refine aD 25 Tryz.func122 rfl rfl (by simp) λa0 f0=>RR (Y13 (cs:=#[.pointer (some ad0)]) (T:=115) f0 p0 λQ1 V1 W1 J1 R1 N1 _ f=>?_)
 have R2:=bR R1
 refine Y f 1 λ_ f=>eT (RR (Y15 f N1 R2 0 rfl λ_ f=>Y f 2 λ_ f=>Y15 f N1 (fzu J1 q0) 5 rfl λ_ f=>Y f 1 λ_ f=>?_))
 obtain⟨O1,F1⟩:=nS hF
 refine Y25 (f:=(Dat.int .i64)) (x:=(0:Int)) (z:=.int .i64 0) (m:=((d0.ae.length:Nat):Int)) (bytes:=8) (e:=3) f N1 (by exact rfl) rfl rfl rfl rfl O1 λZ3 P3 L1 W2 N2 D1 _ f=>Y f 1 λ_ f=>eT (ag (RR (Y f 3 λ_ f=>eT (wp_block ?_))))
 obtain⟨Q2,bH,F2⟩:=bS F1
 refine wp_mono (Q:=λe a w=>(e=.exit 0∧(∃G1:List Int,Q2=G1∧∃V3:Mem,V1.le V3∧∃ (Z5:Option Addr),∃ (P6:Nat),∃ (L3:List Value),aa V3 (G1.map (Dat.int .i64)) L3∧Frm 25 [(1,.pointer (some (⟨Q1,0,none⟩))),(3,.slice Z5 G1.length P6)] a∧Hp w0 V3 ((Ent.row 3 1 (.slice Z5 G1.length P6) G1.length L3)::H) w))) (bu (n:=25) (w0:=w0) (M:=V1) (λ (x:Nat× (List Int×Int)× (Option Addr)×Nat× (List Value))=>match x with|(I1,K1,Z4,P4,L2)=>[(1,.pointer (some (⟨Q1,0,none⟩))),(3,.slice Z4 K1.1.length P4),(12,.int .i64 (((List.replicate ((d0.ae.length:Nat):Int).toNat (0:Int)).length:Nat):Int)),(13,.int .i64 K1.2)]) (λ (x:Nat× (List Int×Int)× (Option Addr)×Nat× (List Value))=>match x with|(I1,K1,Z4,P4,L2)=>((Ent.row 3 1 (.slice Z4 K1.1.length P4) K1.1.length L2)::H)) (λ (x:Nat× (List Int×Int)× (Option Addr)×Nat× (List Value)) (MM:Mem)=>match x with|(I1,K1,Z4,P4,L2)=>aN (gk n d0) I1 K1=some Q2∧aa MM (K1.1.map (Dat.int .i64)) L2) (λ (x:Nat× (List Int×Int)× (Option Addr)×Nat× (List Value))=>match x with|(I1,K1,Z4,P4,L2)=>I1) (n,(List.replicate ((d0.ae.length:Nat):Int).toNat (0:Int),(0:Int)),Z3,P3,L1) (f.kp) N2 ⟨bH,D1⟩ ?_) ?_
 ·rintro⟨I1,K1,Z4,P4,L2⟩ V2 _ W3 J2 dc f N3
  obtain⟨bI,D2⟩:=dc
  obtain⟨I2,jP,rfl,be,T1⟩:=aT bI
  unfold gk at be
  refine RR (Y f 1 λ_ f=>eT (ag (RcF f be (λB3 F3=>?_) λB3 F6=>?_)))
  ·have U1:=dI.1 B3
   refine wp_skip (aH (ag (wp_block (RR (Y f 2 λ_ f=>eT (aI (Y f 3 λ_ f=>?_)))))))
   obtain⟨X1,S1,F4⟩:=bS F3
   obtain⟨Q3,P5,H1,mh⟩:=N3.rowAddr 0 rfl (eX S1)
   have f:=f.st 16 (H1)
   refine Z f (Y33 rfl (ad:=⟨Q3,0,none⟩) (len:=K1.1.length) (cap:=P5) (k:=.i64) (i:=K1.2) (e:=3) (sz:=1) (aF S1) (aE S1)) λ_ f=>?_
   have f:=f.st 16 (H1.symm)
   refine Y26 (it:=K1.2) (d:=K1.1) (f:=(Dat.int .i64)) (xv:=K1.2) (v:=.int .i64 K1.2) f N3 H1 rfl rfl (by exact rfl) (dX .i64) S1 D2 λW4 N4 D3 _ f=>?_
   have N5:Hp w0 V2 ((Ent.row 3 1 (.slice Z4 (K1.1.set K1.2.toNat K1.2).length P4) (K1.1.set K1.2.toNat K1.2).length (L2.set K1.2.toNat (.int .i64 K1.2)))::H) W4:=N4.rowVal (by simp only[List.length_set])
   have f:=Frm.set f 3 (v:=.slice Z4 K1.1.length P4) (v':=.slice Z4 (K1.1.set K1.2.toNat K1.2).length P4) (by kernel_rfl) (by simp only[List.length_set])
   have f:=Frm.set f 16 (v:=.slice Z4 K1.1.length P4) (v':=.slice Z4 (K1.1.set K1.2.toNat K1.2).length P4) (by kernel_rfl) (by simp only[List.length_set])
   refine aA rfl (cG (aH (aI ?_)))
   obtain⟨O2,F5⟩:=nS F4
   refine Y f 1 λ_ f=>?_
   have f:=f.st 20 (iW O2)
   refine Y f 1 λ_ f=>eT ?_
   obtain rfl:=sI F5
   exact⟨⟨I2,(K1.1.set K1.2.toNat K1.2,K1.2+1),Z4,P4,L2.set K1.2.toNat (.int .i64 K1.2)⟩,Nat.lt_succ_self _,V2,J2,⟨T1,D3⟩,f.kp,N5⟩
  ·have U2:=ap dI B3
   refine wp_exit (co (co ?_))
   obtain rfl:=sI F6
   exact⟨rfl,K1.1,(sI T1).symm,V2,J2,Z4,P4,L2,D2,f.kp,N3⟩
 ·rintro _ _ W6 ⟨rfl,G1,hq_,V3,J3,Z5,P6,L3,D4,f,N6⟩
  subst Q2
  refine iq (aH (RR (Y f 2 λ_ f=>?_)))
  obtain⟨X2,S2,F7⟩:=bS F2
  refine Y17 (E:=[Ent.row 3 1 (.slice Z5 G1.length P6) G1.length L3]) (H:=(H)) f N6 (sortKeys_ok n (c0:=[.int .i8 d0.ab,.bool d0.ak,.int .i64 d0.an,S d0.ah,.slice Z1 d0.ac.length P1,.slice Z2 d0.ae.length P2]) (TF0.shutx (x:=d0) (B1.mono (J1.trans J3)) (B2.mono (J1.trans J3))) (fzu (J1.trans J3) q0) ((fzu J3 R2) 0 _ rfl) _ _ _ D4 _ S2) λ_ V4 E_1 W7 J4 N7 jO _ f=>?_
  obtain⟨L4,rfl,rfl,D5,hl_1⟩:=jO
  have H2: (.slice Z5 G1.length P6:Value)=.slice Z5 X2.length P6:=by rw[hl_1]
  have N8:Hp w0 V4 ((Ent.row 3 1 (.slice Z5 X2.length P6) X2.length L4)::H) W7:=by rw[←H2];exact N7
  have f:=f.st 3 (H2)
  have f:=f.st 21 (H2)
  refine eT (RR (Y f 2 λ_ f=>eT (wp_ret (ao f rfl (by kernel_rfl:Vc.look _ 2=some (.slice Z5 X2.length P6)) ?_))))
  obtain rfl:=sI F7
  exact⟨_,rfl,V4,_,((J1.trans J3).trans J4),N8,⟨Z5,P6,L4,rfl,rfl,D5⟩⟩
def ep (n:Nat) (rec_tree_sorted:TF0→Option TF0) (d0:TF0) (X1:List Int) (K1:Int×List TF0×List Bs):Option (Lp (Int×List TF0×List Bs) (List TF0×List Bs)):=
    bif(decide (K1.1<((X1.length:Nat):Int))) then
     ((aR X1 K1.1).bind λX2=>
     (((aR d0.ae X2).bind λX3=>
       aZ ((K1.2.2.length+1)*16≤140737488355328)<|
       some (K1.2.2++[X3]):Option (List Bs))).bind λG1=>
     (((aR d0.ac X2).bind λX5=>
       (rec_tree_sorted X5).bind λX6=>
       aZ ((K1.2.1.length+1)*80≤140737488355328)<|
       some (K1.2.1++[(⟨X6.ab,(X6.ak),X6.an,X6.ah,X6.ac,X6.ae⟩:TF0)]):Option (List TF0))).bind λG2=>
     aZ (inR .i64 (K1.1+1))<|
     some (.nx (K1.1+1,G2,G1)))
    else
     some (.br (K1.2.1,K1.2.2))
def eq (n:Nat) (rec_tree_sorted:TF0→Option TF0) (d0:TF0) (K2:Int×List TF0):Option (Lp (Int×List TF0) (List TF0)):=
    bif(decide (K2.1<((d0.ac.length:Nat):Int))) then
     ((((aR d0.ac K2.1).bind λX9=>
       (rec_tree_sorted X9).bind λX10=>
       aZ ((K2.2.length+1)*80≤140737488355328)<|
       some (K2.2++[(⟨X10.ab,(X10.ak),X10.an,X10.ah,X10.ac,X10.ae⟩:TF0)]):Option (List TF0))).bind λG4=>
     aZ (inR .i64 (K2.1+1))<|
     some (.nx (K2.1+1,G4)))
    else
     some (.br K2.2)
def io (n:Nat) (rec_tree_sorted:TF0→Option TF0) (d0:TF0):Option TF0:=
 bif(decide (d0.ab=5)) then
  ((kD n d0).bind λX1=>
  (aN (ep n rec_tree_sorted d0 X1) n ((0:Int),([]:List TF0),([]:List Bs))).bind λG3=>
  some ((⟨d0.ab,(d0.ak),d0.an,d0.ah,G3.1,G3.2⟩:TF0)))
 else
  (aN (eq n rec_tree_sorted d0) n ((0:Int),([]:List TF0))).bind λG5=>
  some ((⟨d0.ab,(d0.ak),d0.an,d0.ah,G5,([]:List Bs)⟩:TF0))
set_option maxRecDepth 20000 in
theorem pz (n:Nat) (rec_tree_sorted:TF0→Option TF0) (hrec_tree_sorted: ∀ (M:Mem) (hG:GL M) (ad0:Addr) (c0:Lv) (d0:TF0) (h0:Rep M (ay d0) c0) (q0: ∀j v,c0[j]? =some v→M.cell? (ad0.add j)=some v) (r:TF0) (hF:rec_tree_sorted d0=some r),Ok Tryz.prog M 116 [Pa ad0] (λM' v=>∃ (c0:Lv),v=.agg c0.toArray∧Rep M' (ay r) c0)) (M:Mem) (hG:GL M) (ad0:Addr) (c0:Lv) (d0:TF0) (h0:Rep M (ay d0) c0) (q0: ∀j v,c0[j]? =some v→M.cell? (ad0.add j)=some v) (r:TF0) (hF:io n rec_tree_sorted d0=some r):Ok Tryz.prog M 116 [Pa ad0] (λM' v=>∃ (c0:Lv),v=.agg c0.toArray∧Rep M' (ay r) c0):=by
 unfold io at hF
 intro M1 hM0 w0 H w p0
 replace hG:=GL.mono hM0 hG
 replace h0:=Rep.mono hM0 _ _ h0
 replace q0:=λj v h=>hM0.cell (q0 j v h)
 obtain⟨Z1,P1,Z2,P2,rfl,B1,B2⟩:=TF0.opn h0
 refine Re 84 Tryz.func116 rfl λa0 f0=>RR (Y12 f0 p0 (.cells #[iB 0,bO false,iL 0,S [],Sn,Sn] 73 (0,0)) λQ1 W1 N1 _ f=>eT (ag (oL (E:=[]) (Hr:=((oC Q1 #[iB 0,bO false,iL 0,S [],Sn,Sn] 73)::H)) [(0,true),(1,true),(2,true),(3,true),(4,true),(5,true),(6,true),(7,true),(8,true),(9,true),(10,true),(11,true),(12,true),(13,true),(14,true),(15,true),(16,true),(17,false),(18,false)] N1 kr kr rfl kr (Y0 default f 3 λ_ f=>iO (v:=iB d0.ab) f kr kr rfl rfl (λ_ pq=>Y35 (v:=iB d0.ab) rfl (ad:=ad0.add 0) (pq.cell (q0 0 _ rfl))) λ_ f=>Y0 default f 3 λ_ f=>iO (v:=bO d0.ak) f kr kr rfl rfl (λ_ pq=>Y35 (v:=bO d0.ak) rfl (ad:=ad0.add 1) (pq.cell (q0 1 _ rfl))) λ_ f=>Y0 default f 3 λ_ f=>iO (v:=iL d0.an) f kr kr rfl rfl (λ_ pq=>Y35 (v:=iL d0.an) rfl (ad:=ad0.add 2) (pq.cell (q0 2 _ rfl))) λ_ f=>Y0 default f 3 λ_ f=>iO (v:=S d0.ah) f kr kr rfl rfl (λ_ pq=>Y35 (v:=S d0.ah) rfl (ad:=ad0.add 3) (pq.cell (q0 3 _ rfl))) λ_ f=>Y0 default f 1 λ_ f=>eY (E:=[]) λW2 N2=>Y12 f N2 (.cells #[iB 0,bO false,iL 0,S [],Sn,Sn] 73 (0,0)) λQ2 W3 N3 _ f=>aA rfl (jR (M1:=M1) (E:=[oC Q2 #[iB 0,bO false,iL 0,S [],Sn,Sn] 73]) (mR _) N3 (eY (E:=[oC Q2 #[iB 0,bO false,iL 0,S [],Sn,Sn] 73]) λW4 N4=>Ys [iB d0.ab,bO d0.ak,iL d0.an,S d0.ah,Sn,Sn] #[iB d0.ab,bO d0.ak,iL d0.an,S d0.ah,Sn,Sn] f N4 rfl rfl λW5 N5 _ f=>aA rfl (jR (M1:=M1) (E:=[oC Q2 #[iB d0.ab,bO d0.ak,iL d0.an,S d0.ah,Sn,Sn] 73]) (mR _) N5 (mB rfl λW6 N6=>aH (ag (RR (Y f 3 λ_ f=>Y15 f N6 q0 0 rfl λ_ f=>Ye f 1 λ_ f=>RcF f hF (λB3 F1=>?_) λB3 F15=>?_)))))))))))
 ·have U1:=dI.1 B3
  refine ag (RR (Y f 1 λ_ f=>?_))
  obtain⟨X1,S1,F2⟩:=bS F1
  refine Y17 (E:=[]) (H:=((oC Q2 #[iB d0.ab,bO d0.ak,iL d0.an,S d0.ah,Sn,Sn] 73)::(oC Q1 #[iB 0,bO false,iL 0,S [],Sn,Sn] 73)::H)) f N6 (sr n _ hG ad0 (lTF0 d0 Z1 P1 Z2 P2) d0 (TF0.shutx (x:=d0) B1 B2) (gE (q0) 0 rfl) X1 S1) λ_ V1 E_1 W7 J1 N7 jO _ f=>?_
  obtain⟨Z3,P3,L1,rfl,rfl,D1⟩:=jO
  refine Ye f 2 λ_ f=>wp_block ?_
  obtain⟨Z4,P4,H1⟩: ∃A cap,Value.slice none 0 0=.slice A ([]:List TF0).length cap:=⟨none,0,rfl⟩
  have N8:Hp w0 V1 ((Ent.row 73 6 (.slice Z4 ([]:List TF0).length P4) ([]:List TF0).length [])::(Ent.row 3 1 (.slice Z3 X1.length P3) X1.length L1)::(Ent.obj Q2 (.cells #[.int .i8 d0.ab,.bool d0.ak,.int .i64 d0.an,S d0.ah,.slice Z4 ([]:List TF0).length P4,.slice none 0 0] 73 (0,0)))::(Ent.obj Q1 (.cells #[.int .i8 0,.bool false,.int .i64 0,S [],.slice none 0 0,.slice none 0 0] 73 (0,0)))::H) W7:=by rw[←H1];exact N7.nilRow 73 6
  have D2:aa V1 (([]:List TF0).map ay) []:=rfl
  obtain⟨Z5,P5,H2⟩: ∃A cap,Value.slice none 0 0=.slice A ([]:List (List UInt8)).length cap:=⟨none,0,rfl⟩
  have N9:Hp w0 V1 ((Ent.row 9 1 (.slice Z5 ([]:List (List UInt8)).length P5) ([]:List (List UInt8)).length [])::(Ent.row 73 6 (.slice Z4 ([]:List TF0).length P4) ([]:List TF0).length [])::(Ent.row 3 1 (.slice Z3 X1.length P3) X1.length L1)::(Ent.obj Q2 (.cells #[.int .i8 d0.ab,.bool d0.ak,.int .i64 d0.an,S d0.ah,.slice Z4 ([]:List TF0).length P4,.slice Z5 ([]:List (List UInt8)).length P5] 73 (0,0)))::(Ent.obj Q1 (.cells #[.int .i8 0,.bool false,.int .i64 0,S [],.slice none 0 0,.slice none 0 0] 73 (0,0)))::H) W7:=by rw[←H2];exact N8.nilRow 9 1
  have D3:aa V1 (([]:List Bs).map Dat.str) []:=rfl
  have N14:=N9.pl [4,4,4,3,4]
  obtain⟨Q3,bH,F3⟩:=bS F2
  refine wp_mono (Q:=λe a w=>(e=.exit 0∧(∃G3:List TF0×List Bs,Q3=G3∧∃V7:Mem,V1.le V7∧∃ (Z22:Oa),∃ (P23:Nat),∃ (L10:Lv),∃ (Z23:Oa),∃ (P24:Nat),∃ (L11:Lv),aa V7 (G3.1.map ay) L10∧aa V7 (G3.2.map Dat.str) L11∧Frm 84 [(2,pP Q1),(3,pP Q2)] a∧Hp w0 V7 ((rO 73 6 Z22 G3.1 P23 L10)::(rO 9 1 Z23 G3.2 P24 L11)::(rO 3 1 Z3 X1 P3 L1)::(oC Q2 #[iB d0.ab,bO d0.ak,iL d0.an,S d0.ah,sL Z22 G3.1 P23,sL Z23 G3.2 P24] 73)::(oC Q1 #[iB 0,bO false,iL 0,S [],Sn,Sn] 73)::H) w))) (bu (n:=84) (w0:=w0) (M:=V1) (λ (I1,K1,Z6,P6,L2,Z7,P7,L3)=>[(0,Pa ad0),(2,pP Q1),(3,pP Q2),(30,sL Z3 X1 P3),(31,iL ((X1.length:Nat):Int)),(32,iL K1.1)]) (λ (I1,K1,Z6,P6,L2,Z7,P7,L3)=>((rO 73 6 Z6 K1.2.1 P6 L2)::(rO 9 1 Z7 K1.2.2 P7 L3)::(rO 3 1 Z3 X1 P3 L1)::(oC Q2 #[iB d0.ab,bO d0.ak,iL d0.an,S d0.ah,sL Z6 K1.2.1 P6,sL Z7 K1.2.2 P7] 73)::(oC Q1 #[iB 0,bO false,iL 0,S [],Sn,Sn] 73)::H)) (λ (I1,K1,Z6,P6,L2,Z7,P7,L3) MM=>aN (ep n rec_tree_sorted d0 X1) I1 K1=some Q3∧aa MM (K1.2.1.map ay) L2∧aa MM (K1.2.2.map Dat.str) L3) (λ (I1,K1,Z6,P6,L2,Z7,P7,L3)=>I1) (n,((0:Int),([]:List TF0),([]:List Bs)),Z4,P4,[],Z5,P5,[]) (f.kp) N14 ⟨bH,D2,D3⟩ ?_) ?_
  ·rintro⟨I1,K1,Z6,P6,L2,Z7,P7,L3⟩ V2 _ W8 J2 dc f N15
   obtain⟨bI,D4,D5⟩:=dc
   obtain⟨I2,jP,rfl,be,T1⟩:=aT bI
   unfold ep at be
   refine RR (Ye f 1 λ_ f=>ag (RcF f be (λB4 F4=>?_) λB4 F14=>?_))
   ·have U2:=dI.1 B4
    refine St (ag (wp_block (RR ?_)))
    obtain⟨X2,S2,F5⟩:=bS F4
    obtain⟨Q4,P8,H3,mh⟩:=N15.rowAddr 2 rfl (eX S2)
    have f:=f.st 30 (H3)
    refine Z f (Y33 rfl (ad:=⟨Q4,0,none⟩) (len:=X1.length) (cap:=P8) (k:=.i64) (i:=K1.1) (e:=3) (sz:=1) (aF S2) (aE S2)) λ_ f=>?_
    have f:=f.st 30 (H3.symm)
    obtain⟨cP,-,D6,R1⟩:=aa.get K1.1.toNat (bY (dX .i64)) (aa.mono J2 _ _ D1) (ij S2)
    obtain rfl:cP=[iL X2]:=D6
    refine Z f (Y35 (v:=iL X2) rfl (ad:=(⟨Q4,0,none⟩:Addr).add (K1.1.toNat*1)) (by simpa [Addr.add] using (λj v h=>lj (N15.rowCell 2 rfl H3) R1 j v h) 0 _ rfl)) λ_ f=>Ye f 1 λ_ f=>ag ?_
    obtain⟨cX,bX,F6⟩:=bS F5
    refine bj (λa_46 W17=>∃G1:List Bs,cX=G1∧∃V3:Mem,V2.le V3∧∃ (Z10:Oa),∃ (P11:Nat),∃ (L6:Lv),aa V3 (G1.map Dat.str) L6∧Frm 84 [(0,Pa ad0),(2,pP Q1),(3,pP Q2),(5,iL X2),(30,sL Z3 X1 P3),(31,iL ((X1.length:Nat):Int)),(32,iL K1.1)] a_46∧Hp w0 V3 ((rO 9 1 Z10 G1 P11 L6)::(rO 73 6 Z6 K1.2.1 P6 L2)::(rO 3 1 Z3 X1 P3 L1)::(oC Q2 #[iB d0.ab,bO d0.ak,iL d0.an,S d0.ah,sL Z6 K1.2.1 P6,sL Z10 G1 P11] 73)::(oC Q1 #[iB 0,bO false,iL 0,S [],Sn,Sn] 73)::H) W17) ?_ ?_
    ·have N25:=N15.pl [4,4,4,3,4]
     obtain⟨X3,S3,F7⟩:=bS bX
     obtain⟨O1,F8⟩:=nS F7
     refine iz (ks:=[11,12]) (E:=[rO 9 1 Z7 K1.2.2 P7 L3]) (Hr:=((rO 73 6 Z6 K1.2.1 P6 L2)::(rO 3 1 Z3 X1 P3 L1)::(oC Q2 #[iB d0.ab,bO d0.ak,iL d0.an,S d0.ah,sL Z6 K1.2.1 P6,sL Z7 K1.2.2 P7] 73)::(oC Q1 #[iB 0,bO false,iL 0,S [],Sn,Sn] 73)::H)) (.quiet 0 (.quiet 1 (.quiet 2 (.quiet 3 (.quiet 4 (.quiet 5 (.quiet 6 (.quiet 7 (.quiet 8 (.alt 9 (.alt 10 .done .none) .none)))))))))) N25 kr kr kr (Y1 (v:=Pa (⟨Q2,5,none⟩)) rfl f rfl rfl (λ_ _=>by kernel_rfl) λ_ f=>Y1 (v:=sL Z7 K1.2.2 P7) rfl f rfl rfl (λ_ pq=>Y35 (v:=sL Z7 K1.2.2 P7) rfl (ad:=⟨Q2,5,none⟩) (pq.ownCell 2 rfl 5)) λ_ f=>Y1 (v:=Pa ad0) rfl f rfl rfl (λ_ _=>by kernel_rfl) λ_ f=>Y1 (v:=Pa ad0) rfl f rfl rfl (λ_ _=>by kernel_rfl) λ_ f=>Y1 (v:=Pa (ad0.add 5)) rfl f rfl rfl (λ_ _=>by kernel_rfl) λ_ f=>Y1 (v:=sL Z2 d0.ae P2) rfl f rfl rfl (λ_ pq=>Y35 (v:=sL Z2 d0.ae P2) rfl (ad:=ad0.add 5) (pq.cell ((fzu (J1.trans J2) q0) 5 _ rfl))) λ_ f=>Y1 (v:=iL X2) rfl f rfl rfl (λ_ _=>by kernel_rfl) λ_ f=>?_)
     obtain⟨C2,c_3,lp,-,D9,R3⟩:=Sli.at_ (B2.mono (J1.trans J2)) S3
     obtain rfl:c_3=[S X3]:=D9
     refine Y1 (v:=Pa (C2.add (X2.toNat*1))) rfl f rfl rfl (λ_ pq=>Y34 lp rfl (len:=d0.ae.length) (cap:=P2) (k:=.i64) (i:=X2) (e:=9) (sz:=1) (aF S3) (aE S3)) λ_ f=>Y1 (v:=S X3) rfl f rfl rfl (λ_ pq=>Y35 (v:=S X3) rfl (ad:=C2.add (X2.toNat*1)) (pq.cell (R3 0 _ rfl))) λ_ f=>aV rfl (λW11 N26=>?_) ?_
     ·refine bg (k:=1) (c:=1) f N26 (.cells #[S X3] 9 (0,0)) kr (λ_=>by kernel_rfl) λQ6 W12 N27 _ f=>aA rfl (aW 2 (mR _) N27 rfl (aV rfl (λW13 N28=>?_) ?_))
      ·have N29:=N28.pl [1]
       refine Y22 (z:=S []) (f:=Dat.str) (xs:=K1.2.2) (ys:=[X3]) (news:=[S X3]) (ad:=⟨Q6,0,none⟩) (m:=1) (c:=1) f N29 D5 (by exact⟨_,_,rfl,rfl,rfl⟩) rfl rfl rfl rfl (al (N29.ownCell 1 rfl) 0 rfl) (by exact O1) (by have hg_:=O1;first|omega|(simp only[List.length_cons,List.length_nil] at*;omega)) λZ9 P10 L5 W14 N30 D10 _ f=>?_
       have N31:=N30.pl [1]
       have N32:=N31.drop
       refine aA rfl (aW 1 (mR _) N32 rfl (iA λW15 N33=>Y f 1 λ_ f=>Y28 f N33 3 rfl rfl (b:=Q2) (j:=5) (v:=sL Z9 (K1.2.2++[X3]) P10) rfl (by exact rfl) (by simp) (by simp) _ rfl λW16 N34 _ f=>aA rfl (nW (aH ?_))))
       exact⟨K1.2.2++[X3],(sI F8).symm,V2,(mR _),Z9,P10,L5,D10,f.kp,N34⟩
      exact aQ
     exact aQ
    ·rintro a_46 W17 ⟨G1,dg,V3,J3,Z10,P11,L6,D11,f,N35⟩
     subst cX
     refine aH ?_
     obtain⟨jd,eW,F9⟩:=bS F6
     refine bj (λa_69 W29=>∃G2:List TF0,jd=G2∧∃V6:Mem,V3.le V6∧∃ (Z21:Oa),∃ (P22:Nat),∃ (L9:Lv),aa V6 (G2.map ay) L9∧Frm 84 [(0,Pa ad0),(2,pP Q1),(3,pP Q2),(30,sL Z3 X1 P3),(31,iL ((X1.length:Nat):Int)),(32,iL K1.1)] a_69∧Hp w0 V6 ((rO 73 6 Z21 G2 P22 L9)::(rO 9 1 Z10 G1 P11 L6)::(rO 3 1 Z3 X1 P3 L1)::(oC Q2 #[iB d0.ab,bO d0.ak,iL d0.an,S d0.ah,sL Z21 G2 P22,sL Z10 G1 P11] 73)::(oC Q1 #[iB 0,bO false,iL 0,S [],Sn,Sn] 73)::H) W29) ?_ ?_
     ·have N46:=N35.pl [4,4,4,3,4]
      obtain⟨X5,S4,F10⟩:=bS eW
      obtain⟨X6,S5,F11⟩:=bS F10
      obtain⟨O2,F12⟩:=nS F11
      refine iz (ks:=[11,12]) (E:=[rO 73 6 Z6 K1.2.1 P6 L2]) (Hr:=((rO 9 1 Z10 G1 P11 L6)::(rO 3 1 Z3 X1 P3 L1)::(oC Q2 #[iB d0.ab,bO d0.ak,iL d0.an,S d0.ah,sL Z6 K1.2.1 P6,sL Z10 G1 P11] 73)::(oC Q1 #[iB 0,bO false,iL 0,S [],Sn,Sn] 73)::H)) (.quiet 0 (.quiet 1 (.quiet 2 (.quiet 3 (.quiet 4 (.quiet 5 (.quiet 6 (.quiet 7 (.alt 8 (.alt 9 (.alt 10 .done .none) .none) .none))))))))) N46 kr kr kr (Y1 (v:=Pa (⟨Q2,4,none⟩)) rfl f rfl rfl (λ_ _=>by kernel_rfl) λ_ f=>Y1 (v:=sL Z6 K1.2.1 P6) rfl f rfl rfl (λ_ pq=>Y35 (v:=sL Z6 K1.2.1 P6) rfl (ad:=⟨Q2,4,none⟩) (pq.ownCell 2 rfl 4)) λ_ f=>Y1 (v:=Pa ad0) rfl f rfl rfl (λ_ _=>by kernel_rfl) λ_ f=>Y1 (v:=Pa ad0) rfl f rfl rfl (λ_ _=>by kernel_rfl) λ_ f=>Y1 (v:=Pa (ad0.add 4)) rfl f rfl rfl (λ_ _=>by kernel_rfl) λ_ f=>Y1 (v:=sL Z1 d0.ac P1) rfl f rfl rfl (λ_ pq=>Y35 (v:=sL Z1 d0.ac P1) rfl (ad:=ad0.add 4) (pq.cell ((fzu ((J1.trans J2).trans J3) q0) 4 _ rfl))) λ_ f=>Y1 (v:=iL X2) rfl f rfl rfl (λ_ _=>by kernel_rfl) λ_ f=>?_)
      obtain⟨C4,c_6,qG,-,D15,R5⟩:=Sli.at_ (B1.mono ((J1.trans J2).trans J3)) S4
      obtain⟨Z16,P17,Z17,P18,rfl,B9,B10⟩:=TF0.opn D15
      refine Y1 (v:=Pa (C4.add (X2.toNat*6))) rfl f rfl rfl (λ_ pq=>Y34 qG rfl (len:=d0.ac.length) (cap:=P1) (k:=.i64) (i:=X2) (e:=73) (sz:=6) (aF S4) (aE S4)) λ_ f=>aV rfl (λW21 N47=>?_) ?_
      ·refine Y16 f N47 (hrec_tree_sorted _ (GL.mono ((J1.trans J2).trans J3) hG) (C4.add (X2.toNat*6)) (lTF0 X5 Z16 P17 Z17 P18) X5 (TF0.shutx (x:=X5) B9 B10) (gE (R5) 0 rfl) X6 S5) λ_ V5 W22 J5 N48 q_3 _ f=>?_
       obtain⟨c_7,rfl,D16⟩:=q_3
       obtain⟨Z18,P19,Z19,P20,rfl,B11,B12⟩:=TF0.opn D16
       refine aA rfl (aW 1 J5 N48 rfl (aV rfl (λW23 N49=>?_) ?_))
       ·refine bg (k:=1) (c:=1) f N49 (.cells (aTF0 X6 Z18 P19 Z19 P20) 73 (0,0)) kr (λ_=>by kernel_rfl) λQ8 W24 N50 _ f=>aA rfl (aW 2 J5 N50 rfl (aV rfl (λW25 N51=>?_) ?_))
        ·have N52:=N51.pl [1]
         refine Y22 (z:=.agg #[iB 0,bO false,iL 0,S [],Sn,Sn]) (f:=ay) (xs:=K1.2.1) (ys:=[(⟨X6.ab,(X6.ak),X6.an,X6.ah,X6.ac,X6.ae⟩:TF0)]) (news:=(lTF0 X6 Z18 P19 Z19 P20)) (ad:=⟨Q8,0,none⟩) (m:=1) (c:=1) f N52 (aa.mono (J3.trans J5) _ _ D4) (by exact⟨_,_,rfl,TF0.shut B11 B12,rfl⟩) rfl rfl rfl rfl (al (N52.ownCell 1 rfl) 0 rfl) (by exact O2) (by have hg_:=O2;first|omega|(simp only[List.length_cons,List.length_nil] at*;omega)) λZ20 P21 L8 W26 N53 D17 _ f=>?_
         have N54:=N53.pl [1]
         have N55:=N54.drop
         refine aA rfl (aW 1 J5 N55 rfl (iA λW27 N56=>Y f 1 λ_ f=>Y28 f N56 3 rfl rfl (b:=Q2) (j:=4) (v:=sL Z20 (K1.2.1++[(⟨X6.ab,(X6.ak),X6.an,X6.ah,X6.ac,X6.ae⟩:TF0)]) P21) rfl (by exact rfl) (by simp) (by simp) _ rfl λW28 N57 _ f=>aA rfl (nW (aH ?_))))
         exact⟨K1.2.1++[(⟨X6.ab,(X6.ak),X6.an,X6.ah,X6.ac,X6.ae⟩:TF0)],(sI F12).symm,V5,J5,Z20,P21,L8,D17,f.kp,N57⟩
        exact aQ
       exact aQ
      exact aQ
     ·rintro a_69 W29 ⟨G2,hZ,V6,J6,Z21,P22,L9,D18,f,N58⟩
      subst jd
      refine cG (aH (aI ?_))
      obtain⟨O3,F13⟩:=nS F9
      refine Y f 1 λ_ f=>?_
      have f:=f.st 60 (iW O3)
      refine Ye f 1 λ_ f=>?_
      cases sI F13
      exact⟨⟨I2,(K1.1+1,G2,G1),Z21,P22,L9,Z10,P11,L6⟩,Nat.lt_succ_self _,V6,((J2.trans J3).trans J6),⟨T1,D18,(aa.mono J6 _ _ D11)⟩,f.kp,N58⟩
   ·have U3:=ap dI B4
    refine wp_exit (co (co ?_))
    cases sI F14
    exact⟨rfl,(K1.2.1,K1.2.2),(sI T1).symm,V2,J2,Z6,P6,L2,Z7,P7,L3,D4,D5,f.kp,N15⟩
  ·rintro _ _ W31 ⟨rfl,G3,hq_,V7,J7,Z22,P23,L10,Z23,P24,L11,D19,D20,f,N59⟩
   subst Q3
   refine iq (aH (RR (Z f (Y36 (cs:=[iB d0.ab,bO d0.ak,iL d0.an,S d0.ah,sL Z22 G3.1 P23,sL Z23 G3.2 P24]) rfl (ad:=⟨Q2,0,none⟩) (al (N59.ownCell 3 rfl) 0 rfl)) λ_ f=>?_)))
   obtain⟨Z24,P25,V8,H4,J8,N60,B13⟩:=N59.rowSli (f:=ay) (xs:=G3.1) ka D19
   have f:=Frm.set f 61 (v:=.agg #[.int .i8 d0.ab,.bool d0.ak,.int .i64 d0.an,S d0.ah,.slice Z22 G3.1.length P23,.slice Z23 G3.2.length P24]) (v':=.agg #[.int .i8 d0.ab,.bool d0.ak,.int .i64 d0.an,S d0.ah,.slice Z24 G3.1.length P25,.slice Z23 G3.2.length P24]) (by kernel_rfl) (by rw[H4])
   have N61:Hp w0 V8 ((rO 9 1 Z23 G3.2 P24 L11)::(rO 3 1 Z3 X1 P3 L1)::(oC Q2 #[iB d0.ab,bO d0.ak,iL d0.an,S d0.ah,sL Z24 G3.1 P25,sL Z23 G3.2 P24] 73)::(oC Q1 #[iB 0,bO false,iL 0,S [],Sn,Sn] 73)::H) W31:=by unfold sL at N60;rw[H4] at N60;exact N60
   obtain⟨Z25,P26,V9,H5,J9,N62,B14⟩:=N61.rowSli (f:=Dat.str) (xs:=G3.2) dY (aa.mono J8 _ _ D20)
   have f:=Frm.set f 61 (v:=.agg #[.int .i8 d0.ab,.bool d0.ak,.int .i64 d0.an,S d0.ah,.slice Z24 G3.1.length P25,.slice Z23 G3.2.length P24]) (v':=.agg #[.int .i8 d0.ab,.bool d0.ak,.int .i64 d0.an,S d0.ah,.slice Z24 G3.1.length P25,.slice Z25 G3.2.length P26]) (by kernel_rfl) (by rw[H5])
   have N63:Hp w0 V9 ((rO 3 1 Z3 X1 P3 L1)::(oC Q2 #[iB d0.ab,bO d0.ak,iL d0.an,S d0.ah,sL Z24 G3.1 P25,sL Z25 G3.2 P26] 73)::(oC Q1 #[iB 0,bO false,iL 0,S [],Sn,Sn] 73)::H) W31:=by unfold sL at N62;rw[H5] at N62;exact N62
   have N64:=N63.pl [2]
   refine Ys [iB d0.ab,bO d0.ak,iL d0.an,S d0.ah,sL Z24 G3.1 P25,sL Z25 G3.2 P26] #[iB d0.ab,bO d0.ak,iL d0.an,S d0.ah,sL Z24 G3.1 P25,sL Z25 G3.2 P26] f N64 rfl rfl λW32 N65 _ f=>Er (aS (sO f rfl (Y10 (cs:=[iB d0.ab,bO d0.ak,iL d0.an,S d0.ah,sL Z24 G3.1 P25,sL Z25 G3.2 P26]) (ad:=⟨Q1,0,none⟩) f (al (N65.ownCell 0 rfl) 0 rfl)) ?_))
   cases sI F3
   exact⟨_,rfl,V9,(((J1.trans J7).trans J8).trans J9),(N65.dropN 3),⟨[iB d0.ab,bO d0.ak,iL d0.an,S d0.ah,sL Z24 G3.1 P25,sL Z25 G3.2 P26],rfl,(TF0.shut (B13.mono J9) B14)⟩⟩
 ·have U4:=ap dI B3
  refine St (ag (RR (Y f 3 λ_ f=>Y15 f N6 q0 4 rfl λ_ f=>Ye f 2 λ_ f=>wp_block ?_)))
  obtain⟨Z26,P27,H6⟩: ∃A cap,Value.slice none 0 0=.slice A ([]:List TF0).length cap:=⟨none,0,rfl⟩
  have N66:Hp w0 M1 ((Ent.row 73 6 (.slice Z26 ([]:List TF0).length P27) ([]:List TF0).length [])::(Ent.obj Q2 (.cells #[.int .i8 d0.ab,.bool d0.ak,.int .i64 d0.an,S d0.ah,.slice Z26 ([]:List TF0).length P27,.slice none 0 0] 73 (0,0)))::(Ent.obj Q1 (.cells #[.int .i8 0,.bool false,.int .i64 0,S [],.slice none 0 0,.slice none 0 0] 73 (0,0)))::H) W6:=by rw[←H6];exact N6.nilRow 73 6
  have D21:aa M1 (([]:List TF0).map ay) []:=rfl
  obtain⟨Q9,sf,F16⟩:=bS F15
  refine wp_mono (Q:=λe a w=>(e=.exit 2∧(∃G5:List TF0,Q9=G5∧∃V14:Mem,M1.le V14∧∃ (Z39:Oa),∃ (P40:Nat),∃ (L16:Lv),aa V14 (G5.map ay) L16∧Frm 84 [(2,pP Q1),(3,pP Q2)] a∧Hp w0 V14 ((rO 73 6 Z39 G5 P40 L16)::(oC Q2 #[iB d0.ab,bO d0.ak,iL d0.an,S d0.ah,sL Z39 G5 P40,Sn] 73)::(oC Q1 #[iB 0,bO false,iL 0,S [],Sn,Sn] 73)::H) w))) (bu (n:=84) (w0:=w0) (M:=M1) (λ (I3,K2,Z27,P28,L12)=>[(0,Pa ad0),(2,pP Q1),(3,pP Q2),(66,iL ((d0.ac.length:Nat):Int)),(67,iL K2.1)]) (λ (I3,K2,Z27,P28,L12)=>((rO 73 6 Z27 K2.2 P28 L12)::(oC Q2 #[iB d0.ab,bO d0.ak,iL d0.an,S d0.ah,sL Z27 K2.2 P28,Sn] 73)::(oC Q1 #[iB 0,bO false,iL 0,S [],Sn,Sn] 73)::H)) (λ (I3,K2,Z27,P28,L12) MM=>aN (eq n rec_tree_sorted d0) I3 K2=some Q9∧aa MM (K2.2.map ay) L12) (λ (I3,K2,Z27,P28,L12)=>I3) (n,((0:Int),([]:List TF0)),Z26,P27,[]) (f.kp) N66 ⟨sf,D21⟩ ?_) ?_
  ·rintro⟨I3,K2,Z27,P28,L12⟩ V10 _ W33 J10 I_2 f N67
   obtain⟨sg,D22⟩:=I_2
   obtain⟨I4,r_2,rfl,nj,T2⟩:=aT sg
   unfold eq at nj
   refine RR (Ye f 1 λ_ f=>ag (RcF f nj (λB15 F17=>?_) λB15 F23=>?_))
   ·have U5:=dI.1 B15
    refine St (ag (wp_block (RR (Ye f 2 λ_ f=>?_))))
    obtain⟨tt,pZ,F18⟩:=bS F17
    refine bj (λa_104 W45=>∃G4:List TF0,tt=G4∧∃V13:Mem,V10.le V13∧∃ (Z38:Oa),∃ (P39:Nat),∃ (L15:Lv),aa V13 (G4.map ay) L15∧Frm 84 [(0,Pa ad0),(2,pP Q1),(3,pP Q2),(66,iL ((d0.ac.length:Nat):Int)),(67,iL K2.1)] a_104∧Hp w0 V13 ((rO 73 6 Z38 G4 P39 L15)::(oC Q2 #[iB d0.ab,bO d0.ak,iL d0.an,S d0.ah,sL Z38 G4 P39,Sn] 73)::(oC Q1 #[iB 0,bO false,iL 0,S [],Sn,Sn] 73)::H) W45) ?_ ?_
    ·obtain⟨X9,S6,F19⟩:=bS pZ
     obtain⟨X10,S7,F20⟩:=bS F19
     obtain⟨O4,F21⟩:=nS F20
     refine iz (ks:=[11,12]) (E:=[rO 73 6 Z27 K2.2 P28 L12]) (Hr:=((oC Q2 #[iB d0.ab,bO d0.ak,iL d0.an,S d0.ah,sL Z27 K2.2 P28,Sn] 73)::(oC Q1 #[iB 0,bO false,iL 0,S [],Sn,Sn] 73)::H)) (.quiet 0 (.quiet 1 (.quiet 2 (.quiet 3 (.quiet 4 (.quiet 5 (.quiet 6 (.quiet 7 (.alt 8 (.alt 9 (.alt 10 .done .none) .none) .none))))))))) N67 kr kr kr (Y1 (v:=Pa (⟨Q2,4,none⟩)) rfl f rfl rfl (λ_ _=>by kernel_rfl) λ_ f=>Y1 (v:=sL Z27 K2.2 P28) rfl f rfl rfl (λ_ pq=>Y35 (v:=sL Z27 K2.2 P28) rfl (ad:=⟨Q2,4,none⟩) (pq.ownCell 0 rfl 4)) λ_ f=>Y1 (v:=Pa ad0) rfl f rfl rfl (λ_ _=>by kernel_rfl) λ_ f=>Y1 (v:=Pa ad0) rfl f rfl rfl (λ_ _=>by kernel_rfl) λ_ f=>Y1 (v:=Pa (ad0.add 4)) rfl f rfl rfl (λ_ _=>by kernel_rfl) λ_ f=>Y1 (v:=sL Z1 d0.ac P1) rfl f rfl rfl (λ_ pq=>Y35 (v:=sL Z1 d0.ac P1) rfl (ad:=ad0.add 4) (pq.cell ((fzu J10 q0) 4 _ rfl))) λ_ f=>Y1 (v:=iL K2.1) rfl f rfl rfl (λ_ _=>by kernel_rfl) λ_ f=>?_)
     obtain⟨C6,c_10,e_6,-,D26,R7⟩:=Sli.at_ (B1.mono J10) S6
     obtain⟨Z33,P34,Z34,P35,rfl,B20,B21⟩:=TF0.opn D26
     refine Y1 (v:=Pa (C6.add (K2.1.toNat*6))) rfl f rfl rfl (λ_ pq=>Y34 e_6 rfl (len:=d0.ac.length) (cap:=P1) (k:=.i64) (i:=K2.1) (e:=73) (sz:=6) (aF S6) (aE S6)) λ_ f=>aV rfl (λW37 N74=>?_) ?_
     ·refine Y16 f N74 (hrec_tree_sorted _ (GL.mono J10 hG) (C6.add (K2.1.toNat*6)) (lTF0 X9 Z33 P34 Z34 P35) X9 (TF0.shutx (x:=X9) B20 B21) (gE (R7) 0 rfl) X10 S7) λ_ V12 W38 J12 N75 q_5 _ f=>?_
      obtain⟨c_11,rfl,D27⟩:=q_5
      obtain⟨Z35,P36,Z36,P37,rfl,B22,B23⟩:=TF0.opn D27
      refine aA rfl (aW 1 J12 N75 rfl (aV rfl (λW39 N76=>?_) ?_))
      ·refine bg (k:=1) (c:=1) f N76 (.cells (aTF0 X10 Z35 P36 Z36 P37) 73 (0,0)) kr (λ_=>by kernel_rfl) λQ11 W40 N77 _ f=>aA rfl (aW 2 J12 N77 rfl (aV rfl (λW41 N78=>?_) ?_))
       ·have N79:=N78.pl [1]
        refine Y22 (z:=.agg #[iB 0,bO false,iL 0,S [],Sn,Sn]) (f:=ay) (xs:=K2.2) (ys:=[(⟨X10.ab,(X10.ak),X10.an,X10.ah,X10.ac,X10.ae⟩:TF0)]) (news:=(lTF0 X10 Z35 P36 Z36 P37)) (ad:=⟨Q11,0,none⟩) (m:=1) (c:=1) f N79 (aa.mono J12 _ _ D22) (by exact⟨_,_,rfl,TF0.shut B22 B23,rfl⟩) rfl rfl rfl rfl (al (N79.ownCell 1 rfl) 0 rfl) (by exact O4) (by have hg_:=O4;first|omega|(simp only[List.length_cons,List.length_nil] at*;omega)) λZ37 P38 L14 W42 N80 D28 _ f=>?_
        have N81:=N80.pl [1]
        have N82:=N81.drop
        refine aA rfl (aW 1 J12 N82 rfl (iA λW43 N83=>Y f 1 λ_ f=>Y28 f N83 1 rfl rfl (b:=Q2) (j:=4) (v:=sL Z37 (K2.2++[(⟨X10.ab,(X10.ak),X10.an,X10.ah,X10.ac,X10.ae⟩:TF0)]) P38) rfl (by exact rfl) (by simp) (by simp) _ rfl λW44 N84 _ f=>aA rfl (nW (aH ?_))))
        exact⟨K2.2++[(⟨X10.ab,(X10.ak),X10.an,X10.ah,X10.ac,X10.ae⟩:TF0)],(sI F21).symm,V12,J12,Z37,P38,L14,D28,f.kp,N84⟩
       exact aQ
      exact aQ
     exact aQ
    ·rintro a_104 W45 ⟨G4,sH,V13,J13,Z38,P39,L15,D29,f,N85⟩
     subst tt
     refine cG (aH (aI ?_))
     obtain⟨O5,F22⟩:=nS F18
     refine Y f 1 λ_ f=>?_
     have f:=f.st 82 (iW O5)
     refine Ye f 1 λ_ f=>?_
     cases sI F22
     exact⟨⟨I4,(K2.1+1,G4),Z38,P39,L15⟩,Nat.lt_succ_self _,V13,(J10.trans J13),⟨T2,D29⟩,f.kp,N85⟩
   ·have U6:=ap dI B15
    refine wp_exit (co (co ?_))
    cases sI F23
    exact⟨rfl,K2.2,(sI T2).symm,V10,J10,Z27,P28,L12,D22,f.kp,N67⟩
  ·rintro _ _ W47 ⟨rfl,G5,hq_,V14,J14,Z39,P40,L16,D30,f,N86⟩
   subst Q9
   refine iq (aH (RR (Z f (Y36 (cs:=[iB d0.ab,bO d0.ak,iL d0.an,S d0.ah,sL Z39 G5 P40,Sn]) rfl (ad:=⟨Q2,0,none⟩) (al (N86.ownCell 1 rfl) 0 rfl)) λ_ f=>?_)))
   obtain⟨Z40,P41,V15,H7,J15,N87,B24⟩:=N86.rowSli (f:=ay) (xs:=G5) ka D30
   have f:=Frm.set f 83 (v:=.agg #[.int .i8 d0.ab,.bool d0.ak,.int .i64 d0.an,S d0.ah,.slice Z39 G5.length P40,.slice none 0 0]) (v':=.agg #[.int .i8 d0.ab,.bool d0.ak,.int .i64 d0.an,S d0.ah,.slice Z40 G5.length P41,.slice none 0 0]) (by kernel_rfl) (by rw[H7])
   have N88:Hp w0 V15 ((oC Q2 #[iB d0.ab,bO d0.ak,iL d0.an,S d0.ah,sL Z40 G5 P41,Sn] 73)::(oC Q1 #[iB 0,bO false,iL 0,S [],Sn,Sn] 73)::H) W47:=by unfold sL at N87;rw[H7] at N87;exact N87
   have N89:=N88.pl [1]
   refine Ys [iB d0.ab,bO d0.ak,iL d0.an,S d0.ah,sL Z40 G5 P41,Sn] #[iB d0.ab,bO d0.ak,iL d0.an,S d0.ah,sL Z40 G5 P41,Sn] f N89 rfl rfl λW48 N90 _ f=>Er (sO f rfl (Y10 (cs:=[iB d0.ab,bO d0.ak,iL d0.an,S d0.ah,sL Z40 G5 P41,Sn]) (ad:=⟨Q1,0,none⟩) f (al (N90.ownCell 0 rfl) 0 rfl)) ?_)
   cases sI F16
   exact⟨_,rfl,V15,(J14.trans J15),(N90.dropN 2),⟨[iB d0.ab,bO d0.ak,iL d0.an,S d0.ah,sL Z40 G5 P41,Sn],rfl,(TF0.shut B24 Sli.nil)⟩⟩
def cu (n:Nat):Nat→TF0→Option TF0
 |0=>λ_=>none
 |k+1=>io n (cu n k)
def kW (n:Nat) (d0:TF0):Option TF0:=cu n n d0
theorem mF (n:Nat) (M:Mem) (hG:GL M) (ad0:Addr) (c0:Lv) (d0:TF0) (h0:Rep M (ay d0) c0) (q0: ∀j v,c0[j]? =some v→M.cell? (ad0.add j)=some v) (r:TF0) (hF:kW n d0=some r):Ok Tryz.prog M 116 [Pa ad0] (λM' v=>∃ (c0:Lv),v=.agg c0.toArray∧Rep M' (ay r) c0):=by
 have key: ∀ (k:Nat) (M:Mem) (hG:GL M) (ad0:Addr) (c0:Lv) (d0:TF0) (h0:Rep M (ay d0) c0) (q0: ∀j v,c0[j]? =some v→M.cell? (ad0.add j)=some v) (r:TF0) (hF:cu n k d0=some r),Ok Tryz.prog M 116 [Pa ad0] (λM' v=>∃ (c0:Lv),v=.agg c0.toArray∧Rep M' (ay r) c0):=by
  intro k
  induction k with
  |zero=>intro M hG ad0 c0 d0 h0 q0 r hF;simp[cu] at hF
  |succ k ih=>intro M hG ad0 c0 d0 h0 q0 r hF;exact pz n (cu n k) ih M hG ad0 c0 d0 h0 q0 r hF
 exact key n M hG ad0 c0 d0 h0 q0 r hF
def lA (n:Nat) (d0:Int):Option Bool:=
 some ((false))
theorem oR (n:Nat) (M:Mem) (d0:Int) (r:Bool) (hF:lA n d0=some r):Ok Tryz.prog M 130 [iB d0] (λ_ v=>v=bO r):=by
 unfold lA at hF
 intro M1 hM0 w0 H w p0
 refine Re 6 Tryz.func130 rfl λa0 f0=>RR (Ye f0 1 λ_ f=>RR (Y f 2 λ_ f=>Y f 1 λ_ f=>?_))
 have f:=Frm.set f 5 (v:=bO (!(decide (d0=d0)))) (v':=bO false) kr (cB (congrArg (!·) (dT rfl)))
 refine Ye f 1 λ_ f=>wp_ret (ao f rfl (Lk 2 (bO false)) ?_)
 cases sI hF
 exact⟨_,rfl,M1,(mR _),p0,rfl⟩
def iK (n:Nat) (d0:Int) (d1:Int):Option Int:=
 (lA n d0).bind λX1=>
 (lA n d1).bind λX2=>
 bif X1 then
  (bif X2 then
   (some ((0:Int)))
  else
   some ((-1:Int)))
 else
  bif X2 then
   (some ((1:Int)))
  else
   bif(decide (d0<d1)) then
    (some ((-1:Int)))
   else
    bif(decide (d1<d0)) then
     (some ((1:Int)))
    else
     some ((0:Int))
set_option maxRecDepth 20000 in
theorem mG (n:Nat) (M:Mem) (d0:Int) (d1:Int) (r:Int) (hF:iK n d0 d1=some r):Ok Tryz.prog M 124 [iB d0,iB d1] (λ_ v=>v=iL r):=by
 unfold iK at hF
 intro M1 hM0 w0 H w p0
 refine Re 20 Tryz.func124 rfl λa0 f0=>RR (Ye f0 1 λ_ f=>RR (Y f 1 λ_ f=>?_))
 obtain⟨X1,S1,F1⟩:=bS hF
 refine Y18 f p0 (oR n _ d0 X1 S1) λW1 N1 _ f=>Ye f 1 λ_ f=>RR (Y f 1 λ_ f=>?_)
 obtain⟨X2,S2,F2⟩:=bS F1
 refine Y18 f N1 (oR n _ d1 X2 S2) λW2 N2 _ f=>Ye f 1 λ_ f=>ag (RR (Ye f 1 λ_ f=>RcF f F2 (λB1 F3=>?_) λB1 F6=>?_))
 ·refine ag (RR (Ye f 1 λ_ f=>RcF f F3 (λB2 F4=>?_) λB2 F5=>?_))
  ·refine RR (Ye f 1 λ_ f=>wp_ret (aS (aS (ao f rfl (Lk 4 (iL 0)) ?_))))
   cases sI F4
   exact⟨_,rfl,M1,(mR _),N2,rfl⟩
  ·refine St (RR (Ye f 1 λ_ f=>wp_ret (aS (ao f rfl (Lk 4 (iL (-1))) ?_))))
   cases sI F5
   exact⟨_,rfl,M1,(mR _),N2,rfl⟩
 ·refine St (ag (RR (Ye f 1 λ_ f=>RcF f F6 (λB3 F7=>?_) λB3 F8=>?_)))
  ·refine RR (Ye f 1 λ_ f=>wp_ret (aS (ao f rfl (Lk 4 (iL 1)) ?_)))
   cases sI F7
   exact⟨_,rfl,M1,(mR _),N2,rfl⟩
  ·refine St (ag (RR (Ye f 3 λ_ f=>RcF f F8 (λB4 F9=>?_) λB4 F10=>?_)))
   ·have U7:=dI.1 B4
    refine RR (Ye f 1 λ_ f=>wp_ret (aS (ao f rfl (Lk 4 (iL (-1))) ?_)))
    cases sI F9
    exact⟨_,rfl,M1,(mR _),N2,rfl⟩
   ·have U8:=ap dI B4
    refine St (ag (RR (Ye f 3 λ_ f=>RcF f F10 (λB5 F11=>?_) λB5 F12=>?_)))
    ·have U9:=dI.1 B5
     refine RR (Ye f 1 λ_ f=>wp_ret (aS (ao f rfl (Lk 4 (iL 1)) ?_)))
     cases sI F11
     exact⟨_,rfl,M1,(mR _),N2,rfl⟩
    ·have U10:=ap dI B5
     refine St (RR (Ye f 1 λ_ f=>wp_ret (ao f rfl (Lk 4 (iL 0)) ?_)))
     cases sI F12
     exact⟨_,rfl,M1,(mR _),N2,rfl⟩
def jz (n:Nat) (d0:Bool):Option Int:=
 bif d0 then
  (some ((1:Int)))
 else
  some ((0:Int))
theorem kX (n:Nat) (M:Mem) (hG:GL M) (d0:Bool) (r:Int) (hF:jz n d0=some r):Ok Tryz.prog M 125 [bO d0] (λ_ v=>v=iL r):=by
 unfold jz at hF
 intro M1 hM0 w0 H w p0
 replace hG:=GL.mono hM0 hG
 refine Re 4 Tryz.func125 rfl λa0 f0=>RR (Ye f0 1 λ_ f=>ag (RR (Ye f 1 λ_ f=>RcF f hF (λB1 F1=>?_) λB1 F2=>?_)))
 ·refine RR (Ye f 1 λ_ f=>wp_ret (aS (ao f rfl (Lk 2 (iL 1)) ?_)))
  cases sI F1
  exact⟨_,rfl,M1,(mR _),p0,rfl⟩
 ·refine St (RR (Ye f 1 λ_ f=>wp_ret (ao f rfl (Lk 2 (iL 0)) ?_)))
  cases sI F2
  exact⟨_,rfl,M1,(mR _),p0,rfl⟩
def jA (n:Nat) (d0:Int):Option Bool:=
 some ((false))
theorem mH (n:Nat) (M:Mem) (hG:GL M) (d0:Int) (r:Bool) (hF:jA n d0=some r):Ok Tryz.prog M 131 [iL d0] (λ_ v=>v=bO r):=by
 unfold jA at hF
 intro M1 hM0 w0 H w p0
 replace hG:=GL.mono hM0 hG
 refine Re 6 Tryz.func131 rfl λa0 f0=>RR (Ye f0 1 λ_ f=>RR (Y f 2 λ_ f=>Y f 1 λ_ f=>?_))
 have f:=Frm.set f 5 (v:=bO (!(decide (d0=d0)))) (v':=bO false) kr (cB (congrArg (!·) (dT rfl)))
 refine Ye f 1 λ_ f=>wp_ret (ao f rfl (Lk 2 (bO false)) ?_)
 cases sI hF
 exact⟨_,rfl,M1,(mR _),p0,rfl⟩
def dl (n:Nat) (d0:Int) (d1:Int):Option Int:=
 (jA n d0).bind λX1=>
 (jA n d1).bind λX2=>
 bif X1 then
  (bif X2 then
   (some ((0:Int)))
  else
   some ((-1:Int)))
 else
  bif X2 then
   (some ((1:Int)))
  else
   bif(decide (d0<d1)) then
    (some ((-1:Int)))
   else
    bif(decide (d1<d0)) then
     (some ((1:Int)))
    else
     some ((0:Int))
set_option maxRecDepth 20000 in
theorem gW (n:Nat) (M:Mem) (hG:GL M) (d0:Int) (d1:Int) (r:Int) (hF:dl n d0 d1=some r):Ok Tryz.prog M 126 [iL d0,iL d1] (λ_ v=>v=iL r):=by
 unfold dl at hF
 intro M1 hM0 w0 H w p0
 replace hG:=GL.mono hM0 hG
 refine Re 20 Tryz.func126 rfl λa0 f0=>RR (Ye f0 1 λ_ f=>RR (Y f 1 λ_ f=>?_))
 obtain⟨X1,S1,F1⟩:=bS hF
 refine Y18 f p0 (mH n _ hG d0 X1 S1) λW1 N1 _ f=>Ye f 1 λ_ f=>RR (Y f 1 λ_ f=>?_)
 obtain⟨X2,S2,F2⟩:=bS F1
 refine Y18 f N1 (mH n _ hG d1 X2 S2) λW2 N2 _ f=>Ye f 1 λ_ f=>ag (RR (Ye f 1 λ_ f=>RcF f F2 (λB1 F3=>?_) λB1 F6=>?_))
 ·refine ag (RR (Ye f 1 λ_ f=>RcF f F3 (λB2 F4=>?_) λB2 F5=>?_))
  ·refine RR (Ye f 1 λ_ f=>wp_ret (aS (aS (ao f rfl (Lk 4 (iL 0)) ?_))))
   cases sI F4
   exact⟨_,rfl,M1,(mR _),N2,rfl⟩
  ·refine St (RR (Ye f 1 λ_ f=>wp_ret (aS (ao f rfl (Lk 4 (iL (-1))) ?_))))
   cases sI F5
   exact⟨_,rfl,M1,(mR _),N2,rfl⟩
 ·refine St (ag (RR (Ye f 1 λ_ f=>RcF f F6 (λB3 F7=>?_) λB3 F8=>?_)))
  ·refine RR (Ye f 1 λ_ f=>wp_ret (aS (ao f rfl (Lk 4 (iL 1)) ?_)))
   cases sI F7
   exact⟨_,rfl,M1,(mR _),N2,rfl⟩
  ·refine St (ag (RR (Ye f 3 λ_ f=>RcF f F8 (λB4 F9=>?_) λB4 F10=>?_)))
   ·have U7:=dI.1 B4
    refine RR (Ye f 1 λ_ f=>wp_ret (aS (ao f rfl (Lk 4 (iL (-1))) ?_)))
    cases sI F9
    exact⟨_,rfl,M1,(mR _),N2,rfl⟩
   ·have U8:=ap dI B4
    refine St (ag (RR (Ye f 3 λ_ f=>RcF f F10 (λB5 F11=>?_) λB5 F12=>?_)))
    ·have U9:=dI.1 B5
     refine RR (Ye f 1 λ_ f=>wp_ret (aS (ao f rfl (Lk 4 (iL 1)) ?_)))
     cases sI F11
     exact⟨_,rfl,M1,(mR _),N2,rfl⟩
    ·have U10:=ap dI B5
     refine St (RR (Ye f 1 λ_ f=>wp_ret (ao f rfl (Lk 4 (iL 0)) ?_)))
     cases sI F12
     exact⟨_,rfl,M1,(mR _),N2,rfl⟩
def jj (n:Nat) (d0:List Int) (K1:Int):Option (Lp Int (Sum Int Unit)):=
    bif(decide (K1<((d0.length:Nat):Int))) then
     ((aR d0 K1).bind λX1=>
     bif(!(decide (X1=0))) then
      (some (.br (.inl X1)))
     else
      aZ (inR .i64 (K1+1))<|
      some (.nx (K1+1)))
    else
     some (.br (.inr ()))
def pA (n:Nat) (d0:List Int):Option Int:=
 (aN (jj n d0) n (0:Int)).bind λQ1=>
 (match Q1 with
 |.inl G1=>some (G1)
 |.inr G2=>some ((0:Int)))
theorem sV (n:Nat) (M:Mem) (hG:GL M) (A0:Oa) (cap0:Nat) (d0:List Int) (h0:Sli M 1 (Dat.int .i64) A0 cap0 d0) (r:Int) (hF:pA n d0=some r):Ok Tryz.prog M 123 [sL A0 d0 cap0] (λ_ v=>v=iL r):=by
 unfold pA at hF
 intro M1 hM0 w0 H w p0
 replace hG:=GL.mono hM0 hG
 replace h0:=h0.mono hM0
 refine Re 18 Tryz.func123 rfl λa0 f0=>RR (Ye f0 1 λ_ f=>RR (Ye f 1 λ_ f=>ag (RR (Ye f 3 λ_ f=>wp_block ?_))))
 obtain⟨Q1,bH,F1⟩:=bS hF
 refine wp_mono (Q:=λe a w=>(e=.ret∧(∃G1:Int,Q1=.inl G1∧∃V2:Mem,M1.le V2∧Frm 18 [(2,iL G1)] a∧Hp w0 V2 (H) w))∨(e=.exit 0∧(∃G2:Unit,Q1=.inr G2∧∃V3:Mem,M1.le V3∧Frm 18 [(3,iL 0)] a∧Hp w0 V3 (H) w))) (bu (n:=18) (w0:=w0) (M:=M1) (λ (I1,K1)=>[(3,iL 0),(6,sL A0 d0 cap0),(7,iL ((d0.length:Nat):Int)),(8,iL K1)]) (λ (I1,K1)=>(H)) (λ (I1,K1) MM=>aN (jj n d0) I1 K1=some Q1) (λ (I1,K1)=>I1) (n,(0:Int)) (f.kp) p0 bH ?_) ?_
 ·rintro⟨I1,K1⟩ V1 _ W1 J1 dc f N1
  have bI:=dc
  obtain⟨I2,jP,rfl,be,T1⟩:=aT bI
  unfold jj at be
  refine RR (Ye f 1 λ_ f=>ag (RcF f be (λB1 F2=>?_) λB1 F7=>?_))
  ·have U1:=dI.1 B1
   refine St (ag (wp_block (RR ?_)))
   obtain⟨X1,S1,F3⟩:=bS F2
   obtain⟨C1,cP,dS,-,D1,R1⟩:=Sli.at_ (h0.mono J1) S1
   obtain rfl:cP=[iL X1]:=D1
   refine Z f (Y34 dS rfl (len:=d0.length) (cap:=cap0) (k:=.i64) (i:=K1) (e:=3) (sz:=1) (aF S1) (aE S1)) λ_ f=>Y15 f N1 R1 0 rfl λ_ f=>Ye f 1 λ_ f=>RR (Ye f 3 λ_ f=>RcF f F3 (λB2 F4=>?_) λB2 F5=>?_)
   ·have U2: ¬ (X1=0):=(av dI).1 B2
    refine RR (Ye f 2 λ_ f=>wp_ret (bV (aS (aS ?_))))
    cases sI F4
    exact .inl ⟨rfl,X1,(sI T1).symm,V1,J1,f.kp,N1⟩
   ·have U3: ¬ (¬ (X1=0)):=ap (av dI) B2
    refine wp_skip (cG (aH (aI ?_)))
    obtain⟨O1,F6⟩:=nS F5
    refine Y f 1 λ_ f=>?_
    have f:=f.st 16 (iW O1)
    refine Ye f 1 λ_ f=>?_
    cases sI F6
    exact⟨⟨I2,K1+1⟩,Nat.lt_succ_self _,V1,J1,T1,f.kp,N1⟩
  ·have U4:=ap dI B1
   refine wp_exit (co (co ?_))
   cases sI F7
   exact .inr ⟨rfl,(),(sI T1).symm,V1,J1,f.kp,N1⟩
 ·rintro _ _ W4 (⟨rfl,G1,rfl,V2,J2,f,N2⟩|⟨rfl,G2,rfl,V3,J3,f,N3⟩)
  ·refine bV (aS (ao f rfl (Lk 2 (iL G1)) ?_))
   cases sI F1
   exact⟨_,rfl,V2,J2,N2,rfl⟩
  ·refine iq (aH (RR (Ye f 2 λ_ f=>wp_ret (ao f rfl (Lk 2 (iL 0)) ?_))))
   cases sI F1
   exact⟨_,rfl,V3,J3,N3,rfl⟩
def ck (n:Nat) (rec_tree_compare:TF0→TF0→Option Int) (d0:TF0) (d1:TF0) (K1:Int):Option (Lp Int (Sum Int Unit)):=
    bif(decide (K1<(min ((d0.ac.length:Nat):Int) ((d1.ac.length:Nat):Int)))) then
     (((bif(decide (d0.ab=5)) then
      ((aR d0.ae K1).bind λX7=>
      (aR d1.ae K1).bind λX8=>
      (iJ n X7 X8).bind λX9=>
      bif(!(decide (X9=0))) then
       (((some (.br (.inl X9)):Option (Lp Int (Sum Int Unit)))).map Lp.br)
      else
       some (.nx ()))
       else
        some (.nx ()):Option (Lp Unit (Lp Int (Sum Int Unit))))).bind λj=>joinF j λG1=>
     (aR d0.ac K1).bind λX10=>
     (aR d1.ac K1).bind λX11=>
     (rec_tree_compare X10 X11).bind λX12=>
     bif(!(decide (X12=0))) then
      (some (.br (.inl X12)))
     else
      aZ (inR .i64 (K1+1))<|
      some (.nx (K1+1)))
    else
     some (.br (.inr ()))
def dv (n:Nat) (rec_tree_compare:TF0→TF0→Option Int) (d0:TF0) (d1:TF0):Option Int:=
 (iK n d0.ab d1.ab).bind λX1=>
 (jz n (d0.ak)).bind λX2=>
 (jz n (d1.ak)).bind λX3=>
 aZ (inR .i64 (X2-X3))<|
 (dl n d0.an d1.an).bind λX4=>
 (iJ n d0.ah d1.ah).bind λX5=>
 (pA n [X1,X2-X3,X4,X5]).bind λX6=>
 bif(!(decide (X6=0))) then
  (some (X6))
 else
  (aN (ck n rec_tree_compare d0 d1) n (0:Int)).bind λQ2=>
  (match Q2 with
  |.inl G2=>some (G2)
  |.inr G3=>(dl n ((d0.ac.length:Nat):Int) ((d1.ac.length:Nat):Int)).bind λX13=>
   some (X13))
set_option maxRecDepth 20000 in
theorem oS (n:Nat) (rec_tree_compare:TF0→TF0→Option Int) (hrec_tree_compare: ∀ (M:Mem) (hG:GL M) (ad0:Addr) (c0:Lv) (d0:TF0) (h0:Rep M (ay d0) c0) (q0: ∀j v,c0[j]? =some v→M.cell? (ad0.add j)=some v) (ad1:Addr) (c1:Lv) (d1:TF0) (h1:Rep M (ay d1) c1) (q1: ∀j v,c1[j]? =some v→M.cell? (ad1.add j)=some v) (r:Int) (hF:rec_tree_compare d0 d1=some r),Ok Tryz.prog M 117 [Pa ad0,Pa ad1] (λ_ v=>v=iL r)) (M:Mem) (hG:GL M) (ad0:Addr) (c0:Lv) (d0:TF0) (h0:Rep M (ay d0) c0) (q0: ∀j v,c0[j]? =some v→M.cell? (ad0.add j)=some v) (ad1:Addr) (c1:Lv) (d1:TF0) (h1:Rep M (ay d1) c1) (q1: ∀j v,c1[j]? =some v→M.cell? (ad1.add j)=some v) (r:Int) (hF:dv n rec_tree_compare d0 d1=some r):Ok Tryz.prog M 117 [Pa ad0,Pa ad1] (λ_ v=>v=iL r):=by
 unfold dv at hF
 intro M1 hM0 w0 H w p0
 replace hG:=GL.mono hM0 hG
 replace h0:=Rep.mono hM0 _ _ h0
 replace q0:=λj v h=>hM0.cell (q0 j v h)
 replace h1:=Rep.mono hM0 _ _ h1
 replace q1:=λj v h=>hM0.cell (q1 j v h)
 obtain⟨Z1,P1,Z2,P2,rfl,B1,B2⟩:=TF0.opn h0
 obtain⟨Z3,P3,Z4,P4,rfl,B3,B4⟩:=TF0.opn h1
 refine Re 117 Tryz.func117 rfl λa0 f0=>RR (Ye f0 1 λ_ f=>ag (ag (R_drawQ 38 p0 kr kr (Y5 default f 3 λ_ f=>Y4 f q0 0 rfl λ_ f=>Y5 default f 3 λ_ f=>Y4 f q1 0 rfl λ_ f=>?_))))
 obtain⟨X1,S1,F1⟩:=bS hF
 refine Y3 f (mG n _ d0.ab d1.ab X1 S1) λ_ f=>Y5 default f 3 λ_ f=>Y4 f q0 1 rfl λ_ f=>?_
 obtain⟨X2,S2,F2⟩:=bS F1
 refine Y3 f (kX n _ hG (d0.ak) X2 S2) λ_ f=>Y5 default f 3 λ_ f=>Y4 f q1 1 rfl λ_ f=>?_
 obtain⟨X3,S3,F3⟩:=bS F2
 refine Y3 f (kX n _ hG (d1.ak) X3 S3) λ_ f=>?_
 obtain⟨O1,F4⟩:=nS F3
 refine Y2 (v:=iL (IntKind.wrap .i64 (X2-X3))) f (λ_ pq=>by kernel_rfl) λ_ f=>?_
 have f:=f.st 28 (iW O1)
 refine Y5 default f 3 λ_ f=>Y4 f q0 2 rfl λ_ f=>Y5 default f 3 λ_ f=>Y4 f q1 2 rfl λ_ f=>?_
 obtain⟨X4,S4,F5⟩:=bS F4
 refine Y3 f (gW n _ hG d0.an d1.an X4 S4) λ_ f=>Y5 default f 3 λ_ f=>Y4 f q0 3 rfl λ_ f=>Y5 default f 3 λ_ f=>Y4 f q1 3 rfl λ_ f=>?_
 obtain⟨X5,S5,F6⟩:=bS F5
 refine Y3 f (kc n _ d0.ah d1.ah X5 S5) λ_ f=>bW rfl ?_
 intro W1 N1
 refine bg (k:=4) (c:=4) f N1 (.cells #[iL X1,iL (X2-X3),iL X4,iL X5] 3 (0,0)) kr (λ_=>by kernel_rfl) λQ1 W7 N7 _ f=>?_
 have D1:aa M1 ([X1,X2-X3,X4,X5].map (Dat.int .i64)) [iL X1,iL (X2-X3),iL X4,iL X5]:=⟨_,_,rfl,rfl,⟨_,_,rfl,rfl,⟨_,_,rfl,rfl,⟨_,_,rfl,rfl,rfl⟩⟩⟩⟩
 have N8:Hp w0 M1 ((Ent.row 3 1 (.slice (some ⟨Q1,0,none⟩) 4 4) [X1,X2-X3,X4,X5].length [iL X1,iL (X2-X3),iL X4,iL X5])::H) W7:=N7.objRow (n:=4) (cap:=4) (size:=1) (by decide) (by decide) (eO (by decide) rfl) rfl rfl
 obtain⟨V1,Z5,P5,J1,H1,N9,B5,hb_1⟩:=N8.lend (f:=(Dat.int .i64)) (xs:=[X1,X2-X3,X4,X5]) (dX .i64) D1
 have f:=f.st 47 (H1)
 obtain⟨X6,S6,F7⟩:=bS F6
 refine Y18 f N9 (sV n _ (GL.mono J1 hG) Z5 P5 [X1,X2-X3,X4,X5] B5 X6 S6) λW8 N10 _ f=>?_
 obtain⟨V2,J2,N11⟩:=hb_1 _ _ _ (mR _) N10
 have f:=f.st 47 (H1.symm)
 refine Ye f 1 λ_ f=>RR (Ye f 2 λ_ f=>RcF f F7 (λB6 F8=>?_) λB6 F9=>?_)
 ·have U1: ¬ (X6=0):=(av dI).1 B6
  refine RR (Ye f 2 λ_ f=>wp_ret (aS (ao f rfl (Lk 4 (iL X6)) ?_)))
  cases sI F8
  exact⟨_,rfl,V2,J2,(N11.dropN 1),rfl⟩
 ·have U2: ¬ (¬ (X6=0)):=ap (av dI) B6
  refine St (ag (ag (cR N11 kr kr (Y5 default f 3 λ_ f=>Y4 f (fzu J2 q0) 4 rfl λ_ f=>Y5 default f 4 λ_ f=>Y4 f (fzu J2 q1) 4 rfl λ_ f=>Y5 default f 1 λ_ f=>Y2 (v:=iL (min ((d0.ac.length:Nat):Int) ((d1.ac.length:Nat):Int))) f (λ_ pq=>X_min (k:=.i64) (a:=((d0.ac.length:Nat):Int)) (b:=((d1.ac.length:Nat):Int)) rfl kr kr) λ_ f=>Y5 default f 1 λ_ f=>bW rfl ?_))))
  intro W9 N12
  refine aH (wp_block ?_)
  obtain⟨Q2,bH,F10⟩:=bS F9
  refine wp_mono (Q:=λe a w=>(e=.ret∧(∃G2:Int,Q2=.inl G2∧∃V5:Mem,V2.le V5∧Frm 117 [(4,iL G2)] a∧Hp w0 V5 ((Ent.row 3 1 (.slice (some ⟨Q1,0,none⟩) 4 4) [X1,X2-X3,X4,X5].length [iL X1,iL (X2-X3),iL X4,iL X5])::H) w))∨(e=.exit 0∧(∃G3:Unit,Q2=.inr G3∧∃V6:Mem,V2.le V6∧Frm 117 [(0,Pa ad0),(1,Pa ad1)] a∧Hp w0 V6 ((Ent.row 3 1 (.slice (some ⟨Q1,0,none⟩) 4 4) [X1,X2-X3,X4,X5].length [iL X1,iL (X2-X3),iL X4,iL X5])::H) w))) (bu (n:=117) (w0:=w0) (M:=V2) (λ (I1,K1)=>[(0,Pa ad0),(1,Pa ad1),(62,iL (min ((d0.ac.length:Nat):Int) ((d1.ac.length:Nat):Int))),(63,iL K1)]) (λ (I1,K1)=>((Ent.row 3 1 (.slice (some ⟨Q1,0,none⟩) 4 4) [X1,X2-X3,X4,X5].length [iL X1,iL (X2-X3),iL X4,iL X5])::H)) (λ (I1,K1) MM=>aN (ck n rec_tree_compare d0 d1) I1 K1=some Q2) (λ (I1,K1)=>I1) (n,(0:Int)) (f.kp) N12 bH ?_) ?_
  ·rintro⟨I1,K1⟩ V3 _ W10 J3 dc f N13
   have bI:=dc
   obtain⟨I2,jP,rfl,be,T1⟩:=aT bI
   unfold ck at be
   refine RR (Ye f 1 λ_ f=>ag (RcF f be (λB7 F11=>?_) λB7 F27=>?_))
   ·have U3:=dI.1 B7
    refine St (ag (wp_block (RR (Ye f 2 λ_ f=>ag (RR (Y f 3 λ_ f=>Y15 f N13 (fzu (J2.trans J3) q0) 0 rfl λ_ f=>Ye f 1 λ_ f=>?_))))))
    obtain⟨cX,bX,F12⟩:=bS F11
    refine bj (λsi W13=>∃G1:Unit,cX=.nx G1∧∃V4:Mem,V3.le V4∧Frm 117 [(0,Pa ad0),(1,Pa ad1),(6,iL K1),(62,iL (min ((d0.ac.length:Nat):Int) ((d1.ac.length:Nat):Int))),(63,iL K1)] si∧Hp w0 V4 ((Ent.row 3 1 (.slice (some ⟨Q1,0,none⟩) 4 4) [X1,X2-X3,X4,X5].length [iL X1,iL (X2-X3),iL X4,iL X5])::H) W13) ?_ ?_
    ·refine RcF f bX (λB8 F13=>?_) λB8 F20=>?_
     ·have U4:=dI.1 B8
      refine ag (cR N13 kr kr (Y5 default f 3 λ_ f=>Y4 f (fzu (J2.trans J3) q0) 5 rfl λ_ f=>Y5 default f 1 λ_ f=>?_))
      obtain⟨X7,S7,F14⟩:=bS F13
      obtain⟨C1,cP,dS,-,D2,R1⟩:=Sli.at_ (B2.mono (J2.trans J3)) S7
      obtain rfl:cP=[S X7]:=D2
      refine Y2 (v:=Pa (C1.add (K1.toNat*1))) f (λ_ pq=>Y34 dS rfl (len:=d0.ae.length) (cap:=P2) (k:=.i64) (i:=K1) (e:=9) (sz:=1) (aF S7) (aE S7)) λ_ f=>Y4 f R1 0 rfl λ_ f=>Y5 default f 3 λ_ f=>Y4 f (fzu (J2.trans J3) q1) 5 rfl λ_ f=>Y5 default f 1 λ_ f=>?_
      obtain⟨X8,S8,F15⟩:=bS F14
      obtain⟨C2,jX,lp,-,D3,R2⟩:=Sli.at_ (B4.mono (J2.trans J3)) S8
      obtain rfl:jX=[S X8]:=D3
      refine Y2 (v:=Pa (C2.add (K1.toNat*1))) f (λ_ pq=>Y34 lp rfl (len:=d1.ae.length) (cap:=P4) (k:=.i64) (i:=K1) (e:=9) (sz:=1) (aF S8) (aE S8)) λ_ f=>Y4 f R2 0 rfl λ_ f=>?_
      obtain⟨X9,S9,F16⟩:=bS F15
      refine Y3 f (kc n _ X7 X8 X9 S9) λ_ f=>Y5 default f 1 λ_ f=>bW rfl ?_
      intro W12 N15
      refine aH (RR (Ye f 2 λ_ f=>RcF f F16 (λB9 F17=>?_) λB9 F19=>?_))
      ·have U5: ¬ (X9=0):=(av dI).1 B9
       refine RR (Ye f 2 λ_ f=>wp_ret ?_)
       have F18:=cC F17 F12
       refine aS (aS (bV (aS (aS ?_))))
       cases sI F18
       exact .inl ⟨rfl,X9,(sI T1).symm,V3,J3,f.kp,N15⟩
      ·have U6: ¬ (¬ (X9=0)):=ap (av dI) B9
       refine St ?_
       exact⟨(),(sI F19).symm,V3,(mR _),f.kp,N15⟩
     ·have U7:=ap dI B8
      refine St ?_
      exact⟨(),(sI F20).symm,V3,(mR _),f.kp,N13⟩
    ·rintro si W13 ⟨G1,rfl,V4,J4,f,N16⟩
     refine aH (ag (cR N16 kr kr (Y5 default f 3 λ_ f=>Y4 f (fzu ((J2.trans J3).trans J4) q0) 4 rfl λ_ f=>Y5 default f 1 λ_ f=>?_)))
     obtain⟨X10,S10,F21⟩:=bS F12
     obtain⟨C3,c_3,sh,-,D4,R3⟩:=Sli.at_ (B1.mono ((J2.trans J3).trans J4)) S10
     obtain⟨Z6,P6,Z7,P7,rfl,B10,B11⟩:=TF0.opn D4
     refine Y2 (v:=Pa (C3.add (K1.toNat*6))) f (λ_ pq=>Y34 sh rfl (len:=d0.ac.length) (cap:=P1) (k:=.i64) (i:=K1) (e:=73) (sz:=6) (aF S10) (aE S10)) λ_ f=>Y5 default f 3 λ_ f=>Y4 f (fzu ((J2.trans J3).trans J4) q1) 4 rfl λ_ f=>Y5 default f 1 λ_ f=>?_
     obtain⟨X11,S11,F22⟩:=bS F21
     obtain⟨C4,c_4,qG,-,D5,R4⟩:=Sli.at_ (B3.mono ((J2.trans J3).trans J4)) S11
     obtain⟨Z8,P8,Z9,P9,rfl,B12,B13⟩:=TF0.opn D5
     refine Y2 (v:=Pa (C4.add (K1.toNat*6))) f (λ_ pq=>Y34 qG rfl (len:=d1.ac.length) (cap:=P3) (k:=.i64) (i:=K1) (e:=73) (sz:=6) (aF S11) (aE S11)) λ_ f=>?_
     obtain⟨X12,S12,F23⟩:=bS F22
     refine Y3 f (hrec_tree_compare _ (GL.mono ((J2.trans J3).trans J4) hG) (C3.add (K1.toNat*6)) (lTF0 X10 Z6 P6 Z7 P7) X10 (TF0.shutx (x:=X10) B10 B11) (gE (R3) 0 rfl) (C4.add (K1.toNat*6)) (lTF0 X11 Z8 P8 Z9 P9) X11 (TF0.shutx (x:=X11) B12 B13) (gE (R4) 0 rfl) X12 S12) λ_ f=>Y5 default f 1 λ_ f=>bW rfl ?_
     intro W15 N18
     refine aH (RR (Ye f 2 λ_ f=>RcF f F23 (λB14 F24=>?_) λB14 F25=>?_))
     ·have U8: ¬ (X12=0):=(av dI).1 B14
      refine RR (Ye f 2 λ_ f=>wp_ret (bV (aS (aS ?_))))
      cases sI F24
      exact .inl ⟨rfl,X12,(sI T1).symm,V4,(J3.trans J4),f.kp,N18⟩
     ·have U9: ¬ (¬ (X12=0)):=ap (av dI) B14
      refine wp_skip (cG (aH (aI ?_)))
      obtain⟨O2,F26⟩:=nS F25
      refine Y f 1 λ_ f=>?_
      have f:=f.st 105 (iW O2)
      refine Ye f 1 λ_ f=>?_
      cases sI F26
      exact⟨⟨I2,K1+1⟩,Nat.lt_succ_self _,V4,(J3.trans J4),T1,f.kp,N18⟩
   ·have U10:=ap dI B7
    refine wp_exit (co (co ?_))
    cases sI F27
    exact .inr ⟨rfl,(),(sI T1).symm,V3,J3,f.kp,N13⟩
  ·rintro _ _ W18 (⟨rfl,G2,rfl,V5,J5,f,N19⟩|⟨rfl,G3,rfl,V6,J6,f,N20⟩)
   ·refine bV (aS (ao f rfl (Lk 4 (iL G2)) ?_))
    cases sI F10
    exact⟨_,rfl,V5,(J2.trans J5),(N19.dropN 1),rfl⟩
   ·refine iq (aH (ag (cR N20 kr kr (Y5 default f 3 λ_ f=>Y4 f (fzu (J2.trans J6) q0) 4 rfl λ_ f=>Y5 default f 4 λ_ f=>Y4 f (fzu (J2.trans J6) q1) 4 rfl λ_ f=>Y5 default f 1 λ_ f=>?_))))
    obtain⟨X13,S13,F28⟩:=bS F10
    refine Y3 f (gW n _ (GL.mono (J2.trans J6) hG) ((d0.ac.length:Nat):Int) ((d1.ac.length:Nat):Int) X13 S13) λ_ f=>Y5 default f 1 λ_ f=>bW rfl ?_
    intro W20 N22
    refine aH (wp_ret (ao f rfl (Lk 4 (iL X13)) ?_))
    cases sI F28
    exact⟨_,rfl,V6,(J2.trans J6),(N22.dropN 1),rfl⟩
def eu (n:Nat):Nat→TF0→TF0→Option Int
 |0=>λ_ _=>none
 |k+1=>dv n (eu n k)
def eU (n:Nat) (d0:TF0) (d1:TF0):Option Int:=eu n n d0 d1
theorem qv (n:Nat) (M:Mem) (hG:GL M) (ad0:Addr) (c0:Lv) (d0:TF0) (h0:Rep M (ay d0) c0) (q0: ∀j v,c0[j]? =some v→M.cell? (ad0.add j)=some v) (ad1:Addr) (c1:Lv) (d1:TF0) (h1:Rep M (ay d1) c1) (q1: ∀j v,c1[j]? =some v→M.cell? (ad1.add j)=some v) (r:Int) (hF:eU n d0 d1=some r):Ok Tryz.prog M 117 [Pa ad0,Pa ad1] (λ_ v=>v=iL r):=by
 have key: ∀ (k:Nat) (M:Mem) (hG:GL M) (ad0:Addr) (c0:Lv) (d0:TF0) (h0:Rep M (ay d0) c0) (q0: ∀j v,c0[j]? =some v→M.cell? (ad0.add j)=some v) (ad1:Addr) (c1:Lv) (d1:TF0) (h1:Rep M (ay d1) c1) (q1: ∀j v,c1[j]? =some v→M.cell? (ad1.add j)=some v) (r:Int) (hF:eu n k d0 d1=some r),Ok Tryz.prog M 117 [Pa ad0,Pa ad1] (λ_ v=>v=iL r):=by
  intro k
  induction k with
  |zero=>intro M hG ad0 c0 d0 h0 q0 ad1 c1 d1 h1 q1 r hF;simp[eu] at hF
  |succ k ih=>intro M hG ad0 c0 d0 h0 q0 ad1 c1 d1 h1 q1 r hF;exact oS n (eu n k) ih M hG ad0 c0 d0 h0 q0 ad1 c1 d1 h1 q1 r hF
 exact key n M hG ad0 c0 d0 h0 q0 ad1 c1 d1 h1 q1 r hF
def gB (n:Nat) (aL:Int) (aj:List TF0) (aO:List Bs) (cQ:List TF0) (mi:List Bs) (K1:Int):Option (Lp Int (Sum Int Unit)):=
    bif(decide (K1<(min ((aj.length:Nat):Int) ((cQ.length:Nat):Int)))) then
     (((bif(decide (aL=5)) then
      ((aR aO K1).bind λX7=>
      (aR mi K1).bind λX8=>
      (iJ n X7 X8).bind λX9=>
      bif(!(decide (X9=0))) then
       (((some (.br (.inl X9)):Option (Lp Int (Sum Int Unit)))).map Lp.br)
      else
       some (.nx ()))
       else
        some (.nx ()):Option (Lp Unit (Lp Int (Sum Int Unit))))).bind λj=>joinF j λG1=>
     (aR aj K1).bind λX10=>
     (aR cQ K1).bind λX11=>
     (eU n X10 X11).bind λX12=>
     bif(!(decide (X12=0))) then
      (some (.br (.inl X12)))
     else
      aZ (inR .i64 (K1+1))<|
      some (.nx (K1+1)))
    else
     some (.br (.inr ()))
def ew (n:Nat) (aL:Int) (aM:Bool) (ar:Int) (aw:Bs) (aj:List TF0) (aO:List Bs) (eJ:Int) (gC:Bool) (gh:Int) (ic:Bs) (cQ:List TF0) (mi:List Bs):Option (Int×Int×Bool×Int×Bs×List TF0×List Bs×Int×Bool×Int×Bs×List TF0×List Bs):=
 (iK n aL eJ).bind λX1=>
 (jz n (aM)).bind λX2=>
 (jz n (gC)).bind λX3=>
 aZ (inR .i64 (X2-X3))<|
 (dl n ar gh).bind λX4=>
 (iJ n aw ic).bind λX5=>
 (pA n [X1,X2-X3,X4,X5]).bind λX6=>
 bif(!(decide (X6=0))) then
  (some ((X6,aL,(aM),ar,aw,aj,aO,eJ,(gC),gh,ic,cQ,mi)))
 else
  (aN (gB n aL aj aO cQ mi) n (0:Int)).bind λQ2=>
  (match Q2 with
  |.inl G2=>some ((G2,aL,(aM),ar,aw,aj,aO,eJ,(gC),gh,ic,cQ,mi))
  |.inr G3=>(dl n ((aj.length:Nat):Int) ((cQ.length:Nat):Int)).bind λX13=>
   some ((X13,aL,(aM),ar,aw,aj,aO,eJ,(gC),gh,ic,cQ,mi)))
set_option maxRecDepth 20000 in
theorem oT (n:Nat) (M:Mem) (hG:GL M) (b0:Nat) (aL:Int) (aM:Bool) (ar:Int) (aw:Bs) (aj:List TF0) (Z1:Oa) (P1:Nat) (B1:Sli M 6 ay Z1 P1 aj) (aO:List Bs) (Z2:Oa) (P2:Nat) (B2:Sli M 1 Dat.str Z2 P2 aO) (b1:Nat) (eJ:Int) (gC:Bool) (gh:Int) (ic:Bs) (cQ:List TF0) (Z3:Oa) (P3:Nat) (B3:Sli M 6 ay Z3 P3 cQ) (mi:List Bs) (Z4:Oa) (P4:Nat) (B4:Sli M 1 Dat.str Z4 P4 mi) (r:Int×Int×Bool×Int×Bs×List TF0×List Bs×Int×Bool×Int×Bs×List TF0×List Bs) (hF:ew n aL aM ar aw aj aO eJ gC gh ic cQ mi=some r):OkH Tryz.prog M [oC b0 #[iB aL,bO aM,iL ar,S aw,sL Z1 aj P1,sL Z2 aO P2] 73,oC b1 #[iB eJ,bO gC,iL gh,S ic,sL Z3 cQ P3,sL Z4 mi P4] 73] 117 [pP b0,pP b1] (λM' E' v=>∃ (Z10:Oa) (P10:Nat) (Z11:Oa) (P11:Nat) (Z12:Oa) (P12:Nat) (Z13:Oa) (P13:Nat),v=iL r.1∧E'=[oC b0 #[iB r.2.1,bO r.2.2.1,iL r.t3.1,S r.t4.1,sL Z10 r.t5.1 P10,sL Z11 r.t6.1 P11] 73,oC b1 #[iB r.t7.1,bO r.t8.1,iL r.t9.1,S r.t10.1,sL Z12 r.t11.1 P12,sL Z13 r.t12 P13] 73]∧Sli M' 6 ay Z10 P10 r.t5.1∧Sli M' 1 Dat.str Z11 P11 r.t6.1∧Sli M' 6 ay Z12 P12 r.t11.1∧Sli M' 1 Dat.str Z13 P13 r.t12):=by
 unfold ew at hF
 intro M1 hM0 w0 H w p0
 replace hG:=GL.mono hM0 hG
 replace B1:=B1.mono hM0
 replace B2:=B2.mono hM0
 replace B3:=B3.mono hM0
 replace B4:=B4.mono hM0
 refine Re 117 Tryz.func117 rfl λa0 f0=>RR (Ye f0 1 λ_ f=>ag (ag (R_drawQ 38 p0 kr kr (Y5 default f 3 λ_ f=>Y2 f (λ_ pq=>Y35 (v:=iB aL) rfl (ad:=⟨b0,0,none⟩) (pq.ownCell 0 rfl 0)) λ_ f=>Y5 default f 3 λ_ f=>Y2 f (λ_ pq=>Y35 (v:=iB eJ) rfl (ad:=⟨b1,0,none⟩) (pq.ownCell 1 rfl 0)) λ_ f=>?_))))
 obtain⟨X1,S1,F1⟩:=bS hF
 refine Y3 f (mG n _ aL eJ X1 S1) λ_ f=>Y5 default f 3 λ_ f=>Y2 f (λ_ pq=>Y35 (v:=bO aM) rfl (ad:=⟨b0,1,none⟩) (pq.ownCell 0 rfl 1)) λ_ f=>?_
 obtain⟨X2,S2,F2⟩:=bS F1
 refine Y3 f (kX n _ hG (aM) X2 S2) λ_ f=>Y5 default f 3 λ_ f=>Y2 f (λ_ pq=>Y35 (v:=bO gC) rfl (ad:=⟨b1,1,none⟩) (pq.ownCell 1 rfl 1)) λ_ f=>?_
 obtain⟨X3,S3,F3⟩:=bS F2
 refine Y3 f (kX n _ hG (gC) X3 S3) λ_ f=>?_
 obtain⟨O1,F4⟩:=nS F3
 refine Y2 (v:=iL (IntKind.wrap .i64 (X2-X3))) f (λ_ pq=>by kernel_rfl) λ_ f=>?_
 have f:=f.st 28 (iW O1)
 refine Y5 default f 3 λ_ f=>Y2 f (λ_ pq=>Y35 (v:=iL ar) rfl (ad:=⟨b0,2,none⟩) (pq.ownCell 0 rfl 2)) λ_ f=>Y5 default f 3 λ_ f=>Y2 f (λ_ pq=>Y35 (v:=iL gh) rfl (ad:=⟨b1,2,none⟩) (pq.ownCell 1 rfl 2)) λ_ f=>?_
 obtain⟨X4,S4,F5⟩:=bS F4
 refine Y3 f (gW n _ hG ar gh X4 S4) λ_ f=>Y5 default f 3 λ_ f=>Y2 f (λ_ pq=>Y35 (v:=S aw) rfl (ad:=⟨b0,3,none⟩) (pq.ownCell 0 rfl 3)) λ_ f=>Y5 default f 3 λ_ f=>Y2 f (λ_ pq=>Y35 (v:=S ic) rfl (ad:=⟨b1,3,none⟩) (pq.ownCell 1 rfl 3)) λ_ f=>?_
 obtain⟨X5,S5,F6⟩:=bS F5
 refine Y3 f (kc n _ aw ic X5 S5) λ_ f=>bW rfl ?_
 intro W1 N1
 refine bg (k:=4) (c:=4) f N1 (.cells #[iL X1,iL (X2-X3),iL X4,iL X5] 3 (0,0)) kr (λ_=>by kernel_rfl) λQ1 W7 N7 _ f=>?_
 have D1:aa M1 ([X1,X2-X3,X4,X5].map (Dat.int .i64)) [iL X1,iL (X2-X3),iL X4,iL X5]:=⟨_,_,rfl,rfl,⟨_,_,rfl,rfl,⟨_,_,rfl,rfl,⟨_,_,rfl,rfl,rfl⟩⟩⟩⟩
 have N8:Hp w0 M1 ((Ent.row 3 1 (.slice (some ⟨Q1,0,none⟩) 4 4) [X1,X2-X3,X4,X5].length [iL X1,iL (X2-X3),iL X4,iL X5])::(oC b0 #[iB aL,bO aM,iL ar,S aw,sL Z1 aj P1,sL Z2 aO P2] 73)::(oC b1 #[iB eJ,bO gC,iL gh,S ic,sL Z3 cQ P3,sL Z4 mi P4] 73)::H) W7:=N7.objRow (n:=4) (cap:=4) (size:=1) (by decide) (by decide) (eO (by decide) rfl) rfl rfl
 obtain⟨V1,Z5,P5,J1,H1,N9,B5,hb_1⟩:=N8.lend (f:=(Dat.int .i64)) (xs:=[X1,X2-X3,X4,X5]) (dX .i64) D1
 have f:=f.st 47 (H1)
 obtain⟨X6,S6,F7⟩:=bS F6
 refine Y18 f N9 (sV n _ (GL.mono J1 hG) Z5 P5 [X1,X2-X3,X4,X5] B5 X6 S6) λW8 N10 _ f=>?_
 obtain⟨V2,J2,N11⟩:=hb_1 _ _ _ (mR _) N10
 have f:=f.st 47 (H1.symm)
 refine Ye f 1 λ_ f=>RR (Ye f 2 λ_ f=>RcF f F7 (λB6 F8=>?_) λB6 F9=>?_)
 ·have U1: ¬ (X6=0):=(av dI).1 B6
  refine RR (Ye f 2 λ_ f=>wp_ret (aS (ao f rfl (Lk 4 (iL X6)) ?_)))
  cases sI F8
  exact⟨_,rfl,V2,_,J2,(N11.dropN 1),⟨Z1,P1,Z2,P2,Z3,P3,Z4,P4,rfl,rfl,(B1.mono J2),(B2.mono J2),(B3.mono J2),(B4.mono J2)⟩⟩
 ·have U2: ¬ (¬ (X6=0)):=ap (av dI) B6
  refine St (ag (ag (cR N11 kr kr (Y5 default f 3 λ_ f=>Y2 f (λ_ pq=>Y35 (v:=sL Z1 aj P1) rfl (ad:=⟨b0,4,none⟩) (pq.ownCell 1 rfl 4)) λ_ f=>Y5 default f 4 λ_ f=>Y2 f (λ_ pq=>Y35 (v:=sL Z3 cQ P3) rfl (ad:=⟨b1,4,none⟩) (pq.ownCell 2 rfl 4)) λ_ f=>Y5 default f 1 λ_ f=>Y2 (v:=iL (min ((aj.length:Nat):Int) ((cQ.length:Nat):Int))) f (λ_ pq=>X_min (k:=.i64) (a:=((aj.length:Nat):Int)) (b:=((cQ.length:Nat):Int)) rfl kr kr) λ_ f=>Y5 default f 1 λ_ f=>bW rfl ?_))))
  intro W9 N12
  refine aH (wp_block ?_)
  obtain⟨Q2,bH,F10⟩:=bS F9
  refine wp_mono (Q:=λe a w=>(e=.ret∧(∃G2:Int,Q2=.inl G2∧∃V5:Mem,V2.le V5∧Frm 117 [(4,iL G2)] a∧Hp w0 V5 ((Ent.row 3 1 (.slice (some ⟨Q1,0,none⟩) 4 4) [X1,X2-X3,X4,X5].length [iL X1,iL (X2-X3),iL X4,iL X5])::(oC b0 #[iB aL,bO aM,iL ar,S aw,sL Z1 aj P1,sL Z2 aO P2] 73)::(oC b1 #[iB eJ,bO gC,iL gh,S ic,sL Z3 cQ P3,sL Z4 mi P4] 73)::H) w))∨(e=.exit 0∧(∃G3:Unit,Q2=.inr G3∧∃V6:Mem,V2.le V6∧Frm 117 [(0,pP b0),(1,pP b1)] a∧Hp w0 V6 ((Ent.row 3 1 (.slice (some ⟨Q1,0,none⟩) 4 4) [X1,X2-X3,X4,X5].length [iL X1,iL (X2-X3),iL X4,iL X5])::(oC b0 #[iB aL,bO aM,iL ar,S aw,sL Z1 aj P1,sL Z2 aO P2] 73)::(oC b1 #[iB eJ,bO gC,iL gh,S ic,sL Z3 cQ P3,sL Z4 mi P4] 73)::H) w))) (bu (n:=117) (w0:=w0) (M:=V2) (λ (I1,K1)=>[(0,pP b0),(1,pP b1),(62,iL (min ((aj.length:Nat):Int) ((cQ.length:Nat):Int))),(63,iL K1)]) (λ (I1,K1)=>((Ent.row 3 1 (.slice (some ⟨Q1,0,none⟩) 4 4) [X1,X2-X3,X4,X5].length [iL X1,iL (X2-X3),iL X4,iL X5])::(oC b0 #[iB aL,bO aM,iL ar,S aw,sL Z1 aj P1,sL Z2 aO P2] 73)::(oC b1 #[iB eJ,bO gC,iL gh,S ic,sL Z3 cQ P3,sL Z4 mi P4] 73)::H)) (λ (I1,K1) MM=>aN (gB n aL aj aO cQ mi) I1 K1=some Q2) (λ (I1,K1)=>I1) (n,(0:Int)) (f.kp) N12 bH ?_) ?_
  ·rintro⟨I1,K1⟩ V3 _ W10 J3 dc f N13
   have bI:=dc
   obtain⟨I2,jP,rfl,be,T1⟩:=aT bI
   unfold gB at be
   refine RR (Ye f 1 λ_ f=>ag (RcF f be (λB7 F11=>?_) λB7 F27=>?_))
   ·have U3:=dI.1 B7
    refine St (ag (wp_block (RR (Ye f 2 λ_ f=>ag (RR (Y f 3 λ_ f=>Z f (Y35 (v:=iB aL) rfl (ad:=⟨b0,0,none⟩) (N13.ownCell 1 rfl 0)) λ_ f=>Ye f 1 λ_ f=>?_))))))
    obtain⟨cX,bX,F12⟩:=bS F11
    refine bj (λsi W13=>∃G1:Unit,cX=.nx G1∧∃V4:Mem,V3.le V4∧Frm 117 [(0,pP b0),(1,pP b1),(6,iL K1),(62,iL (min ((aj.length:Nat):Int) ((cQ.length:Nat):Int))),(63,iL K1)] si∧Hp w0 V4 ((Ent.row 3 1 (.slice (some ⟨Q1,0,none⟩) 4 4) [X1,X2-X3,X4,X5].length [iL X1,iL (X2-X3),iL X4,iL X5])::(oC b0 #[iB aL,bO aM,iL ar,S aw,sL Z1 aj P1,sL Z2 aO P2] 73)::(oC b1 #[iB eJ,bO gC,iL gh,S ic,sL Z3 cQ P3,sL Z4 mi P4] 73)::H) W13) ?_ ?_
    ·refine RcF f bX (λB8 F13=>?_) λB8 F20=>?_
     ·have U4:=dI.1 B8
      refine ag (cR N13 kr kr (Y5 default f 3 λ_ f=>Y2 f (λ_ pq=>Y35 (v:=sL Z2 aO P2) rfl (ad:=⟨b0,5,none⟩) (pq.ownCell 1 rfl 5)) λ_ f=>Y5 default f 1 λ_ f=>?_))
      obtain⟨X7,S7,F14⟩:=bS F13
      obtain⟨C1,cP,dS,-,D2,R1⟩:=Sli.at_ (B2.mono (J2.trans J3)) S7
      obtain rfl:cP=[S X7]:=D2
      refine Y2 (v:=Pa (C1.add (K1.toNat*1))) f (λ_ pq=>Y34 dS rfl (len:=aO.length) (cap:=P2) (k:=.i64) (i:=K1) (e:=9) (sz:=1) (aF S7) (aE S7)) λ_ f=>Y4 f R1 0 rfl λ_ f=>Y5 default f 3 λ_ f=>Y2 f (λ_ pq=>Y35 (v:=sL Z4 mi P4) rfl (ad:=⟨b1,5,none⟩) (pq.ownCell 2 rfl 5)) λ_ f=>Y5 default f 1 λ_ f=>?_
      obtain⟨X8,S8,F15⟩:=bS F14
      obtain⟨C2,jX,lp,-,D3,R2⟩:=Sli.at_ (B4.mono (J2.trans J3)) S8
      obtain rfl:jX=[S X8]:=D3
      refine Y2 (v:=Pa (C2.add (K1.toNat*1))) f (λ_ pq=>Y34 lp rfl (len:=mi.length) (cap:=P4) (k:=.i64) (i:=K1) (e:=9) (sz:=1) (aF S8) (aE S8)) λ_ f=>Y4 f R2 0 rfl λ_ f=>?_
      obtain⟨X9,S9,F16⟩:=bS F15
      refine Y3 f (kc n _ X7 X8 X9 S9) λ_ f=>Y5 default f 1 λ_ f=>bW rfl ?_
      intro W12 N15
      refine aH (RR (Ye f 2 λ_ f=>RcF f F16 (λB9 F17=>?_) λB9 F19=>?_))
      ·have U5: ¬ (X9=0):=(av dI).1 B9
       refine RR (Ye f 2 λ_ f=>wp_ret ?_)
       have F18:=cC F17 F12
       refine aS (aS (bV (aS (aS ?_))))
       cases sI F18
       exact .inl ⟨rfl,X9,(sI T1).symm,V3,J3,f.kp,N15⟩
      ·have U6: ¬ (¬ (X9=0)):=ap (av dI) B9
       refine St ?_
       exact⟨(),(sI F19).symm,V3,(mR _),f.kp,N15⟩
     ·have U7:=ap dI B8
      refine St ?_
      exact⟨(),(sI F20).symm,V3,(mR _),f.kp,N13⟩
    ·rintro si W13 ⟨G1,rfl,V4,J4,f,N16⟩
     refine aH (ag (cR N16 kr kr (Y5 default f 3 λ_ f=>Y2 f (λ_ pq=>Y35 (v:=sL Z1 aj P1) rfl (ad:=⟨b0,4,none⟩) (pq.ownCell 1 rfl 4)) λ_ f=>Y5 default f 1 λ_ f=>?_)))
     obtain⟨X10,S10,F21⟩:=bS F12
     obtain⟨C3,c_3,sh,-,D4,R3⟩:=Sli.at_ (B1.mono ((J2.trans J3).trans J4)) S10
     obtain⟨Z6,P6,Z7,P7,rfl,B10,B11⟩:=TF0.opn D4
     refine Y2 (v:=Pa (C3.add (K1.toNat*6))) f (λ_ pq=>Y34 sh rfl (len:=aj.length) (cap:=P1) (k:=.i64) (i:=K1) (e:=73) (sz:=6) (aF S10) (aE S10)) λ_ f=>Y5 default f 3 λ_ f=>Y2 f (λ_ pq=>Y35 (v:=sL Z3 cQ P3) rfl (ad:=⟨b1,4,none⟩) (pq.ownCell 2 rfl 4)) λ_ f=>Y5 default f 1 λ_ f=>?_
     obtain⟨X11,S11,F22⟩:=bS F21
     obtain⟨C4,c_4,qG,-,D5,R4⟩:=Sli.at_ (B3.mono ((J2.trans J3).trans J4)) S11
     obtain⟨Z8,P8,Z9,P9,rfl,B12,B13⟩:=TF0.opn D5
     refine Y2 (v:=Pa (C4.add (K1.toNat*6))) f (λ_ pq=>Y34 qG rfl (len:=cQ.length) (cap:=P3) (k:=.i64) (i:=K1) (e:=73) (sz:=6) (aF S11) (aE S11)) λ_ f=>?_
     obtain⟨X12,S12,F23⟩:=bS F22
     refine Y3 f (qv n _ (GL.mono ((J2.trans J3).trans J4) hG) (C3.add (K1.toNat*6)) (lTF0 X10 Z6 P6 Z7 P7) X10 (TF0.shutx (x:=X10) B10 B11) (gE (R3) 0 rfl) (C4.add (K1.toNat*6)) (lTF0 X11 Z8 P8 Z9 P9) X11 (TF0.shutx (x:=X11) B12 B13) (gE (R4) 0 rfl) X12 S12) λ_ f=>Y5 default f 1 λ_ f=>bW rfl ?_
     intro W15 N18
     refine aH (RR (Ye f 2 λ_ f=>RcF f F23 (λB14 F24=>?_) λB14 F25=>?_))
     ·have U8: ¬ (X12=0):=(av dI).1 B14
      refine RR (Ye f 2 λ_ f=>wp_ret (bV (aS (aS ?_))))
      cases sI F24
      exact .inl ⟨rfl,X12,(sI T1).symm,V4,(J3.trans J4),f.kp,N18⟩
     ·have U9: ¬ (¬ (X12=0)):=ap (av dI) B14
      refine wp_skip (cG (aH (aI ?_)))
      obtain⟨O2,F26⟩:=nS F25
      refine Y f 1 λ_ f=>?_
      have f:=f.st 105 (iW O2)
      refine Ye f 1 λ_ f=>?_
      cases sI F26
      exact⟨⟨I2,K1+1⟩,Nat.lt_succ_self _,V4,(J3.trans J4),T1,f.kp,N18⟩
   ·have U10:=ap dI B7
    refine wp_exit (co (co ?_))
    cases sI F27
    exact .inr ⟨rfl,(),(sI T1).symm,V3,J3,f.kp,N13⟩
  ·rintro _ _ W18 (⟨rfl,G2,rfl,V5,J5,f,N19⟩|⟨rfl,G3,rfl,V6,J6,f,N20⟩)
   ·refine bV (aS (ao f rfl (Lk 4 (iL G2)) ?_))
    cases sI F10
    exact⟨_,rfl,V5,_,(J2.trans J5),(N19.dropN 1),⟨Z1,P1,Z2,P2,Z3,P3,Z4,P4,rfl,rfl,(B1.mono (J2.trans J5)),(B2.mono (J2.trans J5)),(B3.mono (J2.trans J5)),(B4.mono (J2.trans J5))⟩⟩
   ·refine iq (aH (ag (cR N20 kr kr (Y5 default f 3 λ_ f=>Y2 f (λ_ pq=>Y35 (v:=sL Z1 aj P1) rfl (ad:=⟨b0,4,none⟩) (pq.ownCell 1 rfl 4)) λ_ f=>Y5 default f 4 λ_ f=>Y2 f (λ_ pq=>Y35 (v:=sL Z3 cQ P3) rfl (ad:=⟨b1,4,none⟩) (pq.ownCell 2 rfl 4)) λ_ f=>Y5 default f 1 λ_ f=>?_))))
    obtain⟨X13,S13,F28⟩:=bS F10
    refine Y3 f (gW n _ (GL.mono (J2.trans J6) hG) ((aj.length:Nat):Int) ((cQ.length:Nat):Int) X13 S13) λ_ f=>Y5 default f 1 λ_ f=>bW rfl ?_
    intro W20 N22
    refine aH (wp_ret (ao f rfl (Lk 4 (iL X13)) ?_))
    cases sI F28
    exact⟨_,rfl,V6,_,(J2.trans J6),(N22.dropN 1),⟨Z1,P1,Z2,P2,Z3,P3,Z4,P4,rfl,rfl,(B1.mono (J2.trans J6)),(B2.mono (J2.trans J6)),(B3.mono (J2.trans J6)),(B4.mono (J2.trans J6))⟩⟩
def lB (n:Nat) (d0:TF0) (d1:TF0):Option (Int×Bool):=
 (((gK n d0).bind λX1=>
   bif(!(decide (X1=0))) then
    (some ((true)))
   else
    (gK n d1).bind λX2=>
    some ((!(decide (X2=0)))):Option Bool)).bind λG1=>
 bif G1 then
  (some (((0:Int),(false))))
 else
  (kW n d0).bind λX3=>
  (kW n d1).bind λX4=>
  (ew n X3.ab (X3.ak) X3.an X3.ah X3.ac X3.ae X4.ab (X4.ak) X4.an X4.ah X4.ac X4.ae).bind λX5=>
  some ((X5.1,(true)))
theorem tree_both_ok (n:Nat) (M:Mem) (hG:GL M) (c0:Lv) (d0:TF0) (h0:Rep M (ay d0) c0) (c1:Lv) (d1:TF0) (h1:Rep M (ay d1) c1) (r:Int×Bool) (hF:lB n d0 d1=some r):Ok Tryz.prog M 106 [.agg c0.toArray,.agg c1.toArray] (λ_ v=>v=.tuple #[iL r.1,bO r.2]):=by
 unfold lB at hF
 intro M1 hM0 w0 H w p0
 replace hG:=GL.mono hM0 hG
 replace h0:=Rep.mono hM0 _ _ h0
 replace h1:=Rep.mono hM0 _ _ h1
 obtain⟨Z1,P1,Z2,P2,rfl,B1,B2⟩:=TF0.opn h0
 obtain⟨Z3,P3,Z4,P4,rfl,B3,B4⟩:=TF0.opn h1
 refine Re 19 Tryz.func106 rfl λa0 f0=>RR (Y13 (cs:=(aTF0 d0 Z1 P1 Z2 P2)) (T:=73) f0 p0 λQ1 V1 W1 J1 R1 N1 _ f=>?_)
 have R2:=bR R1
 refine Y13 (cs:=(aTF0 d1 Z3 P3 Z4 P4)) (T:=73) f N1 λQ2 V2 W2 J2 R3 N2 _ f=>?_
 have R4:=bR R3
 refine Ye f 2 λ_ f=>ag (ag ?_)
 obtain⟨cX,bX,F1⟩:=bS hF
 refine bj (λpm W5=>∃G1:Bool,cX=G1∧∃V3:Mem,V2.le V3∧Frm 19 [(2,pP Q1),(3,pP Q2),(15,bO G1)] pm∧Hp w0 V3 (H) W5) ?_ ?_
 ·refine aI (Z f (Y36 (cs:=(lTF0 d0 Z1 P1 Z2 P2)) rfl (ad:=⟨Q1,0,none⟩) (λj v h=>N2.cell ((fzu J2 R2) j v h))) λ_ f=>?_)
  obtain⟨X1,S1,F2⟩:=bS bX
  refine Y18 f N2 (jp n _ (GL.mono (J1.trans J2) hG) _ d0 (TF0.shutx (x:=d0) (B1.mono (J1.trans J2)) (B2.mono (J1.trans J2))) X1 S1) λW3 N3 _ f=>Y f 2 λ_ f=>?_
  rcases cE F2 with⟨B5,F3⟩|⟨B5,F4⟩
  ·have U1: ¬ (X1=0):=(av dI).1 B5
   have f:=f.st 11 (cB B5)
   refine Ye f 4 λ_ f=>?_
   exact⟨(true),(sI F3).symm,V2,(mR _),f.kp,N3⟩
  ·have U2: ¬ (¬ (X1=0)):=ap (av dI) B5
   have f:=f.st 11 (cB B5)
   refine Z f (Y36 (cs:=(lTF0 d1 Z3 P3 Z4 P4)) rfl (ad:=⟨Q2,0,none⟩) (λj v h=>N3.cell (R4 j v h))) λ_ f=>?_
   obtain⟨X2,S2,F5⟩:=bS F4
   refine Y18 f N3 (jp n _ (GL.mono (J1.trans J2) hG) _ d1 (TF0.shutx (x:=d1) (B3.mono (J1.trans J2)) (B4.mono (J1.trans J2))) X2 S2) λW4 N4 _ f=>Ye f 2 λ_ f=>?_
   exact⟨(!(decide (X2=0))),(sI F5).symm,V2,(mR _),f.kp,N4⟩
 ·rintro pm W5 ⟨G1,dg,V3,J3,f,N5⟩
  subst cX
  refine aH (RcF f F1 (λB6 F6=>?_) λB6 F7=>?_)
  ·refine RR (Ye f 2 λ_ f=>wp_ret (aS (bJ f rfl (Lk 4 (iL 0)) (Lk 5 (bO false)) ?_)))
   cases sI F6
   exact⟨_,rfl,V3,((J1.trans J2).trans J3),N5,rfl⟩
  ·refine St (RR ?_)
   obtain⟨X3,S3,F8⟩:=bS F7
   refine Y16 f N5 (mF n _ (GL.mono ((J1.trans J2).trans J3) hG) (⟨Q1,0,none⟩) (lTF0 d0 Z1 P1 Z2 P2) d0 (TF0.shutx (x:=d0) (B1.mono ((J1.trans J2).trans J3)) (B2.mono ((J1.trans J2).trans J3))) (gE ((fzu (J2.trans J3) R2)) 0 rfl) X3 S3) λ_ V4 W6 J4 N6 jO _ f=>?_
   obtain⟨cP,rfl,D1⟩:=jO
   obtain⟨Z5,P5,Z6,P6,rfl,B7,B8⟩:=TF0.opn D1
   obtain⟨X4,S4,F9⟩:=bS F8
   refine Y16 f N6 (mF n _ (GL.mono (((J1.trans J2).trans J3).trans J4) hG) (⟨Q2,0,none⟩) (lTF0 d1 Z3 P3 Z4 P4) d1 (TF0.shutx (x:=d1) (B3.mono (((J1.trans J2).trans J3).trans J4)) (B4.mono (((J1.trans J2).trans J3).trans J4))) (gE ((fzu (J3.trans J4) R4)) 0 rfl) X4 S4) λ_ V5 W7 J5 N7 sj _ f=>?_
   obtain⟨jX,rfl,D2⟩:=sj
   obtain⟨Z7,P7,Z8,P8,rfl,B9,B10⟩:=TF0.opn D2
   refine Y12 f N7 (.cells #[iB 0,bO false,iL 0,S [],Sn,Sn] 73 (0,0)) λQ3 W8 N8 _ f=>Y12 f N8 (.cells #[iB 0,bO false,iL 0,S [],Sn,Sn] 73 (0,0)) λQ4 W9 N9 _ f=>?_
   have N10:=N9.pl [1]
   refine Ys (lTF0 X3 Z5 P5 Z6 P6) (aTF0 X3 Z5 P5 Z6 P6) f N10 rfl rfl λW10 N11 _ f=>?_
   have N12:=N11.pl [1]
   refine Ys (lTF0 X4 Z7 P7 Z8 P8) (aTF0 X4 Z7 P7 Z8 P8) f N12 rfl rfl λW11 N13 _ f=>eT (RR ?_)
   obtain⟨X5,S5,F10⟩:=bS F9
   have N15:=N13.pl [1]
   refine Y17 (E:=[Ent.obj Q3 (.cells (aTF0 X3 Z5 P5 Z6 P6) 73 (0,0)),Ent.obj Q4 (.cells (aTF0 X4 Z7 P7 Z8 P8) 73 (0,0))]) (H:=(H)) f N15 (oT n _ (GL.mono ((((J1.trans J2).trans J3).trans J4).trans J5) hG) Q3 X3.ab (X3.ak) X3.an X3.ah X3.ac Z5 P5 (B7.mono J5) X3.ae Z6 P6 (B8.mono J5) Q4 X4.ab (X4.ak) X4.an X4.ah X4.ac Z7 P7 B9 X4.ae Z8 P8 B10 X5 S5) λ_ V6 E_1 W12 J6 N14 q_3 _ f=>?_
   obtain⟨Z9,P9,Z10,P10,Z11,P11,Z12,P12,rfl,rfl,B11,B12,B13,B14⟩:=q_3
   refine Ye f 2 λ_ f=>wp_ret (bJ f rfl (Lk 4 (iL X5.1)) (Lk 5 (bO true)) ?_)
   cases sI F10
   exact⟨_,rfl,V6,(((((J1.trans J2).trans J3).trans J4).trans J5).trans J6),(N14.dropN 2),rfl⟩
def kE (n:Nat) (d0:TF0) (d1:TF0):Option Bool:=
 (lB n d0 d1).bind λX1=>
 bif X1.2 then
  (some ((decide (X1.1=0))))
 else
  some ((false))
theorem ss (n:Nat) (M:Mem) (hG:GL M) (c0:Lv) (d0:TF0) (h0:Rep M (ay d0) c0) (c1:Lv) (d1:TF0) (h1:Rep M (ay d1) c1) (r:Bool) (hF:kE n d0 d1=some r):Ok Tryz.prog M 90 [.agg c0.toArray,.agg c1.toArray] (λ_ v=>v=bO r):=by
 unfold kE at hF
 intro M1 hM0 w0 H w p0
 replace hG:=GL.mono hM0 hG
 replace h0:=Rep.mono hM0 _ _ h0
 replace h1:=Rep.mono hM0 _ _ h1
 obtain⟨Z1,P1,Z2,P2,rfl,B1,B2⟩:=TF0.opn h0
 obtain⟨Z3,P3,Z4,P4,rfl,B3,B4⟩:=TF0.opn h1
 refine Re 18 Tryz.func90 rfl λa0 f0=>RR (Y13 (cs:=(aTF0 d0 Z1 P1 Z2 P2)) (T:=73) f0 p0 λQ1 V1 W1 J1 R1 N1 _ f=>?_)
 have R2:=bR R1
 refine Y13 (cs:=(aTF0 d1 Z3 P3 Z4 P4)) (T:=73) f N1 λQ2 V2 W2 J2 R3 N2 _ f=>?_
 have R4:=bR R3
 refine Ye f 1 λ_ f=>RR (Z f (Y36 (cs:=(lTF0 d0 Z1 P1 Z2 P2)) rfl (ad:=⟨Q1,0,none⟩) (λj v h=>N2.cell ((fzu J2 R2) j v h))) λ_ f=>Z f (Y36 (cs:=(lTF0 d1 Z3 P3 Z4 P4)) rfl (ad:=⟨Q2,0,none⟩) (λj v h=>N2.cell (R4 j v h))) λ_ f=>?_)
 obtain⟨X1,S1,F1⟩:=bS hF
 refine Y18 f N2 (tree_both_ok n _ (GL.mono (J1.trans J2) hG) _ d0 (TF0.shutx (x:=d0) (B1.mono (J1.trans J2)) (B2.mono (J1.trans J2))) _ d1 (TF0.shutx (x:=d1) (B3.mono (J1.trans J2)) (B4.mono (J1.trans J2))) X1 S1) λW3 N3 _ f=>Ye f 5 λ_ f=>RR (Y f 2 λ_ f=>?_)
 rcases cE F1 with⟨B5,F2⟩|⟨B5,F3⟩
 ·have f:=f.st 14 (cB B5)
  refine Ye f 4 λ_ f=>wp_ret (ao f rfl (Lk 4 (bO (decide (X1.1=0)))) ?_)
  cases sI F2
  exact⟨_,rfl,V2,(J1.trans J2),N3,rfl⟩
 ·have f:=f.st 14 (cB B5)
  refine Ye f 4 λ_ f=>wp_ret (ao f rfl (Lk 4 (bO false)) ?_)
  cases sI F3
  exact⟨_,rfl,V2,(J1.trans J2),N3,rfl⟩
end Go.Proofs.YtkhdpnamfndonaaGreatDoor
end
section
section
namespace Go.Proofs.YtkhdpnamfndonaaGreatDoor
open Go Go.Vc Go.RowKit
def Small:Nat→TF0→Prop
 |0,_=>False
 |d+1,v=>v.ac.length≤3000∧v.ae.length≤3000∧v.ah.length≤5000∧(∀k∈v.ae,k.length≤5000)∧∀x∈v.ac,Small d x
theorem lV: ∀ (l m:List TF0),bF (l++m)=bF l++bF m
 |[],m=>by simp[bF]
 |x::r,m=>by simp[bF,lV r m]
theorem mI {l:List TF0} {i:Nat} {x:TF0} (h:l[i]? =some x):bF (l.take (i+1))=bF (l.take i)++cb x:=by
 rw[List.take_add_one,h,lV]
 simp[bF]
theorem sW {n : Nat} (hn : 3000 < n) : ∀ (k d : Nat) (v : TF0), d < k → d ≤ 1000 → ∃ W : Int, cx n k v (d : Int) = some W ∧ 0 ≤ W ∧ W ≤ 30010001 + 10000 * d ∧ (W ≤ 5000 → Small d v ∧ ((cb v).length : Int) ≤ W)
 | 0, d, v, h, _ => absurd h (by omega)
 | k + 1, d, v, h, hd => by
  show ∃ W : Int, gH n (cx n k) v (d : Int) = some W ∧ _
  unfold gH
  by_cases h0 : d = 0 ∨ 3000 < v.ac.length ∨ 3000 < v.ae.length
  ·have e : (bif decide ((d : Int) = 0) then some true else bif decide ((3000 : Int) < ((v.ac.length : Nat) : Int)) then some true else some (decide ((3000 : Int) < ((v.ae.length : Nat) : Int))) : Option Bool) = some true := by
    by_cases a : (d : Int) = 0
    ·rw [decide_eq_true a, cT]
    ·rw [decide_eq_false a, cF]
     by_cases b : (3000 : Int) < ((v.ac.length : Nat) : Int)
     ·rw [decide_eq_true b, cT]
     ·rw [decide_eq_false b, cF, decide_eq_true (by omega)]
   rw [e, bnd, cT]
   exact ⟨10000, rfl, by omega, by omega, fun h => absurd h (by omega)⟩
  ·have e : (bif decide ((d : Int) = 0) then some true else bif decide ((3000 : Int) < ((v.ac.length : Nat) : Int)) then some true else some (decide ((3000 : Int) < ((v.ae.length : Nat) : Int))) : Option Bool) = some false := by
    rw [decide_eq_false (by omega), cF, decide_eq_false (by omega), cF, decide_eq_false (by omega)]
   rw [e, bnd, cF]
   obtain ⟨base, hbase⟩ : ∃ base : Int, base = (1 : Int) + (min (v.ah.length : Int) (10000 : Int)) := ⟨_, rfl⟩
   rw [← hbase, aU (by omega) (by omega)]
   obtain ⟨y, hy, hy1, hy2, hy3⟩ := cj (step := cY n v) (n := n) (s0 := (base, (0 : Int)))
    (fun k s => s.2 = (k : Int) ∧ base ≤ s.1 ∧ s.1 ≤ base + 10000 * k ∧ (s.1 ≤ 5000 → ∀ j, j < k → (v.ae.getD j []).length ≤ 5000))
    (fun b => base ≤ b ∧ b ≤ base + 10000 * v.ae.length ∧ (b ≤ 5000 → ∀ j, j < v.ae.length → (v.ae.getD j []).length ≤ 5000)) v.ae.length
    ⟨rfl, Int.le_refl _, by simp, fun _ j hj => absurd hj (by omega)⟩
    (fun q s hq hI => by
     obtain ⟨t, i⟩ := s
     obtain ⟨h1, h2, h3, h4⟩ := hI
     have h1' : i = (q : Int) := h1
     subst h1'
     left
     refine ⟨(t + min ((v.ae.getD q []).length : Int) 10000, (q : Int) + 1), ?_, by simp, ?_, ?_, ?_⟩
     ·show cY n v (t, (q : Int)) = _
      unfold cY
      dsimp only at h2 h3 ⊢
      rw [decide_eq_true (by omega), cT, bf [] hq, bnd, aU (by omega) (by omega), aU (by omega) (by omega)]
     ·dsimp only at h2 ⊢; omega
     ·dsimp only at h3 ⊢; push_cast; omega
     ·dsimp only at h4 ⊢
      intro hle j hj
      by_cases hjq : j = q
      ·subst hjq; omega
      ·exact h4 (by omega) j (by omega))
    (fun s hI => by
     obtain ⟨t, i⟩ := s
     obtain ⟨h1, h2, h3, h4⟩ := hI
     have h1' : i = (v.ae.length : Int) := h1
     subst h1'
     refine ⟨t, ?_, h2, h3, h4⟩
     unfold cY
     dsimp only
     rw [decide_eq_false (by omega), cF])
    (by omega)
   rw [hy, bnd]
   obtain ⟨z, hz, hz1, hz2, hz3⟩ := cj (step := cA n (cx n k) v (d : Int)) (n := n) (s0 := (y, (0 : Int)))
    (fun k s => s.2 = (k : Int) ∧ y ≤ s.1 ∧ s.1 ≤ 30010001 + 10000 * d ∧ (s.1 ≤ 5000 → (∀ j x, j < k → v.ac[j]? = some x → Small (d - 1) x) ∧ ((bF (v.ac.take k)).length : Int) + 1 ≤ s.1))
    (fun b => y ≤ b ∧ b ≤ 30010001 + 10000 * d ∧ (b ≤ 5000 → (∀ j x, j < v.ac.length → v.ac[j]? = some x → Small (d - 1) x) ∧ ((bF v.ac).length : Int) + 1 ≤ b)) v.ac.length
    ⟨rfl, Int.le_refl _, by omega, fun _ => ⟨fun j x hj => absurd hj (by omega), by simp [bF]; omega⟩⟩
    (fun q s hq hI => by
     obtain ⟨t, i⟩ := s
     obtain ⟨h1, h2, h3, h4⟩ := hI
     have h1' : i = (q : Int) := h1
     subst h1'
     dsimp only at h2 h3 h4
     by_cases ht : t ≤ 10000
     ·left
      have hx : v.ac[q]? = some v.ac[q] := List.getElem?_eq_getElem hq
      obtain ⟨W, w1, w2, w3, w4⟩ := sW hn k (d - 1) v.ac[q] (by omega) (by omega)
      have hd1 : ((d - 1 : Nat) : Int) = (d : Int) - 1 := by omega
      rw [hd1] at w1
      refine ⟨(t + W, (q : Int) + 1), ?_, by simp, ?_, ?_, ?_⟩
      ·show cA n (cx n k) v (d : Int) (t, (q : Int)) = _
       unfold cA
       dsimp only
       have hg : aR v.ac (q : Int) = some v.ac[q] := by simp [aR]
       rw [decide_eq_true (by omega), cT, bnd, decide_eq_true ht, cT, hg, bnd, aU (by omega) (by omega), w1, bnd, aU (by omega) (by omega), aU (by omega) (by omega)]
      ·dsimp only; omega
      ·dsimp only; omega
      ·dsimp only
       intro hle
       obtain ⟨s1, s2⟩ := h4 (by omega)
       obtain ⟨c1, c2⟩ := w4 (by omega)
       refine ⟨fun j x hj hjx => ?_, ?_⟩
       ·by_cases hjq : j = q
        ·subst hjq
         rw [hx] at hjx
         exact Option.some.inj hjx ▸ c1
        ·exact s1 j x (by omega) hjx
       ·rw [mI hx, List.length_append]
        omega
     ·right
      refine ⟨t, ?_, h2, h3, fun hle => absurd hle (by omega)⟩
      unfold cA
      dsimp only
      rw [decide_eq_true (by omega), cT, bnd, decide_eq_false ht, cF])
    (fun s hI => by
     obtain ⟨t, i⟩ := s
     obtain ⟨h1, h2, h3, h4⟩ := hI
     have h1' : i = (v.ac.length : Int) := h1
     subst h1'
     dsimp only at h2 h3 h4
     rw [List.take_length] at h4
     refine ⟨t, ?_, h2, h3, h4⟩
     unfold cA
     dsimp only
     rw [decide_eq_false (by omega), cF, bnd, cF])
    (by omega)
   rw [hz, bnd]
   refine ⟨z, rfl, by omega, hz2, fun hle => ?_⟩
   obtain ⟨s1, s2⟩ := hz3 hle
   have s3 := hy3 (by omega)
   obtain ⟨d, rfl⟩ : ∃ e, d = e + 1 := ⟨d - 1, by omega⟩
   refine ⟨⟨by omega, by omega, by omega, fun q hq => ?_, fun x hx => ?_⟩, ?_⟩
   ·obtain ⟨j, hj, rfl⟩ := List.getElem_of_mem hq
    have := s3 j hj
    simpa [hj] using this
   ·obtain ⟨j, hj, rfl⟩ := List.getElem_of_mem hx
    exact s1 j _ hj (List.getElem?_eq_getElem hj)
   ·rw [eh, List.length_cons]
    push_cast
    omega
end Go.Proofs.YtkhdpnamfndonaaGreatDoor
end
section
namespace Go.Proofs.YtkhdpnamfndonaaGreatDoor
open Go Go.Vc
theorem and_tab: ((List.range 256).all λc=>bAnd .i64 (c:Int) 31== ((c % 32:Nat):Int)&& (bAnd .i64 (c:Int) 15== ((c % 16:Nat):Int)&&bAnd .i64 (c:Int) 7== ((c % 8:Nat):Int)))=true:=by kernel_rfl
theorem and_low (c:UInt8):bAnd .i64 (c.toNat:Int) 31=((c.toNat % 32:Nat):Int)∧bAnd .i64 (c.toNat:Int) 15=((c.toNat % 16:Nat):Int)∧bAnd .i64 (c.toNat:Int) 7=((c.toNat % 8:Nat):Int):=by
 have h:=List.all_eq_true.1 and_tab c.toNat (List.mem_range.2 c.toNat_lt)
 simp only[Bool.and_eq_true,beq_iff_eq] at h
 exact h
theorem pB {n:Nat} {s:Bs} {i k:Nat} {y:Int×Int×Int} {r w:Nat} (hy:y.1=(w:Int)) (hk:k<w) (hi:i+w≤s.length) (hs:s.length<1000000) (hr:r<1000000000):
 cL n s i y ((r:Int),(k:Int))=some (if (s.getD (i+k) 0).toNat / 64=2 then .nx (((64*r+ (s.getD (i+k) 0).toNat % 64:Nat):Int),((k+1:Nat):Int)) else .br (.inl ())):=by
 unfold cL
 dsimp only
 have e: (i:Int)+ (k:Int)=((i+k:Nat):Int):=by omega
 rw[hy,dT (by omega: (k:Int)<(w:Int)),cT,aU (by omega) (by omega),e,bf 0 (by omega),bnd]
 have hb:=(s.getD (i+k) 0).toNat_lt
 generalize (s.getD (i+k) 0)=b at hb ⊢
 by_cases h1:b.toNat<128
 ·rw[dT (by omega: (b.toNat:Int)<128),cT,bnd,cT,if_neg (by omega)]
 ·rw[dF (by omega: ¬ (b.toNat:Int)<128),cF,bnd]
  by_cases h2:191<b.toNat
  ·rw[dT (by omega: (191:Int)<(b.toNat:Int)),cT,if_neg (by omega)]
  ·rw[dF (by omega: ¬ (191:Int)<(b.toNat:Int)),cF,if_pos (by omega),aU (by omega) (by omega),aU (by omega) (by omega),aU (by omega) (by omega),aU (by omega) (by omega)]
   congr 3
   ·omega
theorem one_s1e {n:Nat} {s:Bs} {i:Nat} {y:Int×Int×Int} {r:Int} {w:Nat} (hy:y.1=(w:Int)):
 cL n s i y (r,(w:Int))=some (.br (.inr r)):=by
 unfold cL
 dsimp only
 rw[hy,dF (by omega: ¬ (w:Int)<(w:Int)),cF]
def contB (s:Bs) (i:Nat):Bool:=decide ((s.getD i 0).toNat / 64=2)
theorem one_l2 {n:Nat} {s:Bs} {i:Nat} {y:Int×Int×Int} {r:Nat} (hy:y.1=2) (hi:i+2≤s.length) (hs:s.length<1000000) (hr:r<100) (hn:5≤n):
 aN (cL n s i y) n ((r:Int),(1:Int))=some (if contB s (i+1) then .inr (((64*r+ (s.getD (i+1) 0).toNat % 64:Nat):Int)) else .inl ()):=by
 obtain⟨n,rfl⟩: ∃q,n=q+5:=⟨n-5,by omega⟩
 have h1:=pB (n:=n+5) (k:=1) (w:=2) hy (by omega) hi hs (by omega:r<1000000000)
 rw[show((1:Nat):Int)=1 from rfl] at h1
 rw[aN,h1,bnd]
 unfold contB
 by_cases h2: (s.getD (i+1) 0).toNat / 64=2
 ·rw[if_pos h2,if_pos (by simpa using h2)]
  show aN _ (n+4) _=_
  rw[aN,one_s1e (w:=2) hy,bnd]
 ·rw[if_neg h2,if_neg (by simpa using h2)]
theorem one_l3 {n:Nat} {s:Bs} {i:Nat} {y:Int×Int×Int} {r:Nat} (hy:y.1=3) (hi:i+3≤s.length) (hs:s.length<1000000) (hr:r<100) (hn:5≤n):
 aN (cL n s i y) n ((r:Int),(1:Int))=some (if contB s (i+1)&&contB s (i+2) then .inr (((64* (64*r+ (s.getD (i+1) 0).toNat % 64)+ (s.getD (i+2) 0).toNat % 64:Nat):Int)) else .inl ()):=by
 obtain⟨n,rfl⟩: ∃q,n=q+5:=⟨n-5,by omega⟩
 have h1:=pB (n:=n+5) (k:=1) (w:=3) hy (by omega) hi hs (by omega:r<1000000000)
 rw[show((1:Nat):Int)=1 from rfl] at h1
 rw[aN,h1,bnd]
 unfold contB
 by_cases h2: (s.getD (i+1) 0).toNat / 64=2
 ·rw[if_pos h2]
  show aN _ (n+4) _=_
  rw[aN,pB (n:=n+5) (k:=2) (w:=3) hy (by omega) hi hs (by omega),bnd]
  by_cases h3: (s.getD (i+2) 0).toNat / 64=2
  ·rw[if_pos h3,if_pos (by simp only[h2,h3];rfl)]
   show aN _ (n+3) _=_
   rw[aN,one_s1e (w:=3) hy,bnd]
  ·rw[if_neg h3,if_neg (by simp only[h2,h3];decide)]
 ·rw[if_neg h2,if_neg (by simp only[h2];simp)]
theorem one_l4 {n:Nat} {s:Bs} {i:Nat} {y:Int×Int×Int} {r:Nat} (hy:y.1=4) (hi:i+4≤s.length) (hs:s.length<1000000) (hr:r<100) (hn:5≤n):
 aN (cL n s i y) n ((r:Int),(1:Int))=some (if contB s (i+1)&& (contB s (i+2)&&contB s (i+3)) then .inr (((64* (64* (64*r+ (s.getD (i+1) 0).toNat % 64)+ (s.getD (i+2) 0).toNat % 64)+ (s.getD (i+3) 0).toNat % 64:Nat):Int)) else .inl ()):=by
 obtain⟨n,rfl⟩: ∃q,n=q+5:=⟨n-5,by omega⟩
 have h1:=pB (n:=n+5) (k:=1) (w:=4) hy (by omega) hi hs (by omega:r<1000000000)
 rw[show((1:Nat):Int)=1 from rfl] at h1
 rw[aN,h1,bnd]
 unfold contB
 by_cases h2: (s.getD (i+1) 0).toNat / 64=2
 ·rw[if_pos h2]
  show aN _ (n+4) _=_
  rw[aN,pB (n:=n+5) (k:=2) (w:=4) hy (by omega) hi hs (by omega),bnd]
  by_cases h3: (s.getD (i+2) 0).toNat / 64=2
  ·rw[if_pos h3]
   show aN _ (n+3) _=_
   rw[aN,pB (n:=n+5) (k:=3) (w:=4) hy (by omega) hi hs (by omega),bnd]
   by_cases h4: (s.getD (i+3) 0).toNat / 64=2
   ·rw[if_pos h4,if_pos (by simp only[h2,h3,h4];rfl)]
    show aN _ (n+2) _=_
    rw[aN,one_s1e (w:=4) hy,bnd]
   ·rw[if_neg h4,if_neg (by simp only[h2,h3,h4];decide)]
  ·rw[if_neg h3,if_neg (by simp only[h2,h3];simp)]
 ·rw[if_neg h2,if_neg (by simp only[h2];simp)]
theorem one_ref {n:Nat} {s:Bs} {i:Nat} (hi:i<s.length) (hs:s.length<1000000) (hn:5≤n):
 ly n s i=some (if (Lib.decodeL (s.drop i)).1=65533∧(Lib.decodeL (s.drop i)).2=1 then(0,0) else(((Lib.decodeL (s.drop i)).1:Int),((Lib.decodeL (s.drop i)).2:Int))):=by
 rw[Lib.decodeL_N,List.length_drop,Lib.getD_dropU,Lib.getD_dropU,Lib.getD_dropU,Lib.getD_dropU,Nat.add_zero]
 unfold ly
 rw[dF (by omega: ¬ (i:Int)<0),cF,dF (by omega: ¬ (s.length:Int)≤(i:Int)),bnd,cF,bf 0 hi,bnd]
 have hb0:=(s.getD i 0).toNat_lt
 have hb1:=(s.getD (i+1) 0).toNat_lt
 have hb2:=(s.getD (i+2) 0).toNat_lt
 have hb3:=(s.getD (i+3) 0).toNat_lt
 obtain⟨a1,a2,a3⟩:=and_low (s.getD i 0)
 by_cases h0: (s.getD i 0).toNat<128
 ·rw[dT (by omega: ((s.getD i 0).toNat:Int)<128),cT,Lib.decodeN_ascii _ _ _ _ _ h0]
  rw[mpS,bnd,jB,if_neg (by dsimp only;omega)]
  rfl
 rw[dF (by omega: ¬ ((s.getD i 0).toNat:Int)<128),cF]
 generalize hD:Lib.decodeN (s.length-i) (s.getD i 0).toNat (s.getD (i+1) 0).toNat (s.getD (i+2) 0).toNat (s.getD (i+3) 0).toNat=D
 have hB:D=(65533,1)→some ((0:Int),(0:Int))=some (if D.1=65533∧D.2=1 then(0,0) else((D.1:Int),(D.2:Int))):=λe=>by rw[e];rfl
 have hG: ∀ (R w:Nat),D=(R,w)→1<w→some ((R:Int),(w:Int))=some (if D.1=65533∧D.2=1 then(0,0) else((D.1:Int),(D.2:Int))):=λR w e hw=>by rw[e,if_neg (by dsimp only;omega)]
 have bad: (s.getD i 0).toNat<192∨248≤(s.getD i 0).toNat→D=(65533,1):=λhb=>by
  rw[←hD]
  unfold Lib.decodeN
  rw[if_neg h0,if_neg (by omega),if_neg (by omega),if_neg (by omega)]
 by_cases h1:192≤(s.getD i 0).toNat
 case neg=>
  rw[dF (by omega: ¬ (192:Int)≤((s.getD i 0).toNat:Int)),cF,bnd,cF,dF (by omega: ¬ (224:Int)≤((s.getD i 0).toNat:Int)),cF,bnd,cF,dF (by omega: ¬ (240:Int)≤((s.getD i 0).toNat:Int)),cF,bnd,cF,mpS,bnd,jB]
  exact hB (bad (by omega))
 rw[dT (by omega: (192:Int)≤((s.getD i 0).toNat:Int)),cT]
 by_cases h2: (s.getD i 0).toNat<224
 ·rw[dT (by omega: ((s.getD i 0).toNat:Int)<224),bnd,cT,a1,bnd]
  rw[jN]
  dsimp only
  rw[aU (by omega) (by omega)]
  unfold Lib.decodeN at hD
  rw[if_neg h0] at hD
  by_cases hl:s.length<i+2
  ·rw[dT (by omega: (s.length:Int)<(i:Int)+2),cT]
   exact hB (by rw[←hD,if_neg (by omega),if_neg (by omega),if_neg (by omega)])
  rw[dF (by omega: ¬ (s.length:Int)<(i:Int)+2),cF,one_l2 rfl (by omega) hs (by omega) hn,bnd]
  unfold contB
  by_cases hc: (s.getD (i+1) 0).toNat / 64=2
  ·rw[if_pos (by simp only[hc];rfl)]
   rw[if_pos ⟨by omega,by omega,hc⟩] at hD
   dsimp only
   generalize hR: (64* ((s.getD i 0).toNat % 32)+ (s.getD (i+1) 0).toNat % 64)=R
   rw[show(s.getD i 0).toNat % 32*64+ (s.getD (i+1) 0).toNat % 64=R by omega] at hD
   have hR2:R<2048:=by omega
   by_cases hv:R≥128
   ·rw[if_pos hv] at hD
    rw[dF (by omega: ¬ (R:Int)<128),cF,dF (by omega: ¬ (1114111:Int)<(R:Int)),cF,dF (by omega: ¬ (55296:Int)≤(R:Int)),cF,bnd,cF]
    exact hG R 2 hD.symm (by omega)
   ·rw[if_neg hv] at hD
    rw[dT (by omega: (R:Int)<128),cT,bnd,cT]
    exact hB hD.symm
  ·rw[if_neg (by simp only[hc];decide)]
   exact hB (by rw[←hD,if_neg (by omega),if_neg (by omega),if_neg (by omega)])
 rw[dF (by omega: ¬ ((s.getD i 0).toNat:Int)<224),bnd,cF,dT (by omega: (224:Int)≤((s.getD i 0).toNat:Int)),cT]
 by_cases h3: (s.getD i 0).toNat<240
 ·rw[dT (by omega: ((s.getD i 0).toNat:Int)<240),bnd,cT,a2,bnd]
  rw[jN]
  dsimp only
  rw[aU (by omega) (by omega)]
  unfold Lib.decodeN at hD
  rw[if_neg h0,if_neg (by omega)] at hD
  by_cases hl:s.length<i+3
  ·rw[dT (by omega: (s.length:Int)<(i:Int)+3),cT]
   exact hB (by rw[←hD,if_neg (by omega),if_neg (by omega)])
  rw[dF (by omega: ¬ (s.length:Int)<(i:Int)+3),cF,one_l3 rfl (by omega) hs (by omega) hn,bnd]
  unfold contB
  by_cases hc: (s.getD (i+1) 0).toNat / 64=2∧(s.getD (i+2) 0).toNat / 64=2
  ·rw[if_pos (by simp only[hc];rfl)]
   rw[if_pos ⟨by omega,⟨by omega,hc.1⟩,by omega,hc.2⟩] at hD
   dsimp only
   generalize hR: (64* (64* ((s.getD i 0).toNat % 16)+ (s.getD (i+1) 0).toNat % 64)+ (s.getD (i+2) 0).toNat % 64)=R
   rw[show(s.getD i 0).toNat % 16*4096+ (s.getD (i+1) 0).toNat % 64*64+ (s.getD (i+2) 0).toNat % 64=R by omega] at hD
   have hR2:R<65536:=by omega
   by_cases hv:R<2048
   ·rw[dT (by omega: (R:Int)<2048),cT,bnd,cT]
    exact hB (by rw[←hD,if_neg (by omega)])
   rw[dF (by omega: ¬ (R:Int)<2048),cF,dF (by omega: ¬ (1114111:Int)<(R:Int)),cF]
   by_cases hv2:55296≤R
   ·rw[dT (by omega: (55296:Int)≤(R:Int)),cT,bnd]
    by_cases hv3:R≤57343
    ·rw[dT (by omega: (R:Int)≤57343),cT]
     exact hB (by rw[←hD,if_neg (by omega)])
    ·rw[dF (by omega: ¬ (R:Int)≤57343),cF]
     exact hG R 3 (by rw[←hD,if_pos (by omega)]) (by omega)
   ·rw[dF (by omega: ¬ (55296:Int)≤(R:Int)),cF,bnd,cF]
    exact hG R 3 (by rw[←hD,if_pos (by omega)]) (by omega)
  ·rw[if_neg (by simp only[Bool.and_eq_true,decide_eq_true_eq];exact hc)]
   exact hB (by rw[←hD,if_neg (by omega),if_neg (by omega)])
 rw[dF (by omega: ¬ ((s.getD i 0).toNat:Int)<240),bnd,cF,dT (by omega: (240:Int)≤((s.getD i 0).toNat:Int)),cT]
 by_cases h4: (s.getD i 0).toNat<248
 ·rw[dT (by omega: ((s.getD i 0).toNat:Int)<248),bnd,cT,a3,bnd]
  rw[jN]
  dsimp only
  rw[aU (by omega) (by omega)]
  unfold Lib.decodeN at hD
  rw[if_neg h0,if_neg (by omega),if_neg (by omega)] at hD
  by_cases hl:s.length<i+4
  ·rw[dT (by omega: (s.length:Int)<(i:Int)+4),cT]
   exact hB (by rw[←hD,if_neg (by omega)])
  rw[dF (by omega: ¬ (s.length:Int)<(i:Int)+4),cF,one_l4 rfl (by omega) hs (by omega) hn,bnd]
  unfold contB
  by_cases hc: (s.getD (i+1) 0).toNat / 64=2∧(s.getD (i+2) 0).toNat / 64=2∧(s.getD (i+3) 0).toNat / 64=2
  ·rw[if_pos (by simp only[hc];rfl)]
   rw[if_pos ⟨by omega,⟨by omega,hc.1⟩,⟨by omega,hc.2.1⟩,by omega,hc.2.2⟩] at hD
   dsimp only
   generalize hR: (64* (64* (64* ((s.getD i 0).toNat % 8)+ (s.getD (i+1) 0).toNat % 64)+ (s.getD (i+2) 0).toNat % 64)+ (s.getD (i+3) 0).toNat % 64)=R
   rw[show(s.getD i 0).toNat % 8*262144+ (s.getD (i+1) 0).toNat % 64*4096+ (s.getD (i+2) 0).toNat % 64*64+ (s.getD (i+3) 0).toNat % 64=R by omega] at hD
   have hR2:R<16777216:=by omega
   by_cases hv:R<65536
   ·rw[dT (by omega: (R:Int)<65536),cT,bnd,cT]
    exact hB (by rw[←hD,if_neg (by omega)])
   rw[dF (by omega: ¬ (R:Int)<65536),cF]
   by_cases hv2:1114111<R
   ·rw[dT (by omega: (1114111:Int)<(R:Int)),cT,bnd,cT]
    exact hB (by rw[←hD,if_neg (by omega)])
   ·rw[dF (by omega: ¬ (1114111:Int)<(R:Int)),cF,dT (by omega: (55296:Int)≤(R:Int)),cT,bnd,dF (by omega: ¬ (R:Int)≤57343),cF]
    exact hG R 4 (by rw[←hD,if_pos (by omega)]) (by omega)
  ·rw[if_neg (by simp only[Bool.and_eq_true,decide_eq_true_eq];exact hc)]
   exact hB (by rw[←hD,if_neg (by omega)])
 rw[dF (by omega: ¬ ((s.getD i 0).toNat:Int)<248),bnd,cF,mpS,bnd,jB]
 exact hB (bad (by omega))
theorem rj {n : Nat} {s : List UInt8} (hs : s.length < 1000000) (hn : 5 ≤ n) : ∀ (m i : Nat), s.length ≤ i + m → i ≤ s.length → ∀ q, m < q → aN (cS n s) q (i : Int) = some (if Lib.validD (s.drop i) then .inr () else .inl ())
 | 0, i, hm, hi, q, hq => by
  obtain ⟨q, rfl⟩ : ∃ r, q = r + 1 := ⟨q - 1, by omega⟩
  have e : s.drop i = [] := List.drop_eq_nil_of_le (by omega)
  rw [aN, e]
  unfold cS
  rw [decide_eq_false (by omega), cF, bnd]
  rfl
 | m + 1, i, hm, hi, q, hq => by
  obtain ⟨q, rfl⟩ : ∃ r, q = r + 1 := ⟨q - 1, by omega⟩
  by_cases hlt : i < s.length
  ·have hne : s.drop i ≠ [] := fun e => by
    have := congrArg List.length e
    rw [List.length_drop] at this
    simp at this
    omega
   have hst : cS n s (i : Int) = some (if (Lib.decodeL (s.drop i)).1 = 65533 ∧ (Lib.decodeL (s.drop i)).2 = 1 then .br (.inl ()) else .nx (((i + (Lib.decodeL (s.drop i)).2 : Nat) : Int))) := by
    unfold cS
    rw [decide_eq_true (by omega : (i : Int) < (s.length : Int)), cT, one_ref hlt hs hn, bnd]
    by_cases hb : (Lib.decodeL (s.drop i)).1 = 65533 ∧ (Lib.decodeL (s.drop i)).2 = 1
    ·rw [if_pos hb, if_pos hb]
     rfl
    ·rw [if_neg hb, if_neg hb]
     have hw := Lib.decodeL_width (s.drop i)
     have hw4 : (Lib.decodeL (s.drop i)).2 ≤ 4 := by
      rcases sU (s.drop i) hne with ⟨e, _⟩ | ⟨r, w, e, h1, h2, h3, _⟩
      ·rw [e]; decide
      ·rw [e]; exact h3
     dsimp only
     rw [decide_eq_false (by omega), cF, aU (by omega) (by omega)]
     rfl
   rw [aN, hst, bnd, Lib.validD_step _ hne]
   by_cases hb : (Lib.decodeL (s.drop i)).1 = 65533 ∧ (Lib.decodeL (s.drop i)).2 = 1
   ·rw [if_pos hb, if_pos hb]
    rfl
   ·rw [if_neg hb, if_neg hb]
    have hw := Lib.decodeL_width (s.drop i)
    have hle : (Lib.decodeL (s.drop i)).2 ≤ s.length - i := by
     rcases sU (s.drop i) hne with ⟨e, _⟩ | ⟨r, w, e, h1, _⟩
     ·rw [e] at hb; exact absurd ⟨rfl, rfl⟩ hb
     ·rw [e]; rw [List.length_drop] at h1; exact h1
    dsimp only
    rw [rj hs hn m _ (by omega) (by omega) q (by omega), List.drop_drop]
  ·have e : s.drop i = [] := List.drop_eq_nil_of_le (by omega)
   rw [aN, e]
   unfold cS
   rw [decide_eq_false (by omega), cF, bnd]
   rfl
theorem pC {n:Nat} {s:Bs} (hs:s.length<1000000) (hn:5≤n) (hl:s.length<n):gG n s=some (Lib.validD s):=by
 unfold gG
 have h:=rj hs hn s.length 0 (by omega) (by omega) n hl
 rw[show((0:Nat):Int)=0 from rfl,List.drop_zero] at h
 rw[h,bnd]
 cases Lib.validD s<;>rfl
end Go.Proofs.YtkhdpnamfndonaaGreatDoor
end
section
namespace Go.Proofs.YtkhdpnamfndonaaGreatDoor
open Go Go.Vc Go.RowKit
theorem great_ok {n:Nat} (hn:3000<n) (v:TF0): ∃g,iI n v=some g∧(g=false→Small 30 v∧(cb v).length≤5000):=by
 obtain⟨W,w1,w2,w3,w4⟩:=sW hn n 30 v (by omega) (by omega)
 refine⟨decide ((5000:Int)<W),?_,λh=>?_⟩
 ·unfold iI lQ
  have e: ((30:Nat):Int)=30:=rfl
  rw[e] at w1
  rw[w1,bnd]
 ·have h':=of_decide_eq_false h
  obtain⟨a,b⟩:=w4 (by omega)
  exact⟨a,by omega⟩
theorem wvs_mem: ∀ {l:List TF0} {x:TF0},x∈l→(cb x).length≤(bF l).length
 |y::r,x,h=>by
  rw[bF,List.length_append]
  rcases List.mem_cons.1 h with rfl|h
  ·omega
  ·have:=wvs_mem h
   omega
theorem same_k_ok {n:Nat} (hn:3000<n): ∀ (k d:Nat) (v:TF0),d≤k→Small d v→cy n k v v=some true
 |_,0,v,_,h=>h.elim
 |0,d+1,v,h,_=>absurd h (by omega)
 |k+1,d+1,v,hk,hs=>by
  obtain⟨h1,h2,h3,h4,h5⟩:=hs
  show eS n (cy n k) v v=_
  unfold eS
  rw[dT rfl,dT rfl,dT rfl,dT rfl,dT rfl,beq_self_eq_true,nT,cF,cF,cF,cF,cF,bnd,cF]
  have a1:=cD (step:=cM n v v) (n:=n) (λq=>(q:Int)) v.ae.length (.inr ()) (λq hq=>by
   unfold cM
   rw[dT (by omega),cT,bf [] hq,bnd,bnd,dT rfl,nT,cF,aU (by omega) (by omega)]
   rfl) (by
   unfold cM
   rw[dF (by omega),cF]) (by omega)
  have a2:=cD (step:=cN n (cy n k) v v) (n:=n) (λq=>(q:Int)) v.ac.length (.inr ()) (λq hq=>by
   have hg:aR v.ac (q:Int)=some v.ac[q]:=by simp[aR]
   unfold cN
   rw[dT (by omega),cT,hg,bnd,bnd,same_k_ok hn k d v.ac[q] (by omega) (h5 _ (List.getElem_mem hq)),bnd,nT,cF,aU (by omega) (by omega)]
   rfl) (by
   unfold cN
   rw[dF (by omega),cF]) (by omega)
  have e0: ((0:Nat):Int)=0:=rfl
  simp only[e0] at a1 a2
  rw[a1,bnd]
  dsimp only
  rw[a2,bnd]
end Go.Proofs.YtkhdpnamfndonaaGreatDoor
end
section
namespace Go.Proofs.YtkhdpnamfndonaaGreatDoor
open Go Go.Vc Go.RowKit
def thenC (a b:Int):Int:=bif decide (a=0) then b else a
def cmpI (a b:Int):Int:=bif decide (a<b) then-1 else bif decide (b<a) then 1 else 0
def bitI (b:Bool):Int:=bif b then 1 else 0
theorem thenC0 (b:Int):thenC 0 b=b:=rfl
theorem thenCn {a:Int} (b:Int) (h:a≠0):thenC a b=a:=by unfold thenC;rw[dF h,cF]
mutual
def cmpV:TF0→TF0→Int
 |⟨k,b,n,t,l,ks⟩,w=>thenC (cmpI k w.ab) (thenC (cmpI (bitI b) (bitI w.ak)) (thenC (cmpI n w.an) (thenC (Lib.compareBytes t w.ah) (cmpVs (decide (k=5)) l ks w.ac w.ae))))
def cmpVs (o:Bool):List TF0→List Bs→List TF0→List Bs→Int
 |[],_,[],_=>0
 |[],_,_::_,_=> -1
 |_::_,_,[],_=>1
 |x::l,ks,y::m,js=>thenC (bif o then Lib.compareBytes (ks.headD []) (js.headD []) else 0) (thenC (cmpV x y) (cmpVs o l ks.tail m js.tail))
end
theorem cmpV_eq (v w:TF0):cmpV v w=thenC (cmpI v.ab w.ab) (thenC (cmpI (bitI v.ak) (bitI w.ak)) (thenC (cmpI v.an w.an) (thenC (Lib.compareBytes v.ah w.ah) (cmpVs (decide (v.ab=5)) v.ac v.ae w.ac w.ae)))):=by
 cases v;rw[cmpV]
def Tr (a b c:Int):Prop:=(a≤0→b≤0→c≤0)∧(a≤0→b≤0→a<0∨b<0→c<0)∧(a=0→b=0→c=0)
theorem Tr.then {a b c a' b' c':Int} (h:Tr a b c) (h':a=0→b=0→Tr a' b' c'):Tr (thenC a a') (thenC b b') (thenC c c'):=by
 obtain⟨h1,h2,h3⟩:=h
 by_cases ha:a=0
 ·by_cases hb:b=0
  ·have hc:=h3 ha hb
   subst ha hb hc
   rw[thenC0,thenC0,thenC0]
   exact h' rfl rfl
  ·subst ha
   rw[thenC0,thenCn b' hb]
   by_cases hc:c=0
   ·exact⟨λx y=>by have:=h2 (by omega) y (.inr (by omega));omega,λx y _=>by have:=h2 (by omega) y (.inr (by omega));omega,λ_ y=>absurd y hb⟩
   ·rw[thenCn c' hc]
    exact⟨λx y=>by have:=h2 (by omega) y (.inr (by omega));omega,λx y _=>by have:=h2 (by omega) y (.inr (by omega));omega,λ_ y=>absurd y hb⟩
 ·rw[thenCn a' ha]
  have key:a≤0→thenC b b'≤0→c<0:=λx y=>by
   by_cases hb:b=0
   ·exact h2 x (by omega) (.inl (by omega))
   ·rw[thenCn b' hb] at y
    exact h2 x y (.inl (by omega))
  have key2:a≤0→thenC b b'≤0→thenC c c'<0:=λx y=>by
   have:=key x y
   rw[thenCn c' (by omega)]
   exact this
  exact⟨λx y=>Int.le_of_lt (key2 x y),λx y _=>key2 x y,λx _=>absurd x ha⟩
theorem iC (a b:Int): (a<b∧cmpI a b= -1)∨(a=b∧cmpI a b=0)∨(b<a∧cmpI a b=1):=by
 unfold cmpI
 rcases Int.lt_trichotomy a b with h|h|h
 ·exact .inl ⟨h,by rw[dT h,cT]⟩
 ·subst h;exact .inr (.inl ⟨rfl,by rw[dF (by omega),cF,cF]⟩)
 ·exact .inr (.inr ⟨h,by rw[dF (by omega),cF,dT h,cT]⟩)
theorem cmpI_zero {a b:Int} (h:cmpI a b=0):a=b:=by
 unfold cmpI at h
 by_cases h1:a<b
 ·rw[dT h1,cT] at h;omega
 ·rw[dF h1,cF] at h
  by_cases h2:b<a
  ·rw[dT h2,cT] at h;omega
  ·omega
theorem pD (a:Int):cmpI a a=0:=by unfold cmpI;rw[dF (by omega),cF,cF]
theorem thenC_zero {a b:Int} (h:thenC a b=0):a=0∧b=0:=by
 by_cases e:a=0
 ·subst e;exact⟨rfl,h⟩
 ·rw[thenCn b e] at h;exact absurd h e
theorem rk (a b:Int): -1≤cmpI a b∧cmpI a b≤1:=by
 have:=iC a b
 omega
theorem rl: ∀a b:Bs,-1≤Lib.compareBytes a b∧Lib.compareBytes a b≤1
 |[],[]=>by simp[Lib.compareBytes]
 |[],_::_=>by simp[Lib.compareBytes]
 |_::_,[]=>by simp[Lib.compareBytes]
 |x::r,y::s=>by
  have:=rl r s
  unfold Lib.compareBytes
  split
  ·omega
  ·split<;>omega
end Go.Proofs.YtkhdpnamfndonaaGreatDoor
end
section
namespace Go.Proofs.YtkhdpnamfndonaaGreatDoor
open Go Go.Vc Go.RowKit
def PlainV (v:TF0):Prop:=0≤v.ab∧v.ab≤5∧(v.ak=true→v.ab=1)∧(v.an≠0→v.ab=2)∧(v.ah≠ []→v.ab=3)∧(v.ac.length≠0→v.ab=4∨v.ab=5)∧(v.ab=5→v.ae.length=v.ac.length)∧(v.ab≠5→v.ae.length=0)
instance (v:TF0):Decidable (PlainV v):=by unfold PlainV;exact inferInstance
def aloneV (v:TF0):Int:=
 if PlainV v then(if v.an< -9007199254740992∨9007199254740992<v.an then 20 else if Lib.validD v.ah=true∧∀k∈v.ae,Lib.validD k=true then(if v.ae.Nodup then 0 else 41) else 10) else 2
def NumOut (v:TF0):Prop:=v.an< -9007199254740992∨9007199254740992<v.an
def TextsOk (v:TF0):Prop:=Lib.validD v.ah=true∧∀k∈v.ae,Lib.validD k=true
theorem oU {v:TF0} (h: ¬PlainV v):aloneV v=2:=if_neg h
theorem rm {v:TF0} (h:PlainV v) (hn:NumOut v):aloneV v=20:=(if_pos h).trans (if_pos hn)
theorem mJ {v:TF0} (h:PlainV v) (hn: ¬NumOut v) (ht: ¬TextsOk v):aloneV v=10:=((if_pos h).trans (if_neg hn)).trans (if_neg ht)
theorem rn {v:TF0} (h:PlainV v) (hn: ¬NumOut v) (ht:TextsOk v) (hd: ¬v.ae.Nodup):aloneV v=41:=(((if_pos h).trans (if_neg hn)).trans (if_pos ht)).trans (if_neg hd)
theorem alone_0 {v:TF0} (h:PlainV v) (hn: ¬NumOut v) (ht:TextsOk v) (hd:v.ae.Nodup):aloneV v=0:=(((if_pos h).trans (if_neg hn)).trans (if_pos ht)).trans (if_pos hd)
theorem oV {v:TF0} (h:aloneV v=0):PlainV v∧¬NumOut v∧TextsOk v∧v.ae.Nodup:=by
 by_cases h1:PlainV v
 ·by_cases h2:NumOut v
  ·rw[rm h1 h2] at h;omega
  ·by_cases h3:TextsOk v
   ·by_cases h4:v.ae.Nodup
    ·exact⟨h1,h2,h3,h4⟩
    ·rw[rn h1 h2 h3 h4] at h;omega
   ·rw[mJ h1 h2 h3] at h;omega
 ·rw[oU h1] at h;omega
def Wide (v:TF0):Prop:=v.ac.length≤3000∧v.ae.length≤3000∧v.ah.length≤5000∧∀k∈v.ae,k.length≤5000
theorem Small.wide: ∀ {d:Nat} {v:TF0},Small d v→Wide v
 |_+1,_,h=>⟨h.1,h.2.1,h.2.2.1,h.2.2.2.1⟩
theorem plain_ref {n:Nat} (v:TF0):jy n v=some (decide (PlainV v)):=by
 unfold jy
 by_cases h0:v.ab<0
 · rw[dT h0,cT,bnd,cT,dF (λh=>by have:=h.1;omega)]
 rw[dF h0,cF,bnd]
 by_cases h5:5<v.ab
 · rw[dT h5,cT,dF (λh=>by have:=h.2.1;omega)]
 rw[dF h5,cF]
 have key: ((bif v.ak then
  (bif(!(decide (v.ab=1))) then
   (some ((true)))
  else
   bif(!(decide (v.an=0))) then
    (bif(!(decide (v.ab=2))) then
     (some ((true)))
    else
     bif(!(decide (v.ah=[]))) then
      (some ((!(decide (v.ab=3)))))
     else
      some ((false)))
   else
    bif(!(decide (v.ah=[]))) then
     (some ((!(decide (v.ab=3)))))
    else
     some ((false)))
  else
   bif(!(decide (v.an=0))) then
    (bif(!(decide (v.ab=2))) then
     (some ((true)))
    else
     bif(!(decide (v.ah=[]))) then
      (some ((!(decide (v.ab=3)))))
     else
      some ((false)))
   else
    bif(!(decide (v.ah=[]))) then
     (some ((!(decide (v.ab=3)))))
    else
     some ((false)):Option Bool))=some (!decide ((v.ak=true→v.ab=1)∧(v.an≠0→v.ab=2)∧(v.ah≠ []→v.ab=3))):=by
  cases v.ak<;>by_cases h1:v.ab=1<;>by_cases h2:v.ab=2<;>by_cases h3:v.ab=3<;>by_cases hn:v.an=0<;>by_cases ht:v.ah=[]<;>simp[h1,h2,h3,hn,ht]
 rw[key,bnd]
 by_cases hk: (v.ak=true→v.ab=1)∧(v.an≠0→v.ab=2)∧(v.ah≠ []→v.ab=3)
 · rw[dT hk,nT,cF]
   by_cases hl:v.ac.length=0
   · rw[dF (by omega),cF,bnd,cF]
     by_cases e5:v.ab=5
     · rw[dT e5,cT]
       refine congrArg some (decide_eq_decide.2 ?_)
       unfold PlainV
       constructor
       · intro h;exact⟨by omega,by omega,hk.1,hk.2.1,hk.2.2,λh=>absurd hl h,λ_=>by omega,λh=>absurd e5 h⟩
       · intro h;have:=h.2.2.2.2.2.2.1 e5;omega
     · rw[dF e5,cF]
       refine congrArg some (decide_eq_decide.2 ?_)
       unfold PlainV
       constructor
       · intro h;exact⟨by omega,by omega,hk.1,hk.2.1,hk.2.2,λh=>absurd hl h,λh=>absurd h e5,λ_=>by omega⟩
       · intro h;have:=h.2.2.2.2.2.2.2 e5;omega
   · rw[dT (by omega),cT]
     by_cases e4:v.ab=4
     · rw[dT e4,nT,cF,bnd,cF,dF (by omega),cF]
       refine congrArg some (decide_eq_decide.2 ?_)
       unfold PlainV
       constructor
       · intro h;exact⟨by omega,by omega,hk.1,hk.2.1,hk.2.2,λh=>.inl e4,λh=>by omega,λ_=>by omega⟩
       · intro h;have:=h.2.2.2.2.2.2.2 (by omega);omega
     · rw[dF e4,nF,cT]
       by_cases e5:v.ab=5
       · rw[dT e5,nT,bnd,cF,cT]
         refine congrArg some (decide_eq_decide.2 ?_)
         unfold PlainV
         constructor
         · intro h;exact⟨by omega,by omega,hk.1,hk.2.1,hk.2.2,λh=>.inr e5,λ_=>by omega,λh=>absurd e5 h⟩
         · intro h;have:=h.2.2.2.2.2.2.1 e5;omega
       · rw[dF e5,nF,bnd,cT,dF]
         intro h
         have:=h.2.2.2.2.2.1 hl
         omega
 · rw[dF hk,nF,cT,dF]
   intro h
   exact hk ⟨h.2.2.1,h.2.2.2.1,h.2.2.2.2.1⟩
theorem dm {α:Type} {l:List α} {i:Nat} {x:α} (h:l[i]? =some x) (y:α):y∈l.take (i+1)↔y∈l.take i∨y=x:=by
 rw[List.take_add_one,h,List.mem_append]
 simp
theorem iv {α:Type} {l:List α} {i:Nat} {x:α} (h:l[i]? =some x): (l.take (i+1)).Nodup↔ (l.take i).Nodup∧x∉l.take i:=by
 rw[List.take_add_one,h]
 simp only[Option.toList_some,List.nodup_append]
 constructor
 ·rintro⟨h1,_,h3⟩
  exact⟨h1,λhx=>h3 x hx x (by simp) rfl⟩
 ·rintro⟨h1,h2⟩
  refine⟨h1,by simp,λa ha b hb=>?_⟩
  simp only[List.mem_singleton] at hb
  subst hb
  intro e
  exact h2 (e▸ha)
theorem nP {α:Type} {l:List α} (i:Nat) (h:l.Nodup): (l.take i).Nodup:=(List.take_sublist i l).nodup h
theorem keys_ref {n:Nat} (hn:6000<n) {v:TF0} (hw:Wide v):aN (ej n v) n (0:Int)=some (bif v.ae.any (λk=> !Lib.validD k) then .inl () else .inr ()):=by
 rw[←nr [] (λk=> !Lib.validD k) v.ae]
 refine jv (λk=> !Lib.validD (v.ae.getD k [])) v.ae.length _ _ (λk hk=>?_) ?_ (by have:=hw.2.1;omega)
 ·unfold ej
  have hm:v.ae.getD k []∈v.ae:=by simp[List.getD,hk]
  have hl:=hw.2.2.2 _ hm
  rw[dT (by omega),cT,bf [] hk,bnd,pC (by omega) (by omega) (by omega),bnd]
  cases Lib.validD (v.ae.getD k []) with
  |true=>rw[nT,cF,aU (by omega) (by have:=hw.2.1;omega)];simp
  |false=>rw[nF,cT];simp
 ·unfold ej
  rw[dF (by omega),cF]
theorem twice_in {n:Nat} (hn:6000<n) {v:TF0} (hw:Wide v) {i:Nat} (hi:i<v.ae.length):aN (en n v (i:Int)) n (0:Int)=some (bif(List.range i).any (λk=>decide (v.ae.getD k []=v.ae.getD i [])) then .inl () else .inr ()):=by
 refine jv (λk=>decide (v.ae.getD k []=v.ae.getD i [])) i _ _ (λk hk=>?_) ?_ (by have:=hw.2.1;omega)
 ·unfold en
  rw[dT (by omega),cT,bf [] (by omega),bnd,bf [] hi,bnd]
  by_cases h:v.ae.getD k []=v.ae.getD i []
  ·rw[dT h,cT];simp
  ·rw[dF h,cF,aU (by omega) (by have:=hw.2.1;omega)];simp
 ·unfold en
  rw[dF (by omega),cF]
theorem any_take {l:List Bs} {i:Nat} (hi:i<l.length): (List.range i).any (λk=>decide (l.getD k []=l.getD i []))=decide (l[i]∈l.take i):=by
 rw[Bool.eq_iff_iff,List.any_eq_true,decide_eq_true_eq,List.mem_take_iff_getElem]
 constructor
 ·rintro⟨k,hk,h⟩
  have hk':k<i:=by simpa using hk
  refine⟨k,by omega,?_⟩
  have:=of_decide_eq_true h
  simpa [List.getD,hi,(by omega:k<l.length)] using this
 ·rintro⟨k,hk,h⟩
  refine⟨k,List.mem_range.2 (by omega),?_⟩
  simpa [List.getD,hi,(by omega:k<l.length)] using h
theorem twice_ref {n:Nat} (hn:6000<n) {v:TF0} (hw:Wide v):aN (du n v) n (0:Int)=some (bif decide v.ae.Nodup then .inr () else .inl ()):=by
 obtain⟨b,hb,hp⟩:=cj (step:=du n v) (n:=n) (s0:=(0:Int)) (λk s=>s=(k:Int)∧(v.ae.take k).Nodup)
  (λb=>b=bif decide v.ae.Nodup then .inr () else .inl ()) v.ae.length ⟨rfl,by simp⟩
  (λq s hq hI=>by
   obtain⟨rfl,hnd⟩:=hI
   unfold du
   rw[dT (by omega),cT,twice_in hn hw hq,bnd,any_take hq]
   have hx:v.ae[q]? =some v.ae[q]:=List.getElem?_eq_getElem hq
   by_cases hm:v.ae[q]∈v.ae.take q
   ·rw[dT hm,cT]
    refine .inr ⟨_,rfl,?_⟩
    rw[dF,cF]
    intro h
    exact((iv hx).1 (nP (q+1) h)).2 hm
   ·rw[dF hm,cF]
    dsimp only
    rw[aU (by omega) (by have:=hw.2.1;omega)]
    exact .inl ⟨_,rfl,by omega,(iv hx).2 ⟨hnd,hm⟩⟩)
  (λs hI=>by
   obtain⟨rfl,hnd⟩:=hI
   rw[List.take_length] at hnd
   unfold du
   rw[dF (by omega),cF]
   exact⟨_,rfl,by rw[dT hnd,cT]⟩) (by have:=hw.2.1;omega)
 rw[hb,hp]
def faultL:List TF0→Int
 |[]=>0
 |x::r=>if aloneV x=0 then faultL r else aloneV x
theorem od: ∀l m:List TF0,faultL (l++m)=if faultL l=0 then faultL m else faultL l
 |[],m=>by simp[faultL]
 |x::l,m=>by
  rw[List.cons_append,faultL,faultL,od l m]
  by_cases h:aloneV x=0
  ·rw[if_pos h,if_pos h]
  ·rw[if_neg h,if_neg h,if_neg h]
theorem pE (v:TF0):faultL (cb v)=if aloneV v=0 then faultL (bF v.ac) else aloneV v:=by rw[eh,faultL]
theorem faultL_take {l:List TF0} {i:Nat} {x:TF0} (h:l[i]? =some x):faultL (bF (l.take (i+1)))=if faultL (bF (l.take i))=0 then faultL (cb x) else faultL (bF (l.take i)):=by rw[mI h,od]
theorem sX {n : Nat} (hn : 6000 < n) : ∀ (k d : Nat) (v : TF0), d ≤ k → Small d v → di n k v = some (faultL (cb v))
 | _, 0, v, _, h => h.elim
 | 0, d + 1, v, h, _ => absurd h (by omega)
 | k + 1, d + 1, v, hk, hs => by
  have hw := hs.wide
  obtain ⟨h1, h2, h3, h4, h5⟩ := hs
  show il n (di n k) v = _
  unfold il
  rw [pE, plain_ref, bnd]
  by_cases hp : PlainV v
  ·rw [decide_eq_true hp, Bool.not_true, cF]
   by_cases hnum : NumOut v
   ·rw [rm hp hnum, if_neg (by decide)]
    rcases hnum with hm | hm
    ·rw [decide_eq_true hm, cT, bnd, cT]
    ·by_cases hm' : v.an < -9007199254740992
     ·omega
     ·rw [decide_eq_false hm', cF, bnd, decide_eq_true hm, cT]
   ·have hnum' : ¬ (v.an < -9007199254740992 ∨ 9007199254740992 < v.an) := hnum
    rw [decide_eq_false (by omega), cF, bnd, decide_eq_false (by omega), cF, pC (by omega) (by omega) (by omega), bnd, keys_ref hn hw, twice_ref hn hw]
    cases hv : Lib.validD v.ah with
    | false =>
     rw [Bool.not_false, cT, mJ hp hnum (fun h => by rw [h.1] at hv; cases hv), if_neg (by decide)]
    | true =>
     rw [Bool.not_true, cF, bnd]
     by_cases ha : ∀ k ∈ v.ae, Lib.validD k = true
     ·have : v.ae.any (fun k => !Lib.validD k) = false := by
       rw [List.any_eq_false]
       intro x hx
       simp [ha x hx]
      rw [this, cF]
      dsimp only
      rw [bnd]
      by_cases hd : v.ae.Nodup
      ·rw [decide_eq_true hd, cT, alone_0 hp hnum ⟨hv, ha⟩ hd, if_pos rfl]
       dsimp only
       obtain ⟨b, hb, hpost⟩ := cj (step := eo n (di n k) v) (n := n) (s0 := (0 : Int)) (fun q s => s = (q : Int) ∧ faultL (bF (v.ac.take q)) = 0)
        (fun b => match b with | .inl e => e = faultL (bF v.ac) | .inr () => faultL (bF v.ac) = 0) v.ac.length ⟨rfl, by simp [bF, faultL]⟩
        (fun q s hq hI => by
         obtain ⟨rfl, hf⟩ := hI
         have hx : v.ac[q]? = some v.ac[q] := List.getElem?_eq_getElem hq
         have hg : aR v.ac (q : Int) = some v.ac[q] := by simp [aR]
         have hft := faultL_take hx
         rw [if_pos hf] at hft
         unfold eo
         rw [decide_eq_true (by omega), cT, hg, bnd, sX hn k d _ (by omega) (h5 _ (List.getElem_mem hq)), bnd]
         by_cases he : faultL (cb v.ac[q]) = 0
         ·rw [decide_eq_true he, Bool.not_true, cF, aU (by omega) (by omega)]
          exact .inl ⟨_, rfl, by omega, by rw [hft]; exact he⟩
         ·rw [decide_eq_false he, Bool.not_false, cT]
          refine .inr ⟨_, rfl, ?_⟩
          have hsplit : bF v.ac = bF (v.ac.take (q + 1)) ++ bF (v.ac.drop (q + 1)) := by rw [← lV, List.take_append_drop]
          dsimp only
          rw [hsplit, od, hft, if_neg he])
        (fun s hI => by
         obtain ⟨rfl, hf⟩ := hI
         rw [List.take_length] at hf
         unfold eo
         rw [decide_eq_false (by omega), cF]
         exact ⟨_, rfl, hf⟩) (by omega)
       rw [hb, bnd]
       cases b with
       | inl e => dsimp only at hpost ⊢; rw [hpost]
       | inr u => dsimp only at hpost ⊢; rw [hpost]
      ·rw [decide_eq_false hd, cF, rn hp hnum ⟨hv, ha⟩ hd, if_neg (by decide)]
     ·rw [mJ hp hnum (fun h => ha h.2), if_neg (by decide)]
      have : v.ae.any (fun k => !Lib.validD k) = true := by
       rw [List.any_eq_true]
       apply Classical.byContradiction
       intro h
       apply ha
       intro k hk
       cases hvk : Lib.validD k with
       | true => rfl
       | false => exact absurd ⟨k, hk, by simp [hvk]⟩ h
      rw [this, cT]
  ·rw [decide_eq_false hp, Bool.not_false, cT, oU hp, if_neg (by decide)]
end Go.Proofs.YtkhdpnamfndonaaGreatDoor
end
section
namespace Go.Proofs.YtkhdpnamfndonaaGreatDoor
open Go Go.Vc Go.RowKit
theorem pF {n:Nat} {s:Bs} (h:s.length<1000000):eN n s=some (Lib.validD s):=by
 unfold eN jo
 rw[bn (by omega),bnd]
theorem contains_run {n:Nat} (hn:6000<n) {v:TF0} (hw:Wide v):bD n v.ae=some (v.ae.any (λk=> !Lib.validD k)):=by
 unfold bD cg
 have hl:=hw.2.1
 have hd: ∀k:Nat,k<v.ae.length→bw n v.ae (k:Int)=some (if !Lib.validD (v.ae.getD k []) then .br (.inl (k:Int)) else .nx ((k:Int)+1)):=λk hk=>by
  unfold bw kd
  have hm:v.ae.getD k []∈v.ae:=by simp[List.getD,hk]
  have:=hw.2.2.2 _ hm
  rw[dT (by omega),cT,bf [] hk,bnd,pF (by omega),bnd,bnd]
  cases Lib.validD (v.ae.getD k []) with
  |true=>rw[nT,cF,aU (by omega) (by omega)];rfl
  |false=>rw[nF,cT];rfl
 obtain⟨b,hb,hp⟩:=cj (step:=bw n v.ae) (n:=n) (s0:=(0:Int)) (λq s=>s=(q:Int)∧∀k∈v.ae.take q,Lib.validD k=true)
  (λb=>match b with|.inl i=>0≤i∧v.ae.any (λk=> !Lib.validD k)=true|.inr ()=>v.ae.any (λk=> !Lib.validD k)=false) v.ae.length ⟨rfl,by simp⟩
  (λq s hq hI=>by
   obtain⟨rfl,hf⟩:=hI
   have hx:v.ae[q]? =some v.ae[q]:=List.getElem?_eq_getElem hq
   rw[hd q hq]
   have hg:v.ae.getD q []=v.ae[q]:=by simp[List.getD,hq]
   rw[hg]
   cases hv:Lib.validD v.ae[q] with
   |true=>
    refine .inl ⟨_,rfl,by omega,λk hk=>?_⟩
    rcases(dm hx k).1 hk with h|h
    ·exact hf k h
    ·rw[h];exact hv
   |false=>
    refine .inr ⟨_,rfl,by omega,?_⟩
    rw[List.any_eq_true]
    exact⟨_,List.getElem_mem hq,by simp[hv]⟩)
  (λs hI=>by
   obtain⟨rfl,hf⟩:=hI
   rw[List.take_length] at hf
   unfold bw
   rw[dF (by omega),cF]
   refine⟨_,rfl,?_⟩
   dsimp only
   rw[List.any_eq_false]
   intro x hx
   simp[hf x hx]) (by omega)
 rw[hb,bnd]
 cases b with
 |inl i=>dsimp only at hp ⊢;rw[bnd,hp.2,dT hp.1]
 |inr u=>dsimp only at hp ⊢;rw[bnd,hp];rfl
theorem twice_run {n:Nat} (hn:6000<n) {v:TF0} (hw:Wide v): ∃b,aN (dj n v) n ((0:Int),([]:List (Bs×Bool)))=some b∧(match b with|.inl _=>¬v.ae.Nodup|.inr _=>v.ae.Nodup):=by
 have hl:=hw.2.1
 refine cj (step:=dj n v) (n:=n) (λq s=>s.1=(q:Int)∧(∀x,(aG s.2 x).getD false=decide (x∈v.ae.take q))∧(v.ae.take q).Nodup)
  (λb=>match b with|.inl _=>¬v.ae.Nodup|.inr _=>v.ae.Nodup) v.ae.length ⟨rfl,λx=>by simp[aG],by simp⟩
  (λq s hq hI=>?_) (λs hI=>?_) (by omega)
 ·obtain⟨i,m⟩:=s
  obtain⟨h1,h2,h3⟩:=hI
  have h1':i=(q:Int):=h1
  subst h1'
  dsimp only at h2
  have hx:v.ae[q]? =some v.ae[q]:=List.getElem?_eq_getElem hq
  have hg:aR v.ae (q:Int)=some v.ae[q]:=by simp[aR]
  unfold dj
  dsimp only
  rw[dT (by omega),cT,hg,bnd,h2]
  by_cases hm:v.ae[q]∈v.ae.take q
  ·rw[dT hm,cT]
   exact .inr ⟨_,rfl,λh=>((iv hx).1 (nP (q+1) h)).2 hm⟩
  ·rw[dF hm,cF,aU (by omega) (by omega)]
   refine .inl ⟨_,rfl,by dsimp only;omega,λx=>?_,(iv hx).2 ⟨h3,hm⟩⟩
   dsimp only
   rw[jg]
   by_cases hxe:v.ae[q]=x
   ·rw[if_pos hxe,dT ((dm hx x).2 (.inr hxe.symm))];rfl
   ·rw[if_neg hxe,h2]
    refine decide_eq_decide.2 ?_
    rw[dm hx]
    exact⟨.inl,λh=>h.elim id λh=>absurd h.symm hxe⟩
 ·obtain⟨i,m⟩:=s
  obtain⟨h1,h2,h3⟩:=hI
  have h1':i=(v.ae.length:Int):=h1
  subst h1'
  rw[List.take_length] at h3
  unfold dj
  dsimp only
  rw[dF (by omega),cF]
  exact⟨_,rfl,h3⟩
theorem alone_run {n : Nat} (hn : 6000 < n) {v : TF0} (hw : Wide v) : kC n v = some (aloneV v) := by
 obtain ⟨hl, hk, ht, hkk⟩ := id hw
 unfold kC
 -- the rest: either 2 at once, or what is left
 have tail : ∀ y : Bool × Int × List UInt8 × List TF0 × List (List UInt8), y.2.2.2.1.length ≤ 3000 → y.2.2.2.2.length ≤ 3000 → (PlainV v ↔ (y.1 = false ∧ y.2.1 = 0 ∧ y.2.2.1 = [] ∧ y.2.2.2.1.length = 0 ∧ y.2.2.2.2.length = 0)) →
   (((((bif y.1 then
    (some ((true)))
   else
    bif (!(decide (y.2.1 = 0))) then
     (some ((true)))
    else
     bif (!(decide (y.2.2.1 = []))) then
      (some ((true)))
     else
      aZ (inR .i64 (((y.2.2.2.1.length : Nat) : Int) + ((y.2.2.2.2.length : Nat) : Int))) <|
      some ((decide ((0 : Int) < (((y.2.2.2.1.length : Nat) : Int) + ((y.2.2.2.2.length : Nat) : Int))))) : Option Bool)).bind fun y_2 =>
  bif y_2 then
   (((some ((2 : Int)) : Option Int)).map Lp.br)
  else
   ((bif (decide (v.an < (-9007199254740992))) then
     (some ((true)))
    else
     some ((decide ((9007199254740992 : Int) < v.an))) : Option Bool)).bind fun y_3 =>
   bif y_3 then
    (((some ((20 : Int)) : Option Int)).map Lp.br)
   else
    (eN n v.ah).bind fun x_1 =>
    bif !x_1 then
     (((some ((10 : Int)) : Option Int)).map Lp.br)
    else
     (bD n v.ae).bind fun x_2 =>
     bif x_2 then
      (((some ((10 : Int)) : Option Int)).map Lp.br)
     else
      some (.nx ()) : Option (Lp Unit Int))).bind fun j => joinF j fun _ =>
 (aN (dj n v) n ((0 : Int), ([] : List ((List UInt8) × Bool)))).bind fun b_2 =>
 (match b_2 with 
 | .inl y_5 => some ((41 : Int)) 
 | .inr y_6 => some ((0 : Int)))) = some (aloneV v) := by
  intro y hy1 hy2 hy
  have e : (bif y.1 then
    (some ((true)))
   else
    bif (!(decide (y.2.1 = 0))) then
     (some ((true)))
    else
     bif (!(decide (y.2.2.1 = []))) then
      (some ((true)))
     else
      aZ (inR .i64 (((y.2.2.2.1.length : Nat) : Int) + ((y.2.2.2.2.length : Nat) : Int))) <|
      some ((decide ((0 : Int) < (((y.2.2.2.1.length : Nat) : Int) + ((y.2.2.2.2.length : Nat) : Int))))) : Option Bool) = some (!decide (PlainV v)) := by
   rw [aU (by omega) (by omega)]
   by_cases hp : PlainV v
   ·obtain ⟨a1, a2, a3, a4, a5⟩ := hy.1 hp
    rw [a1, cF, decide_eq_true a2, Bool.not_true, cF, decide_eq_true a3, Bool.not_true, cF, decide_eq_false (by omega), decide_eq_true hp]; rfl
   ·rw [decide_eq_false hp, Bool.not_false]
    cases hb : y.1 with
    | true => rw [cT]
    | false =>
     rw [cF]
     by_cases h2 : y.2.1 = 0
     ·rw [decide_eq_true h2, Bool.not_true, cF]
      by_cases h3 : y.2.2.1 = []
      ·rw [decide_eq_true h3, Bool.not_true, cF, decide_eq_true]
       by_cases h4 : y.2.2.2.1.length = 0
       ·by_cases h5 : y.2.2.2.2.length = 0
        ·exact absurd (hy.2 ⟨hb, h2, h3, h4, h5⟩) hp
        ·omega
       ·omega
      ·rw [decide_eq_false h3, Bool.not_false, cT]
     ·rw [decide_eq_false h2, Bool.not_false, cT]
  rw [e, bnd]
  by_cases hp : PlainV v
  ·rw [decide_eq_true hp, Bool.not_true, cF]
   by_cases hnum : NumOut v
   ·rw [rm hp hnum]
    rcases hnum with hm | hm
    ·rw [decide_eq_true hm, cT, bnd, cT, mpS, bnd, jB]
    ·by_cases hm' : v.an < -9007199254740992
     ·omega
     ·rw [decide_eq_false hm', cF, bnd, decide_eq_true hm, cT, mpS, bnd, jB]
   ·have hnum' : ¬ (v.an < -9007199254740992 ∨ 9007199254740992 < v.an) := hnum
    rw [decide_eq_false (by omega), cF, bnd, decide_eq_false (by omega), cF, pF (by omega), bnd, contains_run hn hw]
    cases hv : Lib.validD v.ah with
    | false => rw [Bool.not_false, cT, mpS, bnd, jB, mJ hp hnum (fun h => by rw [h.1] at hv; cases hv)]
    | true =>
     rw [Bool.not_true, cF, bnd]
     by_cases ha : ∀ k ∈ v.ae, Lib.validD k = true
     ·have : v.ae.any (fun k => !Lib.validD k) = false := by
       rw [List.any_eq_false]
       intro x hx
       simp [ha x hx]
      rw [this, cF, bnd, jN]
      obtain ⟨b, hb, hpost⟩ := twice_run hn hw
      rw [hb, bnd]
      cases b with
      | inl m => dsimp only at hpost ⊢; rw [rn hp hnum ⟨hv, ha⟩ hpost]
      | inr m => dsimp only at hpost ⊢; rw [alone_0 hp hnum ⟨hv, ha⟩ hpost]
     ·have : v.ae.any (fun k => !Lib.validD k) = true := by
       rw [List.any_eq_true]
       apply Classical.byContradiction
       intro h
       apply ha
       intro k hk
       cases hvk : Lib.validD k with
       | true => rfl
       | false => exact absurd ⟨k, hk, by simp [hvk]⟩ h
      rw [this, cT, mpS, bnd, jB, mJ hp hnum (fun h => ha h.2)]
  ·rw [decide_eq_false hp, Bool.not_false, cT, mpS, bnd, jB, oU hp]
 have len0 : ∀ {α : Type} {l : List α}, l = [] ↔ l.length = 0 := fun {α l} => by simp
 by_cases h0 : v.ab = 0
 ·rw [decide_eq_true h0, cT, bnd, jN]
  refine tail _ hl hk ?_
  unfold PlainV
  dsimp only
  rw [h0]
  constructor
  ·rintro ⟨_, _, a, b, c, d, _, e⟩
   refine ⟨?_, ?_, ?_, ?_, e (by omega)⟩
   ·cases hb : v.ak with
    | false => rfl
    | true => have := a hb; omega
   ·apply Classical.byContradiction; intro h; have := b h; omega
   ·apply Classical.byContradiction; intro h; have := c h; omega
   ·apply Classical.byContradiction; intro h; have := d h; omega
  ·rintro ⟨a, b, c, d, e⟩
   exact ⟨by omega, by omega, fun h => (by rw [a] at h; cases h), fun h => absurd b h, fun h => absurd c h, fun h => absurd d h, fun h => by omega, fun _ => e⟩
 rw [decide_eq_false h0, cF]
 by_cases h1 : v.ab = 1
 ·rw [decide_eq_true h1, cT, bnd, jN]
  refine tail _ hl hk ?_
  unfold PlainV
  dsimp only
  rw [h1]
  constructor
  ·rintro ⟨_, _, a, b, c, d, _, e⟩
   refine ⟨rfl, ?_, ?_, ?_, e (by omega)⟩
   ·apply Classical.byContradiction; intro h; have := b h; omega
   ·apply Classical.byContradiction; intro h; have := c h; omega
   ·apply Classical.byContradiction; intro h; have := d h; omega
  ·rintro ⟨_, b, c, d, e⟩
   exact ⟨by omega, by omega, fun _ => rfl, fun h => absurd b h, fun h => absurd c h, fun h => absurd d h, fun h => by omega, fun _ => e⟩
 rw [decide_eq_false h1, cF]
 by_cases h2 : v.ab = 2
 ·rw [decide_eq_true h2, cT, bnd, jN]
  refine tail _ hl hk ?_
  unfold PlainV
  dsimp only
  rw [h2]
  constructor
  ·rintro ⟨_, _, a, b, c, d, _, e⟩
   refine ⟨?_, rfl, ?_, ?_, e (by omega)⟩
   ·cases hb : v.ak with
    | false => rfl
    | true => have := a hb; omega
   ·apply Classical.byContradiction; intro h; have := c h; omega
   ·apply Classical.byContradiction; intro h; have := d h; omega
  ·rintro ⟨a, _, c, d, e⟩
   exact ⟨by omega, by omega, fun h => (by rw [a] at h; cases h), fun _ => rfl, fun h => absurd c h, fun h => absurd d h, fun h => by omega, fun _ => e⟩
 rw [decide_eq_false h2, cF]
 by_cases h3 : v.ab = 3
 ·rw [decide_eq_true h3, cT, bnd, jN]
  refine tail _ hl hk ?_
  unfold PlainV
  dsimp only
  rw [h3]
  constructor
  ·rintro ⟨_, _, a, b, c, d, _, e⟩
   refine ⟨?_, ?_, rfl, ?_, e (by omega)⟩
   ·cases hb : v.ak with
    | false => rfl
    | true => have := a hb; omega
   ·apply Classical.byContradiction; intro h; have := b h; omega
   ·apply Classical.byContradiction; intro h; have := d h; omega
  ·rintro ⟨a, b, _, d, e⟩
   exact ⟨by omega, by omega, fun h => (by rw [a] at h; cases h), fun h => absurd b h, fun _ => rfl, fun h => absurd d h, fun h => by omega, fun _ => e⟩
 rw [decide_eq_false h3, cF]
 by_cases h4 : v.ab = 4
 ·rw [decide_eq_true h4, cT, bnd, jN]
  refine tail _ (by simp) hk ?_
  unfold PlainV
  dsimp only
  rw [h4]
  constructor
  ·rintro ⟨_, _, a, b, c, d, _, e⟩
   refine ⟨?_, ?_, ?_, rfl, e (by omega)⟩
   ·cases hb : v.ak with
    | false => rfl
    | true => have := a hb; omega
   ·apply Classical.byContradiction; intro h; have := b h; omega
   ·apply Classical.byContradiction; intro h; have := c h; omega
  ·rintro ⟨a, b, c, _, e⟩
   exact ⟨by omega, by omega, fun h => (by rw [a] at h; cases h), fun h => absurd b h, fun h => absurd c h, fun _ => .inl rfl, fun h => by omega, fun _ => e⟩
 rw [decide_eq_false h4, cF]
 by_cases h5 : v.ab = 5
 ·rw [decide_eq_true h5, cT]
  by_cases hkl : v.ae.length = v.ac.length
  ·rw [decide_eq_true (by omega), Bool.not_true, cF, bnd, jN]
   refine tail _ (by simp) (by simp) ?_
   unfold PlainV
   dsimp only
   rw [h5]
   constructor
   ·rintro ⟨_, _, a, b, c, d, _, e⟩
    refine ⟨?_, ?_, ?_, rfl, rfl⟩
    ·cases hb : v.ak with
     | false => rfl
     | true => have := a hb; omega
    ·apply Classical.byContradiction; intro h; have := b h; omega
    ·apply Classical.byContradiction; intro h; have := c h; omega
   ·rintro ⟨a, b, c, _, _⟩
    exact ⟨by omega, by omega, fun h => (by rw [a] at h; cases h), fun h => absurd b h, fun h => absurd c h, fun _ => .inr rfl, fun _ => hkl, fun h => absurd rfl h⟩
  ·rw [decide_eq_false (by omega), Bool.not_false, cT, mpS, bnd, jB, oU (fun h => hkl (h.2.2.2.2.2.2.1 h5))]
 ·rw [decide_eq_false h5, cF, mpS, bnd, jB, oU]
  intro h
  have a := h.1
  have b := h.2.1
  omega
end Go.Proofs.YtkhdpnamfndonaaGreatDoor
end
section
namespace Go.Proofs.YtkhdpnamfndonaaGreatDoor
open Go Go.Vc Go.RowKit
mutual
def depthV:TF0→Nat
 |⟨_,_,_,_,l,_⟩=>depthVs l+1
def depthVs:List TF0→Nat
 |[]=>0
 |x::r=>max (depthV x) (depthVs r)
end
theorem nu (v:TF0):depthV v=depthVs v.ac+1:=by cases v;rw[depthV]
theorem qh: ∀l m:List TF0,depthVs (l++m)=max (depthVs l) (depthVs m)
 |[],m=>by simp[depthVs]
 |x::l,m=>by rw[List.cons_append,depthVs,depthVs,qh l m];omega
theorem oW {l:List TF0} {i:Nat} {x:TF0} (h:l[i]? =some x):depthVs (l.take (i+1))=max (depthVs (l.take i)) (depthV x):=by
 rw[List.take_add_one,h,qh]
 simp[depthVs]
theorem mK: ∀ {l:List TF0} {x:TF0},x∈l→depthV x≤depthVs l
 |y::r,x,h=>by
  rw[depthVs]
  rcases List.mem_cons.1 h with rfl|h
  ·omega
  ·have:=mK h
   omega
theorem depthV_pos (v:TF0):1≤depthV v:=by rw[nu];omega
theorem sY {n:Nat} (hn:6000<n): ∀ (k d:Nat) (v:TF0) (left:Nat),d≤k→Small d v→left≤1000→dP n k v (left:Int)=some ((min (depthV v) (left+1):Nat):Int)
 |_,0,v,_,_,h,_=>h.elim
 |0,d+1,v,_,h,_,_=>absurd h (by omega)
 |k+1,d+1,v,left,hk,hs,hle=>by
  obtain⟨h1,h2,h3,h4,h5⟩:=hs
  show iQ n (dP n k) v left=_
  unfold iQ
  have:=cD (step:=gi n (dP n k) v (left:Int)) (n:=n) (λq=>(((min (depthVs (v.ac.take q)) left:Nat):Int),(q:Int))) v.ac.length ((min (depthVs v.ac) left:Nat):Int) (λq hq=>by
   have hx:v.ac[q]? =some v.ac[q]:=List.getElem?_eq_getElem hq
   have hg:aR v.ac (q:Int)=some v.ac[q]:=by simp[aR]
   unfold gi
   dsimp only
   rw[dT (by omega),cT]
   by_cases hl:left=0
   ·subst hl
    rw[dF (by omega),cF,aU (by omega) (by omega)]
    simp
   ·have hl1: ((left:Nat):Int)-1=((left-1:Nat):Int):=by omega
    rw[dT (by omega),cT,hg,bnd,aU (by omega) (by omega),hl1,sY hn k d _ (left-1) (by omega) (h5 _ (List.getElem_mem hq)) (by omega),bnd,aU (by omega) (by omega),oW hx]
    congr 3
    omega) (by
   unfold gi
   dsimp only
   rw[dF (by omega),cF,List.take_length]) (by omega)
  have e0: ((0:Nat):Int)=0:=rfl
  simp only[List.take_zero,depthVs,Nat.zero_min,e0] at this
  rw[this,bnd,aU (by omega) (by omega),nu]
  congr 1
  omega
theorem rq {n:Nat} (hn:6000<n): ∀ (k d:Nat) (v:TF0) (left:Nat),d≤k→Small d v→left≤1000→cU n k v (left:Int)=some (decide (left<depthV v))
 |_,0,v,_,_,h,_=>h.elim
 |0,d+1,v,_,h,_,_=>absurd h (by omega)
 |k+1,d+1,v,left,hk,hs,hle=>by
  obtain⟨h1,h2,h3,h4,h5⟩:=hs
  show gI n (cU n k) v left=_
  unfold gI
  by_cases hl:left=0
  ·subst hl
   have:=depthV_pos v
   rw[dT (by omega),cT,dT (by omega)]
  rw[dF (by omega),cF]
  obtain⟨b,hb,hp⟩:=cj (step:=dD n (cU n k) v (left:Int)) (n:=n) (s0:=(0:Int)) (λq s=>s=(q:Int)∧depthVs (v.ac.take q)<left) (λb=>match b with|.inl _=>left≤depthVs v.ac|.inr _=>depthVs v.ac<left) v.ac.length ⟨rfl,by simp[depthVs];omega⟩ (λq s hq hI=>by
   obtain⟨rfl,hI⟩:=hI
   have hx:v.ac[q]? =some v.ac[q]:=List.getElem?_eq_getElem hq
   have hg:aR v.ac (q:Int)=some v.ac[q]:=by simp[aR]
   have hm:v.ac[q]∈v.ac:=List.getElem_mem hq
   have hdm:=mK hm
   unfold dD
   have hl1: ((left:Nat):Int)-1=((left-1:Nat):Int):=by omega
   rw[dT (by omega),cT,hg,bnd,aU (by omega) (by omega),hl1,rq hn k d _ (left-1) (by omega) (h5 _ hm) (by omega),bnd]
   by_cases hd:left-1<depthV v.ac[q]
   ·rw[dT hd,cT]
    refine .inr ⟨_,rfl,?_⟩
    dsimp only
    omega
   ·rw[dF hd,cF,aU (by omega) (by omega)]
    refine .inl ⟨_,rfl,by omega,?_⟩
    rw[oW hx]
    omega) (λs hI=>by
   obtain⟨rfl,hI⟩:=hI
   rw[List.take_length] at hI
   unfold dD
   rw[dF (by omega),cF]
   exact⟨_,rfl,hI⟩) (by omega)
  rw[hb,bnd]
  have:=nu v
  cases b with
  |inl u=>dsimp only at hp ⊢;rw[dT (by omega)]
  |inr u=>dsimp only at hp ⊢;rw[dF (by omega)]
theorem sZ {n:Nat} (hn:6000<n): ∀ (k d:Nat) (v:TF0),d≤k→Small d v→(cb v).length≤5900→dh n k v=some ((cb v).length:Int)
 |_,0,v,_,h,_=>h.elim
 |0,d+1,v,h,_,_=>absurd h (by omega)
 |k+1,d+1,v,hk,hs,hlen=>by
  obtain⟨h1,h2,h3,h4,h5⟩:=hs
  show ik n (dh n k) v=_
  unfold ik
  have hwl: (cb v).length=(bF v.ac).length+1:=by rw[eh,List.length_cons]
  have:=cD (step:=ei n (dh n k) v) (n:=n) (λq=>(((bF (v.ac.take q)).length:Int)+1,(q:Int))) v.ac.length ((bF v.ac).length+1:Int) (λq hq=>by
   have hx:v.ac[q]? =some v.ac[q]:=List.getElem?_eq_getElem hq
   have hg:aR v.ac (q:Int)=some v.ac[q]:=by simp[aR]
   have hm:v.ac[q]∈v.ac:=List.getElem_mem hq
   have hw1:=kw hm
   have hw2: (bF (v.ac.take q)).length≤(bF v.ac).length:=by
    have:=congrArg List.length (lV (v.ac.take q) (v.ac.drop q))
    rw[List.take_append_drop,List.length_append] at this
    omega
   unfold ei
   dsimp only
   rw[dT (by omega),cT,hg,bnd,sZ hn k d _ (by omega) (h5 _ hm) (by omega),bnd,aU (by omega) (by omega),aU (by omega) (by omega),mI hx,List.length_append]
   congr 3
   push_cast
   omega) (by
   unfold ei
   dsimp only
   rw[dF (by omega),cF,List.take_length]) (by omega)
  have e0: ((0:Nat):Int)=0:=rfl
  have e1: (0:Int)+1=1:=rfl
  simp only[List.take_zero,bF,List.length_nil,e0,e1] at this
  rw[this,bnd,hwl]
  rfl
structure Fine (v:TF0):Prop where
 small:Small 60 v
 few: (cb v).length≤5900
theorem Small.le: ∀ {d e:Nat} {v:TF0},d≤e→Small d v→Small e v
 |0,_,_,_,h=>h.elim
 |d+1,0,_,hde,_=>absurd hde (by omega)
 |d+1,e+1,_,hde,h=>⟨h.1,h.2.1,h.2.2.1,h.2.2.2.1,λx hx=>Small.le (by omega) (h.2.2.2.2 x hx)⟩
theorem Fine.wide {v:TF0} (h:Fine v):Wide v:=h.small.wide
theorem Fine.part {v x:TF0} (h:Fine v) (hx:x∈v.ac):Fine x:=by
 refine⟨Small.le (d:=59) (by omega) (h.small.2.2.2.2 x hx),?_⟩
 have:=kw hx
 have:=h.few
 rw[eh,List.length_cons] at this
 omega
theorem rt : ∀ {d : Nat} {v x : TF0}, Small d v → x ∈ cb v → Small d x
 | d + 1, v, x, h, hx => by
  rw [eh] at hx
  rcases List.mem_cons.1 hx with rfl | hx
  ·exact h
  ·have key : ∀ l : List TF0, (∀ y ∈ l, Small d y) → x ∈ bF l → Small d x := by
    intro l
    induction l with
    | nil => intro _ hx; simp [bF] at hx
    | cons y r ih =>
     intro hl hx
     rw [bF, List.mem_append] at hx
     rcases hx with hx | hx
     ·exact rt (hl y List.mem_cons_self) hx
     ·exact ih (fun z hz => hl z (List.mem_cons_of_mem _ hz)) hx
   exact Small.le (by omega) (key _ h.2.2.2.2 hx)
def checkV (v:TF0):Int:=if 24<depthV v then 30 else if faultL (cb v)=0 then(if 4096<(cb v).length then 3 else 0) else faultL (cb v)
theorem pG {n:Nat} (hn:6000<n) {v:TF0} (h:Fine v):gJ n v=some (checkV v):=by
 unfold gJ lS mE mD checkV
 have e: ((24:Nat):Int)=24:=rfl
 have:=rq hn n 60 v 24 (by omega) h.small (by omega)
 rw[e] at this
 rw[this,bnd]
 by_cases hd:24<depthV v
 ·rw[dT hd,cT,if_pos hd]
 ·rw[dF hd,cF,if_neg hd,sX hn n 60 v (by omega) h.small,bnd]
  by_cases hf:faultL (cb v)=0
  ·rw[if_pos hf,dT hf,nT,cF,sZ hn n 60 v (by omega) h.small h.few,bnd]
   by_cases hc:4096<(cb v).length
   ·rw[if_pos hc,dT (by omega),cT]
   ·rw[if_neg hc,dF (by omega),cF]
  ·rw[if_neg hf,dF hf,nF,cT]
theorem ru {n:Nat} (hn:6000<n): ∀ (l:List TF0) (s:Nat),(∀x∈l,Wide x)→s+l.length≤6000→∃j,lx (gj n) l (s:Int)=some j∧(match j with|.nx t=>faultL l=0∧t=((s+l.length:Nat):Int)|.br b=>faultL l≠0∧b.2=faultL l)
 |[],s,_,_=>⟨_,rfl,rfl,by simp⟩
 |x::r,s,hw,hl=>by
  rw[List.length_cons] at hl
  unfold lx faultL
  have e:gj n (s:Int) x=if aloneV x=0 then some (.nx ((s+1:Nat):Int)) else some (.br ((s:Int),aloneV x)):=by
   unfold gj
   have ex: (⟨x.ab,(x.ak),x.an,x.ah,x.ac,x.ae⟩:TF0)=x:=by cases x;rfl
   try rw[ex]
   rw[alone_run hn (hw x List.mem_cons_self),bnd]
   by_cases h:aloneV x=0
   ·rw[if_pos h,dT h,nT,cF,aU (by omega) (by omega)]
    congr 2
   ·rw[if_neg h,dF h,nF,cT]
  rw[e]
  by_cases h:aloneV x=0
  ·rw[if_pos h,if_pos h,bnd]
   obtain⟨j,hj,hp⟩:=ru hn r (s+1) (λy hy=>hw y (List.mem_cons_of_mem _ hy)) (by omega)
   refine⟨j,hj,?_⟩
   cases j with
   |nx t=>dsimp only at hp ⊢;exact⟨hp.1,by rw[hp.2,List.length_cons];omega⟩
   |br b=>exact hp
  ·rw[if_neg h,if_neg h,bnd]
   exact⟨_,rfl,h,rfl⟩
theorem nv {n:Nat} (hn:6000<n) {v:TF0} (h:Fine v):gK n v=some (checkV v):=by
 unfold gK oc checkV
 have e: ((24:Nat):Int)=24:=rfl
 have hd0:=sY hn n 60 v 24 (by omega) h.small (by omega)
 rw[e] at hd0
 rw[hd0,bnd]
 by_cases hd:24<depthV v
 ·rw[dT (by omega),cT,if_pos hd]
 ·rw[dF (by omega),cF,if_neg hd,bn (by have:=h.few;omega)]
  obtain⟨j,hj,hp⟩:=ru hn (cb v) 0 (λx hx=>(rt h.small hx).wide) (by have:=h.few;omega)
  have e0: ((0:Nat):Int)=0:=rfl
  rw[e0] at hj
  rw[hj,bnd]
  cases j with
  |nx t=>
   dsimp only at hp ⊢
   rw[if_pos hp.1]
   by_cases hc:4096<(cb v).length
   ·rw[if_pos hc,dT (by omega),cT]
   ·rw[if_neg hc,dF (by omega),cF]
  |br b=>
   dsimp only at hp ⊢
   rw[if_neg hp.1,hp.2]
end Go.Proofs.YtkhdpnamfndonaaGreatDoor
end
section
namespace Go.Proofs.YtkhdpnamfndonaaGreatDoor
open Go Go.Vc Go.RowKit
theorem kY : ∀ a b : List UInt8, Op.bytesLess a b = decide (Lib.compareBytes a b < 0)
 | [], [] => by simp [Op.bytesLess, Lib.compareBytes]
 | [], _ :: _ => by simp [Op.bytesLess, Lib.compareBytes]
 | _ :: _, [] => by simp [Op.bytesLess, Lib.compareBytes]
 | x :: r, y :: s => by
  unfold Op.bytesLess Lib.compareBytes
  rw [kY r s]
  by_cases h1 : x < y
  ·simp [h1]
  ·by_cases h2 : y < x
   ·have hne : (x == y) = false := by
     rw [beq_eq_false_iff_ne]
     intro e
     rw [e, UInt8.lt_iff_toNat_lt] at h2
     omega
    simp [h1, h2, hne]
   ·have hxy : x = y := UInt8.toNat_inj.1 (by rw [UInt8.lt_iff_toNat_lt] at h1 h2; omega)
    simp [h1, h2, hxy]
abbrev KV:=Bs×TF0
def leK (p q:KV):Bool:= !(decide (Lib.compareBytes q.1 p.1<0))
def insP (p:KV):List KV→List KV
 |[]=>[p]
 |q::r=>bif leK p q then p::q::r else q::insP p r
def isortP:List KV→List KV
 |[]=>[]
 |p::r=>insP p (isortP r)
theorem nw (p:KV): ∀l,(insP p l).Perm (p::l)
 |[]=>List.Perm.refl _
 |q::r=>by
  unfold insP
  cases leK p q with
  |true=>exact List.Perm.refl _
  |false=>exact((nw p r).cons q).trans (List.Perm.swap p q r)
theorem kZ: ∀l,(isortP l).Perm l
 |[]=>List.Perm.refl _
 |p::r=>(nw p _).trans ((kZ r).cons p)
theorem lW {p q:KV}:leK p q=true↔Lib.compareBytes p.1 q.1≤0:=by
 have:=iu p.1 q.1
 simp only[leK,Bool.not_eq_true',decide_eq_false_iff_not]
 omega
theorem leK_trans {a b c:KV} (h1:leK a b=true) (h2:leK b c=true):leK a c=true:=lW.2 (lz _ _ _ (lW.1 h1) (lW.1 h2)).1
theorem leK_total (a b:KV):leK a b=true∨leK b a=true:=by
 rw[lW,lW]
 have:=iu a.1 b.1
 omega
theorem mL (x:KV): ∀l,l.Pairwise (λa b=>leK a b=true)→(insP x l).Pairwise (λa b=>leK a b=true)
 |[],_=>by simp[insP]
 |y::r,h=>by
  obtain⟨h1,h2⟩:=List.pairwise_cons.1 h
  unfold insP
  cases hxy:leK x y with
  |true=>exact List.pairwise_cons.2 ⟨λz hz=>by
   rcases List.mem_cons.1 hz with rfl|hz
   ·exact hxy
   ·exact leK_trans hxy (h1 z hz),h⟩
  |false=>
   refine List.pairwise_cons.2 ⟨λz hz=>?_,mL x r h2⟩
   rcases List.mem_cons.1 ((nw x r).mem_iff.1 hz) with rfl|hz
   ·exact(leK_total z y).resolve_left (by simp[hxy])
   ·exact h1 z hz
theorem nQ: ∀l,(isortP l).Pairwise (λa b=>leK a b=true)
 |[]=>List.Pairwise.nil
 |x::r=>mL x _ (nQ r)
theorem ta: ∀ {l:List KV} {p q:KV},(l.map (·.1)).Nodup→p∈l→q∈l→p.1=q.1→p=q
 |x::r,p,q,h,hp,hq,e=>by
  rw[List.map_cons,List.nodup_cons] at h
  rcases List.mem_cons.1 hp with hp|hp<;>rcases List.mem_cons.1 hq with hq|hq
  ·rw[hp,hq]
  ·have:x.1∈r.map (·.1):=by rw[←hp,e];exact List.mem_map_of_mem hq
   exact absurd this h.1
  ·have:x.1∈r.map (·.1):=by rw[←hq,←e];exact List.mem_map_of_mem hp
   exact absurd this h.1
  ·exact ta h.2 hp hq e
theorem sorted_one {l m:List KV} (hn: (m.map (·.1)).Nodup) (hp:l.Perm m) (hl:l.Pairwise (λa b=>leK a b=true)):l=isortP m:=by
 refine List.Perm.eq_of_pairwise (le:=λa b=>leK a b=true) (λa b ha hb h1 h2=>?_) hl (nQ m) (hp.trans (kZ m).symm)
 have ia:=hp.mem_iff.1 ha
 have ib:=(kZ m).mem_iff.1 hb
 have e1:=lW.1 h1
 have e2:=lW.1 h2
 have e3:=iu a.1 b.1
 exact ta hn ia ib (rd _ _ (by omega))
theorem ins_map (keys:List Bs) (f:Int→KV) (hf: ∀i,(f i).1=keys.getD i.toNat []) (x:Int): ∀l,(ins (keyLe keys) x l).map f=insP (f x) (l.map f)
 |[]=>rfl
 |y::r=>by
  have e:leK (f x) (f y)=keyLe keys x y:=by unfold leK keyLe;rw[hf,hf]
  unfold ins
  rw[List.map_cons,insP,e]
  cases keyLe keys x y with
  |true=>rfl
  |false=>rw[cF,cF,List.map_cons,ins_map keys f hf x r]
theorem tb (keys:List Bs) (f:Int→KV) (hf: ∀i,(f i).1=keys.getD i.toNat []): ∀l,(isort (keyLe keys) l).map f=isortP (l.map f)
 |[]=>rfl
 |x::r=>by
  unfold isort
  rw[ins_map keys f hf,tb keys f hf r,List.map_cons,isortP]
mutual
def sortV:TF0→TF0
 |⟨k,b,n,t,l,ks⟩=>bif decide (k=5) then⟨k,b,n,t,(isortP (ks.zip (sortVs l))).map (·.2),(isortP (ks.zip (sortVs l))).map (·.1)⟩ else⟨k,b,n,t,sortVs l,[]⟩
def sortVs:List TF0→List TF0
 |[]=>[]
 |x::r=>sortV x::sortVs r
end
theorem oe: ∀l,sortVs l=l.map sortV
 |[]=>rfl
 |x::r=>by rw[sortVs,oe r,List.map_cons]
def pairsV (v:TF0):List KV:=isortP (v.ae.zip (v.ac.map sortV))
theorem lc {v:TF0} (h:v.ab=5):sortV v=⟨v.ab,v.ak,v.an,v.ah,(pairsV v).map (·.2),(pairsV v).map (·.1)⟩:=by
 cases v with
 |mk k b n t l ks=>
  dsimp only at h
  rw[sortV,oe,dT h,cT]
  rfl
theorem ke {v:TF0} (h:v.ab≠5):sortV v=⟨v.ab,v.ak,v.an,v.ah,v.ac.map sortV,[]⟩:=by
 cases v with
 |mk k b n t l ks=>
  dsimp only at h
  rw[sortV,oe,dF h,cF]
def OkV (v:TF0):Prop:=faultL (cb v)=0
theorem ld: ∀ {l:List TF0},faultL l=0↔ ∀x∈l,aloneV x=0
 |[]=>by simp[faultL]
 |x::r=>by
  rw[faultL]
  by_cases h:aloneV x=0
  ·rw[if_pos h,ld (l:=r)]
   simp[h]
  ·rw[if_neg h]
   constructor
   ·intro e;exact absurd e h
   ·intro e;exact absurd (e x List.mem_cons_self) h
theorem og {x:TF0}: ∀ {l:List TF0},x∈bF l↔ ∃y∈l,x∈cb y
 |[]=>by simp[bF]
 |y::r=>by
  rw[bF,List.mem_append,og (l:=r)]
  simp
theorem ny {v:TF0}:OkV v↔aloneV v=0∧∀x∈v.ac,OkV x:=by
 unfold OkV
 rw[ld,eh]
 constructor
 ·intro h
  refine⟨h v List.mem_cons_self,λx hx=>?_⟩
  rw[ld]
  intro y hy
  exact h y (List.mem_cons_of_mem _ (og.2 ⟨x,hx,hy⟩))
 ·rintro⟨h1,h2⟩ x hx
  rcases List.mem_cons.1 hx with rfl|hx
  ·exact h1
  ·obtain⟨y,hy,hxy⟩:=og.1 hx
   exact ld.1 (h2 y hy) x hxy
theorem ki {v:TF0} (h:checkV v=0):OkV v∧depthV v≤24∧(cb v).length≤4096:=by
 unfold checkV at h
 by_cases h1:24<depthV v
 ·rw[if_pos h1] at h;omega
 ·rw[if_neg h1] at h
  by_cases h2:faultL (cb v)=0
  ·rw[if_pos h2] at h
   by_cases h3:4096<(cb v).length
   ·rw[if_pos h3] at h;omega
   ·exact⟨h2,by omega,by omega⟩
  ·rw[if_neg h2] at h;exact absurd h h2
def upto (n:Nat):List Int:=(List.range n).map Int.ofNat
theorem upto_succ (q:Nat):upto (q+1)=upto q++[(q:Int)]:=by unfold upto;rw[List.range_succ,List.map_append];rfl
theorem jC (q:Nat): (upto q).length=q:=by simp[upto]
theorem order_run {n:Nat} (hn:6000<n) {v:TF0} (hw:v.ae.length≤3000) (hd:v.ae.Nodup):kD n v=some (isort (keyLe v.ae) (upto v.ae.length)):=by
 unfold kD
 rw[bn ⟨by omega,by omega,by omega⟩]
 have:=cD (step:=gk n v) (n:=n) (λq=>(upto q++List.replicate (v.ae.length-q) (0:Int),(q:Int))) v.ae.length (upto v.ae.length) (λq hq=>by
  unfold gk
  dsimp only
  have hll: (List.replicate ((v.ae.length:Nat):Int).toNat (0:Int)).length=v.ae.length:=by simp
  have hg:aR (upto q++List.replicate (v.ae.length-q) (0:Int)) (q:Int)=some 0:=by
   rw[bf (k:=q) 0 (by simp[jC];omega)]
   rw[List.getD_eq_getElem?_getD,List.getElem?_append_right (by rw[jC];omega),jC]
   simp[(by omega:0<v.ae.length-q)]
  rw[hll,dT (by omega),cT,hg,bnd,aU (by omega) (by omega)]
  congr 3
  have e:v.ae.length-q=(v.ae.length- (q+1))+1:=by omega
  rw[Int.toNat_natCast,e,List.replicate_succ,List.set_append_right _ _ (by rw[jC];omega),jC,Nat.sub_self,List.set_cons_zero,upto_succ,List.append_assoc]
  rfl) (by
  unfold gk
  dsimp only
  have hll: (List.replicate ((v.ae.length:Nat):Int).toNat (0:Int)).length=v.ae.length:=by simp
  rw[hll,dF (by omega),cF,Nat.sub_self,List.replicate_zero,List.append_nil]) (by omega)
 have e0: ((0:Nat):Int)=0:=rfl
 have e1:upto 0=[]:=rfl
 simp only[e1,e0,Nat.sub_zero,List.nil_append] at this
 rw[Int.toNat_natCast,this,bnd]
 unfold lU
 rw[bn,bn (by rw[jC];omega),bnd]
 refine⟨hd,λi hi=>?_⟩
 simp only[upto,List.mem_map,List.mem_range] at hi
 obtain⟨j,hj,rfl⟩:=hi
 have:Int.ofNat j=(j:Int):=rfl
 omega
theorem ll {α β:Type} (f:α→β) {l:List α} {i:Nat} {x:α} (h:l[i]? =some x): (l.take (i+1)).map f=(l.take i).map f++[f x]:=by
 rw[List.take_add_one,h]
 simp
theorem zip_upto (ks:List Bs) (l:List TF0) (hl:ks.length=l.length) (g:TF0→TF0) (z:TF0): (upto ks.length).map (λi=>(ks.getD i.toNat [],g (l.getD i.toNat z)))=ks.zip (l.map g):=by
 apply List.ext_getElem
 ·simp[upto,hl]
 ·intro i h1 h2
  simp[jC] at h1
  have h3:i<l.length:=by omega
  simp[upto,List.getD,h1,h3]
theorem rv {n:Nat} (hn:6000<n): ∀ (k d:Nat) (v:TF0),d≤k→Small d v→OkV v→cu n k v=some (sortV v)
 |_,0,v,_,h,_=>h.elim
 |0,d+1,v,h,_,_=>absurd h (by omega)
 |k+1,d+1,v,hk,hs,hok=>by
  obtain⟨h1,h2,h3,h4,h5⟩:=hs
  obtain⟨ha,hl⟩:=ny.1 hok
  obtain⟨hp,_,_,hnd⟩:=oV ha
  show io n (cu n k) v=_
  unfold io
  have ih: ∀x∈v.ac,cu n k x=some (sortV x):=λx hx=>rv hn k d x (by omega) (h5 x hx) (hl x hx)
  by_cases hkind:v.ab=5
  ·have hkl:v.ae.length=v.ac.length:=hp.2.2.2.2.2.2.1 hkind
   rw[dT hkind,cT,order_run hn h2 hnd,bnd]
   obtain⟨idx,hidx⟩: ∃idx,idx=isort (keyLe v.ae) (upto v.ae.length):=⟨_,rfl⟩
   rw[←hidx]
   have hperm:idx.Perm (upto v.ae.length):=hidx▸lT _ _
   have hlen:idx.length=v.ae.length:=by rw[hperm.length_eq,jC]
   have hin: ∀i∈idx,∃j:Nat,i=(j:Int)∧j<v.ae.length:=λi hi=>by
    have:=hperm.mem_iff.1 hi
    simp only[upto,List.mem_map,List.mem_range] at this
    obtain⟨j,hj,rfl⟩:=this
    exact⟨j,rfl,hj⟩
   obtain⟨f,hf⟩: ∃f:Int→KV,f=λi=>(v.ae.getD i.toNat [],sortV (v.ac.getD i.toNat v)):=⟨_,rfl⟩
   have:=cD (step:=ep n (cu n k) v idx) (n:=n) (λq=>((q:Int),((idx.take q).map f).map (·.2),((idx.take q).map f).map (·.1))) idx.length ((idx.map f).map (·.2),(idx.map f).map (·.1)) (λq hq=>by
    have hx:idx[q]? =some idx[q]:=List.getElem?_eq_getElem hq
    obtain⟨j,hj,hjl⟩:=hin _ (List.getElem_mem hq)
    rw[hj] at hx
    have hg:aR idx (q:Int)=some (j:Int):=by simp[aR,hx]
    have hgk:aR v.ae (j:Int)=some (f j).1:=by rw[bf [] hjl,hf];rfl
    have hgl:aR v.ac (j:Int)=some (v.ac.getD j v):=bf v (by omega)
    have hm:v.ac.getD j v∈v.ac:=by simp[List.getD,(by omega:j<v.ac.length)]
    have ef:sortV (v.ac.getD j v)=(f j).2:=by rw[hf];rfl
    unfold ep
    dsimp only
    have ev: ∀x:TF0,(⟨x.ab,(x.ak),x.an,x.ah,x.ac,x.ae⟩:TF0)=x:=λx=>by cases x;rfl
    have hlq: ((idx.take q).map f).length≤3000:=by simp;omega
    rw[dT (by omega),cT,hg,bnd,hgk,bnd,bn (by rw[List.length_map];omega),bnd,hgl,bnd,ih _ hm,bnd,bn (by rw[List.length_map];omega),bnd,aU (by omega) (by omega),ev,ef,ll f hx,List.map_append,List.map_append]
    rfl) (by
    unfold ep
    dsimp only
    rw[dF (by omega),cF,List.take_length]) (by omega)
   have e0: ((0:Nat):Int)=0:=rfl
   simp only[List.take_zero,List.map_nil,e0] at this
   rw[this,bnd,lc hkind]
   have e:idx.map f=pairsV v:=by
    rw[hidx,tb v.ae f (λi=>by rw[hf]),hf]
    unfold pairsV
    rw[zip_upto v.ae v.ac hkl sortV v]
   rw[e]
  ·rw[dF hkind,cF]
   have:=cD (step:=eq n (cu n k) v) (n:=n) (λq=>((q:Int),(v.ac.take q).map sortV)) v.ac.length (v.ac.map sortV) (λq hq=>by
    have hx:v.ac[q]? =some v.ac[q]:=List.getElem?_eq_getElem hq
    have hg:aR v.ac (q:Int)=some v.ac[q]:=by simp[aR]
    unfold eq
    dsimp only
    have ev: ∀x:TF0,(⟨x.ab,(x.ak),x.an,x.ah,x.ac,x.ae⟩:TF0)=x:=λx=>by cases x;rfl
    rw[dT (by omega),cT,hg,bnd,ih _ (List.getElem_mem hq),bnd,bn (by simp;omega),bnd,aU (by omega) (by omega),ev,ll sortV hx]
    rfl) (by
    unfold eq
    dsimp only
    rw[dF (by omega),cF,List.take_length]) (by omega)
   have e0: ((0:Nat):Int)=0:=rfl
   simp only[List.take_zero,List.map_nil,e0] at this
   rw[this,bnd,ke hkind]
end Go.Proofs.YtkhdpnamfndonaaGreatDoor
end
section
namespace Go.Proofs.YtkhdpnamfndonaaGreatDoor
open Go Go.Vc Go.RowKit
theorem rx (v:TF0): (pairsV v).Perm (v.ae.zip (v.ac.map sortV)):=kZ _
theorem pairs_snd {v:TF0} (h:v.ae.length=v.ac.length): ((pairsV v).map (·.2)).Perm (v.ac.map sortV):=by
 have:=(rx v).map (·.2)
 rwa [List.map_snd_zip (by simp[h])] at this
theorem pairs_fst {v:TF0} (h:v.ae.length=v.ac.length): ((pairsV v).map (·.1)).Perm v.ae:=by
 have:=(rx v).map (·.1)
 rwa [List.map_fst_zip (by simp[h])] at this
theorem kj {v:TF0} (h:PlainV v) (hk:v.ab=5):v.ae.length=v.ac.length:=h.2.2.2.2.2.2.1 hk
theorem pH {v:TF0} (h:PlainV v): (sortV v).ac.Perm (v.ac.map sortV):=by
 by_cases hk:v.ab=5
 ·rw[lc hk];exact pairs_snd (kj h hk)
 ·rw[ke hk]
theorem tc {v:TF0} (h:PlainV v): (sortV v).ae.Perm v.ae:=by
 by_cases hk:v.ab=5
 ·rw[lc hk];exact pairs_fst (kj h hk)
 ·rw[ke hk]
  have:=h.2.2.2.2.2.2.2 hk
  have e:v.ae=[]:=by simpa using this
  rw[e]
theorem iM (v:TF0): (sortV v).ab=v.ab:=by
 by_cases hk:v.ab=5
 ·rw[lc hk]
 ·rw[ke hk]
theorem sort_bool (v:TF0): (sortV v).ak=v.ak:=by
 by_cases hk:v.ab=5
 ·rw[lc hk]
 ·rw[ke hk]
theorem sort_num (v:TF0): (sortV v).an=v.an:=by
 by_cases hk:v.ab=5
 ·rw[lc hk]
 ·rw[ke hk]
theorem pI (v:TF0): (sortV v).ah=v.ah:=by
 by_cases hk:v.ab=5
 ·rw[lc hk]
 ·rw[ke hk]
theorem OkV.plain {v:TF0} (h:OkV v):PlainV v:=(oV (ny.1 h).1).1
theorem OkV.part {v x:TF0} (h:OkV v) (hx:x∈v.ac):OkV x:=(ny.1 h).2 x hx
theorem ry: ∀ {d:Nat} {v:TF0},Small d v→OkV v→Small d (sortV v)
 |d+1,v,h,hok=>by
  have hp:=hok.plain
  have h1:=pH hp
  have h2:=tc hp
  refine⟨by rw[h1.length_eq,List.length_map];exact h.1,by rw[h2.length_eq];exact h.2.1,by rw[pI];exact h.2.2.1,λk hk=>h.2.2.2.1 k (h2.mem_iff.1 hk),λx hx=>?_⟩
  obtain⟨y,hy,rfl⟩:=List.mem_map.1 (h1.mem_iff.1 hx)
  exact ry (h.2.2.2.2 y hy) (hok.part hy)
theorem sort_ok: ∀ (m:Nat) {v:TF0},SizeOf.sizeOf v<m→OkV v→OkV (sortV v)
 |0,v,hm,_=>absurd hm (by omega)
 |m+1,v,hm,hok=>by
  have hp:=hok.plain
  obtain⟨_,hn,ht,hd⟩:=oV (ny.1 hok).1
  have h1:=pH hp
  have h2:=tc hp
  rw[ny]
  constructor
  ·refine alone_0 ?_ ?_ ?_ ?_
   ·obtain⟨a,b,c,d,e,f,g,i⟩:=hp
    refine⟨by rw[iM];exact a,by rw[iM];exact b,by rw[iM,sort_bool];exact c,by rw[iM,sort_num];exact d,by rw[iM,pI];exact e,?_,?_,?_⟩
    ·rw[iM,h1.length_eq,List.length_map];exact f
    ·rw[iM,h1.length_eq,List.length_map,h2.length_eq];exact g
    ·rw[iM,h2.length_eq];exact i
   ·unfold NumOut;rw[sort_num];exact hn
   ·unfold TextsOk;rw[pI];exact⟨ht.1,λk hk=>ht.2 k (h2.mem_iff.1 hk)⟩
   ·exact h2.nodup_iff.2 hd
  ·intro x hx
   obtain⟨y,hy,rfl⟩:=List.mem_map.1 (h1.mem_iff.1 hx)
   exact sort_ok m (by have:=nZ hy;omega) (hok.part hy)
theorem OkV.sort {v:TF0} (h:OkV v):OkV (sortV v):=sort_ok _ (Nat.lt_succ_self _) h
def lenW (l:List TF0):List Nat:=l.map λx=>(cb x).length
theorem oh: ∀l:List TF0,(bF l).length=(lenW l).sum
 |[]=>rfl
 |x::r=>by rw[bF,List.length_append,oh r];rfl
theorem rz: ∀ (m:Nat) {v:TF0},SizeOf.sizeOf v<m→OkV v→(cb (sortV v)).length=(cb v).length
 |0,v,hm,_=>absurd hm (by omega)
 |m+1,v,hm,hok=>by
  rw[eh,eh v,List.length_cons,List.length_cons,oh,oh]
  have h1:=(pH hok.plain).map λx=>(cb x).length
  have e: (lenW (sortV v).ac).sum=(lenW (v.ac.map sortV)).sum:=h1.sum_nat
  rw[e]
  unfold lenW
  rw[List.map_map]
  congr 2
  refine List.map_congr_left λx hx=>?_
  exact rz m (by have:=nZ hx;omega) (hok.part hx)
theorem Fine.sort {v:TF0} (h:Fine v) (hok:OkV v):Fine (sortV v):=⟨ry h.small hok,by rw[rz _ (Nat.lt_succ_self _) hok];exact h.few⟩
theorem cmpC_run {n:Nat} (a b:Int):iK n a b=some (cmpI a b):=by
 unfold iK lA cmpI
 rw[bnd,bnd,cF,cF]
 by_cases h:a<b
 ·rw[dT h,cT,cT]
 ·rw[dF h,cF,cF]
  by_cases h2:b<a
  ·rw[dT h2,cT,cT]
  ·rw[dF h2,cF,cF]
theorem nz {n:Nat} (a b:Int):dl n a b=some (cmpI a b):=by
 unfold dl jA cmpI
 rw[bnd,bnd,cF,cF]
 by_cases h:a<b
 ·rw[dT h,cT,cT]
 ·rw[dF h,cF,cF]
  by_cases h2:b<a
  ·rw[dT h2,cT,cT]
  ·rw[dF h2,cF,cF]
theorem qI {n:Nat} (a:Bool):jz n a=some (bitI a):=by unfold jz bitI;cases a<;>rfl
theorem or_run {n:Nat} (hn:6000<n) (a b c d:Int):pA n [a,b,c,d]=some (thenC a (thenC b (thenC c d))):=by
 obtain⟨m,rfl⟩: ∃m,n=m+5:=⟨n-5,by omega⟩
 have st: ∀ (x:Int) (i:Nat),[a,b,c,d][i]? =some x→jj (m+5) [a,b,c,d] (i:Int)=bif decide (x=0) then some (.nx ((i:Int)+1)) else some (.br (.inl x)):=λx i hx=>by
  have hi:i<4:=by
   have:=(List.getElem?_eq_some_iff.1 hx).1
   simpa using this
  unfold jj
  have hg:aR [a,b,c,d] (i:Int)=some x:=by simp[aR,hx]
  rw[dT (by simp;omega),cT,hg,bnd]
  by_cases h:x=0
  ·rw[dT h,nT,cF,cT,aU (by omega) (by omega)]
  ·rw[dF h,nF,cT,cF]
 have s0:=st a 0 rfl
 have s1:=st b 1 rfl
 have s2:=st c 2 rfl
 have s3:=st d 3 rfl
 have e0: ((0:Nat):Int)=0:=rfl
 have e1: ((0:Nat):Int)+1=((1:Nat):Int):=rfl
 have e2: ((1:Nat):Int)+1=((2:Nat):Int):=rfl
 have e3: ((2:Nat):Int)+1=((3:Nat):Int):=rfl
 have e4: ((3:Nat):Int)+1=4:=rfl
 rw[e1] at s0
 rw[e2] at s1
 rw[e3] at s2
 rw[e4] at s3
 have s4:jj (m+5) [a,b,c,d] 4=some (.br (.inr ())):=by
  unfold jj
  rw[dF (by simp),cF]
 unfold pA
 rw[←e0]
 unfold aN
 rw[s0]
 by_cases ha:a=0
 ·rw[dT ha,cT,bnd,ha,thenC0]
  dsimp only
  unfold aN
  rw[←ha,s1]
  by_cases hb:b=0
  ·rw[dT hb,cT,bnd]
   have:thenC b (thenC c d)=thenC c d:=by rw[hb,thenC0]
   rw[this]
   dsimp only
   unfold aN
   rw[s2]
   by_cases hc:c=0
   ·rw[dT hc,cT,bnd]
    have:thenC c d=d:=by rw[hc,thenC0]
    rw[this]
    dsimp only
    unfold aN
    rw[s3]
    by_cases hd:d=0
    ·rw[dT hd,cT,bnd]
     dsimp only
     unfold aN
     rw[s4,bnd]
     dsimp only
     rw[bnd,hd]
     rfl
    ·rw[dF hd,cF,bnd]
     dsimp only
     rw[bnd]
   ·rw[dF hc,cF,bnd,thenCn d hc]
    dsimp only
    rw[bnd]
  ·rw[dF hb,cF,bnd,thenCn _ hb]
   dsimp only
   rw[bnd]
 ·rw[dF ha,cF,bnd,thenCn _ ha]
  dsimp only
  rw[bnd]
theorem rA (o:Bool) {l:List TF0} {ks:List Bs} {m:List TF0} {js:List Bs} {q:Nat} (h1:q<l.length) (h2:q<m.length):
 cmpVs o (l.drop q) (ks.drop q) (m.drop q) (js.drop q)=thenC (bif o then Lib.compareBytes (ks.getD q []) (js.getD q []) else 0) (thenC (cmpV l[q] m[q]) (cmpVs o (l.drop (q+1)) (ks.drop (q+1)) (m.drop (q+1)) (js.drop (q+1)))):=by
 have hh: ∀ks:List Bs,(ks.drop q).headD []=ks.getD q []:=λks=>by
  rw[List.headD_eq_head?_getD,List.head?_drop,List.getD_eq_getElem?_getD]
 rw[List.drop_eq_getElem_cons h1,List.drop_eq_getElem_cons h2,cmpVs,hh,hh,List.tail_drop,List.tail_drop]
theorem td (o:Bool) {l:List TF0} {ks:List Bs} {m:List TF0} {js:List Bs} {q:Nat} (h:q=min l.length m.length):
 cmpVs o (l.drop q) (ks.drop q) (m.drop q) (js.drop q)=cmpI (l.length:Int) (m.length:Int):=by
 rcases Nat.lt_trichotomy l.length m.length with hl|hl|hl
 ·rw[List.drop_of_length_le (l:=l) (by omega),List.drop_eq_getElem_cons (l:=m) (by omega:q<m.length),cmpVs]
  have:=iC (l.length:Int) (m.length:Int)
  omega
 ·rw[List.drop_of_length_le (l:=l) (by omega),List.drop_of_length_le (l:=m) (by omega),cmpVs]
  have:=iC (l.length:Int) (m.length:Int)
  omega
 ·rw[List.drop_of_length_le (l:=m) (by omega),List.drop_eq_getElem_cons (l:=l) (by omega:q<l.length),cmpVs]
  have:=iC (l.length:Int) (m.length:Int)
  omega
theorem compare_loop {n:Nat} (hn:6000<n) (rec:TF0→TF0→Option Int) (v w:TF0) (hv:v.ac.length≤3000) (hk:v.ab=5→v.ae.length=v.ac.length∧w.ae.length=w.ac.length) (hr: ∀x∈v.ac,∀y∈w.ac,rec x y=some (cmpV x y)):
 ∃b,aN (ck n rec v w) n (0:Int)=some b∧(match b with|.inl c=>c≠0∧cmpVs (decide (v.ab=5)) v.ac v.ae w.ac w.ae=c|.inr _=>cmpVs (decide (v.ab=5)) v.ac v.ae w.ac w.ae=cmpI (v.ac.length:Int) (w.ac.length:Int)):=by
 refine cj (step:=ck n rec v w) (n:=n) (λq s=>s=(q:Int)∧cmpVs (decide (v.ab=5)) v.ac v.ae w.ac w.ae=cmpVs (decide (v.ab=5)) (v.ac.drop q) (v.ae.drop q) (w.ac.drop q) (w.ae.drop q)) _ (min v.ac.length w.ac.length) ⟨rfl,by simp only[List.drop_zero]⟩ (λq s hq hI=>?_) (λs hI=>?_) (by omega)
 ·obtain⟨rfl,hI⟩:=hI
  have h1:q<v.ac.length:=by omega
  have h2:q<w.ac.length:=by omega
  rw[rA _ h1 h2] at hI
  have hg1:aR v.ac (q:Int)=some v.ac[q]:=by simp[aR]
  have hg2:aR w.ac (q:Int)=some w.ac[q]:=by simp[aR]
  have tail: ∀ (h0:cmpVs (decide (v.ab=5)) v.ac v.ae w.ac w.ae=thenC (cmpV v.ac[q] w.ac[q]) (cmpVs (decide (v.ab=5)) (v.ac.drop (q+1)) (v.ae.drop (q+1)) (w.ac.drop (q+1)) (w.ae.drop (q+1)))) (t:Option (Lp Int (Sum Int Unit))),t=((aR v.ac (q:Int)).bind λx_10=>
   (aR w.ac (q:Int)).bind λx_11=>
   (rec x_10 x_11).bind λx_12=>
   bif(!(decide (x_12=0))) then
    (some (.br (.inl x_12)))
   else
    aZ (inR .i64 ((q:Int)+1))<|
    some (.nx ((q:Int)+1)))→(∃s',t=some (.nx s')∧(s'=((q+1:Nat):Int)∧cmpVs (decide (v.ab=5)) v.ac v.ae w.ac w.ae=cmpVs (decide (v.ab=5)) (v.ac.drop (q+1)) (v.ae.drop (q+1)) (w.ac.drop (q+1)) (w.ae.drop (q+1))))∨∃b,t=some (.br b)∧(match b with|.inl c=>c≠0∧cmpVs (decide (v.ab=5)) v.ac v.ae w.ac w.ae=c|.inr _=>cmpVs (decide (v.ab=5)) v.ac v.ae w.ac w.ae=cmpI (v.ac.length:Int) (w.ac.length:Int)):=by
   intro h0 t ht
   rw[hg1,bnd,hg2,bnd,hr _ (List.getElem_mem h1) _ (List.getElem_mem h2),bnd] at ht
   by_cases hc:cmpV v.ac[q] w.ac[q]=0
   ·rw[dT hc,nT,cF,aU (by omega) (by omega)] at ht
    rw[hc,thenC0] at h0
    exact .inl ⟨_,ht,by omega,h0⟩
   ·rw[dF hc,nF,cT] at ht
    rw[thenCn _ hc] at h0
    exact .inr ⟨_,ht,hc,h0⟩
  unfold ck
  rw[dT (by omega),cT]
  by_cases hkind:v.ab=5
  ·obtain⟨k1,k2⟩:=hk hkind
   rw[dT hkind,cT] at hI
   rw[dT hkind,cT,bf [] (by omega),bnd,bf [] (by omega),bnd]
   unfold iJ
   rw[bnd]
   by_cases hc:Lib.compareBytes (v.ae.getD q []) (w.ae.getD q [])=0
   ·rw[dT hc,nT,cF,bnd,jN]
    rw[hc,thenC0] at hI
    have:=tail (by rw[dT hkind];exact hI) _ rfl
    rw[dT hkind] at this
    exact this
   ·rw[dF hc,nF,cT,mpS,bnd,jB]
    rw[thenCn _ hc] at hI
    exact .inr ⟨_,rfl,hc,hI⟩
  ·rw[dF hkind,cF] at hI
   rw[dF hkind,cF,bnd,jN]
   rw[thenC0] at hI
   have:=tail (by rw[dF hkind];exact hI) _ rfl
   rw[dF hkind] at this
   exact this
 ·obtain⟨rfl,hI⟩:=hI
  unfold ck
  rw[dF (by omega),cF]
  refine⟨_,rfl,?_⟩
  dsimp only
  rw[hI,td _ rfl]
theorem bit_cmp (a b:Bool):bitI a-bitI b=cmpI (bitI a) (bitI b):=by cases a<;>cases b<;>rfl
theorem te {n:Nat} (hn:6000<n) (rec:TF0→TF0→Option Int) (v w:TF0) (hv:v.ac.length≤3000) (hok:OkV v) (how:OkV w) (hr: ∀x∈v.ac,∀y∈w.ac,rec x y=some (cmpV x y)):dv n rec v w=some (cmpV v w):=by
 unfold dv iJ
 rw[cmpC_run,bnd,qI,bnd,qI,bnd,bit_cmp,aU (by have:=rk (bitI v.ak) (bitI w.ak);omega) (by have:=rk (bitI v.ak) (bitI w.ak);omega),nz,bnd,bnd,or_run hn,bnd,cmpV_eq]
 generalize hA:cmpI v.ab w.ab=A
 generalize hB:cmpI (bitI v.ak) (bitI w.ak)=B
 generalize hC:cmpI v.an w.an=C
 generalize hD:Lib.compareBytes v.ah w.ah=D
 have assoc: ∀E,thenC A (thenC B (thenC C (thenC D E)))=thenC (thenC A (thenC B (thenC C D))) E:=λE=>by
  by_cases a:A=0
  ·subst a
   rw[thenC0,thenC0]
   by_cases b:B=0
   ·rw[b,thenC0,thenC0]
    by_cases c:C=0
    ·rw[c,thenC0,thenC0]
    ·rw[thenCn _ c,thenCn D c,thenCn _ c]
   ·rw[thenCn _ b,thenCn _ b,thenCn _ b]
  ·rw[thenCn _ a,thenCn _ a,thenCn _ a]
 rw[assoc]
 by_cases hx:thenC A (thenC B (thenC C D))=0
 ·have ha:=(thenC_zero hx).1
  rw[dT hx,nT,cF,hx,thenC0]
  have hkk:v.ab=w.ab:=cmpI_zero (hA.trans ha)
  obtain⟨b,hb,hp⟩:=compare_loop hn rec v w hv (λhk=>⟨kj hok.plain hk,kj how.plain (by rw[←hkk];exact hk)⟩) hr
  rw[hb,bnd]
  cases b with
  |inl c=>dsimp only at hp ⊢;rw[hp.2]
  |inr u=>dsimp only at hp ⊢;rw[nz,bnd,hp]
 ·rw[dF hx,nF,cT,thenCn _ hx]
theorem qi {n:Nat} (hn:6000<n): ∀ (k d:Nat) (v w:TF0),d≤k→Small d v→OkV v→OkV w→eu n k v w=some (cmpV v w)
 |_,0,v,_,_,h,_,_=>h.elim
 |0,d+1,v,_,h,_,_,_=>absurd h (by omega)
 |k+1,d+1,v,w,hk,hs,hok,how=>te hn _ v w hs.1 hok how λx hx y hy=>qi hn k d x y (by omega) (hs.2.2.2.2 x hx) (hok.part hx) (how.part hy)
end Go.Proofs.YtkhdpnamfndonaaGreatDoor
end
section
namespace Go.Proofs.YtkhdpnamfndonaaGreatDoor
open Go Go.Vc Go.RowKit
theorem great_fine {n:Nat} (hn:6000<n) (v:TF0): ∃g,iI n v=some g∧(g=false→Fine v∧Small 30 v∧(cb v).length≤5000):=by
 obtain⟨g,h1,h2⟩:=great_ok (n:=n) (by omega) v
 exact⟨g,h1,λh=>⟨⟨Small.le (by omega) (h2 h).1,by have:=(h2 h).2;omega⟩,h2 h⟩⟩
def eqV (a b:TF0):Bool:=decide (checkV a=0)&& (decide (checkV b=0)&&decide (cmpV (sortV a) (sortV b)=0))
theorem qj {n:Nat} (hn:6000<n) {v:TF0} (h:Fine v) (hok:OkV v):kW n v=some (sortV v):=rv hn n 60 v (by omega) h.small hok
theorem compareT_run {n:Nat} (hn:6000<n) {v w:TF0} (h:Fine v) (hok:OkV v) (how:OkV w):eU n v w=some (cmpV v w):=qi hn n 60 v w (by omega) h.small hok how
theorem compare2_run {n:Nat} (hn:6000<n) {v w:TF0} (h:Fine v) (hok:OkV v) (how:OkV w): ∃z,ew n v.ab (v.ak) v.an v.ah v.ac v.ae w.ab (w.ak) w.an w.ah w.ac w.ae=some z∧z.1=cmpV v w:=by
 have key: (ew n v.ab (v.ak) v.an v.ah v.ac v.ae w.ab (w.ak) w.an w.ah w.ac w.ae).map (·.1)=dv n (eU n) v w:=by
  have hs:gB n v.ab v.ac v.ae w.ac w.ae=ck n (eU n) v w:=rfl
  unfold ew dv
  rw[hs,cmpC_run,bnd,bnd,qI,bnd,bnd,qI,bnd,bnd]
  unfold aZ
  split
  ·rw[nz,bnd,bnd]
   unfold iJ
   rw[bnd,bnd,or_run hn,bnd,bnd]
   generalize thenC _ _=x
   by_cases hx:x=0
   ·rw[dT hx,nT,cF,cF]
    cases aN (ck n (eU n) v w) n (0:Int) with
    |none=>rfl
    |some b=>
     rw[bnd,bnd]
     cases b with
     |inl c=>rfl
     |inr u=>dsimp only;rw[nz,bnd,bnd];rfl
   ·rw[dF hx,nF,cT,cT];rfl
  ·rfl
 rw[te hn (eU n) v w h.wide.1 hok how (λx hx y hy=>compareT_run hn (h.part hx) (hok.part hx) (how.part hy))] at key
 obtain⟨z,hz,e⟩:=Option.map_eq_some_iff.1 key
 exact⟨z,hz,e⟩
theorem both_run {n:Nat} (hn:6000<n) {v w:TF0} (h:Fine v) (h':Fine w):lB n v w=some (if checkV v=0∧checkV w=0 then(cmpV (sortV v) (sortV w),true) else(0,false)):=by
 unfold lB
 rw[nv hn h,bnd]
 by_cases a:checkV v=0
 ·rw[dT a,nT,cF,nv hn h',bnd]
  by_cases b:checkV w=0
  ·rw[dT b,nT,bnd,cF,if_pos ⟨a,b⟩]
   have oa:=(ki a).1
   have ob:=(ki b).1
   rw[qj hn h oa,bnd,qj hn h' ob,bnd]
   obtain⟨z,hz,e⟩:=compare2_run hn (h.sort oa) oa.sort ob.sort
   rw[hz,bnd,e]
  ·rw[dF b,nF,bnd,cT,if_neg (λx=>b x.2)]
 ·rw[dF a,nF,cT,bnd,cT,if_neg (λx=>a x.1)]
theorem Equal_run {n:Nat} (hn:6000<n) {v w:TF0} (h:Fine v) (h':Fine w):kE n v w=some (eqV v w):=by
 unfold kE eqV
 rw[both_run hn h h',bnd]
 by_cases a:checkV v=0
 ·by_cases b:checkV w=0
  ·rw[if_pos ⟨a,b⟩,dT a,dT b];rfl
  ·rw[if_neg (λx=>b x.2),dT a,dF b];rfl
 ·rw[if_neg (λx=>a x.1),dF a];rfl
def placeV (key:Bs):List Bs→Option Nat
 |[]=>none
 |k::r=>if k=key then some 0 else(placeV key r).map (· +1)
theorem kF: ∀ {key:Bs} {l:List Bs} {i:Nat},placeV key l=some i→l[i]? =some key∧∀j,j<i→l[j]? ≠some key
 |key,k::r,i,h=>by
  rw[placeV] at h
  by_cases e:k=key
  ·rw[if_pos e] at h
   obtain rfl:=Option.some.inj h
   exact⟨by rw[e];rfl,λj hj=>absurd hj (by omega)⟩
  ·rw[if_neg e] at h
   obtain⟨j,hj,rfl⟩:=Option.map_eq_some_iff.1 h
   obtain⟨h1,h2⟩:=kF hj
   refine⟨by simpa using h1,λq hq=>?_⟩
   cases q with
   |zero=>simpa using e
   |succ q=>simpa using h2 q (by omega)
theorem ol: ∀ {key:Bs} {l:List Bs},placeV key l=none→key∉l
 |key,[],_=>by simp
 |key,k::r,h=>by
  rw[placeV] at h
  by_cases e:k=key
  ·rw[if_pos e] at h;cases h
  ·rw[if_neg e] at h
   have:=ol (Option.map_eq_none_iff.1 h)
   simp only[List.mem_cons,not_or]
   exact⟨λh=>e h.symm,this⟩
theorem place_lt {key:Bs} {l:List Bs} {i:Nat} (h:placeV key l=some i):i<l.length:=(List.getElem?_eq_some_iff.1 (kF h).1).1
theorem place_first {key:Bs} {l:List Bs} {q:Nat} (hq:l[q]? =some key) (hf: ∀j,j<q→l[j]? ≠some key):placeV key l=some q:=by
 cases h:placeV key l with
 |none=>exact absurd (List.mem_of_getElem? hq) (ol h)
 |some i=>
  obtain⟨a,b⟩:=kF h
  rcases Nat.lt_trichotomy i q with hl|hl|hl
  ·exact absurd a (hf i hl)
  ·rw[hl]
  ·exact absurd hq (b q hl)
theorem same_gen {n:Nat} (hn:6000<n): ∀ (k d:Nat) (v w:TF0),d≤k→Small d v→∃b,cy n k v w=some b∧(b=true↔v=w)
 |_,0,v,_,_,h=>h.elim
 |0,d+1,v,_,h,_=>absurd h (by omega)
 |k+1,d+1,v,w,hk,hs=>by
  obtain⟨h1,h2,h3,h4,h5⟩:=hs
  show ∃b,eS n (cy n k) v w=some b∧_
  unfold eS
  by_cases hA:v.ab=w.ab
  case neg=>exact⟨false,by rw[dF hA,nF,cT,bnd,cT],by simp;exact λe=>hA (e▸rfl)⟩
  by_cases hB:v.ak=w.ak
  case neg=>
   have hbe: (v.ak==w.ak)=false:=by simpa using hB
   exact⟨false,by rw[dT hA,nT,cF,hbe,nF,cT,bnd,cT],by simp;exact λe=>hB (e▸rfl)⟩
  have hbe: (v.ak==w.ak)=true:=by simpa using hB
  by_cases hC:v.an=w.an
  case neg=>exact⟨false,by rw[dT hA,nT,cF,hbe,nT,cF,dF hC,nF,cT,bnd,cT],by simp;exact λe=>hC (e▸rfl)⟩
  by_cases hD:v.ah=w.ah
  case neg=>exact⟨false,by rw[dT hA,nT,cF,hbe,nT,cF,dT hC,nT,cF,dF hD,nF,cT,bnd,cT],by simp;exact λe=>hD (e▸rfl)⟩
  by_cases hE:v.ac.length=w.ac.length
  case neg=>exact⟨false,by rw[dT hA,nT,cF,hbe,nT,cF,dT hC,nT,cF,dT hD,nT,cF,dF (by omega),nF,cT,bnd,cT],by simp;exact λe=>hE (e▸rfl)⟩
  by_cases hG:v.ae.length=w.ae.length
  case neg=>exact⟨false,by rw[dT hA,nT,cF,hbe,nT,cF,dT hC,nT,cF,dT hD,nT,cF,dT (by omega),nT,cF,dF (by omega),nF,bnd,cT],by simp;exact λe=>hG (e▸rfl)⟩
  rw[dT hA,nT,cF,hbe,nT,cF,dT hC,nT,cF,dT hD,nT,cF,dT (by omega),nT,cF,dT (by omega),nT,bnd,cF]
  obtain⟨b,hb,hp⟩:=cj (step:=cM n v w) (n:=n) (s0:=(0:Int)) (λq s=>s=(q:Int)∧∀j,j<q→v.ae[j]? =w.ae[j]?)
   (λb=>match b with|.inl _=>v.ae≠w.ae|.inr _=>v.ae=w.ae) v.ae.length ⟨rfl,λj hj=>absurd hj (by omega)⟩ (λq s hq hI=>by
    obtain⟨rfl,hI⟩:=hI
    have hq2:q<w.ae.length:=by omega
    have hg:aR v.ae (q:Int)=some v.ae[q]:=by simp[aR]
    have hg2:aR w.ae (q:Int)=some w.ae[q]:=by simp[aR]
    unfold cM
    rw[dT (by omega),cT,hg,bnd,hg2,bnd]
    by_cases h:v.ae[q]=w.ae[q]
    ·rw[dT h,nT,cF,aU (by omega) (by omega)]
     refine .inl ⟨_,rfl,by omega,λj hj=>?_⟩
     by_cases hjq:j=q
     ·subst hjq;simp[hq,hq2,h]
     ·exact hI j (by omega)
    ·rw[dF h,nF,cT]
     refine .inr ⟨_,rfl,?_⟩
     dsimp only
     intro e
     exact h (by simp[e])) (λs hI=>by
    obtain⟨rfl,hI⟩:=hI
    unfold cM
    rw[dF (by omega),cF]
    refine⟨_,rfl,?_⟩
    dsimp only
    apply List.ext_getElem?
    intro j
    by_cases hj:j<v.ae.length
    ·exact hI j hj
    ·rw[List.getElem?_eq_none (by omega),List.getElem?_eq_none (by omega)]) (by omega)
  rw[hb,bnd]
  cases b with
  |inl u=>exact⟨false,rfl,by simp;exact λe=>hp (e▸rfl)⟩
  |inr u=>
   dsimp only at hp ⊢
   obtain⟨b,hb,hp2⟩:=cj (step:=cN n (cy n k) v w) (n:=n) (s0:=(0:Int)) (λq s=>s=(q:Int)∧∀j,j<q→v.ac[j]? =w.ac[j]?)
    (λb=>match b with|.inl _=>v.ac≠w.ac|.inr _=>v.ac=w.ac) v.ac.length ⟨rfl,λj hj=>absurd hj (by omega)⟩ (λq s hq hI=>by
     obtain⟨rfl,hI⟩:=hI
     have hq2:q<w.ac.length:=by omega
     have hg:aR v.ac (q:Int)=some v.ac[q]:=by simp[aR]
     have hg2:aR w.ac (q:Int)=some w.ac[q]:=by simp[aR]
     obtain⟨b,hb,hbi⟩:=same_gen hn k d v.ac[q] w.ac[q] (by omega) (h5 _ (List.getElem_mem hq))
     unfold cN
     rw[dT (by omega),cT,hg,bnd,hg2,bnd,hb,bnd]
     cases b with
     |true=>
      have h:=hbi.1 rfl
      rw[nT,cF,aU (by omega) (by omega)]
      refine .inl ⟨_,rfl,by omega,λj hj=>?_⟩
      by_cases hjq:j=q
      ·subst hjq;simp[hq,hq2,h]
      ·exact hI j (by omega)
     |false=>
      rw[nF,cT]
      refine .inr ⟨_,rfl,?_⟩
      dsimp only
      intro e
      have:=hbi.2 (by simp[e])
      cases this) (λs hI=>by
     obtain⟨rfl,hI⟩:=hI
     unfold cN
     rw[dF (by omega),cF]
     refine⟨_,rfl,?_⟩
     dsimp only
     apply List.ext_getElem?
     intro j
     by_cases hj:j<v.ac.length
     ·exact hI j hj
     ·rw[List.getElem?_eq_none (by omega),List.getElem?_eq_none (by omega)]) (by omega)
   rw[hb,bnd]
   cases b with
   |inl u=>exact⟨false,rfl,by simp;exact λe=>hp2 (e▸rfl)⟩
   |inr u=>
    refine⟨true,rfl,by simp only[true_iff];cases v;cases w;dsimp only at*;rw[hA,hB,hC,hD,hp,hp2]⟩
theorem Same_run {n:Nat} (hn:6000<n) {d:Nat} (hd:d≤6000) (v w:TF0) (h:Small d v): ∃b,kz n v w=some b∧(b=true↔v=w):=same_gen hn n d v w (by omega) h
end Go.Proofs.YtkhdpnamfndonaaGreatDoor
end
end
section
namespace Go.Proofs.YtkhdpnamfndonaaGreatDoor
open Go Go.Vc Go.RowKit
def ey (n:Nat) (d0:List TE0) (K1:Int):Option (Lp Int (Sum Unit Unit)):=
    bif(decide (K1<((d0.length:Nat):Int))) then
     ((aR d0 K1).bind λX1=>
     bif(decide ((200:Int)<(X1.aB.length:Int))) then
      (some (.br (.inl ())))
     else
      (aR d0 K1).bind λX2=>
      (iI n (⟨X2.fV.ab,(X2.fV.ak),X2.fV.an,X2.fV.ah,X2.fV.ac,X2.fV.ae⟩:TF0)).bind λX3=>
      bif X3 then
       (some (.br (.inl ())))
      else
       aZ (inR .i64 (K1+1))<|
       some (.nx (K1+1)))
    else
     some (.br (.inr ()))
def jD (n:Nat) (d0:List TE0):Option Bool:=
 bif(decide ((60:Int)<((d0.length:Nat):Int))) then
  (some ((true)))
 else
  (aN (ey n d0) n (0:Int)).bind λQ1=>
  (match Q1 with
  |.inl G1=>some ((true))
  |.inr G2=>some ((false)))
set_option maxRecDepth 20000 in
theorem rB (n:Nat) (M:Mem) (hG:GL M) (A0:Oa) (cap0:Nat) (d0:List TE0) (h0:Sli M 8 aY A0 cap0 d0) (r:Bool) (hF:jD n d0=some r):Ok Tryz.prog M 41 [sL A0 d0 cap0] (λ_ v=>v=bO r):=by
 unfold jD at hF
 intro M1 hM0 w0 H w p0
 replace hG:=GL.mono hM0 hG
 replace h0:=h0.mono hM0
 refine Re 28 Tryz.func41 rfl λa0 f0=>RR (Ye f0 1 λ_ f=>ag (RR (Ye f 3 λ_ f=>RcF f hF (λB1 F1=>?_) λB1 F2=>?_)))
 ·have U1:=dI.1 B1
  refine RR (Ye f 1 λ_ f=>wp_ret (aS (ao f rfl (Lk 2 (bO true)) ?_)))
  cases sI F1
  exact⟨_,rfl,M1,(mR _),p0,rfl⟩
 ·have U2:=ap dI B1
  refine St (ag (RR (Ye f 1 λ_ f=>wp_block ?_)))
  obtain⟨Q1,bH,F3⟩:=bS F2
  refine wp_mono (Q:=λe a w=>(e=.ret∧(∃G1:Unit,Q1=.inl G1∧∃V2:Mem,M1.le V2∧Frm 28 [(2,bO true)] a∧Hp w0 V2 (H) w))∨(e=.exit 0∧(∃G2:Unit,Q1=.inr G2∧∃V3:Mem,M1.le V3∧Frm 28 [] a∧Hp w0 V3 (H) w))) (bu (n:=28) (w0:=w0) (M:=M1) (λ (I1,K1)=>[(0,sL A0 d0 cap0),(3,iL K1)]) (λ (I1,K1)=>(H)) (λ (I1,K1) MM=>aN (ey n d0) I1 K1=some Q1) (λ (I1,K1)=>I1) (n,(0:Int)) (f.kp) p0 bH ?_) ?_
  ·rintro⟨I1,K1⟩ V1 _ W1 J1 dc f N1
   have bI:=dc
   obtain⟨I2,jP,rfl,be,T1⟩:=aT bI
   unfold ey at be
   refine ag (RR (Ye f 4 λ_ f=>RcF f be (λB2 F4=>?_) λB2 F13=>?_))
   ·have U3:=dI.1 B2
    refine St (ag (wp_block (RR (Y f 2 λ_ f=>?_))))
    obtain⟨X1,S1,F5⟩:=bS F4
    obtain⟨C1,cP,dS,-,D1,R1⟩:=Sli.at_ (h0.mono J1) S1
    obtain⟨Z1,P1,Z2,P2,rfl,B3,B4⟩:=TE0.opn D1
    refine Z f (Y34 dS rfl (len:=d0.length) (cap:=cap0) (k:=.i64) (i:=K1) (e:=75) (sz:=8) (aF S1) (aE S1)) λ_ f=>Y f 1 λ_ f=>Y15 f N1 R1 0 rfl λ_ f=>Y f 3 λ_ f=>?_
    rcases cE F5 with⟨B5,F6⟩|⟨B5,F7⟩
    ·have U4:=dI.1 B5
     have f:=f.st 20 (cB B5)
     refine Ye f 7 λ_ f=>Y8 f (RR (Ye f 1 λ_ f=>wp_ret (bV (aS (aS ?_)))))
     cases sI F6
     exact .inl ⟨rfl,(),(sI T1).symm,V1,J1,f.kp,N1⟩
    ·have U5:=ap dI B5
     have f:=f.st 20 (cB B5)
     refine Y f 2 λ_ f=>?_
     obtain⟨X2,S2,F8⟩:=bS F7
     obtain⟨C2,jX,lp,-,D2,R2⟩:=Sli.at_ (h0.mono J1) S2
     obtain⟨Z3,P3,Z4,P4,rfl,B6,B7⟩:=TE0.opn D2
     refine Z f (Y34 lp rfl (len:=d0.length) (cap:=cap0) (k:=.i64) (i:=K1) (e:=75) (sz:=8) (aF S2) (aE S2)) λ_ f=>Y f 1 λ_ f=>Z f (Y36 (cs:=(lTF0 X2.fV Z3 P3 Z4 P4)) rfl (ad:=(C2.add (K1.toNat*8)).add 2) (kU (base:=C2.add (K1.toNat*8)) (λj v h=>N1.cell (R2 j v h)) 2 rfl)) λ_ f=>?_
     obtain⟨X3,S3,F9⟩:=bS F8
     refine Y18 f N1 (ra n _ _ (⟨X2.fV.ab,(X2.fV.ak),X2.fV.an,X2.fV.ah,X2.fV.ac,X2.fV.ae⟩:TF0) (TF0.shut B6 B7) X3 S3) λW2 N2 _ f=>Ye f 1 λ_ f=>RcF f F9 (λB8 F10=>?_) λB8 F11=>?_
     ·refine RR (Ye f 1 λ_ f=>wp_ret (bV (aS (aS ?_))))
      cases sI F10
      exact .inl ⟨rfl,(),(sI T1).symm,V1,J1,f.kp,N2⟩
     ·refine wp_skip (cG (aH (aI (Y f 1 λ_ f=>?_))))
      obtain⟨O1,F12⟩:=nS F11
      refine Y f 1 λ_ f=>?_
      have f:=f.st 12 (iW O1)
      refine Ye f 1 λ_ f=>?_
      cases sI F12
      exact⟨⟨I2,K1+1⟩,Nat.lt_succ_self _,V1,J1,T1,f.kp,N2⟩
   ·have U8:=ap dI B2
    refine wp_exit (co (co ?_))
    cases sI F13
    exact .inr ⟨rfl,(),(sI T1).symm,V1,J1,f.kp,N1⟩
  ·rintro _ _ W5 (⟨rfl,G1,rfl,V2,J2,f,N3⟩|⟨rfl,G2,rfl,V3,J3,f,N4⟩)
   ·refine bV (aS (ao f rfl (Lk 2 (bO true)) ?_))
    cases sI F3
    exact⟨_,rfl,V2,J2,N3,rfl⟩
   ·refine iq (aH (RR (Ye f 1 λ_ f=>wp_ret (ao f rfl (Lk 2 (bO false)) ?_))))
    cases sI F3
    exact⟨_,rfl,V3,J3,N4,rfl⟩
end Go.Proofs.YtkhdpnamfndonaaGreatDoor
end
section
namespace Go.Vc
open Go Go.RowKit
variable {dd:List Deferred}
def idV (v:Value):Value:=v
def RepMap {κ δ:Type} (M:Mem) (emb:δ→Dat):List (κ×δ)→List (κ×Value)→Prop
 |[],m=>m=[]
 |p::r,m=>∃cs m',m=(p.1,Value.agg cs.toArray)::m'∧Rep M (emb p.2) cs∧RepMap M emb r m'
section
variable {κ δ:Type} {M M':Mem} {emb:δ→Dat}
theorem RepMap.mono (h:M.le M'): ∀ {d:List (κ×δ)} {m:List (κ×Value)},RepMap M emb d m→RepMap M' emb d m
 |[],_,hr=>hr
 |p::r,m,⟨cs,m',h1,h2,h3⟩=>⟨cs,m',h1,Rep.mono h _ _ h2,RepMap.mono h h3⟩
theorem RepMap.nil:RepMap M emb ([]:List (κ×δ)) []:=rfl
variable [DecidableEq κ]
theorem RepMap.put {k:κ} {x:δ} {cs:Lv} (hx:Rep M (emb x) cs): ∀ {d:List (κ×δ)} {m:List (κ×Value)},RepMap M emb d m→RepMap M emb (de d k x) (de m k (.agg cs.toArray))
 |[],m,h=>by
  have:m=[]:=h
  subst this
  exact⟨cs,[],rfl,hx,rfl⟩
 |p::r,m,⟨c,m',h1,h2,h3⟩=>by
  subst h1
  unfold de
  by_cases hk:p.1=k
  ·rw[if_pos hk,if_pos hk]
   exact⟨cs,m',rfl,hx,h3⟩
  ·rw[if_neg hk,if_neg hk]
   exact⟨c,_,rfl,h2,RepMap.put hx h3⟩
theorem RepMap.isSome {k:κ}: ∀ {d:List (κ×δ)} {m:List (κ×Value)},RepMap M emb d m→(aG m k).isSome=(aG d k).isSome
 |[],m,h=>by
  have:m=[]:=h
  subst this;rfl
 |p::r,m,⟨c,m',h1,h2,h3⟩=>by
  subst h1
  unfold aG
  by_cases hk:p.1=k
  ·rw[if_pos hk,if_pos hk];rfl
  ·rw[if_neg hk,if_neg hk];exact RepMap.isSome h3
theorem RepMap.get {k:κ} {z:δ} {zc:Lv} (hz:Rep M (emb z) zc): ∀ {d:List (κ×δ)} {m:List (κ×Value)},RepMap M emb d m→∃cs,(aG m k).getD (.agg zc.toArray)=.agg cs.toArray∧Rep M (emb ((aG d k).getD z)) cs
 |[],m,h=>by
  have:m=[]:=h
  subst this
  exact⟨zc,rfl,hz⟩
 |p::r,m,⟨c,m',h1,h2,h3⟩=>by
  subst h1
  unfold aG
  by_cases hk:p.1=k
  ·rw[if_pos hk,if_pos hk];exact⟨c,rfl,h2⟩
  ·rw[if_neg hk,if_neg hk];exact RepMap.get hz h3
end
theorem Hp.fzObj {w0 w:World} {M:Mem} {H:List Ent} {b:Nat} {o:Obj} (h:Hp w0 M (.obj b o::H) w): ∃M',M.le M'∧Hp w0 M' H w∧M' b=some o:=
 ⟨_,h.freeze.1,h.freeze.2,by simp[Mem.add]⟩
section
variable {κ:Type} [DecidableEq κ] {P:Program} {ek:κ→Value} {w:World}
theorem rC {o:Oper} {ρ:Operand→Value} {t kt et:TypeId} {x ix:Operand} {b:Nat} {m:List (κ×Value)} {k:κ} {z v:Value} {i:Bool} (hv: (aG m k).getD z=v) (hi: (aG m k).isSome=i) (ho:o.op=.lookup t x ix true) (hx:ρ x=.map (some b)) (hk:ρ ix=ek k) (ht:P.underlying t=some (.map kt et)) (K:KeyLaw P kt ek)
 (hz: (P.info? et).bind (·.zero)=some z) (hb:w.heap[b]? =some (bh ek idV m)): (execOp ρ o).run P w=.ok (.value (.tuple #[v,.bool i])) w:=by
 subst hv;subst hi
 exact nq (ev:=idV) ho hx hk ht K hz hb
end
section
variable {α:Type}
def insAll (x:α):List α→List (List α)
 |[]=>[[x]]
 |y::l=>(x::y::l)::(insAll x l).map (y:: ·)
def permsL:List α→List (List α)
 |[]=>[[]]
 |x::l=>(permsL l).flatMap (insAll x)
theorem rD {x:α}: ∀ (a b:List α),a++x::b∈insAll x (a++b)
 |[],[]=>by simp[insAll]
 |[],y::b=>by simp[insAll]
 |y::a,b=>by
  simp only[List.cons_append,insAll,List.mem_cons,List.mem_map]
  exact .inr ⟨_,rD a b,rfl⟩
theorem qk {x:α}: ∀ {l r:List α},r∈insAll x l→r.Perm (x::l)
 |[],r,h=>by simp[insAll] at h;subst h;exact .refl _
 |y::l,r,h=>by
  simp only[insAll,List.mem_cons,List.mem_map] at h
  rcases h with rfl|⟨r',h1,rfl⟩
  ·exact .refl _
  ·exact((qk h1).cons y).trans (.swap x y l)
theorem tf: ∀ {all l:List α},l.Perm all→l∈permsL all
 |[],l,h=>by simp[permsL,h.eq_nil]
 |x::all,l,h=>by
  obtain⟨a,b,rfl⟩:=List.append_of_mem (h.symm.subset List.mem_cons_self)
  have h2: (a++b).Perm all:=List.Perm.cons_inv (a:=x) (List.perm_middle.symm.trans h)
  exact List.mem_flatMap.2 ⟨_,tf h2,rD a b⟩
theorem ql: ∀ {all l:List α},l∈permsL all→l.Perm all
 |[],l,h=>by simp[permsL] at h;subst h;exact .refl _
 |x::all,l,h=>by
  obtain⟨r,h1,h2⟩:=List.mem_flatMap.1 h
  exact(qk h2).trans ((ql h1).cons x)
end
section
variable {π σ β:Type}
def foldO (E:σ→Option (Lp σ β)) (Y:π→σ→Option (Lp σ β)):List π→σ→Option β
 |[],s=>(E s).bind λr=>match r with|.nx _=>none|.br b=>some b
 |p::l,s=>(Y p s).bind λr=>match r with|.nx s'=>foldO E Y l s'|.br b=>some b
def foldP [DecidableEq β] (E:σ→Option (Lp σ β)) (Y:π→σ→Option (Lp σ β)) (all:List π) (s:σ):Option β:=
 aZ (∀l∈permsL all,foldO E Y l s=foldO E Y all s) (foldO E Y all s)
def todoD (m:List π) (seen:Array Nat):List (π×Nat):=m.zipIdx.filter λp=> !seen.contains p.2
def leftD (m:List π) (seen:Array Nat):List π:=(todoD m seen).map (·.1)
theorem leftD_start (m:List π):leftD m #[]=m:=by
 unfold leftD todoD
 have: (m.zipIdx.filter λp=> !(#[]:Array Nat).contains p.2)=m.zipIdx:=List.filter_eq_self.2 (λp _=>by simp)
 rw[this];simp
variable {E:σ→Option (Lp σ β)} {Y:π→σ→Option (Lp σ β)} {m:List π} {seen:Array Nat} {s:σ} {b:β}
theorem foldP_start [DecidableEq β] (h:foldP E Y m s=some b): ∀l,l.Perm (leftD m #[])→foldO E Y l s=some b:=by
 intro l hl
 rw[leftD_start] at hl
 obtain⟨h1,h2⟩:=jf h
 rw[h1 l (tf hl)];exact h2
theorem foldP_run [DecidableEq β] (h: ∀l,l.Perm m→foldO E Y l s=some b):foldP E Y m s=some b:=by
 unfold foldP
 rw[bn (λl hl=>by rw[h l (ql hl),h m (.refl _)]),h m (.refl _)]
theorem foldO_end (h: ∀l,l.Perm (leftD m seen)→foldO E Y l s=some b) (h0:leftD m seen=[]): ∃r,E s=some r∧(match r with|.nx _=>none|.br b=>some b)=some b:=by
 have:=h [] (by rw[h0])
 exact Option.bind_eq_some_iff.1 this
theorem tg {j:Nat} {p:π}: ∀ {Z:List (π×Nat)},(Z.map (·.2)).Nodup→(p,j)∈Z→Z.Perm ((p,j)::Z.filter λq=> !(q.2==j))
 |[],_,h=>by simp at h
 |z::Z,hn,h=>by
  simp only[List.map_cons,List.nodup_cons] at hn
  rcases List.mem_cons.1 h with rfl|h
  ·rw[List.filter_cons_of_neg (by simp)]
   have: (Z.filter λq=> !(q.2==j))=Z:=List.filter_eq_self.2 (λq hq=>by
    have:q.2≠j:=λe=>hn.1 (List.mem_map.2 ⟨q,hq,e⟩)
    simp[this])
   rw[this]
  ·have hz:z.2≠j:=λe=>hn.1 (e▸List.mem_map.2 ⟨_,h,rfl⟩)
   rw[List.filter_cons_of_pos (by simp[hz])]
   exact((tg hn.2 h).cons z).trans (.swap _ _ _)
theorem oX: ∀ (m:List π) (n:Nat),((m.zipIdx n).map (·.2)).Nodup∧∀q∈m.zipIdx n,n≤q.2
 |[],n=>⟨by simp,by simp⟩
 |x::m,n=>by
  obtain⟨h1,h2⟩:=oX m (n+1)
  simp only[List.zipIdx_cons,List.map_cons,List.nodup_cons,List.mem_cons]
  refine⟨⟨λh=>?_,h1⟩,λq hq=>?_⟩
  ·obtain⟨q,hq,e⟩:=List.mem_map.1 h
   have:=h2 q hq;omega
  ·rcases hq with rfl|hq
   ·exact Nat.le_refl _
   ·have:=h2 q hq;omega
theorem todoD_push {p:π} {j:Nat} (h: (p,j)∈todoD m seen): (todoD m seen).Perm ((p,j)::todoD m (seen.push j)):=by
 have hn: ((todoD m seen).map (·.2)).Nodup:=List.Nodup.sublist (List.Sublist.map _ List.filter_sublist) (oX m 0).1
 have:=tg hn h
 have e:todoD m (seen.push j)=(todoD m seen).filter λq=> !(q.2==j):=by
  unfold todoD
  rw[List.filter_filter]
  congr 1
  funext q
  by_cases hq:q.2=j<;>simp[hq,Array.contains_push]
 rw[e];exact this
theorem rE {p:π} {j:Nat} (h: (p,j)∈todoD m seen): (leftD m seen).Perm (p::leftD m (seen.push j)):=(todoD_push h).map _
theorem leftD_lt {p:π} {j:Nat} (h: (p,j)∈todoD m seen): (leftD m (seen.push j)).length<(leftD m seen).length:=by
 rw[(rE h).length_eq];simp
theorem foldO_go {p:π} {j:Nat} (hj: (p,j)∈todoD m seen) (h: ∀l,l.Perm (leftD m seen)→foldO E Y l s=some b):
 ∃r,Y p s=some r∧(match r with|.nx s'=>∀l,l.Perm (leftD m (seen.push j))→foldO E Y l s'=some b|.br b'=>some b'=some b):=by
 have h2: ∀l,l.Perm (leftD m (seen.push j))→foldO E Y (p::l) s=some b:=λl hl=>h _ ((hl.cons p).trans (rE hj).symm)
 obtain⟨r,h3,h4⟩:=Option.bind_eq_some_iff.1 (h2 _ (.refl _))
 refine⟨r,h3,?_⟩
 cases r with
 |nx s'=>
  intro l hl
  have:=h2 l hl
  unfold foldO at this
  rw[h3] at this
  exact this
 |br b'=>exact h4
end
section
variable {κ V:Type} {ek:κ→Value} {ev:V→Value} {P:Program} {ops:Array Oper} {n:Nat} {Q:Exit→Act→World→Prop} {L:Fr} {a:Act} {w0 w:World} {M:Mem} {H:List Ent}
def KMapAt (M:Mem) (o:Option Nat) (ek:κ→Value) (ev:V→Value) (m:List (κ×V)):Prop:=(∃b,o=some b∧M b=some (bh ek ev m))∨(o=none∧m=[])
theorem KMapAt.mono {M M':Mem} (h:M.le M') {o:Option Nat} {m:List (κ×V)}:KMapAt M o ek ev m→KMapAt M' o ek ev m
 |.inl ⟨b,h1,h2⟩=>.inl ⟨b,h1,h _ _ h2⟩
 |.inr h1=>.inr h1
theorem th (m:List (κ×V)) (seen:Array Nat):todo (m.map λp=>(p.1,ev p.2)) seen=(todoD m seen).map λq=>((q.1.1,ev q.1.2),q.2):=by
 unfold todo todoD
 rw[List.zipIdx_map,List.filter_map]
 rfl
theorem W_rangeM {o:Oper} {rest:List Oper} {d:Nat} {t kt et:TypeId} {x:Operand} {ob:Option Nat} {m:List (κ×V)} (hK:KMapAt M ob ek ev m) (hf:Frm n L a dd) (hp:Hp w0 M H w) (hw:bb ops L o=some true) (hr:bq L o=true)
 (hd:o.dst=some d) (hdn:Nat.blt d n=true) (ho:o.op=.range t x) (hx:Vc.ev L x=.map ob) (ht:P.underlying t=some (.map kt et))
 (hk: ∀r w',Hp w0 M (.obj r (.mapIter ob m.length #[] m.length)::H) w'→∀a',Frm n ((d,.pointer (some ⟨r,0,none⟩))::L) a' dd→wpList P ops Q rest a' w'):wpList P ops Q (o::rest) a w:=by
 rcases hK with⟨b,rfl,hb⟩|⟨rfl,rfl⟩
 ·refine W_range (enc:=ek) (m:=m.map λ (p:κ×V)=>(p.1,ev p.2)) hf hp hw hr hd hdn ho hx ht (hp.mem _ (bh ek ev m) hb) ?_
  rw[List.length_map];exact hk
 ·exact W_range_nil hf hp hw hr hd hdn ho hx ht hk
theorem X_next_nil' {ρ:Operand→Value} {o:Oper} {x:Operand} {r:Nat} {seen:Array Nat} (ho:o.op=.next x false) (hx:ρ x=.pointer (some ⟨r,0,none⟩)) (hr:w.heap[r]? =some (.mapIter none 0 seen 0)):
 (execOp ρ o).run P w=.ok (.value (.tuple #[.bool false])) w:=by
 have hg: (getObj r).run P w=.ok (.mapIter none 0 seen 0) w:=gD hr (by intro _ _ _ h;cases h)
 unfold execOp
 simp only[ho,hx,Instr.next,Sem.run_bind,hg,Result.andThen_ok]
 rfl
theorem W_nextM {o:Oper} {rest:List Oper} {d:Nat} {x:Operand} {r:Nat} {ob:Option Nat} {m:List (κ×V)} {seen:Array Nat} (hK:KMapAt M ob ek ev m) (hf:Frm n L a dd) (hp:Hp w0 M (.obj r (.mapIter ob m.length seen m.length)::H) w) (hw:bb ops L o=some true) (hr:bq L o=true)
 (hd:o.dst=some d) (hdn:Nat.blt d n=true) (ho:o.op=.next x false) (hx:Vc.ev L x=.pointer (some ⟨r,0,none⟩))
 (hover:leftD m seen=[]→∀w',Hp w0 M (.obj r (.mapIter ob m.length seen m.length)::H) w'→∀a',Frm n ((d,.tuple #[.bool false])::L) a' dd→wpList P ops Q rest a' w')
 (hstep: ∀ (p:κ×V) (j:Nat),(p,j)∈todoD m seen→∀w',Hp w0 M (.obj r (.mapIter ob m.length (seen.push j) m.length)::H) w'→∀a',Frm n ((d,.tuple #[.bool true,ek p.1,ev p.2])::L) a' dd→wpList P ops Q rest a' w'):
 wpList P ops Q (o::rest) a w:=by
 rcases hK with⟨b,rfl,hb⟩|⟨rfl,rfl⟩
 ·have hl: (m.map λp=>(p.1,ev p.2)).length=m.length:=List.length_map ..
  have hp':=hp
  rw[←hl] at hp'
  refine W_next (enc:=ek) (m:=m.map λ (p:κ×V)=>(p.1,ev p.2)) hf hp' hw hr hd hdn ho hx (hp.mem _ (bh ek ev m) hb) ?_ ?_
  ·rw[th,hl]
   intro h0
   exact hover (by unfold leftD;rw[List.map_eq_nil_iff] at h0 ⊢;exact h0)
  ·rw[th,hl]
   intro q hq
   obtain⟨z,hz,rfl⟩:=List.mem_map.1 hq
   exact hstep z.1 z.2 hz
 ·exact ls hf hw hr hd hdn (X_next_nil' ho hx (hp.ownObj 0 rfl)) (hover rfl w hp)
theorem todoD_get {π:Type} {m:List π} {seen:Array Nat} {p:π} {j:Nat} (h: (p,j)∈todoD m seen):m[j]? =some p:=by
 obtain⟨h1,h2⟩:=List.mem_filter.1 h
 have h3:=List.mem_zipIdx h1
 obtain⟨a,b,c⟩:=h3
 simp only[Nat.sub_zero] at c
 rw[c]
 exact List.getElem?_eq_getElem _
theorem X_entryM {ρ:Operand→Value} {o:Oper} {x:Operand} {r j:Nat} {ob:Option Nat} {m:List (κ×V)} {seen:Array Nat} {p:κ×V} (hK:KMapAt M ob ek ev m) (hp:Hp w0 M H w) (hj: (p,j)∈todoD m seen) (i:Nat) (he:H[i]? =some (.obj r (.mapIter ob m.length (seen.push j) m.length)))
 (ho:o.op=.entry x) (hx:ρ x=.pointer (some ⟨r,0,none⟩)): (execOp ρ o).run P w=.ok (.value (.tuple #[ek p.1,ev p.2])) w:=by
 rcases hK with⟨b,rfl,hb⟩|⟨rfl,rfl⟩
 ·have hl: (m.map λp=>(p.1,ev p.2)).length=m.length:=List.length_map ..
  have hr:=hp.ownObj i he
  rw[←hl] at hr
  exact X_entry (enc:=ek) (m:=m.map λ (p:κ×V)=>(p.1,ev p.2)) (p:=(p.1,ev p.2)) ho hx hr (hp.mem _ (bh ek ev m) hb) (by rw[List.getElem?_map,todoD_get hj];rfl)
 ·simp[todoD] at hj
end
end Go.Vc
end
section
namespace Go.Proofs.YtkhdpnamfndonaaGreatDoor
open Go Go.Vc Go.RowKit
def kDisk:Bs:=[68,105,115,107]
def kNet:Bs:=[78,101,116]
def kNode:Bs:=[78,111,100,101]
def kRule:Bs:=[82,117,108,101]
def dDisk:List (Bs×TH0):=[([83,105,122,101],⟨[83,105,122,101],2,false⟩),([84,97,103,115],⟨[84,97,103,115],4,false⟩),([75,105,110,100],⟨[75,105,110,100],3,true⟩)]
def dNet:List (Bs×TH0):=[([76,97,98,101,108],⟨[76,97,98,101,108],3,false⟩),([82,97,110,103,101],⟨[82,97,110,103,101],3,true⟩)]
def dNode:List (Bs×TH0):=[([67,111,117,110,116],⟨[67,111,117,110,116],2,false⟩),([68,105,115,107],⟨[68,105,115,107],3,false⟩),([73,109,97,103,101],⟨[73,109,97,103,101],3,true⟩),([78,101,116],⟨[78,101,116],3,true⟩)]
def dRule:List (Bs×TH0):=[([78,111,100,101],⟨[78,111,100,101],3,false⟩),([80,111,114,116],⟨[80,111,114,116],2,true⟩)]
def propsD (kind:Bs):List (Bs×TH0):=bif decide (kDisk=kind) then dDisk else bif decide (kNet=kind) then dNet else bif decide (kNode=kind) then dNode else bif decide (kRule=kind) then dRule else []
def kindIn (kind:Bs):Bool:=decide (kDisk=kind)|| (decide (kNet=kind)|| (decide (kNode=kind)||decide (kRule=kind)))
def specE (x:TH0):Value:=.agg #[S x.aB,.int .i8 x.ab,.bool x.bc]
def mapE (o:Option Nat):Value:=.map o
def allB (b1 b2 b3 b4:Nat):List (Bs×Option Nat):=[(kDisk,some b1),(kNet,some b2),(kNode,some b3),(kRule,some b4)]
def blkOf (b1 b2 b3 b4:Nat) (kind:Bs):Option Nat:=bif decide (kDisk=kind) then some b1 else bif decide (kNet=kind) then some b2 else bif decide (kNode=kind) then some b3 else bif decide (kRule=kind) then some b4 else none
structure AllAt (M:Mem) (b0 b1 b2 b3 b4:Nat):Prop where
 h0:M b0=some (bh S mapE (allB b1 b2 b3 b4))
 h1:M b1=some (bh S specE dDisk)
 h2:M b2=some (bh S specE dNet)
 h3:M b3=some (bh S specE dNode)
 h4:M b4=some (bh S specE dRule)
theorem AllAt.mono {M M':Mem} {b0 b1 b2 b3 b4:Nat} (hM:M.le M') (h:AllAt M b0 b1 b2 b3 b4):AllAt M' b0 b1 b2 b3 b4:=⟨hM _ _ h.h0,hM _ _ h.h1,hM _ _ h.h2,hM _ _ h.h3,hM _ _ h.h4⟩
theorem pJ (b1 b2 b3 b4:Nat) (kind:Bs): (aG (allB b1 b2 b3 b4) kind).getD none=blkOf b1 b2 b3 b4 kind∧(aG (allB b1 b2 b3 b4) kind).isSome=kindIn kind:=by
 unfold allB blkOf kindIn aG aG aG aG aG
 dsimp only
 by_cases h1:kDisk=kind
 ·rw[if_pos h1,dT h1];exact⟨rfl,rfl⟩
 rw[if_neg h1,dF h1,cond_false,Bool.false_or]
 by_cases h2:kNet=kind
 ·rw[if_pos h2,dT h2];exact⟨rfl,rfl⟩
 rw[if_neg h2,dF h2,cond_false,Bool.false_or]
 by_cases h3:kNode=kind
 ·rw[if_pos h3,dT h3];exact⟨rfl,rfl⟩
 rw[if_neg h3,dF h3,cond_false,Bool.false_or]
 by_cases h4:kRule=kind
 ·rw[if_pos h4,dT h4];exact⟨rfl,rfl⟩
 rw[if_neg h4,dF h4]
 exact⟨rfl,rfl⟩
section
variable {P:Program} {ρ:Operand→Value} {o:Oper} {w0 w:World} {M:Mem} {H:List Ent} {b0 b1 b2 b3 b4:Nat}
theorem X_all2 {t kt et:TypeId} {x ix:Operand} {k:Bs} (hA:AllAt M b0 b1 b2 b3 b4) (hp:Hp w0 M H w) (ho:o.op=.lookup t x ix true) (hx:ρ x=.map (some b0)) (hk:ρ ix=S k) (ht:P.underlying t=some (.map kt et)) (K:KeyLaw P kt S) (hz: (P.info? et).bind (·.zero)=some (.map none)):
 (execOp ρ o).run P w=.ok (.value (.tuple #[.map (blkOf b1 b2 b3 b4 k),.bool (kindIn k)])) w:=by
 have:=nq (ek:=S) (ev:=mapE) (m:=allB b1 b2 b3 b4) (k:=k) (z:=none) ho hx hk ht K hz (hp.mem _ _ hA.h0)
 rw[(pJ b1 b2 b3 b4 k).1,(pJ b1 b2 b3 b4 k).2] at this
 exact this
theorem X_all1 {t kt et:TypeId} {x ix:Operand} {k:Bs} (hA:AllAt M b0 b1 b2 b3 b4) (hp:Hp w0 M H w) (ho:o.op=.lookup t x ix false) (hx:ρ x=.map (some b0)) (hk:ρ ix=S k) (ht:P.underlying t=some (.map kt et)) (K:KeyLaw P kt S) (hz: (P.info? et).bind (·.zero)=some (.map none)):
 (execOp ρ o).run P w=.ok (.value (.map (blkOf b1 b2 b3 b4 k))) w:=by
 have:=pt (ek:=S) (ev:=mapE) (m:=allB b1 b2 b3 b4) (k:=k) (z:=none) ho hx hk ht K hz (hp.mem _ _ hA.h0)
 rw[(pJ b1 b2 b3 b4 k).1] at this
 exact this
theorem blk_at (hA:AllAt M b0 b1 b2 b3 b4) (kind:Bs): (∃b,blkOf b1 b2 b3 b4 kind=some b∧M b=some (bh S specE (propsD kind)))∨(blkOf b1 b2 b3 b4 kind=none∧propsD kind=[]∧kindIn kind=false):=by
 unfold blkOf propsD kindIn
 by_cases h1:kDisk=kind
 ·rw[dT h1];exact .inl ⟨b1,rfl,hA.h1⟩
 rw[dF h1,cond_false,cond_false,Bool.false_or]
 by_cases h2:kNet=kind
 ·rw[dT h2];exact .inl ⟨b2,rfl,hA.h2⟩
 rw[dF h2,cond_false,cond_false,Bool.false_or]
 by_cases h3:kNode=kind
 ·rw[dT h3];exact .inl ⟨b3,rfl,hA.h3⟩
 rw[dF h3,cond_false,cond_false,Bool.false_or]
 by_cases h4:kRule=kind
 ·rw[dT h4];exact .inl ⟨b4,rfl,hA.h4⟩
 rw[dF h4]
 exact .inr ⟨rfl,rfl,rfl⟩
theorem kmap_of (hA:AllAt M b0 b1 b2 b3 b4) (kind:Bs):KMapAt M (blkOf b1 b2 b3 b4 kind) S specE (propsD kind):=by
 rcases blk_at hA kind with h|⟨h1,h2,_⟩
 ·exact .inl h
 ·exact .inr ⟨h1,h2⟩
def bG (kind prop:Bs):Option TH0:=aG (propsD kind) prop
theorem X_prop2 {t kt et:TypeId} {x ix:Operand} {k kind:Bs} {z:TH0} (hA:AllAt M b0 b1 b2 b3 b4) (hp:Hp w0 M H w) (ho:o.op=.lookup t x ix true) (hx:ρ x=.map (blkOf b1 b2 b3 b4 kind)) (hk:ρ ix=S k) (ht:P.underlying t=some (.map kt et)) (K:KeyLaw P kt S) (hz: (P.info? et).bind (·.zero)=some (specE z)):
 (execOp ρ o).run P w=.ok (.value (.tuple #[specE ((bG kind k).getD z),.bool (bG kind k).isSome])) w:=by
 rcases blk_at hA kind with⟨b,h1,h2⟩|⟨h1,h2,_⟩
 ·rw[h1] at hx
  exact nq (ek:=S) (ev:=specE) (m:=propsD kind) (k:=k) (z:=z) ho hx hk ht K hz (hp.mem _ _ h2)
 ·rw[h1] at hx
  have:=X_lookup_nil (ok:=true) (enc:=S) (k:=k) ho hx hk ht K hz (w:=w)
  rw[this]
  unfold bG
  rw[h2]
  rfl
end
theorem ez {P:Program} {o:Oper} {ρ:Operand→Value} {w:World} {κ V:Type} [DecidableEq κ] {ek:κ→Value} {ev:V→Value} {t kt et:TypeId} {x ix:Operand} {b:Nat} {m:List (κ×V)} {k:κ} {z v:V} (ho:o.op=.lookup t x ix false) (hx:ρ x=.map (some b)) (hk:ρ ix=ek k) (ht:P.underlying t=some (.map kt et)) (K:KeyLaw P kt ek)
 (hz: (P.info? et).bind (·.zero)=some (ev z)) (hv: (aG m k).getD z=v) (hb:w.heap[b]? =some (bh ek ev m)): (execOp ρ o).run P w=.ok (.value (ev v)) w:=by
 subst hv
 exact pt ho hx hk ht K hz hb
theorem cH {P:Program} {ops:Array Oper} {n:Nat} {Q:Exit→Act→World→Prop} {L:Fr} {a:Act} {w0 w:World} {M:Mem} {H:List Ent} {κ V:Type} [DecidableEq κ] {ek:κ→Value} {ev:V→Value} {o:Oper} {rest:List Oper} {t kt et:TypeId} {x ix y:Operand} {b:Nat} {m m2:List (κ×V)} {k:κ} {v:V} (hm:de m k v=m2) (hf:Frm n L a) (hp:Hp w0 M (.obj b (bh ek ev m)::H) w) (hw:bb ops L o=some true) (hr:bq L o=true) (hd:o.dst=none)
 (ho:o.op=.mapUpdate t x ix y∨o.op=.insert t x ix y) (hx:Vc.ev L x=.map (some b)) (hk:Vc.ev L ix=ek k) (hv:Vc.ev L y=ev v) (ht:P.underlying t=some (.map kt et)) (K:KeyLaw P kt ek)
 (hq: ∀w',Hp w0 M (.obj b (bh ek ev m2)::H) w'→∀a',Frm n L a'→wpList P ops Q rest a' w'):wpList P ops Q (o::rest) a w:=by
 subst hm
 exact my hf hp hw hr hd ho hx hk hv ht K hq
theorem fzObj {w0 w:World} {M:Mem} {H:List Ent} {b:Nat} {o:Obj} (h:Hp w0 M (.obj b o::H) w): ∃M',M.le M'∧Hp w0 M' H w∧M' b=some o:=
 ⟨_,h.freeze.1,h.freeze.2,by simp[Mem.add]⟩
theorem dE {P:Program} {Q:Exit→Act→World→Prop} {c:Code} {n:Nat} {a:Act} {w:World} (h:c.wp P (Exit.then (Code.rounds P c Q n) Q) a w):Code.rounds P c Q (n+1) a w:=h
set_option maxRecDepth 100000 in
set_option maxHeartbeats 4000000 in
theorem all_ok (M:Mem):Ok Tryz.prog M 58 [] (λM' v=>∃b0 b1 b2 b3 b4,v=.map (some b0)∧AllAt M' b0 b1 b2 b3 b4):=by
 intro M1 hM0 w0 H w p0
 refine Re 47 Tryz.func58 rfl λa0 f0=>RR (Ye f0 1 λ_ f=>RR (ju S mapE f p0 kr kr rfl rfl rfl λo1 W1 N1 _ f=>ju S specE f N1 kr kr rfl rfl rfl λo2 W2 N2 _ f=>?_))
 have N3:=N2.pl [1]
 refine cH (ek:=S) (ev:=mapE) (m:=([]:List (Bs×Option Nat))) (k:=[68,105,115,107]) (v:=some o2) (m2:=[([68,105,115,107],some o2)]) (kt:=9) (et:=106) kr f N3 kr kr rfl (.inr rfl) kr kr kr kr (strKey kr) λW3 N4 _ f=>ju S specE f N4 kr kr rfl rfl rfl λo3 W4 N5 _ f=>?_
 have N6:=N5.pl [1]
 refine cH (ek:=S) (ev:=mapE) (m:=[([68,105,115,107],some o2)]) (k:=[78,101,116]) (v:=some o3) (m2:=[([68,105,115,107],some o2),([78,101,116],some o3)]) (kt:=9) (et:=106) kr f N6 kr kr rfl (.inr rfl) kr kr kr kr (strKey kr) λW5 N7 _ f=>ju S specE f N7 kr kr rfl rfl rfl λo4 W6 N8 _ f=>?_
 have N9:=N8.pl [1]
 refine cH (ek:=S) (ev:=mapE) (m:=[([68,105,115,107],some o2),([78,101,116],some o3)]) (k:=[78,111,100,101]) (v:=some o4) (m2:=[([68,105,115,107],some o2),([78,101,116],some o3),([78,111,100,101],some o4)]) (kt:=9) (et:=106) kr f N9 kr kr rfl (.inr rfl) kr kr kr kr (strKey kr) λW7 N10 _ f=>ju S specE f N10 kr kr rfl rfl rfl λo5 W8 N11 _ f=>?_
 have N12:=N11.pl [1]
 refine cH (ek:=S) (ev:=mapE) (m:=[([68,105,115,107],some o2),([78,101,116],some o3),([78,111,100,101],some o4)]) (k:=[82,117,108,101]) (v:=some o5) (m2:=[([68,105,115,107],some o2),([78,101,116],some o3),([78,111,100,101],some o4),([82,117,108,101],some o5)]) (kt:=9) (et:=106) kr f N12 kr kr rfl (.inr rfl) kr kr kr kr (strKey kr) λW9 N13 _ f=>Ye f 2 λ_ f=>ag (RR (Ye f 24 λ_ f=>wp_block (wp_loop_rounds 12 (dE (RR (Ye f 1 λ_ f=>ag (Y8 f (St (ag (wp_block (RR (Y f 1 λ_ f=>Y12 f N13 (.cells #[S [],S [],iB 0,bO false] 132 (0,0)) λQ1 W10 N14 _ f=>Y29 (vs:=[S [68,105,115,107],S [83,105,122,101],iB 2,bO false]) (j:=0) f N14 rfl rfl (by simp[Value.oneCell',S]) (by simp) (by decide) (cs':=#[S [68,105,115,107],S [83,105,122,101],iB 2,bO false]) rfl λW11 N15 _ f=>eT (aI (Y f 2 λ_ f=>Z f (Y35 (v:=S [68,105,115,107]) rfl (ad:=⟨Q1,0,none⟩) (N15.ownCell 0 rfl 0)) λ_ f=>Z (v:=.map (some o2)) f (ez (ek:=S) (ev:=mapE) (m:=[([68,105,115,107],some o2),([78,101,116],some o3),([78,111,100,101],some o4),([82,117,108,101],some o5)]) (k:=[68,105,115,107]) (z:=none) (v:=some o2) (kt:=9) (et:=106) rfl kr kr kr (strKey kr) kr kr (N15.ownObj 1 rfl)) λ_ f=>Y f 2 λ_ f=>Z f (Y35 (v:=S [83,105,122,101]) rfl (ad:=⟨Q1,1,none⟩) (N15.ownCell 0 rfl 1)) λ_ f=>Y f 1 λ_ f=>Z f (Y36 (cs:=[S [83,105,122,101],iB 2,bO false]) rfl (ad:=⟨Q1,1,none⟩) (al (N15.ownCell 0 rfl) 1 rfl)) λ_ f=>?_))))))))))))))
 have N16:=N15.pl [5]
 refine cH (ek:=S) (ev:=specE) (m:=([]:List (Bs×TH0))) (k:=[83,105,122,101]) (v:=⟨[83,105,122,101],2,false⟩) (m2:=[([83,105,122,101],⟨[83,105,122,101],2,false⟩)]) (kt:=9) (et:=111) kr f N16 kr kr rfl (.inl rfl) kr kr kr kr (strKey kr) λW12 N17 _ f=>aA rfl (cG (aH (aI (Ye f 2 λ_ f=>dE (RR (Ye f 1 λ_ f=>ag (Y8 f (St (ag (wp_block (RR (Y f 1 λ_ f=>Y12 f N17 (.cells #[S [],S [],iB 0,bO false] 132 (0,0)) λQ2 W13 N18 _ f=>Y29 (vs:=[S [68,105,115,107],S [84,97,103,115],iB 4,bO false]) (j:=0) f N18 rfl rfl (by simp[Value.oneCell',S]) (by simp) (by decide) (cs':=#[S [68,105,115,107],S [84,97,103,115],iB 4,bO false]) rfl λW14 N19 _ f=>eT (aI (Y f 2 λ_ f=>Z f (Y35 (v:=S [68,105,115,107]) rfl (ad:=⟨Q2,0,none⟩) (N19.ownCell 0 rfl 0)) λ_ f=>Z (v:=.map (some o2)) f (ez (ek:=S) (ev:=mapE) (m:=[([68,105,115,107],some o2),([78,101,116],some o3),([78,111,100,101],some o4),([82,117,108,101],some o5)]) (k:=[68,105,115,107]) (z:=none) (v:=some o2) (kt:=9) (et:=106) rfl kr kr kr (strKey kr) kr kr (N19.ownObj 3 rfl)) λ_ f=>Y f 2 λ_ f=>Z f (Y35 (v:=S [84,97,103,115]) rfl (ad:=⟨Q2,1,none⟩) (N19.ownCell 0 rfl 1)) λ_ f=>Y f 1 λ_ f=>Z f (Y36 (cs:=[S [84,97,103,115],iB 4,bO false]) rfl (ad:=⟨Q2,1,none⟩) (al (N19.ownCell 0 rfl) 1 rfl)) λ_ f=>?_))))))))))))))
 have N20:=N19.pl [1]
 refine cH (ek:=S) (ev:=specE) (m:=[([83,105,122,101],⟨[83,105,122,101],2,false⟩)]) (k:=[84,97,103,115]) (v:=⟨[84,97,103,115],4,false⟩) (m2:=[([83,105,122,101],⟨[83,105,122,101],2,false⟩),([84,97,103,115],⟨[84,97,103,115],4,false⟩)]) (kt:=9) (et:=111) kr f N20 kr kr rfl (.inl rfl) kr kr kr kr (strKey kr) λW15 N21 _ f=>aA rfl (cG (aH (aI (Ye f 2 λ_ f=>dE (RR (Ye f 1 λ_ f=>ag (Y8 f (St (ag (wp_block (RR (Y f 1 λ_ f=>Y12 f N21 (.cells #[S [],S [],iB 0,bO false] 132 (0,0)) λQ3 W16 N22 _ f=>Y29 (vs:=[S [68,105,115,107],S [75,105,110,100],iB 3,bO true]) (j:=0) f N22 rfl rfl (by simp[Value.oneCell',S]) (by simp) (by decide) (cs':=#[S [68,105,115,107],S [75,105,110,100],iB 3,bO true]) rfl λW17 N23 _ f=>eT (aI (Y f 2 λ_ f=>Z f (Y35 (v:=S [68,105,115,107]) rfl (ad:=⟨Q3,0,none⟩) (N23.ownCell 0 rfl 0)) λ_ f=>Z (v:=.map (some o2)) f (ez (ek:=S) (ev:=mapE) (m:=[([68,105,115,107],some o2),([78,101,116],some o3),([78,111,100,101],some o4),([82,117,108,101],some o5)]) (k:=[68,105,115,107]) (z:=none) (v:=some o2) (kt:=9) (et:=106) rfl kr kr kr (strKey kr) kr kr (N23.ownObj 4 rfl)) λ_ f=>Y f 2 λ_ f=>Z f (Y35 (v:=S [75,105,110,100]) rfl (ad:=⟨Q3,1,none⟩) (N23.ownCell 0 rfl 1)) λ_ f=>Y f 1 λ_ f=>Z f (Y36 (cs:=[S [75,105,110,100],iB 3,bO true]) rfl (ad:=⟨Q3,1,none⟩) (al (N23.ownCell 0 rfl) 1 rfl)) λ_ f=>?_))))))))))))))
 have N24:=N23.pl [1]
 refine cH (ek:=S) (ev:=specE) (m:=[([83,105,122,101],⟨[83,105,122,101],2,false⟩),([84,97,103,115],⟨[84,97,103,115],4,false⟩)]) (k:=[75,105,110,100]) (v:=⟨[75,105,110,100],3,true⟩) (m2:=[([83,105,122,101],⟨[83,105,122,101],2,false⟩),([84,97,103,115],⟨[84,97,103,115],4,false⟩),([75,105,110,100],⟨[75,105,110,100],3,true⟩)]) (kt:=9) (et:=111) kr f N24 kr kr rfl (.inl rfl) kr kr kr kr (strKey kr) λW18 N25 _ f=>aA rfl (cG (aH (aI (Ye f 2 λ_ f=>dE (RR (Ye f 1 λ_ f=>ag (Y8 f (St (ag (wp_block (RR (Y f 1 λ_ f=>Y12 f N25 (.cells #[S [],S [],iB 0,bO false] 132 (0,0)) λQ4 W19 N26 _ f=>Y29 (vs:=[S [78,101,116],S [76,97,98,101,108],iB 3,bO false]) (j:=0) f N26 rfl rfl (by simp[Value.oneCell',S]) (by simp) (by decide) (cs':=#[S [78,101,116],S [76,97,98,101,108],iB 3,bO false]) rfl λW20 N27 _ f=>eT (aI (Y f 2 λ_ f=>Z f (Y35 (v:=S [78,101,116]) rfl (ad:=⟨Q4,0,none⟩) (N27.ownCell 0 rfl 0)) λ_ f=>Z (v:=.map (some o3)) f (ez (ek:=S) (ev:=mapE) (m:=[([68,105,115,107],some o2),([78,101,116],some o3),([78,111,100,101],some o4),([82,117,108,101],some o5)]) (k:=[78,101,116]) (z:=none) (v:=some o3) (kt:=9) (et:=106) rfl kr kr kr (strKey kr) kr kr (N27.ownObj 5 rfl)) λ_ f=>Y f 2 λ_ f=>Z f (Y35 (v:=S [76,97,98,101,108]) rfl (ad:=⟨Q4,1,none⟩) (N27.ownCell 0 rfl 1)) λ_ f=>Y f 1 λ_ f=>Z f (Y36 (cs:=[S [76,97,98,101,108],iB 3,bO false]) rfl (ad:=⟨Q4,1,none⟩) (al (N27.ownCell 0 rfl) 1 rfl)) λ_ f=>?_))))))))))))))
 have N28:=N27.pl [8]
 refine cH (ek:=S) (ev:=specE) (m:=([]:List (Bs×TH0))) (k:=[76,97,98,101,108]) (v:=⟨[76,97,98,101,108],3,false⟩) (m2:=[([76,97,98,101,108],⟨[76,97,98,101,108],3,false⟩)]) (kt:=9) (et:=111) kr f N28 kr kr rfl (.inl rfl) kr kr kr kr (strKey kr) λW21 N29 _ f=>aA rfl (cG (aH (aI (Ye f 2 λ_ f=>dE (RR (Ye f 1 λ_ f=>ag (Y8 f (St (ag (wp_block (RR (Y f 1 λ_ f=>Y12 f N29 (.cells #[S [],S [],iB 0,bO false] 132 (0,0)) λQ5 W22 N30 _ f=>Y29 (vs:=[S [78,101,116],S [82,97,110,103,101],iB 3,bO true]) (j:=0) f N30 rfl rfl (by simp[Value.oneCell',S]) (by simp) (by decide) (cs':=#[S [78,101,116],S [82,97,110,103,101],iB 3,bO true]) rfl λW23 N31 _ f=>eT (aI (Y f 2 λ_ f=>Z f (Y35 (v:=S [78,101,116]) rfl (ad:=⟨Q5,0,none⟩) (N31.ownCell 0 rfl 0)) λ_ f=>Z (v:=.map (some o3)) f (ez (ek:=S) (ev:=mapE) (m:=[([68,105,115,107],some o2),([78,101,116],some o3),([78,111,100,101],some o4),([82,117,108,101],some o5)]) (k:=[78,101,116]) (z:=none) (v:=some o3) (kt:=9) (et:=106) rfl kr kr kr (strKey kr) kr kr (N31.ownObj 7 rfl)) λ_ f=>Y f 2 λ_ f=>Z f (Y35 (v:=S [82,97,110,103,101]) rfl (ad:=⟨Q5,1,none⟩) (N31.ownCell 0 rfl 1)) λ_ f=>Y f 1 λ_ f=>Z f (Y36 (cs:=[S [82,97,110,103,101],iB 3,bO true]) rfl (ad:=⟨Q5,1,none⟩) (al (N31.ownCell 0 rfl) 1 rfl)) λ_ f=>?_))))))))))))))
 have N32:=N31.pl [1]
 refine cH (ek:=S) (ev:=specE) (m:=[([76,97,98,101,108],⟨[76,97,98,101,108],3,false⟩)]) (k:=[82,97,110,103,101]) (v:=⟨[82,97,110,103,101],3,true⟩) (m2:=[([76,97,98,101,108],⟨[76,97,98,101,108],3,false⟩),([82,97,110,103,101],⟨[82,97,110,103,101],3,true⟩)]) (kt:=9) (et:=111) kr f N32 kr kr rfl (.inl rfl) kr kr kr kr (strKey kr) λW24 N33 _ f=>aA rfl (cG (aH (aI (Ye f 2 λ_ f=>dE (RR (Ye f 1 λ_ f=>ag (Y8 f (St (ag (wp_block (RR (Y f 1 λ_ f=>Y12 f N33 (.cells #[S [],S [],iB 0,bO false] 132 (0,0)) λQ6 W25 N34 _ f=>Y29 (vs:=[S [78,111,100,101],S [67,111,117,110,116],iB 2,bO false]) (j:=0) f N34 rfl rfl (by simp[Value.oneCell',S]) (by simp) (by decide) (cs':=#[S [78,111,100,101],S [67,111,117,110,116],iB 2,bO false]) rfl λW26 N35 _ f=>eT (aI (Y f 2 λ_ f=>Z f (Y35 (v:=S [78,111,100,101]) rfl (ad:=⟨Q6,0,none⟩) (N35.ownCell 0 rfl 0)) λ_ f=>Z (v:=.map (some o4)) f (ez (ek:=S) (ev:=mapE) (m:=[([68,105,115,107],some o2),([78,101,116],some o3),([78,111,100,101],some o4),([82,117,108,101],some o5)]) (k:=[78,111,100,101]) (z:=none) (v:=some o4) (kt:=9) (et:=106) rfl kr kr kr (strKey kr) kr kr (N35.ownObj 8 rfl)) λ_ f=>Y f 2 λ_ f=>Z f (Y35 (v:=S [67,111,117,110,116]) rfl (ad:=⟨Q6,1,none⟩) (N35.ownCell 0 rfl 1)) λ_ f=>Y f 1 λ_ f=>Z f (Y36 (cs:=[S [67,111,117,110,116],iB 2,bO false]) rfl (ad:=⟨Q6,1,none⟩) (al (N35.ownCell 0 rfl) 1 rfl)) λ_ f=>?_))))))))))))))
 have N36:=N35.pl [10]
 refine cH (ek:=S) (ev:=specE) (m:=([]:List (Bs×TH0))) (k:=[67,111,117,110,116]) (v:=⟨[67,111,117,110,116],2,false⟩) (m2:=[([67,111,117,110,116],⟨[67,111,117,110,116],2,false⟩)]) (kt:=9) (et:=111) kr f N36 kr kr rfl (.inl rfl) kr kr kr kr (strKey kr) λW27 N37 _ f=>aA rfl (cG (aH (aI (Ye f 2 λ_ f=>dE (RR (Ye f 1 λ_ f=>ag (Y8 f (St (ag (wp_block (RR (Y f 1 λ_ f=>Y12 f N37 (.cells #[S [],S [],iB 0,bO false] 132 (0,0)) λQ7 W28 N38 _ f=>Y29 (vs:=[S [78,111,100,101],S [68,105,115,107],iB 3,bO false]) (j:=0) f N38 rfl rfl (by simp[Value.oneCell',S]) (by simp) (by decide) (cs':=#[S [78,111,100,101],S [68,105,115,107],iB 3,bO false]) rfl λW29 N39 _ f=>eT (aI (Y f 2 λ_ f=>Z f (Y35 (v:=S [78,111,100,101]) rfl (ad:=⟨Q7,0,none⟩) (N39.ownCell 0 rfl 0)) λ_ f=>Z (v:=.map (some o4)) f (ez (ek:=S) (ev:=mapE) (m:=[([68,105,115,107],some o2),([78,101,116],some o3),([78,111,100,101],some o4),([82,117,108,101],some o5)]) (k:=[78,111,100,101]) (z:=none) (v:=some o4) (kt:=9) (et:=106) rfl kr kr kr (strKey kr) kr kr (N39.ownObj 10 rfl)) λ_ f=>Y f 2 λ_ f=>Z f (Y35 (v:=S [68,105,115,107]) rfl (ad:=⟨Q7,1,none⟩) (N39.ownCell 0 rfl 1)) λ_ f=>Y f 1 λ_ f=>Z f (Y36 (cs:=[S [68,105,115,107],iB 3,bO false]) rfl (ad:=⟨Q7,1,none⟩) (al (N39.ownCell 0 rfl) 1 rfl)) λ_ f=>?_))))))))))))))
 have N40:=N39.pl [1]
 refine cH (ek:=S) (ev:=specE) (m:=[([67,111,117,110,116],⟨[67,111,117,110,116],2,false⟩)]) (k:=[68,105,115,107]) (v:=⟨[68,105,115,107],3,false⟩) (m2:=[([67,111,117,110,116],⟨[67,111,117,110,116],2,false⟩),([68,105,115,107],⟨[68,105,115,107],3,false⟩)]) (kt:=9) (et:=111) kr f N40 kr kr rfl (.inl rfl) kr kr kr kr (strKey kr) λW30 N41 _ f=>aA rfl (cG (aH (aI (Ye f 2 λ_ f=>dE (RR (Ye f 1 λ_ f=>ag (Y8 f (St (ag (wp_block (RR (Y f 1 λ_ f=>Y12 f N41 (.cells #[S [],S [],iB 0,bO false] 132 (0,0)) λQ8 W31 N42 _ f=>Y29 (vs:=[S [78,111,100,101],S [73,109,97,103,101],iB 3,bO true]) (j:=0) f N42 rfl rfl (by simp[Value.oneCell',S]) (by simp) (by decide) (cs':=#[S [78,111,100,101],S [73,109,97,103,101],iB 3,bO true]) rfl λW32 N43 _ f=>eT (aI (Y f 2 λ_ f=>Z f (Y35 (v:=S [78,111,100,101]) rfl (ad:=⟨Q8,0,none⟩) (N43.ownCell 0 rfl 0)) λ_ f=>Z (v:=.map (some o4)) f (ez (ek:=S) (ev:=mapE) (m:=[([68,105,115,107],some o2),([78,101,116],some o3),([78,111,100,101],some o4),([82,117,108,101],some o5)]) (k:=[78,111,100,101]) (z:=none) (v:=some o4) (kt:=9) (et:=106) rfl kr kr kr (strKey kr) kr kr (N43.ownObj 11 rfl)) λ_ f=>Y f 2 λ_ f=>Z f (Y35 (v:=S [73,109,97,103,101]) rfl (ad:=⟨Q8,1,none⟩) (N43.ownCell 0 rfl 1)) λ_ f=>Y f 1 λ_ f=>Z f (Y36 (cs:=[S [73,109,97,103,101],iB 3,bO true]) rfl (ad:=⟨Q8,1,none⟩) (al (N43.ownCell 0 rfl) 1 rfl)) λ_ f=>?_))))))))))))))
 have N44:=N43.pl [1]
 refine cH (ek:=S) (ev:=specE) (m:=[([67,111,117,110,116],⟨[67,111,117,110,116],2,false⟩),([68,105,115,107],⟨[68,105,115,107],3,false⟩)]) (k:=[73,109,97,103,101]) (v:=⟨[73,109,97,103,101],3,true⟩) (m2:=[([67,111,117,110,116],⟨[67,111,117,110,116],2,false⟩),([68,105,115,107],⟨[68,105,115,107],3,false⟩),([73,109,97,103,101],⟨[73,109,97,103,101],3,true⟩)]) (kt:=9) (et:=111) kr f N44 kr kr rfl (.inl rfl) kr kr kr kr (strKey kr) λW33 N45 _ f=>aA rfl (cG (aH (aI (Ye f 2 λ_ f=>dE (RR (Ye f 1 λ_ f=>ag (Y8 f (St (ag (wp_block (RR (Y f 1 λ_ f=>Y12 f N45 (.cells #[S [],S [],iB 0,bO false] 132 (0,0)) λQ9 W34 N46 _ f=>Y29 (vs:=[S [78,111,100,101],S [78,101,116],iB 3,bO true]) (j:=0) f N46 rfl rfl (by simp[Value.oneCell',S]) (by simp) (by decide) (cs':=#[S [78,111,100,101],S [78,101,116],iB 3,bO true]) rfl λW35 N47 _ f=>eT (aI (Y f 2 λ_ f=>Z f (Y35 (v:=S [78,111,100,101]) rfl (ad:=⟨Q9,0,none⟩) (N47.ownCell 0 rfl 0)) λ_ f=>Z (v:=.map (some o4)) f (ez (ek:=S) (ev:=mapE) (m:=[([68,105,115,107],some o2),([78,101,116],some o3),([78,111,100,101],some o4),([82,117,108,101],some o5)]) (k:=[78,111,100,101]) (z:=none) (v:=some o4) (kt:=9) (et:=106) rfl kr kr kr (strKey kr) kr kr (N47.ownObj 12 rfl)) λ_ f=>Y f 2 λ_ f=>Z f (Y35 (v:=S [78,101,116]) rfl (ad:=⟨Q9,1,none⟩) (N47.ownCell 0 rfl 1)) λ_ f=>Y f 1 λ_ f=>Z f (Y36 (cs:=[S [78,101,116],iB 3,bO true]) rfl (ad:=⟨Q9,1,none⟩) (al (N47.ownCell 0 rfl) 1 rfl)) λ_ f=>?_))))))))))))))
 have N48:=N47.pl [1]
 refine cH (ek:=S) (ev:=specE) (m:=[([67,111,117,110,116],⟨[67,111,117,110,116],2,false⟩),([68,105,115,107],⟨[68,105,115,107],3,false⟩),([73,109,97,103,101],⟨[73,109,97,103,101],3,true⟩)]) (k:=[78,101,116]) (v:=⟨[78,101,116],3,true⟩) (m2:=[([67,111,117,110,116],⟨[67,111,117,110,116],2,false⟩),([68,105,115,107],⟨[68,105,115,107],3,false⟩),([73,109,97,103,101],⟨[73,109,97,103,101],3,true⟩),([78,101,116],⟨[78,101,116],3,true⟩)]) (kt:=9) (et:=111) kr f N48 kr kr rfl (.inl rfl) kr kr kr kr (strKey kr) λW36 N49 _ f=>aA rfl (cG (aH (aI (Ye f 2 λ_ f=>dE (RR (Ye f 1 λ_ f=>ag (Y8 f (St (ag (wp_block (RR (Y f 1 λ_ f=>Y12 f N49 (.cells #[S [],S [],iB 0,bO false] 132 (0,0)) λQ10 W37 N50 _ f=>Y29 (vs:=[S [82,117,108,101],S [78,111,100,101],iB 3,bO false]) (j:=0) f N50 rfl rfl (by simp[Value.oneCell',S]) (by simp) (by decide) (cs':=#[S [82,117,108,101],S [78,111,100,101],iB 3,bO false]) rfl λW38 N51 _ f=>eT (aI (Y f 2 λ_ f=>Z f (Y35 (v:=S [82,117,108,101]) rfl (ad:=⟨Q10,0,none⟩) (N51.ownCell 0 rfl 0)) λ_ f=>Z (v:=.map (some o5)) f (ez (ek:=S) (ev:=mapE) (m:=[([68,105,115,107],some o2),([78,101,116],some o3),([78,111,100,101],some o4),([82,117,108,101],some o5)]) (k:=[82,117,108,101]) (z:=none) (v:=some o5) (kt:=9) (et:=106) rfl kr kr kr (strKey kr) kr kr (N51.ownObj 13 rfl)) λ_ f=>Y f 2 λ_ f=>Z f (Y35 (v:=S [78,111,100,101]) rfl (ad:=⟨Q10,1,none⟩) (N51.ownCell 0 rfl 1)) λ_ f=>Y f 1 λ_ f=>Z f (Y36 (cs:=[S [78,111,100,101],iB 3,bO false]) rfl (ad:=⟨Q10,1,none⟩) (al (N51.ownCell 0 rfl) 1 rfl)) λ_ f=>?_))))))))))))))
 have N52:=N51.pl [14]
 refine cH (ek:=S) (ev:=specE) (m:=([]:List (Bs×TH0))) (k:=[78,111,100,101]) (v:=⟨[78,111,100,101],3,false⟩) (m2:=[([78,111,100,101],⟨[78,111,100,101],3,false⟩)]) (kt:=9) (et:=111) kr f N52 kr kr rfl (.inl rfl) kr kr kr kr (strKey kr) λW39 N53 _ f=>aA rfl (cG (aH (aI (Ye f 2 λ_ f=>dE (RR (Ye f 1 λ_ f=>ag (Y8 f (St (ag (wp_block (RR (Y f 1 λ_ f=>Y12 f N53 (.cells #[S [],S [],iB 0,bO false] 132 (0,0)) λQ11 W40 N54 _ f=>Y29 (vs:=[S [82,117,108,101],S [80,111,114,116],iB 2,bO true]) (j:=0) f N54 rfl rfl (by simp[Value.oneCell',S]) (by simp) (by decide) (cs':=#[S [82,117,108,101],S [80,111,114,116],iB 2,bO true]) rfl λW41 N55 _ f=>eT (aI (Y f 2 λ_ f=>Z f (Y35 (v:=S [82,117,108,101]) rfl (ad:=⟨Q11,0,none⟩) (N55.ownCell 0 rfl 0)) λ_ f=>Z (v:=.map (some o5)) f (ez (ek:=S) (ev:=mapE) (m:=[([68,105,115,107],some o2),([78,101,116],some o3),([78,111,100,101],some o4),([82,117,108,101],some o5)]) (k:=[82,117,108,101]) (z:=none) (v:=some o5) (kt:=9) (et:=106) rfl kr kr kr (strKey kr) kr kr (N55.ownObj 15 rfl)) λ_ f=>Y f 2 λ_ f=>Z f (Y35 (v:=S [80,111,114,116]) rfl (ad:=⟨Q11,1,none⟩) (N55.ownCell 0 rfl 1)) λ_ f=>Y f 1 λ_ f=>Z f (Y36 (cs:=[S [80,111,114,116],iB 2,bO true]) rfl (ad:=⟨Q11,1,none⟩) (al (N55.ownCell 0 rfl) 1 rfl)) λ_ f=>?_))))))))))))))
 have N56:=N55.pl [1]
 refine cH (ek:=S) (ev:=specE) (m:=[([78,111,100,101],⟨[78,111,100,101],3,false⟩)]) (k:=[80,111,114,116]) (v:=⟨[80,111,114,116],2,true⟩) (m2:=[([78,111,100,101],⟨[78,111,100,101],3,false⟩),([80,111,114,116],⟨[80,111,114,116],2,true⟩)]) (kt:=9) (et:=111) kr f N56 kr kr rfl (.inl rfl) kr kr kr kr (strKey kr) λW42 N57 _ f=>aA rfl (cG (aH (aI (Ye f 2 λ_ f=>dE (RR (Ye f 1 λ_ f=>ag (Y7 f (wp_exit (co (co (iq (aH (RR (Ye f 2 λ_ f=>wp_ret ?_))))))))))))))
 have N58:=N57.pl [15]
 obtain⟨V1,J1,N59,B1⟩:=fzObj N58
 have N60:=N59.pl [11]
 obtain⟨V2,J2,N61,B2⟩:=fzObj N60
 have N62:=N61.pl [8]
 obtain⟨V3,J3,N63,B3⟩:=fzObj N62
 have N64:=N63.pl [3]
 obtain⟨V4,J4,N65,B4⟩:=fzObj N64
 obtain⟨V5,J5,N66,B5⟩:=fzObj N65
 refine ao f rfl (Lk 0 (.map (some o1))) ?_
 exact⟨_,rfl,V5,((((J1.trans J2).trans J3).trans J4).trans J5),(N66.dropN 11),o1,o2,o3,o4,o5,rfl,⟨((((J2.trans J3).trans J4).trans J5) _ _ B1),(((J3.trans J4).trans J5) _ _ B2),((J4.trans J5) _ _ B3),(J5 _ _ B4),B5⟩⟩
def lf (n:Nat) (d0:Bs) (d1:Bs):Option (TH0×Bool):=
 some ((((bG d0 d1).getD cd),((bG d0 d1).isSome)))
theorem rF (n:Nat) (M:Mem) (hG:GL M) (d0:Bs) (d1:Bs) (r:TH0×Bool) (hF:lf n d0 d1=some r):Ok Tryz.prog M 59 [S d0,S d1] (λM' v=>∃ (c0:Lv),v=.tuple #[.agg c0.toArray,bO r.2]∧Rep M' (dO r.1) c0):=by
 unfold lf at hF
 intro M1 hM0 w0 H w p0
 replace hG:=GL.mono hM0 hG
 refine Re 18 Tryz.func59 rfl λa0 f0=>RR (Y12 f0 p0 (.cells #[S [],iB 0,bO false] 111 (0,0)) λQ1 W1 N1 _ f=>Ye f 1 λ_ f=>RR (Y16 f N1 (all_ok _) λ_ V1 W2 J1 N2 jO _ f=>?_))
 obtain⟨Q2,Q3,Q4,Q5,Q6,rfl,hA_1⟩:=jO
 refine Y f 1 λ_ f=>Z (v:=.map (blkOf Q3 Q4 Q5 Q6 d0)) f (X_all1 (k:=d0) (kt:=9) (et:=106) hA_1 N2 rfl kr kr kr (strKey kr) kr) λ_ f=>Y f 1 λ_ f=>Z (v:=.tuple #[.agg #[S ((bG d0 d1).getD cd).aB,iB ((bG d0 d1).getD cd).ab,bO ((bG d0 d1).getD cd).bc],bO (bG d0 d1).isSome]) f (X_prop2 (k:=d1) (kind:=d0) (z:=cd) (kt:=9) (et:=111) hA_1 N2 rfl kr kr kr (strKey kr) kr) λ_ f=>Y f 3 λ_ f=>Y12 f N2 (.cells #[S [],iB 0,bO false] 111 (0,0)) λQ7 W3 N3 _ f=>Ys [S ((bG d0 d1).getD cd).aB,iB ((bG d0 d1).getD cd).ab,bO ((bG d0 d1).getD cd).bc] #[S ((bG d0 d1).getD cd).aB,iB ((bG d0 d1).getD cd).ab,bO ((bG d0 d1).getD cd).bc] f N3 rfl rfl λW4 N4 _ f=>Ye f 1 λ_ f=>RR (Z f (Y36 (cs:=[S ((bG d0 d1).getD cd).aB,iB ((bG d0 d1).getD cd).ab,bO ((bG d0 d1).getD cd).bc]) rfl (ad:=⟨Q7,0,none⟩) (al (N4.ownCell 0 rfl) 0 rfl)) λ_ f=>Y f 1 λ_ f=>?_)
 have N5:=N4.pl [1]
 refine Ys [S ((bG d0 d1).getD cd).aB,iB ((bG d0 d1).getD cd).ab,bO ((bG d0 d1).getD cd).bc] #[S ((bG d0 d1).getD cd).aB,iB ((bG d0 d1).getD cd).ab,bO ((bG d0 d1).getD cd).bc] f N5 rfl rfl λW5 N6 _ f=>Ye f 1 λ_ f=>wp_ret (dB f rfl (Y10 (cs:=[S ((bG d0 d1).getD cd).aB,iB ((bG d0 d1).getD cd).ab,bO ((bG d0 d1).getD cd).bc]) (ad:=⟨Q1,0,none⟩) f (al (N6.ownCell 0 rfl) 0 rfl)) (Y11 (v:=bO (bG d0 d1).isSome) f) ?_)
 cases sI hF
 exact⟨_,rfl,V1,J1,(N6.dropN 2),⟨[S ((bG d0 d1).getD cd).aB,iB ((bG d0 d1).getD cd).ab,bO ((bG d0 d1).getD cd).bc],rfl,(TH0.shutx (x:=((bG d0 d1).getD cd)))⟩⟩
end Go.Proofs.YtkhdpnamfndonaaGreatDoor
end
