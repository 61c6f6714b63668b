/-
  Texts of this claim, packed (what nothing names is left out): LPlays, Vo2, Op. Own work, partly printed by own programs. No condition.
-/
import Derived.Test.YtkhdpnamfndonaaGreatDoorPkS8
import Derived.Test.YtkhdpnamfndonaaGreatDoorPkS7
import Derived.Test.YtkhdpnamfndonaaGreatDoorPkS6
import Derived.Test.YtkhdpnamfndonaaGreatDoorPkS1
import Derived.Test.YtkhdpnamfndonaaGreatDoorPkS2
import Derived.Test.YtkhdpnamfndonaaGreatDoorRows
set_option linter.unusedVariables false
set_option linter.unusedSimpArgs false
set_option maxHeartbeats 2000000
section
namespace Go.Proofs.YtkhdpnamfndonaaGreatDoor
open Go Go.Vc Go.RowKit
set_option maxRecDepth 20000 in
theorem nK (n:Nat) (M:Mem) (hG:GL M) (A0:Oa) (cap0:Nat) (d0:List TB0) (h0:Sli M 7 lO A0 cap0 d0) (r:Bool) (hF:hS n d0=some r):Ok Tryz.prog M 3 [sL A0 d0 cap0] (λ_ v=>v=bO r):=by
 unfold hS at hF
 intro M1 hM0 w0 H w p0
 replace hG:=GL.mono hM0 hG
 replace h0:=h0.mono hM0
 refine Re 165 Tryz.func3 rfl λa0 f0=>RR (Ye f0 1 λ_ f=>ag (RR (Y f 1 λ_ f=>?_)))
 obtain⟨X1,S1,F1⟩:=bS hF
 refine Y18 f p0 (rX n _ hG A0 cap0 d0 h0 X1 S1) λW1 N1 _ f=>eT (RcF f F1 (λB1 F2=>?_) λB1 F4=>?_)
 ·refine RR ?_
  obtain⟨X2,S2,F3⟩:=bS F2
  refine Y18 f N1 (mT n _ hG X2 S2) λW2 N2 _ f=>Ye f 1 λ_ f=>wp_ret (aS (ao f rfl (Lk 2 (bO X2)) ?_))
  cases sI F3
  exact⟨_,rfl,M1,(mR _),N2,rfl⟩
 ·refine St (RR ?_)
  obtain⟨X3,S3,F5⟩:=bS F4
  refine Y17 (E:=[]) (H:=(H)) f N1 (pj n _ hG X3 S3) λ_ V1 E_1 W3 J1 N3 jO _ f=>?_
  obtain⟨y1,aP,rfl,rfl⟩:=jO
  obtain⟨X4,S4,F6⟩:=bS F5
  refine Y17 (E:=[]) (H:=((oC y1 #[Sn,iL 0,Sn,.map (some aP),Sn,iL 0] 62)::(Ent.obj aP (bh (Value.int .i64) vTD0 ([]:List (Int×TD0))))::H)) f N3 (ref11_New_ok n _ (GL.mono J1 hG) X4 S4) λ_ V2 E_2 W4 J2 N4 sj _ f=>?_
  obtain⟨y2,rfl,rfl⟩:=sj
  refine Ye f 2 λ_ f=>ag (RR (Ye f 3 λ_ f=>wp_block ?_))
  obtain⟨Z1,P1,H1⟩: ∃A cap,Value.slice none 0 0=.slice A ([]:List TI0).length cap:=⟨none,0,rfl⟩
  have N5:Hp w0 V2 ((Ent.row 32 5 (.slice Z1 ([]:List TI0).length P1) ([]:List TI0).length [])::(Ent.obj y2 (.cells #[.slice none 0 0,.int .i64 0,.slice none 0 0,.slice none 0 0,.slice none 0 0,.int .i64 0] 66 (0,0)))::(Ent.obj y1 (.cells #[.slice none 0 0,.int .i64 0,.slice Z1 ([]:List TI0).length P1,.map (some aP),.slice none 0 0,.int .i64 0] 62 (0,0)))::(Ent.obj aP (bh (Value.int .i64) (λx:TD0=>Value.agg #[.bool x.aq,.bool x.bC,S x.af]) ([]:List (Int×TD0))))::H) W4:=by rw[←H1];exact N4.nilRow 32 5
  have D1:aa V2 (([]:List TI0).map aJ) []:=rfl
  obtain⟨Z2,P2,H2⟩: ∃A cap,Value.slice none 0 0=.slice A ([]:List TI0).length cap:=⟨none,0,rfl⟩
  have N6:Hp w0 V2 ((Ent.row 32 5 (.slice Z2 ([]:List TI0).length P2) ([]:List TI0).length [])::(Ent.row 32 5 (.slice Z1 ([]:List TI0).length P1) ([]:List TI0).length [])::(Ent.obj y2 (.cells #[.slice none 0 0,.int .i64 0,.slice none 0 0,.slice none 0 0,.slice none 0 0,.int .i64 0] 66 (0,0)))::(Ent.obj y1 (.cells #[.slice none 0 0,.int .i64 0,.slice Z1 ([]:List TI0).length P1,.map (some aP),.slice Z2 ([]:List TI0).length P2,.int .i64 0] 62 (0,0)))::(Ent.obj aP (bh (Value.int .i64) (λx:TD0=>Value.agg #[.bool x.aq,.bool x.bC,S x.af]) ([]:List (Int×TD0))))::H) W4:=by rw[←H2];exact N5.nilRow 32 5
  have D2:aa V2 (([]:List TI0).map aJ) []:=rfl
  obtain⟨Z3,P3,H3⟩: ∃A cap,Value.slice none 0 0=.slice A ([]:List TI0).length cap:=⟨none,0,rfl⟩
  have N7:Hp w0 V2 ((Ent.row 32 5 (.slice Z3 ([]:List TI0).length P3) ([]:List TI0).length [])::(Ent.row 32 5 (.slice Z2 ([]:List TI0).length P2) ([]:List TI0).length [])::(Ent.row 32 5 (.slice Z1 ([]:List TI0).length P1) ([]:List TI0).length [])::(Ent.obj y2 (.cells #[.slice none 0 0,.int .i64 0,.slice Z3 ([]:List TI0).length P3,.slice none 0 0,.slice none 0 0,.int .i64 0] 66 (0,0)))::(Ent.obj y1 (.cells #[.slice none 0 0,.int .i64 0,.slice Z1 ([]:List TI0).length P1,.map (some aP),.slice Z2 ([]:List TI0).length P2,.int .i64 0] 62 (0,0)))::(Ent.obj aP (bh (Value.int .i64) (λx:TD0=>Value.agg #[.bool x.aq,.bool x.bC,S x.af]) ([]:List (Int×TD0))))::H) W4:=by rw[←H3];exact N6.nilRow 32 5
  have D3:aa V2 (([]:List TI0).map aJ) []:=rfl
  obtain⟨Z4,P4,H4⟩: ∃A cap,Value.slice none 0 0=.slice A ([]:List TD0).length cap:=⟨none,0,rfl⟩
  have N8:Hp w0 V2 ((Ent.row 38 3 (.slice Z4 ([]:List TD0).length P4) ([]:List TD0).length [])::(Ent.row 32 5 (.slice Z3 ([]:List TI0).length P3) ([]:List TI0).length [])::(Ent.row 32 5 (.slice Z2 ([]:List TI0).length P2) ([]:List TI0).length [])::(Ent.row 32 5 (.slice Z1 ([]:List TI0).length P1) ([]:List TI0).length [])::(Ent.obj y2 (.cells #[.slice none 0 0,.int .i64 0,.slice Z3 ([]:List TI0).length P3,.slice Z4 ([]:List TD0).length P4,.slice none 0 0,.int .i64 0] 66 (0,0)))::(Ent.obj y1 (.cells #[.slice none 0 0,.int .i64 0,.slice Z1 ([]:List TI0).length P1,.map (some aP),.slice Z2 ([]:List TI0).length P2,.int .i64 0] 62 (0,0)))::(Ent.obj aP (bh (Value.int .i64) (λx:TD0=>Value.agg #[.bool x.aq,.bool x.bC,S x.af]) ([]:List (Int×TD0))))::H) W4:=by rw[←H4];exact N7.nilRow 38 3
  have D4:aa V2 (([]:List TD0).map bK) []:=rfl
  obtain⟨Z5,P5,H5⟩: ∃A cap,Value.slice none 0 0=.slice A ([]:List Int).length cap:=⟨none,0,rfl⟩
  have N9:Hp w0 V2 ((Ent.row 3 1 (.slice Z5 ([]:List Int).length P5) ([]:List Int).length [])::(Ent.row 38 3 (.slice Z4 ([]:List TD0).length P4) ([]:List TD0).length [])::(Ent.row 32 5 (.slice Z3 ([]:List TI0).length P3) ([]:List TI0).length [])::(Ent.row 32 5 (.slice Z2 ([]:List TI0).length P2) ([]:List TI0).length [])::(Ent.row 32 5 (.slice Z1 ([]:List TI0).length P1) ([]:List TI0).length [])::(Ent.obj y2 (.cells #[.slice none 0 0,.int .i64 0,.slice Z3 ([]:List TI0).length P3,.slice Z4 ([]:List TD0).length P4,.slice Z5 ([]:List Int).length P5,.int .i64 0] 66 (0,0)))::(Ent.obj y1 (.cells #[.slice none 0 0,.int .i64 0,.slice Z1 ([]:List TI0).length P1,.map (some aP),.slice Z2 ([]:List TI0).length P2,.int .i64 0] 62 (0,0)))::(Ent.obj aP (bh (Value.int .i64) (λx:TD0=>Value.agg #[.bool x.aq,.bool x.bC,S x.af]) ([]:List (Int×TD0))))::H) W4:=by rw[←H5];exact N8.nilRow 3 1
  have D5:aa V2 (([]:List Int).map (Dat.int .i64)) []:=rfl
  have N17:=N9.pl [6,6,2,3,4,7,6,7]
  obtain⟨Q1,bH,F7⟩:=bS F6
  refine wp_mono (Q:=λe a w=>(e=.ret∧(∃G3:List TG0×Int×List TI0×List TD0×List Int×Int×List TG0×Int×List TI0×List TI0×Int× (List (Int×TD0)),Q1=.inl G3∧∃V26:Mem,V2.le V26∧∃ (Z71:Oa),∃ (P71:Nat),∃ (Z72:Oa),∃ (P72:Nat),∃ (L43:Lv),∃ (Z73:Oa),∃ (P73:Nat),∃ (L44:Lv),∃ (Z74:Oa),∃ (P74:Nat),∃ (L45:Lv),∃ (Z75:Oa),∃ (P75:Nat),∃ (Z76:Oa),∃ (P76:Nat),∃ (L46:Lv),∃ (Z77:Oa),∃ (P77:Nat),∃ (L47:Lv),Sli V26 3 aK Z71 P71 G3.1∧aa V26 (G3.2.2.1.map aJ) L43∧aa V26 (G3.t3.1.map bK) L44∧aa V26 (G3.t4.1.map (Dat.int .i64)) L45∧Sli V26 3 aK Z75 P75 G3.t6.1∧aa V26 (G3.t8.1.map aJ) L46∧aa V26 (G3.t9.1.map aJ) L47∧Frm 165 [(2,bO false)] a∧Hp w0 V26 ((rO 32 5 Z72 G3.2.2.1 P72 L43)::(rO 38 3 Z73 G3.t3.1 P73 L44)::(rO 3 1 Z74 G3.t4.1 P74 L45)::(rO 32 5 Z76 G3.t8.1 P76 L46)::(rO 32 5 Z77 G3.t9.1 P77 L47)::(Ent.obj aP (bh (Value.int .i64) vTD0 G3.t11))::(oC y2 #[sL Z71 G3.1 P71,iL G3.2.1,sL Z72 G3.2.2.1 P72,sL Z73 G3.t3.1 P73,sL Z74 G3.t4.1 P74,iL G3.t5.1] 66)::(oC y1 #[sL Z75 G3.t6.1 P75,iL G3.t7.1,sL Z76 G3.t8.1 P76,.map (some aP),sL Z77 G3.t9.1 P77,iL G3.t10.1] 62)::H) w))∨(e=.exit 0∧(∃G4:List TG0×Int×List TI0×List TD0×List Int×Int×List TG0×Int×List TI0×List TI0×Int× (List (Int×TD0)),Q1=.inr G4∧∃V27:Mem,V2.le V27∧∃ (Z78:Oa),∃ (P78:Nat),∃ (Z79:Oa),∃ (P79:Nat),∃ (L48:Lv),∃ (Z80:Oa),∃ (P80:Nat),∃ (L49:Lv),∃ (Z81:Oa),∃ (P81:Nat),∃ (L50:Lv),∃ (Z82:Oa),∃ (P82:Nat),∃ (Z83:Oa),∃ (P83:Nat),∃ (L51:Lv),∃ (Z84:Oa),∃ (P84:Nat),∃ (L52:Lv),Sli V27 3 aK Z78 P78 G4.1∧aa V27 (G4.2.2.1.map aJ) L48∧aa V27 (G4.t3.1.map bK) L49∧aa V27 (G4.t4.1.map (Dat.int .i64)) L50∧Sli V27 3 aK Z82 P82 G4.t6.1∧aa V27 (G4.t8.1.map aJ) L51∧aa V27 (G4.t9.1.map aJ) L52∧Frm 165 [(3,pP y1),(4,pP y2)] a∧Hp w0 V27 ((rO 32 5 Z79 G4.2.2.1 P79 L48)::(rO 38 3 Z80 G4.t3.1 P80 L49)::(rO 3 1 Z81 G4.t4.1 P81 L50)::(rO 32 5 Z83 G4.t8.1 P83 L51)::(rO 32 5 Z84 G4.t9.1 P84 L52)::(Ent.obj aP (bh (Value.int .i64) vTD0 G4.t11))::(oC y2 #[sL Z78 G4.1 P78,iL G4.2.1,sL Z79 G4.2.2.1 P79,sL Z80 G4.t3.1 P80,sL Z81 G4.t4.1 P81,iL G4.t5.1] 66)::(oC y1 #[sL Z82 G4.t6.1 P82,iL G4.t7.1,sL Z83 G4.t8.1 P83,.map (some aP),sL Z84 G4.t9.1 P84,iL G4.t10.1] 62)::H) w))) (bu (n:=165) (w0:=w0) (M:=V2) (λ (I1,K1,Z6,P6,Z7,P7,L1,Z8,P8,L2,Z9,P9,Z10,P10,L3,Z11,P11,L4,Z12,P12,L5)=>[(3,pP y1),(4,pP y2),(26,sL A0 d0 cap0),(27,iL ((d0.length:Nat):Int)),(28,iL K1.1)]) (λ (I1,K1,Z6,P6,Z7,P7,L1,Z8,P8,L2,Z9,P9,Z10,P10,L3,Z11,P11,L4,Z12,P12,L5)=>((rO 32 5 Z7 K1.t3.1 P7 L1)::(rO 32 5 Z8 K1.t4.1 P8 L2)::(Ent.obj aP (bh (Value.int .i64) vTD0 K1.t6.1))::(rO 32 5 Z10 K1.t9.1 P10 L3)::(rO 38 3 Z11 K1.t10.1 P11 L4)::(rO 3 1 Z12 K1.t11.1 P12 L5)::(oC y2 #[sL Z9 K1.t7.1 P9,iL K1.t8.1,sL Z10 K1.t9.1 P10,sL Z11 K1.t10.1 P11,sL Z12 K1.t11.1 P12,iL K1.t12] 66)::(oC y1 #[sL Z6 K1.2.1 P6,iL K1.2.2.1,sL Z7 K1.t3.1 P7,.map (some aP),sL Z8 K1.t4.1 P8,iL K1.t5.1] 62)::H)) (λ (I1,K1,Z6,P6,Z7,P7,L1,Z8,P8,L2,Z9,P9,Z10,P10,L3,Z11,P11,L4,Z12,P12,L5) MM=>aN (ce n d0) I1 K1=some Q1∧Sli MM 3 aK Z6 P6 K1.2.1∧aa MM (K1.t3.1.map aJ) L1∧aa MM (K1.t4.1.map aJ) L2∧Sli MM 3 aK Z9 P9 K1.t7.1∧aa MM (K1.t9.1.map aJ) L3∧aa MM (K1.t10.1.map bK) L4∧aa MM (K1.t11.1.map (Dat.int .i64)) L5) (λ (I1,K1,Z6,P6,Z7,P7,L1,Z8,P8,L2,Z9,P9,Z10,P10,L3,Z11,P11,L4,Z12,P12,L5)=>I1) (n,((0:Int),([]:List TG0),(0:Int),([]:List TI0),([]:List TI0),(0:Int),([]:List (Int×TD0)),([]:List TG0),(0:Int),([]:List TI0),([]:List TD0),([]:List Int),(0:Int)),none,0,Z1,P1,[],Z2,P2,[],none,0,Z3,P3,[],Z4,P4,[],Z5,P5,[]) (f.kp) N17 ⟨bH,Sli.nil,D1,D2,Sli.nil,D3,D4,D5⟩ ?_) ?_
  ·rintro⟨I1,K1,Z6,P6,Z7,P7,L1,Z8,P8,L2,Z9,P9,Z10,P10,L3,Z11,P11,L4,Z12,P12,L5⟩ V3 _ W5 J3 dc f N18
   obtain⟨bI,B2,D6,D7,B3,D8,D9,D10⟩:=dc
   obtain⟨I2,jP,rfl,be,T1⟩:=aT bI
   unfold ce at be
   refine RR (Ye f 1 λ_ f=>ag (RcF f be (λB4 F8=>?_) λB4 F65=>?_))
   ·have U3:=dI.1 B4
    refine St (ag (wp_block (RR ?_)))
    obtain⟨X5,S5,F9⟩:=bS F8
    obtain⟨C1,cP,dS,-,D11,R1⟩:=Sli.at_ (h0.mono ((J1.trans J2).trans J3)) S5
    obtain⟨Z13,P13,rfl,B5⟩:=TB0.opn D11
    refine Z f (Y34 dS rfl (len:=d0.length) (cap:=cap0) (k:=.i64) (i:=K1.1) (e:=34) (sz:=7) (aF S5) (aE S5)) λ_ f=>Z f (Y36 (cs:=(lTB0 X5 Z13 P13)) rfl (ad:=C1.add (K1.1.toNat*7)) (λj v h=>N18.cell (R1 j v h))) λ_ f=>Y12 f N18 (.cells #[iL 0,iL 0,iL 0,iB 0,S [],S [],Sn] 34 (0,0)) λQ2 W6 N19 _ f=>Ys (lTB0 X5 Z13 P13) (aTB0 X5 Z13 P13) f N19 rfl rfl λW7 N20 _ f=>eT (ag (RR (Y f 1 λ_ f=>Z f (Y35 (v:=iL X5.jc) rfl (ad:=⟨Q2,0,none⟩) (N20.ownCell 0 rfl 0)) λ_ f=>eT ?_)))
    obtain⟨cX,bX,F10⟩:=bS F9
    refine bj (λa_111 W35=>∃G2:List TG0×Int×List TI0×List TD0×List Int×Int×List TG0×Int×List TI0×List TI0×Int× (List (Int×TD0)),cX=.nx G2∧∃V17:Mem,V3.le V17∧∃ (Z46:Oa),∃ (P46:Nat),∃ (Z47:Oa),∃ (P47:Nat),∃ (L26:Lv),∃ (Z48:Oa),∃ (P48:Nat),∃ (L27:Lv),∃ (Z49:Oa),∃ (P49:Nat),∃ (L28:Lv),∃ (Z50:Oa),∃ (P50:Nat),∃ (Z51:Oa),∃ (P51:Nat),∃ (L29:Lv),∃ (Z52:Oa),∃ (P52:Nat),∃ (L30:Lv),Sli V17 3 aK Z46 P46 G2.1∧aa V17 (G2.2.2.1.map aJ) L26∧aa V17 (G2.t3.1.map bK) L27∧aa V17 (G2.t4.1.map (Dat.int .i64)) L28∧Sli V17 3 aK Z50 P50 G2.t6.1∧aa V17 (G2.t8.1.map aJ) L29∧aa V17 (G2.t9.1.map aJ) L30∧Frm 165 [(3,pP y1),(4,pP y2),(26,sL A0 d0 cap0),(27,iL ((d0.length:Nat):Int)),(28,iL K1.1)] a_111∧Hp w0 V17 ((rO 32 5 Z47 G2.2.2.1 P47 L26)::(rO 38 3 Z48 G2.t3.1 P48 L27)::(rO 3 1 Z49 G2.t4.1 P49 L28)::(rO 32 5 Z51 G2.t8.1 P51 L29)::(rO 32 5 Z52 G2.t9.1 P52 L30)::(Ent.obj aP (bh (Value.int .i64) vTD0 G2.t11))::(oC y2 #[sL Z46 G2.1 P46,iL G2.2.1,sL Z47 G2.2.2.1 P47,sL Z48 G2.t3.1 P48,sL Z49 G2.t4.1 P49,iL G2.t5.1] 66)::(oC y1 #[sL Z50 G2.t6.1 P50,iL G2.t7.1,sL Z51 G2.t8.1 P51,.map (some aP),sL Z52 G2.t9.1 P52,iL G2.t10.1] 62)::(Ent.obj Q2 (.cells (aTB0 X5 Z13 P13) 34 (0,0)))::H) W35) ?_ ?_
    ·refine wp_block (RR (Ye f 2 λ_ f=>RcF f bX (λB6 F11=>?_) λB6 F17=>?_))
     ·have U4:=dI.1 B6
      refine ag ?_
      have N28:=N20.pl [8,8,8,8,8,8,8,8]
      refine oL (E:=[rO 32 5 Z7 K1.t3.1 P7 L1,rO 32 5 Z8 K1.t4.1 P8 L2,Ent.obj aP (bh (Value.int .i64) vTD0 K1.t6.1),rO 32 5 Z10 K1.t9.1 P10 L3,rO 38 3 Z11 K1.t10.1 P11 L4,rO 3 1 Z12 K1.t11.1 P12 L5,oC y2 #[sL Z9 K1.t7.1 P9,iL K1.t8.1,sL Z10 K1.t9.1 P10,sL Z11 K1.t10.1 P11,sL Z12 K1.t11.1 P12,iL K1.t12] 66,oC y1 #[sL Z6 K1.2.1 P6,iL K1.2.2.1,sL Z7 K1.t3.1 P7,.map (some aP),sL Z8 K1.t4.1 P8,iL K1.t5.1] 62]) (Hr:=((Ent.obj Q2 (.cells (aTB0 X5 Z13 P13) 34 (0,0)))::H)) [(0,true),(1,true),(2,true),(4,true),(5,true),(6,true),(3,false),(7,false),(8,true)] N28 kr kr rfl kr (Y0 default f 2 λ_ f=>iO (v:=.agg (aTI0 X5.fX Z13 P13)) f kr kr rfl rfl (λ_ pq=>Y36 (cs:=(lTI0 X5.fX Z13 P13)) rfl (ad:=⟨Q2,2,none⟩) (al (pq.ownCell 0 rfl) 2 rfl)) λ_ f=>Y0 default f 2 λ_ f=>iO (v:=.agg (aTI0 X5.fX Z13 P13)) f kr kr rfl rfl (λ_ pq=>Y36 (cs:=(lTI0 X5.fX Z13 P13)) rfl (ad:=⟨Q2,2,none⟩) (al (pq.ownCell 0 rfl) 2 rfl)) λ_ f=>eY (E:=[rO 32 5 Z7 K1.t3.1 P7 L1,rO 32 5 Z8 K1.t4.1 P8 L2,Ent.obj aP (bh (Value.int .i64) vTD0 K1.t6.1),rO 32 5 Z10 K1.t9.1 P10 L3,rO 38 3 Z11 K1.t10.1 P11 L4,rO 3 1 Z12 K1.t11.1 P12 L5,oC y2 #[sL Z9 K1.t7.1 P9,iL K1.t8.1,sL Z10 K1.t9.1 P10,sL Z11 K1.t10.1 P11,sL Z12 K1.t11.1 P12,iL K1.t12] 66,oC y1 #[sL Z6 K1.2.1 P6,iL K1.2.2.1,sL Z7 K1.t3.1 P7,.map (some aP),sL Z8 K1.t4.1 P8,iL K1.t5.1] 62]) λW8 N29=>?_)
      obtain⟨X6,S6,F12⟩:=bS F11
      have N34:=N29.pl [1,2,2,7]
      refine Y17 (E:=[oC y1 #[sL Z6 K1.2.1 P6,iL K1.2.2.1,sL Z7 K1.t3.1 P7,.map (some aP),sL Z8 K1.t4.1 P8,iL K1.t5.1] 62,rO 32 5 Z7 K1.t3.1 P7 L1,Ent.obj aP (bh (Value.int .i64) vTD0 K1.t6.1),rO 32 5 Z8 K1.t4.1 P8 L2]) (H:=((rO 32 5 Z10 K1.t9.1 P10 L3)::(rO 38 3 Z11 K1.t10.1 P11 L4)::(rO 3 1 Z12 K1.t11.1 P12 L5)::(oC y2 #[sL Z9 K1.t7.1 P9,iL K1.t8.1,sL Z10 K1.t9.1 P10,sL Z11 K1.t10.1 P11,sL Z12 K1.t11.1 P12,iL K1.t12] 66)::(Ent.obj Q2 (.cells (aTB0 X5 Z13 P13) 34 (0,0)))::H)) f N34 (gw n _ (GL.mono ((J1.trans J2).trans J3) hG) y1 K1.2.1 Z6 P6 B2 K1.2.2.1 K1.t3.1 Z7 P7 L1 D6 aP K1.t6.1 K1.t4.1 Z8 P8 L2 D7 K1.t5.1 _ (⟨X5.fX.ax,X5.fX.ab,X5.fX.af,X5.fX.am,X5.fX.ai⟩:TI0) (TI0.shut B5) X6 S6) λ_ V4 E_3 W9 J4 N30 q_3 _ f=>?_
      obtain⟨Z14,P14,Z15,P15,L6,Z16,P16,L7,rfl,rfl,B7,D12,D13⟩:=q_3
      refine aA rfl (jR (M1:=V4) (E:=[oC y1 #[sL Z14 X6.2.1 P14,iL X6.2.2.1,sL Z15 X6.t3.1 P15,.map (some aP),sL Z16 X6.t5.1 P16,iL X6.t6] 62,rO 32 5 Z15 X6.t3.1 P15 L6,Ent.obj aP (bh (Value.int .i64) vTD0 X6.t4.1),rO 32 5 Z16 X6.t5.1 P16 L7,rO 32 5 Z10 K1.t9.1 P10 L3,rO 38 3 Z11 K1.t10.1 P11 L4,rO 3 1 Z12 K1.t11.1 P12 L5,oC y2 #[sL Z9 K1.t7.1 P9,iL K1.t8.1,sL Z10 K1.t9.1 P10,sL Z11 K1.t10.1 P11,sL Z12 K1.t11.1 P12,iL K1.t12] 66]) J4 N30 (eY (E:=[oC y1 #[sL Z14 X6.2.1 P14,iL X6.2.2.1,sL Z15 X6.t3.1 P15,.map (some aP),sL Z16 X6.t5.1 P16,iL X6.t6] 62,rO 32 5 Z15 X6.t3.1 P15 L6,Ent.obj aP (bh (Value.int .i64) vTD0 X6.t4.1),rO 32 5 Z16 X6.t5.1 P16 L7,rO 32 5 Z10 K1.t9.1 P10 L3,rO 38 3 Z11 K1.t10.1 P11 L4,rO 3 1 Z12 K1.t11.1 P12 L5,oC y2 #[sL Z9 K1.t7.1 P9,iL K1.t8.1,sL Z10 K1.t9.1 P10,sL Z11 K1.t10.1 P11,sL Z12 K1.t11.1 P12,iL K1.t12] 66]) λW10 N35=>?_))
      obtain⟨X7,S7,F13⟩:=bS F12
      have N40:=N35.pl [6,6,6,7]
      refine Y17 (E:=[oC y2 #[sL Z9 K1.t7.1 P9,iL K1.t8.1,sL Z10 K1.t9.1 P10,sL Z11 K1.t10.1 P11,sL Z12 K1.t11.1 P12,iL K1.t12] 66,rO 32 5 Z10 K1.t9.1 P10 L3,rO 38 3 Z11 K1.t10.1 P11 L4,rO 3 1 Z12 K1.t11.1 P12 L5]) (H:=((oC y1 #[sL Z14 X6.2.1 P14,iL X6.2.2.1,sL Z15 X6.t3.1 P15,.map (some aP),sL Z16 X6.t5.1 P16,iL X6.t6] 62)::(rO 32 5 Z15 X6.t3.1 P15 L6)::(Ent.obj aP (bh (Value.int .i64) vTD0 X6.t4.1))::(rO 32 5 Z16 X6.t5.1 P16 L7)::(Ent.obj Q2 (.cells (aTB0 X5 Z13 P13) 34 (0,0)))::H)) f N40 (mr n _ (GL.mono (((J1.trans J2).trans J3).trans J4) hG) y2 K1.t7.1 Z9 P9 (B3.mono J4) K1.t8.1 K1.t9.1 Z10 P10 L3 (aa.mono J4 _ _ D8) K1.t10.1 Z11 P11 L4 (aa.mono J4 _ _ D9) K1.t11.1 Z12 P12 L5 (aa.mono J4 _ _ D10) K1.t12 _ (⟨X5.fX.ax,X5.fX.ab,X5.fX.af,X5.fX.am,X5.fX.ai⟩:TI0) (TI0.shut (B5.mono J4)) X7 S7) λ_ V5 E_4 W11 J5 N36 q_4 _ f=>?_
      obtain⟨Z17,P17,Z18,P18,L8,Z19,P19,L9,Z20,P20,L10,rfl,rfl,B8,D14,D15,D16⟩:=q_4
      refine aA rfl (jR (M1:=V5) (E:=[oC y2 #[sL Z17 X7.2.1 P17,iL X7.2.2.1,sL Z18 X7.t3.1 P18,sL Z19 X7.t4.1 P19,sL Z20 X7.t5.1 P20,iL X7.t6] 66,rO 32 5 Z18 X7.t3.1 P18 L8,rO 38 3 Z19 X7.t4.1 P19 L9,rO 3 1 Z20 X7.t5.1 P20 L10,oC y1 #[sL Z14 X6.2.1 P14,iL X6.2.2.1,sL Z15 X6.t3.1 P15,.map (some aP),sL Z16 X6.t5.1 P16,iL X6.t6] 62,rO 32 5 Z15 X6.t3.1 P15 L6,Ent.obj aP (bh (Value.int .i64) vTD0 X6.t4.1),rO 32 5 Z16 X6.t5.1 P16 L7]) (J4.trans J5) N36 (Y0 default f 1 λ_ f=>mB rfl λW12 N41=>aH (RcF f F13 (λB9 F14=>?_) λB9 F16=>?_)))
      ·have U5: ¬ (X6.1=X7.1):=(av dI).1 B9
       refine RR (Ye f 1 λ_ f=>wp_ret (bV ?_))
       have F15:=cC F14 F10
       refine aS (aS (bV (aS ?_)))
       have N184:=N41.pl [4,1,6,7,7,7,7,7,8]
       refine aS ?_
       cases sI F15
       exact .inl ⟨rfl,(X7.2.1,X7.2.2.1,X7.t3.1,X7.t4.1,X7.t5.1,X7.t6,X6.2.1,X6.2.2.1,X6.t3.1,X6.t5.1,X6.t6,X6.t4.1),(sI T1).symm,V5,((J3.trans J4).trans J5),Z17,P17,Z18,P18,L8,Z19,P19,L9,Z20,P20,L10,Z14,P14,Z15,P15,L6,Z16,P16,L7,B8,D14,D15,D16,(B7.mono J5),(aa.mono J5 _ _ D12),(aa.mono J5 _ _ D13),f.kp,(N184.dropN 1)⟩
      ·have U6: ¬ (¬ (X6.1=X7.1)):=ap (av dI) B9
       refine wp_skip (cG ?_)
       have N104:=N41.pl [8,5,2,7,8,8,8,8,8]
       refine aH ?_
       exact⟨(X7.2.1,X7.2.2.1,X7.t3.1,X7.t4.1,X7.t5.1,X7.t6,X6.2.1,X6.2.2.1,X6.t3.1,X6.t5.1,X6.t6,X6.t4.1),(sI F16).symm,V5,(J4.trans J5),Z17,P17,Z18,P18,L8,Z19,P19,L9,Z20,P20,L10,Z14,P14,Z15,P15,L6,Z16,P16,L7,B8,D14,D15,D16,(B7.mono J5),(aa.mono J5 _ _ D12),(aa.mono J5 _ _ D13),f.kp,N104⟩
     ·have U7:=ap dI B6
      refine ag (RR (Ye f 2 λ_ f=>?_))
      obtain⟨jd,eW,F18⟩:=bS F17
      refine bj (λa_29 W13=>∃G1:Bool,jd=G1∧∃V6:Mem,V3.le V6∧Frm 165 [(3,pP y1),(4,pP y2),(6,pP Q2),(26,sL A0 d0 cap0),(27,iL ((d0.length:Nat):Int)),(28,iL K1.1),(33,iL X5.jc),(45,bO G1)] a_29∧Hp w0 V6 ((Ent.obj Q2 (.cells (aTB0 X5 Z13 P13) 34 (0,0)))::(rO 32 5 Z7 K1.t3.1 P7 L1)::(rO 32 5 Z8 K1.t4.1 P8 L2)::(Ent.obj aP (bh (Value.int .i64) vTD0 K1.t6.1))::(rO 32 5 Z10 K1.t9.1 P10 L3)::(rO 38 3 Z11 K1.t10.1 P11 L4)::(rO 3 1 Z12 K1.t11.1 P12 L5)::(oC y2 #[sL Z9 K1.t7.1 P9,iL K1.t8.1,sL Z10 K1.t9.1 P10,sL Z11 K1.t10.1 P11,sL Z12 K1.t11.1 P12,iL K1.t12] 66)::(oC y1 #[sL Z6 K1.2.1 P6,iL K1.2.2.1,sL Z7 K1.t3.1 P7,.map (some aP),sL Z8 K1.t4.1 P8,iL K1.t5.1] 62)::H) W13) ?_ ?_
      ·refine RcF f eW (λB10 F19=>?_) λB10 F20=>?_
       ·have U8:=dI.1 B10
        refine St ?_
        exact⟨(decide (X5.jc=1)),(sI F19).symm,V3,(mR _),f.kp,N20⟩
       ·have U9:=ap dI B10
        refine aI (Ye f 2 λ_ f=>?_)
        exact⟨(decide (X5.jc=2)),(sI F20).symm,V3,(mR _),f.kp,N20⟩
      ·rintro a_29 W13 ⟨G1,dg,V6,J6,f,N42⟩
       subst jd
       refine aH (RcF f F18 (λB11 F21=>?_) λB11 F33=>?_)
       ·refine RR (Y f 2 λ_ f=>Z f (Y35 (v:=iL X5.fN) rfl (ad:=⟨Q2,1,none⟩) (N42.ownCell 0 rfl 1)) λ_ f=>Y f 1 λ_ f=>Z f (Y35 (v:=iL X5.jc) rfl (ad:=⟨Q2,0,none⟩) (N42.ownCell 0 rfl 0)) λ_ f=>Y f 1 λ_ f=>?_)
        obtain⟨X8,S8,F22⟩:=bS F21
        have N47:=N42.pl [2,3,3,8]
        refine Y17 (E:=[oC y1 #[sL Z6 K1.2.1 P6,iL K1.2.2.1,sL Z7 K1.t3.1 P7,.map (some aP),sL Z8 K1.t4.1 P8,iL K1.t5.1] 62,rO 32 5 Z7 K1.t3.1 P7 L1,Ent.obj aP (bh (Value.int .i64) vTD0 K1.t6.1),rO 32 5 Z8 K1.t4.1 P8 L2]) (H:=((Ent.obj Q2 (.cells (aTB0 X5 Z13 P13) 34 (0,0)))::(rO 32 5 Z10 K1.t9.1 P10 L3)::(rO 38 3 Z11 K1.t10.1 P11 L4)::(rO 3 1 Z12 K1.t11.1 P12 L5)::(oC y2 #[sL Z9 K1.t7.1 P9,iL K1.t8.1,sL Z10 K1.t9.1 P10,sL Z11 K1.t10.1 P11,sL Z12 K1.t11.1 P12,iL K1.t12] 66)::H)) f N47 (kR n _ (GL.mono (((J1.trans J2).trans J3).trans J6) hG) y1 K1.2.1 Z6 P6 (B2.mono J6) K1.2.2.1 K1.t3.1 Z7 P7 L1 (aa.mono J6 _ _ D6) aP K1.t6.1 K1.t4.1 Z8 P8 L2 (aa.mono J6 _ _ D7) K1.t5.1 X5.fN (decide (X5.jc=1)) X8 S8) λ_ V7 E_5 W14 J7 N43 q_5 _ f=>?_
        obtain⟨jX,Z21,P21,Z22,P22,L11,Z23,P23,L12,rfl,rfl,D17,B12,D18,D19⟩:=q_5
        obtain rfl:=TD0.opn D17
        refine Y f 4 λ_ f=>Y12 f N43 (.cells #[bO false,bO false,S []] 38 (0,0)) λQ3 W15 N48 _ f=>Y f 1 λ_ f=>Ys (lTD0 X8.2.1) (aTD0 X8.2.1) f N48 rfl rfl λW16 N49 _ f=>Ye f 1 λ_ f=>RR (Y f 2 λ_ f=>Z f (Y35 (v:=iL X5.fN) rfl (ad:=⟨Q2,1,none⟩) (N49.ownCell 5 rfl 1)) λ_ f=>Y f 1 λ_ f=>Z f (Y35 (v:=iL X5.jc) rfl (ad:=⟨Q2,0,none⟩) (N49.ownCell 5 rfl 0)) λ_ f=>Y f 1 λ_ f=>?_)
        obtain⟨X9,S9,F23⟩:=bS F22
        have N54:=N49.pl [8,8,8,9]
        refine Y17 (E:=[oC y2 #[sL Z9 K1.t7.1 P9,iL K1.t8.1,sL Z10 K1.t9.1 P10,sL Z11 K1.t10.1 P11,sL Z12 K1.t11.1 P12,iL K1.t12] 66,rO 32 5 Z10 K1.t9.1 P10 L3,rO 38 3 Z11 K1.t10.1 P11 L4,rO 3 1 Z12 K1.t11.1 P12 L5]) (H:=((Ent.obj Q3 (.cells (aTD0 X8.2.1) 38 (0,0)))::(oC y1 #[sL Z21 X8.t3.1 P21,iL X8.t4.1,sL Z22 X8.t5.1 P22,.map (some aP),sL Z23 X8.t7.1 P23,iL X8.t8] 62)::(rO 32 5 Z22 X8.t5.1 P22 L11)::(Ent.obj aP (bh (Value.int .i64) vTD0 X8.t6.1))::(rO 32 5 Z23 X8.t7.1 P23 L12)::(Ent.obj Q2 (.cells (aTB0 X5 Z13 P13) 34 (0,0)))::H)) f N54 (oy n _ (GL.mono ((((J1.trans J2).trans J3).trans J6).trans J7) hG) y2 K1.t7.1 Z9 P9 (B3.mono (J6.trans J7)) K1.t8.1 K1.t9.1 Z10 P10 L3 (aa.mono (J6.trans J7) _ _ D8) K1.t10.1 Z11 P11 L4 (aa.mono (J6.trans J7) _ _ D9) K1.t11.1 Z12 P12 L5 (aa.mono (J6.trans J7) _ _ D10) K1.t12 X5.fN (decide (X5.jc=1)) X9 S9) λ_ V8 E_6 W17 J8 N50 q_6 _ f=>?_
        obtain⟨c_3,Z24,P24,Z25,P25,L13,Z26,P26,L14,Z27,P27,L15,rfl,rfl,D20,B13,D21,D22,D23⟩:=q_6
        obtain rfl:=TD0.opn D20
        refine Y f 4 λ_ f=>Y12 f N50 (.cells #[bO false,bO false,S []] 38 (0,0)) λQ4 W18 N55 _ f=>Y f 1 λ_ f=>Ys (lTD0 X9.2.1) (aTD0 X9.2.1) f N55 rfl rfl λW19 N56 _ f=>Ye f 1 λ_ f=>RR (Y f 4 λ_ f=>?_)
        rcases cE F23 with⟨B14,F24⟩|⟨B14,F26⟩
        ·have U11: ¬ (X8.1=X9.1):=(av dI).1 B14
         have f:=f.st 73 (cB B14)
         refine Ye f 9 λ_ f=>Y8 f (RR (Ye f 1 λ_ f=>wp_ret (bV ?_)))
         have F25:=cC F24 F10
         refine aS (aS (bV (aS ?_)))
         have N195:=N56.pl [6,2,8,9,9,8,8,8,10,10,10]
         refine aS ?_
         cases sI F25
         exact .inl ⟨rfl,(X9.t3.1,X9.t4.1,X9.t5.1,X9.t6.1,X9.t7.1,X9.t8,X8.t3.1,X8.t4.1,X8.t5.1,X8.t7.1,X8.t8,X8.t6.1),(sI T1).symm,V8,(((J3.trans J6).trans J7).trans J8),Z24,P24,Z25,P25,L13,Z26,P26,L14,Z27,P27,L15,Z21,P21,Z22,P22,L11,Z23,P23,L12,B13,D21,D22,D23,(B12.mono J8),(aa.mono J8 _ _ D18),(aa.mono J8 _ _ D19),f.kp,(N195.dropN 3)⟩
        ·have U12: ¬ (¬ (X8.1=X9.1)):=ap (av dI) B14
         have f:=f.st 73 (cB B14)
         refine Z f (Y36 (cs:=(lTD0 X8.2.1)) rfl (ad:=⟨Q3,0,none⟩) (al (N56.ownCell 5 rfl) 0 rfl)) λ_ f=>Z f (Y36 (cs:=(lTD0 X9.2.1)) rfl (ad:=⟨Q4,0,none⟩) (al (N56.ownCell 0 rfl) 0 rfl)) λ_ f=>Z (v:=bO (!(andL [(X8.2.1.aq==X9.2.1.aq),(X8.2.1.bC==X9.2.1.bC),decide (X8.2.1.af=X9.2.1.af)]))) f (Y31 rfl (xs:=(aTD0 X8.2.1)) (ys:=(aTD0 X9.2.1)) (s:=[(4,0),(4,1),(9,2)]) (rs:=[(X8.2.1.aq==X9.2.1.aq),(X8.2.1.bC==X9.2.1.bC),decide (X8.2.1.af=X9.2.1.af)]) (λw=>⟨⟨.bool X8.2.1.aq,bO X9.2.1.aq,by kernel_rfl,by kernel_rfl,EqB kr⟩,⟨.bool X8.2.1.bC,bO X9.2.1.bC,by kernel_rfl,by kernel_rfl,EqB kr⟩,⟨S X8.2.1.af,S X9.2.1.af,by kernel_rfl,by kernel_rfl,EqS kr⟩,trivial⟩) _) λ_ f=>Y f 2 λ_ f=>?_
         rcases cE F26 with⟨B15,F27⟩|⟨B15,F29⟩
         ·have U13: (andL [(X8.2.1.aq==X9.2.1.aq),(X8.2.1.bC==X9.2.1.bC),decide (X8.2.1.af=X9.2.1.af)])=false:=by simpa using B15
          have f:=f.st 78 (cB B15)
          refine Ye f 4 λ_ f=>Y8 f (RR (Ye f 1 λ_ f=>wp_ret (bV ?_)))
          have F28:=cC F27 F10
          refine aS (aS (bV (aS ?_)))
          have N206:=N56.pl [6,2,8,9,9,8,8,8,10,10,10]
          refine aS ?_
          cases sI F28
          exact .inl ⟨rfl,(X9.t3.1,X9.t4.1,X9.t5.1,X9.t6.1,X9.t7.1,X9.t8,X8.t3.1,X8.t4.1,X8.t5.1,X8.t7.1,X8.t8,X8.t6.1),(sI T1).symm,V8,(((J3.trans J6).trans J7).trans J8),Z24,P24,Z25,P25,L13,Z26,P26,L14,Z27,P27,L15,Z21,P21,Z22,P22,L11,Z23,P23,L12,B13,D21,D22,D23,(B12.mono J8),(aa.mono J8 _ _ D18),(aa.mono J8 _ _ D19),f.kp,(N206.dropN 3)⟩
         ·have U14: (andL [(X8.2.1.aq==X9.2.1.aq),(X8.2.1.bC==X9.2.1.bC),decide (X8.2.1.af=X9.2.1.af)])=true:=by simpa using B15
          have f:=f.st 78 (cB B15)
          refine Ye f 4 λ_ f=>RcF f F29 (λB16 F30=>?_) λB16 F32=>?_
          ·have U15: ¬ (X8.2.2.1=X9.2.2.1):=(av dI).1 B16
           refine RR (Ye f 1 λ_ f=>wp_ret (bV ?_))
           have F31:=cC F30 F10
           refine aS (aS (bV (aS ?_)))
           have N217:=N56.pl [6,2,8,9,9,8,8,8,10,10,10]
           refine aS ?_
           cases sI F31
           exact .inl ⟨rfl,(X9.t3.1,X9.t4.1,X9.t5.1,X9.t6.1,X9.t7.1,X9.t8,X8.t3.1,X8.t4.1,X8.t5.1,X8.t7.1,X8.t8,X8.t6.1),(sI T1).symm,V8,(((J3.trans J6).trans J7).trans J8),Z24,P24,Z25,P25,L13,Z26,P26,L14,Z27,P27,L15,Z21,P21,Z22,P22,L11,Z23,P23,L12,B13,D21,D22,D23,(B12.mono J8),(aa.mono J8 _ _ D18),(aa.mono J8 _ _ D19),f.kp,(N217.dropN 3)⟩
          ·have U16: ¬ (¬ (X8.2.2.1=X9.2.2.1)):=ap (av dI) B16
           refine wp_skip (cG ?_)
           have N115:=N56.pl [10,7,3,9,10,10,9,9,9,10,10]
           refine aH ?_
           exact⟨(X9.t3.1,X9.t4.1,X9.t5.1,X9.t6.1,X9.t7.1,X9.t8,X8.t3.1,X8.t4.1,X8.t5.1,X8.t7.1,X8.t8,X8.t6.1),(sI F32).symm,V8,((J6.trans J7).trans J8),Z24,P24,Z25,P25,L13,Z26,P26,L14,Z27,P27,L15,Z21,P21,Z22,P22,L11,Z23,P23,L12,B13,D21,D22,D23,(B12.mono J8),(aa.mono J8 _ _ D18),(aa.mono J8 _ _ D19),f.kp,(N115.dropN 2)⟩
       ·refine RR (Ye f 2 λ_ f=>RcF f F33 (λB17 F34=>?_) λB17 F43=>?_)
        ·have U18:=dI.1 B17
         refine RR (Y f 2 λ_ f=>Z f (Y35 (v:=iL X5.fN) rfl (ad:=⟨Q2,1,none⟩) (N42.ownCell 0 rfl 1)) λ_ f=>?_)
         obtain⟨X10,S10,F35⟩:=bS F34
         have N61:=N42.pl [2,3,3,8]
         refine Y17 (E:=[oC y1 #[sL Z6 K1.2.1 P6,iL K1.2.2.1,sL Z7 K1.t3.1 P7,.map (some aP),sL Z8 K1.t4.1 P8,iL K1.t5.1] 62,rO 32 5 Z7 K1.t3.1 P7 L1,Ent.obj aP (bh (Value.int .i64) vTD0 K1.t6.1),rO 32 5 Z8 K1.t4.1 P8 L2]) (H:=((Ent.obj Q2 (.cells (aTB0 X5 Z13 P13) 34 (0,0)))::(rO 32 5 Z10 K1.t9.1 P10 L3)::(rO 38 3 Z11 K1.t10.1 P11 L4)::(rO 3 1 Z12 K1.t11.1 P12 L5)::(oC y2 #[sL Z9 K1.t7.1 P9,iL K1.t8.1,sL Z10 K1.t9.1 P10,sL Z11 K1.t10.1 P11,sL Z12 K1.t11.1 P12,iL K1.t12] 66)::H)) f N61 (oz n _ (GL.mono (((J1.trans J2).trans J3).trans J6) hG) y1 K1.2.1 Z6 P6 (B2.mono J6) K1.2.2.1 K1.t3.1 Z7 P7 L1 (aa.mono J6 _ _ D6) aP K1.t6.1 K1.t4.1 Z8 P8 L2 (aa.mono J6 _ _ D7) K1.t5.1 X5.fN X10 S10) λ_ V9 E_7 W20 J9 N57 q_7 _ f=>?_
         obtain⟨c_4,Z28,P28,Z29,P29,L16,Z30,P30,L17,rfl,rfl,D24,B18,D25,D26⟩:=q_7
         obtain rfl:=TD0.opn D24
         refine Y f 3 λ_ f=>Y12 f N57 (.cells #[bO false,bO false,S []] 38 (0,0)) λQ5 W21 N62 _ f=>Ys (lTD0 X10.1) (aTD0 X10.1) f N62 rfl rfl λW22 N63 _ f=>Ye f 1 λ_ f=>RR (Y f 2 λ_ f=>Z f (Y35 (v:=iL X5.fN) rfl (ad:=⟨Q2,1,none⟩) (N63.ownCell 5 rfl 1)) λ_ f=>?_)
         obtain⟨X11,S11,F36⟩:=bS F35
         have N68:=N63.pl [8,8,8,9]
         refine Y17 (E:=[oC y2 #[sL Z9 K1.t7.1 P9,iL K1.t8.1,sL Z10 K1.t9.1 P10,sL Z11 K1.t10.1 P11,sL Z12 K1.t11.1 P12,iL K1.t12] 66,rO 32 5 Z10 K1.t9.1 P10 L3,rO 38 3 Z11 K1.t10.1 P11 L4,rO 3 1 Z12 K1.t11.1 P12 L5]) (H:=((Ent.obj Q5 (.cells (aTD0 X10.1) 38 (0,0)))::(oC y1 #[sL Z28 X10.2.2.1 P28,iL X10.t3.1,sL Z29 X10.t4.1 P29,.map (some aP),sL Z30 X10.t6.1 P30,iL X10.t7] 62)::(rO 32 5 Z29 X10.t4.1 P29 L16)::(Ent.obj aP (bh (Value.int .i64) vTD0 X10.t5.1))::(rO 32 5 Z30 X10.t6.1 P30 L17)::(Ent.obj Q2 (.cells (aTB0 X5 Z13 P13) 34 (0,0)))::H)) f N68 (oA n _ (GL.mono ((((J1.trans J2).trans J3).trans J6).trans J9) hG) y2 K1.t7.1 Z9 P9 (B3.mono (J6.trans J9)) K1.t8.1 K1.t9.1 Z10 P10 L3 (aa.mono (J6.trans J9) _ _ D8) K1.t10.1 Z11 P11 L4 (aa.mono (J6.trans J9) _ _ D9) K1.t11.1 Z12 P12 L5 (aa.mono (J6.trans J9) _ _ D10) K1.t12 X5.fN X11 S11) λ_ V10 E_8 W23 J10 N64 q_8 _ f=>?_
         obtain⟨c_5,Z31,P31,Z32,P32,L18,Z33,P33,L19,Z34,P34,L20,rfl,rfl,D27,B19,D28,D29,D30⟩:=q_8
         obtain rfl:=TD0.opn D27
         refine Y f 3 λ_ f=>Y12 f N64 (.cells #[bO false,bO false,S []] 38 (0,0)) λQ6 W24 N69 _ f=>Ys (lTD0 X11.1) (aTD0 X11.1) f N69 rfl rfl λW25 N70 _ f=>Ye f 1 λ_ f=>RR (Z f (Y36 (cs:=(lTD0 X10.1)) rfl (ad:=⟨Q5,0,none⟩) (al (N70.ownCell 5 rfl) 0 rfl)) λ_ f=>Z f (Y36 (cs:=(lTD0 X11.1)) rfl (ad:=⟨Q6,0,none⟩) (al (N70.ownCell 0 rfl) 0 rfl)) λ_ f=>Z (v:=bO (!(andL [(X10.1.aq==X11.1.aq),(X10.1.bC==X11.1.bC),decide (X10.1.af=X11.1.af)]))) f (Y31 rfl (xs:=(aTD0 X10.1)) (ys:=(aTD0 X11.1)) (s:=[(4,0),(4,1),(9,2)]) (rs:=[(X10.1.aq==X11.1.aq),(X10.1.bC==X11.1.bC),decide (X10.1.af=X11.1.af)]) (λw=>⟨⟨.bool X10.1.aq,bO X11.1.aq,by kernel_rfl,by kernel_rfl,EqB kr⟩,⟨.bool X10.1.bC,bO X11.1.bC,by kernel_rfl,by kernel_rfl,EqB kr⟩,⟨S X10.1.af,S X11.1.af,by kernel_rfl,by kernel_rfl,EqS kr⟩,trivial⟩) _) λ_ f=>Y f 1 λ_ f=>?_)
         rcases cE F36 with⟨B20,F37⟩|⟨B20,F39⟩
         ·have U19: (andL [(X10.1.aq==X11.1.aq),(X10.1.bC==X11.1.bC),decide (X10.1.af=X11.1.af)])=false:=by simpa using B20
          have f:=f.st 102 (cB B20)
          refine Ye f 4 λ_ f=>Y8 f (RR (Ye f 1 λ_ f=>wp_ret (bV ?_)))
          have F38:=cC F37 F10
          refine aS (aS (bV (aS ?_)))
          have N228:=N70.pl [6,2,8,9,9,8,8,8,10,10,10]
          refine aS ?_
          cases sI F38
          exact .inl ⟨rfl,(X11.2.2.1,X11.t3.1,X11.t4.1,X11.t5.1,X11.t6.1,X11.t7,X10.2.2.1,X10.t3.1,X10.t4.1,X10.t6.1,X10.t7,X10.t5.1),(sI T1).symm,V10,(((J3.trans J6).trans J9).trans J10),Z31,P31,Z32,P32,L18,Z33,P33,L19,Z34,P34,L20,Z28,P28,Z29,P29,L16,Z30,P30,L17,B19,D28,D29,D30,(B18.mono J10),(aa.mono J10 _ _ D25),(aa.mono J10 _ _ D26),f.kp,(N228.dropN 3)⟩
         ·have U20: (andL [(X10.1.aq==X11.1.aq),(X10.1.bC==X11.1.bC),decide (X10.1.af=X11.1.af)])=true:=by simpa using B20
          have f:=f.st 102 (cB B20)
          refine Ye f 4 λ_ f=>RcF f F39 (λB21 F40=>?_) λB21 F42=>?_
          ·have U21: (X10.2.1==X11.2.1)=false:=by simpa using B21
           refine RR (Ye f 1 λ_ f=>wp_ret (bV ?_))
           have F41:=cC F40 F10
           refine aS (aS (bV (aS ?_)))
           have N239:=N70.pl [6,2,8,9,9,8,8,8,10,10,10]
           refine aS ?_
           cases sI F41
           exact .inl ⟨rfl,(X11.2.2.1,X11.t3.1,X11.t4.1,X11.t5.1,X11.t6.1,X11.t7,X10.2.2.1,X10.t3.1,X10.t4.1,X10.t6.1,X10.t7,X10.t5.1),(sI T1).symm,V10,(((J3.trans J6).trans J9).trans J10),Z31,P31,Z32,P32,L18,Z33,P33,L19,Z34,P34,L20,Z28,P28,Z29,P29,L16,Z30,P30,L17,B19,D28,D29,D30,(B18.mono J10),(aa.mono J10 _ _ D25),(aa.mono J10 _ _ D26),f.kp,(N239.dropN 3)⟩
          ·have U22: (X10.2.1==X11.2.1)=true:=by simpa using B21
           refine wp_skip (cG ?_)
           have N126:=N70.pl [10,7,3,9,10,10,9,9,9,10,10]
           refine aH ?_
           exact⟨(X11.2.2.1,X11.t3.1,X11.t4.1,X11.t5.1,X11.t6.1,X11.t7,X10.2.2.1,X10.t3.1,X10.t4.1,X10.t6.1,X10.t7,X10.t5.1),(sI F42).symm,V10,((J6.trans J9).trans J10),Z31,P31,Z32,P32,L18,Z33,P33,L19,Z34,P34,L20,Z28,P28,Z29,P29,L16,Z30,P30,L17,B19,D28,D29,D30,(B18.mono J10),(aa.mono J10 _ _ D25),(aa.mono J10 _ _ D26),f.kp,(N126.dropN 2)⟩
        ·have U23:=ap dI B17
         refine RR (Ye f 2 λ_ f=>RcF f F43 (λB22 F44=>?_) λB22 F54=>?_)
         ·have U24:=dI.1 B22
          refine RR (Y f 3 λ_ f=>Z f (Y35 (v:=S X5.fX.af) rfl (ad:=⟨Q2,4,none⟩) (N42.ownCell 0 rfl 4)) λ_ f=>?_)
          obtain⟨X12,S12,F45⟩:=bS F44
          have N75:=N42.pl [2,3,3,8]
          refine Y17 (E:=[oC y1 #[sL Z6 K1.2.1 P6,iL K1.2.2.1,sL Z7 K1.t3.1 P7,.map (some aP),sL Z8 K1.t4.1 P8,iL K1.t5.1] 62,rO 32 5 Z7 K1.t3.1 P7 L1,Ent.obj aP (bh (Value.int .i64) vTD0 K1.t6.1),rO 32 5 Z8 K1.t4.1 P8 L2]) (H:=((Ent.obj Q2 (.cells (aTB0 X5 Z13 P13) 34 (0,0)))::(rO 32 5 Z10 K1.t9.1 P10 L3)::(rO 38 3 Z11 K1.t10.1 P11 L4)::(rO 3 1 Z12 K1.t11.1 P12 L5)::(oC y2 #[sL Z9 K1.t7.1 P9,iL K1.t8.1,sL Z10 K1.t9.1 P10,sL Z11 K1.t10.1 P11,sL Z12 K1.t11.1 P12,iL K1.t12] 66)::H)) f N75 (oB n _ (GL.mono (((J1.trans J2).trans J3).trans J6) hG) y1 K1.2.1 Z6 P6 (B2.mono J6) K1.2.2.1 K1.t3.1 Z7 P7 L1 (aa.mono J6 _ _ D6) aP K1.t6.1 K1.t4.1 Z8 P8 L2 (aa.mono J6 _ _ D7) K1.t5.1 X5.fX.af X12 S12) λ_ V11 E_9 W26 J11 N71 q_9 _ f=>?_
          obtain⟨c_6,Z35,P35,Z36,P36,L21,Z37,P37,L22,rfl,rfl,D31,B23,D32,D33⟩:=q_9
          obtain⟨Z38,P38,rfl,B24⟩:=TG0.opn D31
          refine Y f 3 λ_ f=>Y12 f N71 (.cells #[S [],S [],Sn] 44 (0,0)) λQ7 W27 N76 _ f=>Ys (lTG0 X12.1 Z38 P38) (aTG0 X12.1 Z38 P38) f N76 rfl rfl λW28 N77 _ f=>Ye f 1 λ_ f=>RR (Y f 3 λ_ f=>Z f (Y35 (v:=S X5.fX.af) rfl (ad:=⟨Q2,4,none⟩) (N77.ownCell 5 rfl 4)) λ_ f=>?_)
          obtain⟨X13,S13,F46⟩:=bS F45
          have N82:=N77.pl [8,8,8,9]
          refine Y17 (E:=[oC y2 #[sL Z9 K1.t7.1 P9,iL K1.t8.1,sL Z10 K1.t9.1 P10,sL Z11 K1.t10.1 P11,sL Z12 K1.t11.1 P12,iL K1.t12] 66,rO 32 5 Z10 K1.t9.1 P10 L3,rO 38 3 Z11 K1.t10.1 P11 L4,rO 3 1 Z12 K1.t11.1 P12 L5]) (H:=((Ent.obj Q7 (.cells (aTG0 X12.1 Z38 P38) 44 (0,0)))::(oC y1 #[sL Z35 X12.2.2.1 P35,iL X12.t3.1,sL Z36 X12.t4.1 P36,.map (some aP),sL Z37 X12.t6.1 P37,iL X12.t7] 62)::(rO 32 5 Z36 X12.t4.1 P36 L21)::(Ent.obj aP (bh (Value.int .i64) vTD0 X12.t5.1))::(rO 32 5 Z37 X12.t6.1 P37 L22)::(Ent.obj Q2 (.cells (aTB0 X5 Z13 P13) 34 (0,0)))::H)) f N82 (oD n _ (GL.mono ((((J1.trans J2).trans J3).trans J6).trans J11) hG) y2 K1.t7.1 Z9 P9 (B3.mono (J6.trans J11)) K1.t8.1 K1.t9.1 Z10 P10 L3 (aa.mono (J6.trans J11) _ _ D8) K1.t10.1 Z11 P11 L4 (aa.mono (J6.trans J11) _ _ D9) K1.t11.1 Z12 P12 L5 (aa.mono (J6.trans J11) _ _ D10) K1.t12 X5.fX.af X13 S13) λ_ V12 E_10 W29 J12 N78 q_10 _ f=>?_
          obtain⟨c_7,Z39,P39,Z40,P40,L23,Z41,P41,L24,Z42,P42,L25,rfl,rfl,D34,B25,D35,D36,D37⟩:=q_10
          obtain⟨Z43,P43,rfl,B26⟩:=TG0.opn D34
          refine Y f 3 λ_ f=>Y12 f N78 (.cells #[S [],S [],Sn] 44 (0,0)) λQ8 W30 N83 _ f=>Ys (lTG0 X13.1 Z43 P43) (aTG0 X13.1 Z43 P43) f N83 rfl rfl λW31 N84 _ f=>Ye f 1 λ_ f=>RR (Y f 4 λ_ f=>?_)
          rcases cE F46 with⟨B27,F47⟩|⟨B27,F49⟩
          ·have U25: (X12.2.1==X13.2.1)=false:=by simpa using B27
           have f:=f.st 128 (cB B27)
           refine Ye f 7 λ_ f=>Y8 f (RR (Ye f 1 λ_ f=>wp_ret (bV ?_)))
           have F48:=cC F47 F10
           refine aS (aS (bV (aS ?_)))
           have N250:=N84.pl [6,2,8,9,9,8,8,8,10,10,10]
           refine aS ?_
           cases sI F48
           exact .inl ⟨rfl,(X13.2.2.1,X13.t3.1,X13.t4.1,X13.t5.1,X13.t6.1,X13.t7,X12.2.2.1,X12.t3.1,X12.t4.1,X12.t6.1,X12.t7,X12.t5.1),(sI T1).symm,V12,(((J3.trans J6).trans J11).trans J12),Z39,P39,Z40,P40,L23,Z41,P41,L24,Z42,P42,L25,Z35,P35,Z36,P36,L21,Z37,P37,L22,B25,D35,D36,D37,(B23.mono J12),(aa.mono J12 _ _ D32),(aa.mono J12 _ _ D33),f.kp,(N250.dropN 3)⟩
          ·have U26: (X12.2.1==X13.2.1)=true:=by simpa using B27
           have f:=f.st 128 (cB B27)
           refine Z f (Y36 (cs:=(lTG0 X12.1 Z38 P38)) rfl (ad:=⟨Q7,0,none⟩) (al (N84.ownCell 5 rfl) 0 rfl)) λ_ f=>bg (k:=1) (c:=1) f N84 (.cells (aTG0 X12.1 Z38 P38) 44 (0,0)) kr (λ_=>by kernel_rfl) λQ9 W32 N85 _ f=>Z f (Y36 (cs:=(lTG0 X13.1 Z43 P43)) rfl (ad:=⟨Q8,0,none⟩) (al (N85.ownCell 1 rfl) 0 rfl)) λ_ f=>bg (k:=1) (c:=1) f N85 (.cells (aTG0 X13.1 Z43 P43) 44 (0,0)) kr (λ_=>by kernel_rfl) λQ10 W33 N86 _ f=>?_
           have N87:=N86.pl [1]
           have D38:aa V12 ([(⟨X12.1.af,X12.1.am,X12.1.ai⟩:TG0)].map aK) (lTG0 X12.1 Z38 P38):=⟨_,_,rfl,TG0.shut (B24.mono J12),rfl⟩
           have N88:Hp w0 V12 ((Ent.row 44 3 (.slice (some ⟨Q9,0,none⟩) 1 1) [(⟨X12.1.af,X12.1.am,X12.1.ai⟩:TG0)].length (lTG0 X12.1 Z38 P38))::(Ent.obj Q10 (.cells (aTG0 X13.1 Z43 P43) 44 (0,0)))::(Ent.obj Q8 (.cells (aTG0 X13.1 Z43 P43) 44 (0,0)))::(oC y2 #[sL Z39 X13.2.2.1 P39,iL X13.t3.1,sL Z40 X13.t4.1 P40,sL Z41 X13.t5.1 P41,sL Z42 X13.t6.1 P42,iL X13.t7] 66)::(rO 32 5 Z40 X13.t4.1 P40 L23)::(rO 38 3 Z41 X13.t5.1 P41 L24)::(rO 3 1 Z42 X13.t6.1 P42 L25)::(Ent.obj Q7 (.cells (aTG0 X12.1 Z38 P38) 44 (0,0)))::(oC y1 #[sL Z35 X12.2.2.1 P35,iL X12.t3.1,sL Z36 X12.t4.1 P36,.map (some aP),sL Z37 X12.t6.1 P37,iL X12.t7] 62)::(rO 32 5 Z36 X12.t4.1 P36 L21)::(Ent.obj aP (bh (Value.int .i64) vTD0 X12.t5.1))::(rO 32 5 Z37 X12.t6.1 P37 L22)::(Ent.obj Q2 (.cells (aTB0 X5 Z13 P13) 34 (0,0)))::H) W33:=N87.objRow (n:=1) (cap:=1) (size:=3) (by decide) (by decide) (eO (by decide) rfl) rfl rfl
           obtain⟨V13,Z44,P44,J13,H6,N89,B28,hb_1⟩:=N88.lend (f:=aK) (xs:=[(⟨X12.1.af,X12.1.am,X12.1.ai⟩:TG0)]) jn D38
           have f:=f.st 130 (H6)
           have D39:aa V13 ([(⟨X13.1.af,X13.1.am,X13.1.ai⟩:TG0)].map aK) (lTG0 X13.1 Z43 P43):=⟨_,_,rfl,TG0.shut (B26.mono J13),rfl⟩
           have N90:Hp w0 V13 ((Ent.row 44 3 (.slice (some ⟨Q10,0,none⟩) 1 1) [(⟨X13.1.af,X13.1.am,X13.1.ai⟩:TG0)].length (lTG0 X13.1 Z43 P43))::(Ent.obj Q8 (.cells (aTG0 X13.1 Z43 P43) 44 (0,0)))::(oC y2 #[sL Z39 X13.2.2.1 P39,iL X13.t3.1,sL Z40 X13.t4.1 P40,sL Z41 X13.t5.1 P41,sL Z42 X13.t6.1 P42,iL X13.t7] 66)::(rO 32 5 Z40 X13.t4.1 P40 L23)::(rO 38 3 Z41 X13.t5.1 P41 L24)::(rO 3 1 Z42 X13.t6.1 P42 L25)::(Ent.obj Q7 (.cells (aTG0 X12.1 Z38 P38) 44 (0,0)))::(oC y1 #[sL Z35 X12.2.2.1 P35,iL X12.t3.1,sL Z36 X12.t4.1 P36,.map (some aP),sL Z37 X12.t6.1 P37,iL X12.t7] 62)::(rO 32 5 Z36 X12.t4.1 P36 L21)::(Ent.obj aP (bh (Value.int .i64) vTD0 X12.t5.1))::(rO 32 5 Z37 X12.t6.1 P37 L22)::(Ent.obj Q2 (.cells (aTB0 X5 Z13 P13) 34 (0,0)))::H) W33:=N89.objRow (n:=1) (cap:=1) (size:=3) (by decide) (by decide) (eO (by decide) rfl) rfl rfl
           obtain⟨V14,Z45,P45,J14,H7,N91,B29,hb_2⟩:=N90.lend (f:=aK) (xs:=[(⟨X13.1.af,X13.1.am,X13.1.ai⟩:TG0)]) jn D39
           have f:=f.st 132 (H7)
           obtain⟨X14,S14,F50⟩:=bS F49
           refine Y18 f N91 (jW n _ (GL.mono (((((((J1.trans J2).trans J3).trans J6).trans J11).trans J12).trans J13).trans J14) hG) Z44 P44 [(⟨X12.1.af,X12.1.am,X12.1.ai⟩:TG0)] (B28.mono J14) Z45 P45 [(⟨X13.1.af,X13.1.am,X13.1.ai⟩:TG0)] B29 X14 S14) λW34 N92 _ f=>?_
           obtain⟨V15,J15,N93⟩:=hb_2 _ _ _ (mR _) N92
           have f:=f.st 132 (H7.symm)
           obtain⟨V16,J16,N94⟩:=hb_1 _ _ _ J15 N93
           have f:=f.st 130 (H6.symm)
           refine Ye f 2 λ_ f=>RcF f F50 (λB30 F51=>?_) λB30 F53=>?_
           ·have U27: (X14)=false:=by simpa using B30
            refine RR (Ye f 1 λ_ f=>wp_ret (bV ?_))
            have F52:=cC F51 F10
            refine aS (aS (bV (aS ?_)))
            have N263:=N94.pl [8,4,10,11,11,10,10,10,12,12,12,12,12]
            refine aS ?_
            cases sI F52
            exact .inl ⟨rfl,(X13.2.2.1,X13.t3.1,X13.t4.1,X13.t5.1,X13.t6.1,X13.t7,X12.2.2.1,X12.t3.1,X12.t4.1,X12.t6.1,X12.t7,X12.t5.1),(sI T1).symm,V16,((((J3.trans J6).trans J11).trans J12).trans J16),Z39,P39,Z40,P40,L23,Z41,P41,L24,Z42,P42,L25,Z35,P35,Z36,P36,L21,Z37,P37,L22,(B25.mono J16),(aa.mono J16 _ _ D35),(aa.mono J16 _ _ D36),(aa.mono J16 _ _ D37),(B23.mono (J12.trans J16)),(aa.mono (J12.trans J16) _ _ D32),(aa.mono (J12.trans J16) _ _ D33),f.kp,(N263.dropN 5)⟩
           ·have U28: (X14)=true:=by simpa using B30
            refine wp_skip (cG ?_)
            have N139:=N94.pl [12,9,5,11,12,12,11,11,11,12,12,12,12]
            refine aH ?_
            exact⟨(X13.2.2.1,X13.t3.1,X13.t4.1,X13.t5.1,X13.t6.1,X13.t7,X12.2.2.1,X12.t3.1,X12.t4.1,X12.t6.1,X12.t7,X12.t5.1),(sI F53).symm,V16,(((J6.trans J11).trans J12).trans J16),Z39,P39,Z40,P40,L23,Z41,P41,L24,Z42,P42,L25,Z35,P35,Z36,P36,L21,Z37,P37,L22,(B25.mono J16),(aa.mono J16 _ _ D35),(aa.mono J16 _ _ D36),(aa.mono J16 _ _ D37),(B23.mono (J12.trans J16)),(aa.mono (J12.trans J16) _ _ D32),(aa.mono (J12.trans J16) _ _ D33),f.kp,(N139.dropN 4)⟩
         ·have U29:=ap dI B22
          refine wp_skip (cG ?_)
          have N147:=N42.pl [8,8,5,5,5,8,8,8]
          refine aH ?_
          exact⟨(K1.t7.1,K1.t8.1,K1.t9.1,K1.t10.1,K1.t11.1,K1.t12,K1.2.1,K1.2.2.1,K1.t3.1,K1.t4.1,K1.t5.1,K1.t6.1),(sI F54).symm,V6,J6,Z9,P9,Z10,P10,L3,Z11,P11,L4,Z12,P12,L5,Z6,P6,Z7,P7,L1,Z8,P8,L2,(B3.mono J6),(aa.mono J6 _ _ D8),(aa.mono J6 _ _ D9),(aa.mono J6 _ _ D10),(B2.mono J6),(aa.mono J6 _ _ D6),(aa.mono J6 _ _ D7),f.kp,N147⟩
    ·rintro a_111 W35 ⟨G2,rfl,V17,J17,Z46,P46,Z47,P47,L26,Z48,P48,L27,Z49,P49,L28,Z50,P50,Z51,P51,L29,Z52,P52,L30,B31,D40,D41,D42,B32,D43,D44,f,N95⟩
     refine aH (RR (Y f 1 λ_ f=>?_))
     obtain⟨X15,S15,F55⟩:=bS F10
     have N152:=N95.pl [4,5,5,7]
     refine Y17 (E:=[oC y1 #[sL Z50 G2.t6.1 P50,iL G2.t7.1,sL Z51 G2.t8.1 P51,.map (some aP),sL Z52 G2.t9.1 P52,iL G2.t10.1] 62,rO 32 5 Z51 G2.t8.1 P51 L29,Ent.obj aP (bh (Value.int .i64) vTD0 G2.t11),rO 32 5 Z52 G2.t9.1 P52 L30]) (H:=((rO 32 5 Z47 G2.2.2.1 P47 L26)::(rO 38 3 Z48 G2.t3.1 P48 L27)::(rO 3 1 Z49 G2.t4.1 P49 L28)::(oC y2 #[sL Z46 G2.1 P46,iL G2.2.1,sL Z47 G2.2.2.1 P47,sL Z48 G2.t3.1 P48,sL Z49 G2.t4.1 P49,iL G2.t5.1] 66)::(Ent.obj Q2 (.cells (aTB0 X5 Z13 P13) 34 (0,0)))::H)) f N152 (ms n _ (GL.mono (((J1.trans J2).trans J3).trans J17) hG) y1 G2.t6.1 Z50 P50 B32 G2.t7.1 G2.t8.1 Z51 P51 L29 D43 aP G2.t11 G2.t9.1 Z52 P52 L30 D44 G2.t10.1 X15 S15) λ_ V18 E_11 W36 J18 N148 q_11 _ f=>?_
     obtain⟨Z53,P53,L31,Z54,P54,Z55,P55,L32,Z56,P56,L33,rfl,rfl,D45,B33,D46,D47⟩:=q_11
     refine Y f 1 λ_ f=>?_
     obtain⟨X16,S16,F56⟩:=bS F55
     have N157:=N148.pl [7,7,7,8]
     refine Y17 (E:=[oC y2 #[sL Z46 G2.1 P46,iL G2.2.1,sL Z47 G2.2.2.1 P47,sL Z48 G2.t3.1 P48,sL Z49 G2.t4.1 P49,iL G2.t5.1] 66,rO 32 5 Z47 G2.2.2.1 P47 L26,rO 38 3 Z48 G2.t3.1 P48 L27,rO 3 1 Z49 G2.t4.1 P49 L28]) (H:=((rO 3 1 Z53 X15.1 P53 L31)::(oC y1 #[sL Z54 X15.2.1 P54,iL X15.2.2.1,sL Z55 X15.t3.1 P55,.map (some aP),sL Z56 X15.t5.1 P56,iL X15.t6] 62)::(rO 32 5 Z55 X15.t3.1 P55 L32)::(Ent.obj aP (bh (Value.int .i64) vTD0 X15.t4.1))::(rO 32 5 Z56 X15.t5.1 P56 L33)::(Ent.obj Q2 (.cells (aTB0 X5 Z13 P13) 34 (0,0)))::H)) f N157 (mt n _ (GL.mono ((((J1.trans J2).trans J3).trans J17).trans J18) hG) y2 G2.1 Z46 P46 (B31.mono J18) G2.2.1 G2.2.2.1 Z47 P47 L26 (aa.mono J18 _ _ D40) G2.t3.1 Z48 P48 L27 (aa.mono J18 _ _ D41) G2.t4.1 Z49 P49 L28 (aa.mono J18 _ _ D42) G2.t5.1 X16 S16) λ_ V19 E_12 W37 J19 N153 q_12 _ f=>?_
     obtain⟨Z57,P57,L34,Z58,P58,Z59,P59,L35,Z60,P60,L36,Z61,P61,L37,rfl,rfl,D48,B34,D49,D50,D51⟩:=q_12
     have N158:=N153.pl [5]
     obtain⟨V20,Z62,P62,J20,H8,N159,B35,hb_3⟩:=N158.lend (f:=(Dat.int .i64)) (xs:=X15.1) (dX .i64) (aa.mono J19 _ _ D45)
     have f:=f.st 137 (H8)
     obtain⟨V21,Z63,P63,J21,H9,N160,B36,hb_4⟩:=N159.lend (f:=(Dat.int .i64)) (xs:=X16.1) (dX .i64) (aa.mono J20 _ _ D48)
     have f:=f.st 139 (H9)
     obtain⟨X17,S17,F57⟩:=bS F56
     refine Y18 f N160 (sE n _ (GL.mono (((((((J1.trans J2).trans J3).trans J17).trans J18).trans J19).trans J20).trans J21) hG) Z62 P62 X15.1 (B35.mono J21) Z63 P63 X16.1 B36 X17 S17) λW38 N161 _ f=>?_
     obtain⟨V22,J22,N162⟩:=hb_4 _ _ _ (mR _) N161
     have f:=f.st 139 (H9.symm)
     obtain⟨V23,J23,N163⟩:=hb_3 _ _ _ J22 N162
     have f:=f.st 137 (H8.symm)
     refine Y f 2 λ_ f=>?_
     rcases cE F57 with⟨B37,F58⟩|⟨B37,F59⟩
     ·have U30: (X17)=false:=by simpa using B37
      have f:=f.st 142 (cB B37)
      refine Ye f 6 λ_ f=>Y8 f (RR (Ye f 1 λ_ f=>wp_ret (bV (aS ?_))))
      have N274:=N163.pl [6,3,8,9,9,9,9,9,10,10,10]
      refine aS ?_
      cases sI F58
      exact .inl ⟨rfl,(X16.2.1,X16.2.2.1,X16.t3.1,X16.t4.1,X16.t5.1,X16.t6,X15.2.1,X15.2.2.1,X15.t3.1,X15.t5.1,X15.t6,X15.t4.1),(sI T1).symm,V23,((((J3.trans J17).trans J18).trans J19).trans J23),Z58,P58,Z59,P59,L35,Z60,P60,L36,Z61,P61,L37,Z54,P54,Z55,P55,L32,Z56,P56,L33,(B34.mono J23),(aa.mono J23 _ _ D49),(aa.mono J23 _ _ D50),(aa.mono J23 _ _ D51),(B33.mono (J19.trans J23)),(aa.mono (J19.trans J23) _ _ D46),(aa.mono (J19.trans J23) _ _ D47),f.kp,(N274.dropN 3)⟩
     ·have U31: (X17)=true:=by simpa using B37
      have f:=f.st 142 (cB B37)
      refine Y f 1 λ_ f=>?_
      obtain⟨X18,S18,F60⟩:=bS F59
      have N168:=N163.pl [9,9,9,9]
      refine Y17 (E:=[oC y1 #[sL Z54 X15.2.1 P54,iL X15.2.2.1,sL Z55 X15.t3.1 P55,.map (some aP),sL Z56 X15.t5.1 P56,iL X15.t6] 62,rO 32 5 Z55 X15.t3.1 P55 L32,Ent.obj aP (bh (Value.int .i64) vTD0 X15.t4.1),rO 32 5 Z56 X15.t5.1 P56 L33]) (H:=((rO 3 1 Z53 X15.1 P53 L31)::(rO 3 1 Z57 X16.1 P57 L34)::(oC y2 #[sL Z58 X16.2.1 P58,iL X16.2.2.1,sL Z59 X16.t3.1 P59,sL Z60 X16.t4.1 P60,sL Z61 X16.t5.1 P61,iL X16.t6] 66)::(rO 32 5 Z59 X16.t3.1 P59 L35)::(rO 38 3 Z60 X16.t4.1 P60 L36)::(rO 3 1 Z61 X16.t5.1 P61 L37)::(Ent.obj Q2 (.cells (aTB0 X5 Z13 P13) 34 (0,0)))::H)) f N168 (jV n _ (GL.mono ((((((J1.trans J2).trans J3).trans J17).trans J18).trans J19).trans J23) hG) y1 X15.2.1 Z54 P54 (B33.mono (J19.trans J23)) X15.2.2.1 X15.t3.1 Z55 P55 L32 (aa.mono (J19.trans J23) _ _ D46) aP X15.t4.1 X15.t5.1 Z56 P56 L33 (aa.mono (J19.trans J23) _ _ D47) X15.t6 X18 S18) λ_ V24 E_13 W39 J24 N164 q_13 _ f=>?_
      obtain⟨Z64,P64,Z65,P65,L38,Z66,P66,L39,rfl,rfl,B38,D52,D53⟩:=q_13
      refine Y f 1 λ_ f=>?_
      obtain⟨X19,S19,F61⟩:=bS F60
      have N173:=N164.pl [9,9,9,9]
      refine Y17 (E:=[oC y2 #[sL Z58 X16.2.1 P58,iL X16.2.2.1,sL Z59 X16.t3.1 P59,sL Z60 X16.t4.1 P60,sL Z61 X16.t5.1 P61,iL X16.t6] 66,rO 32 5 Z59 X16.t3.1 P59 L35,rO 38 3 Z60 X16.t4.1 P60 L36,rO 3 1 Z61 X16.t5.1 P61 L37]) (H:=((oC y1 #[sL Z64 X18.2.1 P64,iL X18.2.2.1,sL Z65 X18.t3.1 P65,.map (some aP),sL Z66 X18.t5.1 P66,iL X18.t6] 62)::(rO 32 5 Z65 X18.t3.1 P65 L38)::(Ent.obj aP (bh (Value.int .i64) vTD0 X18.t4.1))::(rO 32 5 Z66 X18.t5.1 P66 L39)::(rO 3 1 Z53 X15.1 P53 L31)::(rO 3 1 Z57 X16.1 P57 L34)::(Ent.obj Q2 (.cells (aTB0 X5 Z13 P13) 34 (0,0)))::H)) f N173 (nJ n _ (GL.mono (((((((J1.trans J2).trans J3).trans J17).trans J18).trans J19).trans J23).trans J24) hG) y2 X16.2.1 Z58 P58 (B34.mono (J23.trans J24)) X16.2.2.1 X16.t3.1 Z59 P59 L35 (aa.mono (J23.trans J24) _ _ D49) X16.t4.1 Z60 P60 L36 (aa.mono (J23.trans J24) _ _ D50) X16.t5.1 Z61 P61 L37 (aa.mono (J23.trans J24) _ _ D51) X16.t6 X19 S19) λ_ V25 E_14 W40 J25 N169 q_14 _ f=>?_
      obtain⟨Z67,P67,Z68,P68,L40,Z69,P69,L41,Z70,P70,L42,rfl,rfl,B39,D54,D55,D56⟩:=q_14
      refine Ye f 2 λ_ f=>RcF f F61 (λB40 F62=>?_) λB40 F63=>?_
      ·have U32: ¬ (X18.1=X19.1):=(av dI).1 B40
       refine RR (Ye f 1 λ_ f=>wp_ret (bV (aS ?_)))
       have N285:=N169.pl [4,1,6,7,7,7,7,7,10,10,10]
       refine aS ?_
       cases sI F62
       exact .inl ⟨rfl,(X19.2.1,X19.2.2.1,X19.t3.1,X19.t4.1,X19.t5.1,X19.t6,X18.2.1,X18.2.2.1,X18.t3.1,X18.t5.1,X18.t6,X18.t4.1),(sI T1).symm,V25,((((((J3.trans J17).trans J18).trans J19).trans J23).trans J24).trans J25),Z67,P67,Z68,P68,L40,Z69,P69,L41,Z70,P70,L42,Z64,P64,Z65,P65,L38,Z66,P66,L39,B39,D54,D55,D56,(B38.mono J25),(aa.mono J25 _ _ D52),(aa.mono J25 _ _ D53),f.kp,(N285.dropN 3)⟩
      ·have U33: ¬ (¬ (X18.1=X19.1)):=ap (av dI) B40
       refine wp_skip (cG (aH (aI ?_)))
       obtain⟨O1,F64⟩:=nS F63
       refine Y f 1 λ_ f=>?_
       have f:=f.st 149 (iW O1)
       refine Y f 1 λ_ f=>aA rfl ?_
       have N296:=N169.pl [4,1,4,4,4,6,7,7,10,10,10]
       refine aH ?_
       cases sI F64
       exact⟨⟨I2,(K1.1+1,X18.2.1,X18.2.2.1,X18.t3.1,X18.t5.1,X18.t6,X18.t4.1,X19.2.1,X19.2.2.1,X19.t3.1,X19.t4.1,X19.t5.1,X19.t6),Z64,P64,Z65,P65,L38,Z66,P66,L39,Z67,P67,Z68,P68,L40,Z69,P69,L41,Z70,P70,L42⟩,Nat.lt_succ_self _,V25,((((((J3.trans J17).trans J18).trans J19).trans J23).trans J24).trans J25),⟨T1,(B38.mono J25),(aa.mono J25 _ _ D52),(aa.mono J25 _ _ D53),B39,D54,D55,D56⟩,f.kp,(N296.dropN 3)⟩
   ·have U34:=ap dI B4
    refine wp_exit (co ?_)
    have N304:=N18.pl [7,7,4,4,4,7,7,7]
    refine co ?_
    cases sI F65
    exact .inr ⟨rfl,(K1.t7.1,K1.t8.1,K1.t9.1,K1.t10.1,K1.t11.1,K1.t12,K1.2.1,K1.2.2.1,K1.t3.1,K1.t4.1,K1.t5.1,K1.t6.1),(sI T1).symm,V3,J3,Z9,P9,Z10,P10,L3,Z11,P11,L4,Z12,P12,L5,Z6,P6,Z7,P7,L1,Z8,P8,L2,B3,D8,D9,D10,B2,D6,D7,f.kp,N304⟩
  ·rintro _ _ W43 (⟨rfl,G3,rfl,V26,J26,Z71,P71,Z72,P72,L43,Z73,P73,L44,Z74,P74,L45,Z75,P75,Z76,P76,L46,Z77,P77,L47,B41,D57,D58,D59,B42,D60,D61,f,N174⟩|⟨rfl,G4,rfl,V27,J27,Z78,P78,Z79,P79,L48,Z80,P80,L49,Z81,P81,L50,Z82,P82,Z83,P83,L51,Z84,P84,L52,B43,D62,D63,D64,B44,D65,D66,f,N175⟩)
   ·refine bV (aS (ao f rfl (Lk 2 (bO false)) ?_))
    cases sI F7
    exact⟨_,rfl,V26,((J1.trans J2).trans J26),(N174.dropN 8),rfl⟩
   ·refine iq (aH (RR (Y f 1 λ_ f=>?_)))
    obtain⟨X20,S20,F66⟩:=bS F7
    have N309:=N175.pl [4,5,5,7]
    refine Y17 (E:=[oC y1 #[sL Z82 G4.t6.1 P82,iL G4.t7.1,sL Z83 G4.t8.1 P83,.map (some aP),sL Z84 G4.t9.1 P84,iL G4.t10.1] 62,rO 32 5 Z83 G4.t8.1 P83 L51,Ent.obj aP (bh (Value.int .i64) vTD0 G4.t11),rO 32 5 Z84 G4.t9.1 P84 L52]) (H:=((rO 32 5 Z79 G4.2.2.1 P79 L48)::(rO 38 3 Z80 G4.t3.1 P80 L49)::(rO 3 1 Z81 G4.t4.1 P81 L50)::(oC y2 #[sL Z78 G4.1 P78,iL G4.2.1,sL Z79 G4.2.2.1 P79,sL Z80 G4.t3.1 P80,sL Z81 G4.t4.1 P81,iL G4.t5.1] 66)::H)) f N309 (je n _ (GL.mono ((J1.trans J2).trans J27) hG) y1 G4.t6.1 Z82 P82 B44 G4.t7.1 G4.t8.1 Z83 P83 L51 D65 aP G4.t11 G4.t9.1 Z84 P84 L52 D66 G4.t10.1 X20 S20) λ_ V28 E_15 W44 J28 N305 q_15 _ f=>?_
    obtain⟨Z85,P85,L53,Z86,P86,Z87,P87,L54,Z88,P88,L55,rfl,rfl,D67,B45,D68,D69⟩:=q_15
    refine Y f 1 λ_ f=>?_
    obtain⟨X21,S21,F67⟩:=bS F66
    have N314:=N305.pl [7,7,7,8]
    refine Y17 (E:=[oC y2 #[sL Z78 G4.1 P78,iL G4.2.1,sL Z79 G4.2.2.1 P79,sL Z80 G4.t3.1 P80,sL Z81 G4.t4.1 P81,iL G4.t5.1] 66,rO 32 5 Z79 G4.2.2.1 P79 L48,rO 38 3 Z80 G4.t3.1 P80 L49,rO 3 1 Z81 G4.t4.1 P81 L50]) (H:=((rO 44 3 Z85 X20.1 P85 L53)::(oC y1 #[sL Z86 X20.2.1 P86,iL X20.2.2.1,sL Z87 X20.t3.1 P87,.map (some aP),sL Z88 X20.t5.1 P88,iL X20.t6] 62)::(rO 32 5 Z87 X20.t3.1 P87 L54)::(Ent.obj aP (bh (Value.int .i64) vTD0 X20.t4.1))::(rO 32 5 Z88 X20.t5.1 P88 L55)::H)) f N314 (mu n _ (GL.mono (((J1.trans J2).trans J27).trans J28) hG) y2 G4.1 Z78 P78 (B43.mono J28) G4.2.1 G4.2.2.1 Z79 P79 L48 (aa.mono J28 _ _ D62) G4.t3.1 Z80 P80 L49 (aa.mono J28 _ _ D63) G4.t4.1 Z81 P81 L50 (aa.mono J28 _ _ D64) G4.t5.1 X21 S21) λ_ V29 E_16 W45 J29 N310 q_16 _ f=>?_
    obtain⟨Z89,P89,L56,Z90,P90,Z91,P91,L57,Z92,P92,L58,Z93,P93,L59,rfl,rfl,D70,B46,D71,D72,D73⟩:=q_16
    have N315:=N310.pl [5]
    obtain⟨V30,Z94,P94,J30,H10,N316,B47,hb_5⟩:=N315.lend (f:=aK) (xs:=X20.1) jn (aa.mono J29 _ _ D67)
    have f:=f.st 151 (H10)
    obtain⟨V31,Z95,P95,J31,H11,N317,B48,hb_6⟩:=N316.lend (f:=aK) (xs:=X21.1) jn (aa.mono J30 _ _ D70)
    have f:=f.st 153 (H11)
    obtain⟨X22,S22,F68⟩:=bS F67
    refine Y18 f N317 (jW n _ (GL.mono ((((((J1.trans J2).trans J27).trans J28).trans J29).trans J30).trans J31) hG) Z94 P94 X20.1 (B47.mono J31) Z95 P95 X21.1 B48 X22 S22) λW46 N318 _ f=>?_
    obtain⟨V32,J32,N319⟩:=hb_6 _ _ _ (mR _) N318
    have f:=f.st 153 (H11.symm)
    obtain⟨V33,J33,N320⟩:=hb_5 _ _ _ J32 N319
    have f:=f.st 151 (H10.symm)
    refine Y f 1 λ_ f=>?_
    rcases cE F68 with⟨B49,F69⟩|⟨B49,F76⟩
    ·have f:=f.st 155 (cB B49)
     refine Y f 1 λ_ f=>?_
     obtain⟨X23,S23,F70⟩:=bS F69
     have N325:=N320.pl [9,9,9,9]
     refine Y17 (E:=[oC y1 #[sL Z86 X20.2.1 P86,iL X20.2.2.1,sL Z87 X20.t3.1 P87,.map (some aP),sL Z88 X20.t5.1 P88,iL X20.t6] 62,rO 32 5 Z87 X20.t3.1 P87 L54,Ent.obj aP (bh (Value.int .i64) vTD0 X20.t4.1),rO 32 5 Z88 X20.t5.1 P88 L55]) (H:=((rO 44 3 Z85 X20.1 P85 L53)::(rO 44 3 Z89 X21.1 P89 L56)::(oC y2 #[sL Z90 X21.2.1 P90,iL X21.2.2.1,sL Z91 X21.t3.1 P91,sL Z92 X21.t4.1 P92,sL Z93 X21.t5.1 P93,iL X21.t6] 66)::(rO 32 5 Z91 X21.t3.1 P91 L57)::(rO 38 3 Z92 X21.t4.1 P92 L58)::(rO 3 1 Z93 X21.t5.1 P93 L59)::H)) f N325 (mW n _ (GL.mono (((((J1.trans J2).trans J27).trans J28).trans J29).trans J33) hG) y1 X20.2.1 Z86 P86 (B45.mono (J29.trans J33)) X20.2.2.1 X20.t3.1 Z87 P87 L54 (aa.mono (J29.trans J33) _ _ D68) aP X20.t4.1 X20.t5.1 Z88 P88 L55 (aa.mono (J29.trans J33) _ _ D69) X20.t6 X23 S23) λ_ V34 E_17 W47 J34 N321 q_17 _ f=>?_
     obtain⟨Z96,P96,L60,Z97,P97,Z98,P98,L61,Z99,P99,L62,rfl,rfl,D74,B50,D75,D76⟩:=q_17
     refine Y f 1 λ_ f=>?_
     obtain⟨X24,S24,F71⟩:=bS F70
     have N330:=N321.pl [10,10,10,10]
     refine Y17 (E:=[oC y2 #[sL Z90 X21.2.1 P90,iL X21.2.2.1,sL Z91 X21.t3.1 P91,sL Z92 X21.t4.1 P92,sL Z93 X21.t5.1 P93,iL X21.t6] 66,rO 32 5 Z91 X21.t3.1 P91 L57,rO 38 3 Z92 X21.t4.1 P92 L58,rO 3 1 Z93 X21.t5.1 P93 L59]) (H:=((rO 32 5 Z96 X23.1 P96 L60)::(oC y1 #[sL Z97 X23.2.1 P97,iL X23.2.2.1,sL Z98 X23.t3.1 P98,.map (some aP),sL Z99 X23.t5.1 P99,iL X23.t6] 62)::(rO 32 5 Z98 X23.t3.1 P98 L61)::(Ent.obj aP (bh (Value.int .i64) vTD0 X23.t4.1))::(rO 32 5 Z99 X23.t5.1 P99 L62)::(rO 44 3 Z85 X20.1 P85 L53)::(rO 44 3 Z89 X21.1 P89 L56)::H)) f N330 (mX n _ (GL.mono ((((((J1.trans J2).trans J27).trans J28).trans J29).trans J33).trans J34) hG) y2 X21.2.1 Z90 P90 (B46.mono (J33.trans J34)) X21.2.2.1 X21.t3.1 Z91 P91 L57 (aa.mono (J33.trans J34) _ _ D71) X21.t4.1 Z92 P92 L58 (aa.mono (J33.trans J34) _ _ D72) X21.t5.1 Z93 P93 L59 (aa.mono (J33.trans J34) _ _ D73) X21.t6 X24 S24) λ_ V35 E_18 W48 J35 N326 q_18 _ f=>?_
     obtain⟨Z100,P100,L63,Z101,P101,Z102,P102,Z103,P103,L64,Z104,P104,L65,rfl,rfl,D77,B51,B52,D78,D79⟩:=q_18
     have N331:=N326.pl [4]
     obtain⟨V36,Z105,P105,J36,H12,N332,B53,hb_7⟩:=N331.lend (f:=aJ) (xs:=X23.1) dZ (aa.mono J35 _ _ D74)
     have f:=f.st 157 (H12)
     obtain⟨V37,Z106,P106,J37,H13,N333,B54,hb_8⟩:=N332.lend (f:=aJ) (xs:=X24.1) dZ (aa.mono J36 _ _ D77)
     have f:=f.st 159 (H13)
     obtain⟨X25,S25,F72⟩:=bS F71
     refine Y18 f N333 (oF n _ (GL.mono (((((((((J1.trans J2).trans J27).trans J28).trans J29).trans J33).trans J34).trans J35).trans J36).trans J37) hG) Z105 P105 X23.1 (B53.mono J37) Z106 P106 X24.1 B54 X25 S25) λW49 N334 _ f=>?_
     obtain⟨V38,J38,N335⟩:=hb_8 _ _ _ (mR _) N334
     have f:=f.st 159 (H13.symm)
     obtain⟨V39,J39,N336⟩:=hb_7 _ _ _ J38 N335
     have f:=f.st 157 (H12.symm)
     refine Y f 2 λ_ f=>?_
     rcases cE F72 with⟨B55,F73⟩|⟨B55,F75⟩
     ·have f:=f.st 162 (cB B55)
      obtain⟨X26,S26,F74⟩:=bS F73
      refine Y18 f N336 (mT n _ (GL.mono ((((((((J1.trans J2).trans J27).trans J28).trans J29).trans J33).trans J34).trans J35).trans J39) hG) X26 S26) λW50 N337 _ f=>Ye f 2 λ_ f=>wp_ret (ao f rfl (Lk 2 (bO X26)) ?_)
      cases sI F74
      exact⟨_,rfl,V39,((((((((J1.trans J2).trans J27).trans J28).trans J29).trans J33).trans J34).trans J35).trans J39),(N337.dropN 11),rfl⟩
     ·have f:=f.st 162 (cB B55)
      refine Ye f 3 λ_ f=>wp_ret (ao f rfl (Lk 2 (bO false)) ?_)
      cases sI F75
      exact⟨_,rfl,V39,((((((((J1.trans J2).trans J27).trans J28).trans J29).trans J33).trans J34).trans J35).trans J39),(N336.dropN 11),rfl⟩
    ·have f:=f.st 155 (cB B49)
     refine Ye f 10 λ_ f=>wp_ret (ao f rfl (Lk 2 (bO false)) ?_)
     cases sI F76
     exact⟨_,rfl,V33,(((((J1.trans J2).trans J27).trans J28).trans J29).trans J33),(N320.dropN 10),rfl⟩
end Go.Proofs.YtkhdpnamfndonaaGreatDoor
end
section
namespace Go.Vc
open Go
mutual
def dsz:Dat→Nat
 |.int _ _=>1
 |.bool _=>1
 |.str l=>l.length+1
 |.list _ ds=>dszs ds+1
 |.struct ds=>dszs ds+1
def dszs:List Dat→Nat
 |[]=>0
 |d::ds=>dsz d+dszs ds
end
theorem dszs_app: ∀ (a b:List Dat),dszs (a++b)=dszs a+dszs b
 |[],b=>by simp[dszs]
 |d::a,b=>by simp only[List.cons_append,dszs,dszs_app a b];omega
theorem le_sum: ∀ {l:List Nat} {x:Nat},x∈l→x≤l.sum
 |y::l,x,h=>by
  rcases List.mem_cons.1 h with rfl|h
  ·simp
  ·have:=le_sum h;simp only[List.sum_cons];omega
section
variable {H:Type}
structure BulkOk (B:DataW H→Nat):Prop where
 one: ∀d,1≤B d
 str: ∀l,B (.lit (.string l))=l.length+1
 slice: ∀e s,(e.map B).sum+1≤B (.slice e s)
 agg: ∀e,(e.map B).sum+1≤B (.agg e)
variable {enc:TypeId×Value→H} {P:Program} {w:World} {t:TypeId} {α:Type} {f:α→Dat} {m:Nat} {B:DataW H→Nat}
def OpnAt (enc:TypeId×Value→H) (P:Program) (w:World) (t:TypeId) {α:Type} (f:α→Dat) (B:DataW H→Nat) (m:Nat):Prop:=
 ∀cs x,DataW.trod enc P w 0 (λ_=>true) true m t cs=some x→∃a,Rep (Mem.of w) (f a) cs∧Vld (f a)∧dsz (f a)≤B x.1
theorem OpnAt.zero:OpnAt enc P w t f B 0:=λcs x h=>by simp[DataW.trod] at h
theorem nH {k:IntKind} (hB:BulkOk B) (ht:P.underlying t=some (.int k)):OpnAt enc P w t (Dat.int k) B m:=λcs x h=>by
 obtain⟨a,rfl,_,hw⟩:=DataW.trod_int ht h
 exact⟨a,rfl,hw,hB.one _⟩
theorem opa_bool (hB:BulkOk B) (ht:P.underlying t=some .bool):OpnAt enc P w t Dat.bool B m:=λcs x h=>by
 obtain⟨a,rfl,_⟩:=DataW.trod_bool ht h
 exact⟨a,rfl,trivial,hB.one _⟩
theorem pk (hB:BulkOk B) (ht:P.underlying t=some .string):OpnAt enc P w t Dat.str B m:=λcs x h=>by
 obtain⟨s,rfl,hx,hw⟩:=DataW.trod_string ht h
 refine⟨s.data.toList,(by show [Value.string s]=_;rw[S_eta]),by show s.data.toList.length≤maxLen;simpa using hw,?_⟩
 rw[hx]
 show s.data.toList.length+1≤B (.lit (.string s.data.toList))
 rw[hB.str]
 exact Nat.le_refl _
theorem opa_slice {e:TypeId} {sz:Nat} (hB:BulkOk B) (ht:P.underlying t=some (.slice e)) (hsz:P.cellsOf e=sz) (h:OpnAt enc P w e f B m):OpnAt enc P w t (eL sz f) B (m+1):=λcs x hx=>by
 rcases DataW.trod_slice ht hx with⟨rfl,hx⟩|⟨ad,len,cap,elems,rest,n',hn',rfl,hxe,_,hlc,hcm,hel,hat,_⟩
 ·refine⟨[],Sli.rep (Sli.nil (sz:=sz) (f:=f)),by simp[Vld,eL,VldAll],?_⟩
  have:=hB.one x.1
  simpa [eL,dsz,dszs] using this
 ·obtain rfl:n'=m:=by omega
  have key: ∀k,k≤len→∃xs:List α,xs.length=k∧RepArr (Mem.of w) sz (xs.map f) ad∧(∀x∈xs,Vld (f x))∧dszs (xs.map f)≤((elems.take k).map λx=>B x.1).sum:=by
   intro k
   induction k with
   |zero=>intro _;exact⟨[],rfl,trivial,λx hx=>(by cases hx),by simp[dszs]⟩
   |succ k ih=>
    intro hk
    obtain⟨xs,h1,h2,h3,h3b⟩:=ih (by omega)
    have hk':k<elems.length:=by omega
    have:=hat k (by omega)
    rw[List.getElem?_eq_getElem hk'] at this
    obtain⟨cs',g1,g2⟩:=Option.bind_eq_some_iff.1 this
    obtain⟨a,g3,g4,g4b⟩:=h cs' _ g2
    obtain⟨g5,g6⟩:=cells_of g1
    rw[hsz] at g5 g6
    refine⟨xs++[a],by simp[h1],?_,λx hx=>?_,?_⟩
    ·rw[List.map_append]
     have app: ∀ (ds:List Dat) (ad:Addr),RepArr (Mem.of w) sz ds ad→RepArr (Mem.of w) sz [f a] (ad.add (ds.length*sz))→RepArr (Mem.of w) sz (ds++[f a]) ad:=by
      intro ds
      induction ds with
      |nil=>intro ad _ hh;simpa [Addr.add] using hh
      |cons d ds ih=>
       intro ad h1 h2
       refine⟨h1.1,ih _ h1.2 ?_⟩
       rw[eQ]
       rw[List.length_cons,show(ds.length+1)*sz=sz+ds.length*sz by rw[Nat.add_mul];omega] at h2
       exact h2
     refine app _ _ h2 ⟨⟨cs',g5,g3,?_⟩,trivial⟩
     rw[List.length_map,h1]
     exact g6
    ·rcases List.mem_append.1 hx with hx|hx
     ·exact h3 x hx
     ·simp at hx;subst hx;exact g4
    ·rw[List.map_append,dszs_app,List.take_add_one,List.getElem?_eq_getElem hk',List.map_append,List.sum_append]
     simp only[List.map_cons,List.map_nil,dszs,Option.toList_some,List.sum_cons,List.sum_nil]
     omega
  obtain⟨xs,h1,h2,h3,h3b⟩:=key len (Nat.le_refl _)
  subst h1
  refine⟨xs,Sli.rep ⟨hlc,λe=>(by cases e),.inr ⟨ad,rfl,h2⟩⟩,?_,?_⟩
  ·refine⟨by rw[List.length_map];omega,VldAll.mk λd hd=>?_⟩
   obtain⟨x,hx,rfl⟩:=List.mem_map.1 hd
   exact h3 x hx
  ·rw[hxe]
   show dszs (xs.map f)+1≤_
   have:=hB.slice (elems.map (·.1)) (rest.map (·.1))
   rw[←hel,List.take_length] at h3b
   rw[List.map_map] at this
   have e: (elems.map (B ∘ λx=>x.1))=elems.map λx=>B x.1:=rfl
   rw[e] at this
   show _≤B (.slice (elems.map (·.1)) (rest.map (·.1)))
   omega
theorem mg {e:TypeId} {sz:Nat} (hB:BulkOk B) (ht:P.underlying t=some (.slice e)) (hsz:P.cellsOf e=sz) (h: ∀k,k<m→OpnAt enc P w e f B k):OpnAt enc P w t (eL sz f) B m:=by
 cases m with
 |zero=>exact OpnAt.zero
 |succ m=>exact opa_slice hB ht hsz (h m (Nat.lt_succ_self m))
theorem OpnAt.arg (h: ∀n,OpnAt enc P w t f B n) {v:Value} {d:DataW H} {ps:List MemPlace} (ht:DataW.Trod enc P w 0 (λ_=>true) true t v d ps): ∃a,Rep (Mem.of w) (f a) v.cells.toList∧Vld (f a)∧dsz (f a)≤B d:=by
 obtain⟨fuel,hf⟩:=ht
 exact h fuel _ _ hf
theorem OpnAt.slice_arg {e:TypeId} {sz:Nat} (hB:BulkOk B) (hu:P.underlying t=some (.slice e)) (hsz:P.cellsOf e=sz) (h: ∀n,OpnAt enc P w e f B n) {v:Value} {d:DataW H} {ps:List MemPlace} (hv: ∃A len cap,v=.slice A len cap) (ht:DataW.Trod enc P w 0 (λ_=>true) true t v d ps):
 ∃A cap xs,v=.slice A xs.length cap∧Sli (Mem.of w) sz f A cap xs∧Vld (eL sz f xs)∧dsz (eL sz f xs)≤B d:=by
 obtain⟨A,len,cap,rfl⟩:=hv
 obtain⟨xs,h1,h2⟩:=OpnAt.arg (f:=eL sz f) (λn=>mg hB hu hsz λk _=>h k) ht
 obtain⟨A',cap',e,hs⟩:=Rep.sli h1
 simp only[Value.cells] at e
 have e':Value.slice A len cap=Value.slice A' xs.length cap':=by simpa using e
 cases e'
 exact⟨A,cap,xs,rfl,hs,h2⟩
end
end Go.Vc
end
section
namespace Go.Proofs.YtkhdpnamfndonaaGreatDoor
open Go Go.Vc Go.RowKit
theorem opa_TF0 {H:Type} {enc:TypeId×Value→H} {w:World} {B:DataW H→Nat} (hB:BulkOk B): ∀m,OpnAt enc Tryz.prog w 73 ay B m:=by
 intro m
 induction m using Nat.strongRecOn with
 |ind m ih=>
 intro cs x h
 obtain⟨xs,n,rfl,rfl,hlen,hxl,hf⟩:=DataW.trod_struct Tryz.underlying73 h
 have hct:Tryz.prog.cellsOf 73=6:=by kernel_rfl
 rw[hct] at hlen
 obtain⟨x0,x1,x2,x3,x4,x5,rfl⟩: ∃x0 x1 x2 x3 x4 x5,xs=[x0,x1,x2,x3,x4,x5]:=by
  match xs,hxl with
  |[x0,x1,x2,x3,x4,x5],_=>exact⟨x0,x1,x2,x3,x4,x5,rfl⟩
 have f0:DataW.trod enc Tryz.prog w 0 (λ_=>true) true n 29 ((cs.drop 0).take (Tryz.prog.cellsOf 29))=some x0:=hf 0 _ rfl
 rw[show Tryz.prog.cellsOf 29=1 by kernel_rfl] at f0
 obtain⟨a0,r0,v0,b0⟩:=(λ_=>nH hB Tryz.underlying29) n _ _ f0
 have f1:DataW.trod enc Tryz.prog w 0 (λ_=>true) true n 4 ((cs.drop 1).take (Tryz.prog.cellsOf 4))=some x1:=hf 1 _ rfl
 rw[show Tryz.prog.cellsOf 4=1 by kernel_rfl] at f1
 obtain⟨a1,r1,v1,b1⟩:=(λ_=>opa_bool hB Tryz.underlying4) n _ _ f1
 have f2:DataW.trod enc Tryz.prog w 0 (λ_=>true) true n 3 ((cs.drop 2).take (Tryz.prog.cellsOf 3))=some x2:=hf 2 _ rfl
 rw[show Tryz.prog.cellsOf 3=1 by kernel_rfl] at f2
 obtain⟨a2,r2,v2,b2⟩:=(λ_=>nH hB Tryz.underlying3) n _ _ f2
 have f3:DataW.trod enc Tryz.prog w 0 (λ_=>true) true n 9 ((cs.drop 3).take (Tryz.prog.cellsOf 9))=some x3:=hf 3 _ rfl
 rw[show Tryz.prog.cellsOf 9=1 by kernel_rfl] at f3
 obtain⟨a3,r3,v3,b3⟩:=(λ_=>pk hB Tryz.underlying9) n _ _ f3
 have f4:DataW.trod enc Tryz.prog w 0 (λ_=>true) true n 70 ((cs.drop 4).take (Tryz.prog.cellsOf 70))=some x4:=hf 4 _ rfl
 rw[show Tryz.prog.cellsOf 70=1 by kernel_rfl] at f4
 obtain⟨a4,r4,v4,b4⟩:=(mg (m:=n) (e:=73) (sz:=6) hB Tryz.underlying70 kr (λk hk=>ih k (by omega))) _ _ f4
 have f5:DataW.trod enc Tryz.prog w 0 (λ_=>true) true n 71 ((cs.drop 5).take (Tryz.prog.cellsOf 71))=some x5:=hf 5 _ rfl
 rw[show Tryz.prog.cellsOf 71=1 by kernel_rfl] at f5
 obtain⟨a5,r5,v5,b5⟩:=(mg (m:=n) (e:=9) (sz:=1) hB Tryz.underlying71 kr (λk _=>(λ_=>pk hB Tryz.underlying9) k)) _ _ f5
 refine⟨⟨a0,a1,a2,a3,a4,a5⟩,?_,?_,?_⟩
 ·rw[eR]
  have hcs:aa (Mem.of w) _ (cs.drop 0):=(aa.cut (k:=1) r0 (by rw[List.drop_drop];exact(aa.cut (k:=1) r1 (by rw[List.drop_drop];exact(aa.cut (k:=1) r2 (by rw[List.drop_drop];exact(aa.cut (k:=1) r3 (by rw[List.drop_drop];exact(aa.cut (k:=1) r4 (by rw[List.drop_drop];exact(aa.cut (k:=1) r5 (by rw[List.drop_drop];exact(show aa (Mem.of w) [] (cs.drop 6) from List.drop_eq_nil_of_le (by omega))))))))))))))
  exact hcs
 ·rw[eR];exact⟨v0,⟨v1,⟨v2,⟨v3,⟨v4,⟨v5,trivial⟩⟩⟩⟩⟩⟩
 ·rw[eR]
  have:=hB.agg ([x0,x1,x2,x3,x4,x5].map (·.1))
  simp only[List.map_cons,List.map_nil,List.sum_cons,List.sum_nil] at this ⊢
  simp only[dsz,dszs] at*
  omega
theorem opa_TE0 {H:Type} {enc:TypeId×Value→H} {w:World} {B:DataW H→Nat} (hB:BulkOk B): ∀m,OpnAt enc Tryz.prog w 75 aY B m:=by
 intro m
 induction m using Nat.strongRecOn with
 |ind m ih=>
 intro cs x h
 obtain⟨xs,n,rfl,rfl,hlen,hxl,hf⟩:=DataW.trod_struct Tryz.underlying75 h
 have hct:Tryz.prog.cellsOf 75=8:=by kernel_rfl
 rw[hct] at hlen
 obtain⟨x0,x1,x2,rfl⟩: ∃x0 x1 x2,xs=[x0,x1,x2]:=by
  match xs,hxl with
  |[x0,x1,x2],_=>exact⟨x0,x1,x2,rfl⟩
 have f0:DataW.trod enc Tryz.prog w 0 (λ_=>true) true n 9 ((cs.drop 0).take (Tryz.prog.cellsOf 9))=some x0:=hf 0 _ rfl
 rw[show Tryz.prog.cellsOf 9=1 by kernel_rfl] at f0
 obtain⟨a0,r0,v0,b0⟩:=(λ_=>pk hB Tryz.underlying9) n _ _ f0
 have f1:DataW.trod enc Tryz.prog w 0 (λ_=>true) true n 4 ((cs.drop 1).take (Tryz.prog.cellsOf 4))=some x1:=hf 1 _ rfl
 rw[show Tryz.prog.cellsOf 4=1 by kernel_rfl] at f1
 obtain⟨a1,r1,v1,b1⟩:=(λ_=>opa_bool hB Tryz.underlying4) n _ _ f1
 have f2:DataW.trod enc Tryz.prog w 0 (λ_=>true) true n 73 ((cs.drop 2).take (Tryz.prog.cellsOf 73))=some x2:=hf 2 _ rfl
 rw[show Tryz.prog.cellsOf 73=6 by kernel_rfl] at f2
 obtain⟨a2,r2,v2,b2⟩:=(opa_TF0 hB) n _ _ f2
 refine⟨⟨a0,a1,a2⟩,?_,?_,?_⟩
 ·rw[jh]
  have hcs:aa (Mem.of w) _ (cs.drop 0):=(aa.cut (k:=1) r0 (by rw[List.drop_drop];exact(aa.cut (k:=1) r1 (by rw[List.drop_drop];exact(aa.cut (k:=6) r2 (by rw[List.drop_drop];exact(show aa (Mem.of w) [] (cs.drop 8) from List.drop_eq_nil_of_le (by omega))))))))
  exact hcs
 ·rw[jh];exact⟨v0,⟨v1,⟨v2,trivial⟩⟩⟩
 ·rw[jh]
  have:=hB.agg ([x0,x1,x2].map (·.1))
  simp only[List.map_cons,List.map_nil,List.sum_cons,List.sum_nil] at this ⊢
  simp only[dsz,dszs] at*
  omega
theorem opa_TI0 {H:Type} {enc:TypeId×Value→H} {w:World} {B:DataW H→Nat} (hB:BulkOk B): ∀m,OpnAt enc Tryz.prog w 32 aJ B m:=by
 intro m
 induction m using Nat.strongRecOn with
 |ind m ih=>
 intro cs x h
 obtain⟨xs,n,rfl,rfl,hlen,hxl,hf⟩:=DataW.trod_struct Tryz.underlying32 h
 have hct:Tryz.prog.cellsOf 32=5:=by kernel_rfl
 rw[hct] at hlen
 obtain⟨x0,x1,x2,x3,x4,rfl⟩: ∃x0 x1 x2 x3 x4,xs=[x0,x1,x2,x3,x4]:=by
  match xs,hxl with
  |[x0,x1,x2,x3,x4],_=>exact⟨x0,x1,x2,x3,x4,rfl⟩
 have f0:DataW.trod enc Tryz.prog w 0 (λ_=>true) true n 3 ((cs.drop 0).take (Tryz.prog.cellsOf 3))=some x0:=hf 0 _ rfl
 rw[show Tryz.prog.cellsOf 3=1 by kernel_rfl] at f0
 obtain⟨a0,r0,v0,b0⟩:=(λ_=>nH hB Tryz.underlying3) n _ _ f0
 have f1:DataW.trod enc Tryz.prog w 0 (λ_=>true) true n 29 ((cs.drop 1).take (Tryz.prog.cellsOf 29))=some x1:=hf 1 _ rfl
 rw[show Tryz.prog.cellsOf 29=1 by kernel_rfl] at f1
 obtain⟨a1,r1,v1,b1⟩:=(λ_=>nH hB Tryz.underlying29) n _ _ f1
 have f2:DataW.trod enc Tryz.prog w 0 (λ_=>true) true n 9 ((cs.drop 2).take (Tryz.prog.cellsOf 9))=some x2:=hf 2 _ rfl
 rw[show Tryz.prog.cellsOf 9=1 by kernel_rfl] at f2
 obtain⟨a2,r2,v2,b2⟩:=(λ_=>pk hB Tryz.underlying9) n _ _ f2
 have f3:DataW.trod enc Tryz.prog w 0 (λ_=>true) true n 9 ((cs.drop 3).take (Tryz.prog.cellsOf 9))=some x3:=hf 3 _ rfl
 rw[show Tryz.prog.cellsOf 9=1 by kernel_rfl] at f3
 obtain⟨a3,r3,v3,b3⟩:=(λ_=>pk hB Tryz.underlying9) n _ _ f3
 have f4:DataW.trod enc Tryz.prog w 0 (λ_=>true) true n 30 ((cs.drop 4).take (Tryz.prog.cellsOf 30))=some x4:=hf 4 _ rfl
 rw[show Tryz.prog.cellsOf 30=1 by kernel_rfl] at f4
 obtain⟨a4,r4,v4,b4⟩:=(λm=>mg (e:=75) (sz:=8) hB Tryz.underlying30 kr (λk _=>(opa_TE0 hB) k)) n _ _ f4
 refine⟨⟨a0,a1,a2,a3,a4⟩,?_,?_,?_⟩
 ·rw[gF]
  have hcs:aa (Mem.of w) _ (cs.drop 0):=(aa.cut (k:=1) r0 (by rw[List.drop_drop];exact(aa.cut (k:=1) r1 (by rw[List.drop_drop];exact(aa.cut (k:=1) r2 (by rw[List.drop_drop];exact(aa.cut (k:=1) r3 (by rw[List.drop_drop];exact(aa.cut (k:=1) r4 (by rw[List.drop_drop];exact(show aa (Mem.of w) [] (cs.drop 5) from List.drop_eq_nil_of_le (by omega))))))))))))
  exact hcs
 ·rw[gF];exact⟨v0,⟨v1,⟨v2,⟨v3,⟨v4,trivial⟩⟩⟩⟩⟩
 ·rw[gF]
  have:=hB.agg ([x0,x1,x2,x3,x4].map (·.1))
  simp only[List.map_cons,List.map_nil,List.sum_cons,List.sum_nil] at this ⊢
  simp only[dsz,dszs] at*
  omega
theorem opa_TB0 {H:Type} {enc:TypeId×Value→H} {w:World} {B:DataW H→Nat} (hB:BulkOk B): ∀m,OpnAt enc Tryz.prog w 34 lO B m:=by
 intro m
 induction m using Nat.strongRecOn with
 |ind m ih=>
 intro cs x h
 obtain⟨xs,n,rfl,rfl,hlen,hxl,hf⟩:=DataW.trod_struct Tryz.underlying34 h
 have hct:Tryz.prog.cellsOf 34=7:=by kernel_rfl
 rw[hct] at hlen
 obtain⟨x0,x1,x2,rfl⟩: ∃x0 x1 x2,xs=[x0,x1,x2]:=by
  match xs,hxl with
  |[x0,x1,x2],_=>exact⟨x0,x1,x2,rfl⟩
 have f0:DataW.trod enc Tryz.prog w 0 (λ_=>true) true n 3 ((cs.drop 0).take (Tryz.prog.cellsOf 3))=some x0:=hf 0 _ rfl
 rw[show Tryz.prog.cellsOf 3=1 by kernel_rfl] at f0
 obtain⟨a0,r0,v0,b0⟩:=(λ_=>nH hB Tryz.underlying3) n _ _ f0
 have f1:DataW.trod enc Tryz.prog w 0 (λ_=>true) true n 3 ((cs.drop 1).take (Tryz.prog.cellsOf 3))=some x1:=hf 1 _ rfl
 rw[show Tryz.prog.cellsOf 3=1 by kernel_rfl] at f1
 obtain⟨a1,r1,v1,b1⟩:=(λ_=>nH hB Tryz.underlying3) n _ _ f1
 have f2:DataW.trod enc Tryz.prog w 0 (λ_=>true) true n 32 ((cs.drop 2).take (Tryz.prog.cellsOf 32))=some x2:=hf 2 _ rfl
 rw[show Tryz.prog.cellsOf 32=5 by kernel_rfl] at f2
 obtain⟨a2,r2,v2,b2⟩:=(opa_TI0 hB) n _ _ f2
 refine⟨⟨a0,a1,a2⟩,?_,?_,?_⟩
 ·rw[lP]
  have hcs:aa (Mem.of w) _ (cs.drop 0):=(aa.cut (k:=1) r0 (by rw[List.drop_drop];exact(aa.cut (k:=1) r1 (by rw[List.drop_drop];exact(aa.cut (k:=5) r2 (by rw[List.drop_drop];exact(show aa (Mem.of w) [] (cs.drop 7) from List.drop_eq_nil_of_le (by omega))))))))
  exact hcs
 ·rw[lP];exact⟨v0,⟨v1,⟨v2,trivial⟩⟩⟩
 ·rw[lP]
  have:=hB.agg ([x0,x1,x2].map (·.1))
  simp only[List.map_cons,List.map_nil,List.sum_cons,List.sum_nil] at this ⊢
  simp only[dsz,dszs] at*
  omega
theorem sd {H:Type} (l:List (DataW H)):Rows.uptoBulkAll l=(l.map Rows.uptoBulk).sum:=by
 induction l with
 |nil=>simp[Rows.uptoBulkAll]
 |cons x l ih=>simp only[Rows.uptoBulkAll,List.map_cons,List.sum_cons,ih]
theorem bulk_ok {H:Type}:BulkOk (H:=H) Rows.uptoBulk where
 one d:=by
  cases d with
  |lit l=>cases l<;>simp[Rows.uptoBulk]
  |nil=>simp[Rows.uptoBulk]
  |ptr d=>simp[Rows.uptoBulk]
  |slice elems spare=>simp[Rows.uptoBulk]
  |agg parts=>simp[Rows.uptoBulk]
  |iface t d=>simp[Rows.uptoBulk]
  |map entries=>simp[Rows.uptoBulk]
  |held h=>simp[Rows.uptoBulk]
 str l:=by simp[Rows.uptoBulk]
 slice e s:=by
  simp only[Rows.uptoBulk]
  rw[sd e]
  omega
 agg e:=by
  simp only[Rows.uptoBulk]
  rw[sd e]
  exact Nat.le_refl _
theorem bulk_one {H:Type} {d:DataW H} {l:List (DataW H)} (h:Rows.uptoSmall H l=true) (hd:d∈l):Rows.uptoBulk d≤1048576:=by
 unfold Rows.uptoSmall at h
 have h:=of_decide_eq_true h
 rw[sd] at h
 have:=le_sum (List.mem_map_of_mem (f:=Rows.uptoBulk) hd)
 omega
end Go.Proofs.YtkhdpnamfndonaaGreatDoor
end
