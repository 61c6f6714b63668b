/-
  Printed by a program: of each function its shallow reading, and the proof that the function gives what the reading gives. No condition.
-/
import Derived.Test.YtkopljikappieaaGreatDoorPkQ5
import Derived.Test.YtkopljikappieaaGreatDoorPkQ4
set_option linter.unusedVariables false
set_option linter.unusedSimpArgs false
set_option maxHeartbeats 2000000
namespace Go.Proofs.YtkopljikappieaaGreatDoor
open Go Go.Vc Go.RowKit
set_option maxRecDepth 20000 in
theorem ig (n:Nat) (M:Mem) (hG:GL M) (d0:List UInt8) (c1:List Value) (d1:TD0) (h1:Rep M (ap d1) c1) (d2:List UInt8) (b3:Nat) (aB:List TE0) (Z1:Option Addr) (P1:Nat) (L1:List Value) (D1:ag M (aB.map bx) L1) (ak:List TH0) (Z2:Option Addr) (P2:Nat) (L2:List Value) (D2:ag M (ak.map aF) L2) (aC:List TB0) (Z3:Option Addr) (P3:Nat) (L3:List Value) (D3:ag M (aC.map bu) L3) (aD:List TC0) (Z4:Option Addr) (P4:Nat) (L4:List Value) (D4:ag M (aD.map bw) L4) (r:Sum (Int×List UInt8) (List TE0×List TH0×List TB0×List TC0)) (hF:da n d0 d1 d2 aB ak aC aD=some r):OkXH Tryz.prog M [Ent.obj b3 (.cells #[.slice Z1 aB.length P1,.slice Z2 ak.length P2,.slice Z3 aC.length P3,.slice Z4 aD.length P4] 41 (0,0)),Ent.row 58 10 (.slice Z1 aB.length P1) aB.length L1,Ent.row 61 15 (.slice Z2 ak.length P2) ak.length L2,Ent.row 66 7 (.slice Z3 aC.length P3) aC.length L3,Ent.row 68 8 (.slice Z4 aD.length P4) aD.length L4] 51 [S d0,.agg c1.toArray,S d2,.pointer (some (⟨b3,0,none⟩))] 78 r (λr=>λM' E' v=>∃ (Z33:Option Addr) (P46:Nat) (L32:List Value) (Z34:Option Addr) (P47:Nat) (L33:List Value) (Z35:Option Addr) (P48:Nat) (L34:List Value) (Z36:Option Addr) (P49:Nat) (L35:List Value),v=.tuple #[]∧E'=[Ent.obj b3 (.cells #[.slice Z33 r.1.length P46,.slice Z34 r.2.1.length P47,.slice Z35 r.2.2.1.length P48,.slice Z36 r.2.2.2.length P49] 41 (0,0)),Ent.row 58 10 (.slice Z33 r.1.length P46) r.1.length L32,Ent.row 61 15 (.slice Z34 r.2.1.length P47) r.2.1.length L33,Ent.row 66 7 (.slice Z35 r.2.2.1.length P48) r.2.2.1.length L34,Ent.row 68 8 (.slice Z36 r.2.2.2.length P49) r.2.2.2.length L35]∧ag M' (r.1.map bx) L32∧ag M' (r.2.1.map aF) L33∧ag M' (r.2.2.1.map bu) L34∧ag M' (r.2.2.2.map bw) L35):=by
 unfold da at hF
 intro M1 hM0 w0 H w p0
 replace hG:=GL.mono hM0 hG
 replace h1:=Rep.mono hM0 _ _ h1
 replace D1:=ag.mono hM0 _ _ D1
 replace D2:=ag.mono hM0 _ _ D2
 replace D3:=ag.mono hM0 _ _ D3
 replace D4:=ag.mono hM0 _ _ D4
 obtain⟨Z5,P5,Z6,P6,rfl,B1,B2⟩:=TD0.opn h1
 refine aG 18 Tryz.func51 rfl rfl (by simp) λa0 f0=>RR (Y13 (cs:=#[.int .i8 d1.ab,.bool d1.ah,.int .i64 d1.ai,S d1.aa,.slice Z5 d1.ac.length P5,.slice Z6 d1.af.length P6]) (T:=26) f0 p0 λQ1 V1 W1 J1 R1 N1 _ f=>?_)
 have R2:=bR R1
 refine eT ?_
 obtain⟨ip,eD,F1⟩:=bS hF
 refine ct (λa_104 W152=>∃G1:List TH0,ip=.nx G1∧∃V14:Mem,V1.le V14∧∃ (Z32:Option Addr),∃ (P45:Nat),∃ (L31:List Value),ag V14 (G1.map aF) L31∧Frm 18 [] a_104∧Hp w0 V14 ((Ent.row 61 15 (.slice Z32 G1.length P45) G1.length L31)::(Ent.obj b3 (.cells #[.slice Z1 aB.length P1,.slice Z32 G1.length P45,.slice Z3 aC.length P3,.slice Z4 aD.length P4] 41 (0,0)))::(Ent.row 58 10 (.slice Z1 aB.length P1) aB.length L1)::(Ent.row 66 7 (.slice Z3 aC.length P3) aC.length L3)::(Ent.row 68 8 (.slice Z4 aD.length P4) aD.length L4)::H) W152) ?_ ?_
 ·have N16:=N1.pl [4,4,3,4,4]
  obtain⟨X1,l1,F2⟩:=bS eD
  obtain⟨O1,F3⟩:=nS F2
  obtain⟨X4,l2,F4⟩:=bS F3
  refine kV (ks:=[]) (E:=[Ent.obj b3 (.cells #[.slice Z1 aB.length P1,.slice Z2 ak.length P2,.slice Z3 aC.length P3,.slice Z4 aD.length P4] 41 (0,0)),Ent.row 61 15 (.slice Z2 ak.length P2) ak.length L2]) (Hr:=((Ent.row 58 10 (.slice Z1 aB.length P1) aB.length L1)::(Ent.row 66 7 (.slice Z3 aC.length P3) aC.length L3)::(Ent.row 68 8 (.slice Z4 aD.length P4) aD.length L4)::H)) (.quiet 0 (.quiet 2 (.quiet 3 (.quiet 4 (.alt 1 (.quiet 6 (.alt 5 (.alt 7 (.alt 8 (.quiet 11 (.alt 9 (.alt 10 (.alt 12 .done .none) (.alt 12 (.alt 10 .done .none) .none)) (.alt 12 (.alt 9 (.alt 10 .done .none) .none) .none))) .none) .none) (.alt 7 (.alt 5 (.alt 8 (.quiet 11 (.alt 9 (.alt 10 (.alt 12 .done .none) (.alt 12 (.alt 10 .done .none) .none)) (.alt 12 (.alt 9 (.alt 10 .done .none) .none) .none))) .none) .none) .none))) (.alt 5 (.alt 1 (.quiet 6 (.alt 7 (.alt 8 (.quiet 11 (.alt 9 (.alt 10 (.alt 12 .done .none) (.alt 12 (.alt 10 .done .none) .none)) (.alt 12 (.alt 9 (.alt 10 .done .none) .none) .none))) .none) .none)) (.alt 7 (.alt 1 (.quiet 6 (.alt 8 (.quiet 11 (.alt 9 (.alt 10 (.alt 12 .done .none) (.alt 12 (.alt 10 .done .none) .none)) (.alt 12 (.alt 9 (.alt 10 .done .none) .none) .none))) .none)) .none) .none)) (.alt 7 (.alt 1 (.quiet 6 (.alt 5 (.alt 8 (.quiet 11 (.alt 9 (.alt 10 (.alt 12 .done .none) (.alt 12 (.alt 10 .done .none) .none)) (.alt 12 (.alt 9 (.alt 10 .done .none) .none) .none))) .none) .none)) (.alt 5 (.alt 1 (.quiet 6 (.alt 8 (.quiet 11 (.alt 9 (.alt 10 (.alt 12 .done .none) (.alt 12 (.alt 10 .done .none) .none)) (.alt 12 (.alt 9 (.alt 10 .done .none) .none) .none))) .none)) .none) .none)) .none))))))) N16 (by kernel_rfl) (by kernel_rfl) (by kernel_rfl) (Y1 (v:=.pointer (some (⟨b3,1,none⟩))) rfl f rfl rfl (λ_ _=>by kernel_rfl) λ_ f=>Y1 (v:=S d0) rfl f rfl rfl (λ_ _=>by kernel_rfl) λ_ f=>Y1 (v:=.agg #[.int .i8 d1.ab,.bool d1.ah,.int .i64 d1.ai,S d1.aa,.slice Z5 d1.ac.length P5,.slice Z6 d1.af.length P6]) rfl f rfl rfl (λ_ pq=>Y31 (cs:=[.int .i8 d1.ab,.bool d1.ah,.int .i64 d1.ai,S d1.aa,.slice Z5 d1.ac.length P5,.slice Z6 d1.af.length P6]) rfl (ad:=⟨Q1,0,none⟩) (λj v h=>pq.cell (R2 j v h))) λ_ f=>Y1 (v:=S d2) rfl f rfl rfl (λ_ _=>by kernel_rfl) λ_ f=>av rfl (λW8 N17=>?_) ?_)
  ·refine Z f (Y30 (v:=.slice Z2 ak.length P2) rfl (ad:=⟨b3,1,none⟩) (N17.ownCell 0 rfl 1)) λ_ f=>am rfl (aw 2 (mR _) N17 rfl (Y1 (v:=.int .i64 ((ak.length:Nat):Int)) rfl f rfl rfl (λ_ _=>by kernel_rfl) λ_ f=>av rfl (λW9 N18=>?_) ?_))
   ·rcases X1 with X6|X7
    ·refine aH f N18 (bN n _ (GL.mono J1 hG) d0 _ d1 (TD0.shutx (x:=d1) (B1.mono J1) (B2.mono J1)) d2 (.inl X6) l1) (by kernel_rfl) (λ_=>by kernel_rfl) λV4 W10 J4 N19=>lj f λ_ f=>?_
     have F5:=bK F4 F1
     refine bM (aP f ?_)
     obtain rfl:=sI F5
     exact⟨V4,(J1.trans J4),(N19.dropN 5),rfl⟩
    ·refine Y16 f N18 (OkX.ok (bN n _ (GL.mono J1 hG) d0 _ d1 (TD0.shutx (x:=d1) (B1.mono J1) (B2.mono J1)) d2 (.inr X7) l1)) λ_ V5 W11 J5 N20 iQ _ f=>?_
     obtain⟨iA,rfl,D8⟩:=iQ
     obtain⟨Z11,P12,Z12,P13,Z13,P14,rfl,B6,B7,B8⟩:=TH0.opn D8
     refine am rfl (aw 2 J5 N20 rfl (av rfl (λW12 N21=>?_) ?_))
     ·refine aQ (k:=1) (c:=1) f N21 (.cells #[S [],.int .i8 0,.int .i8 0,S [],.int .i64 0,S [],S [],.slice none 0 0,.int .i8 0,S [],.int .i64 0,S [],S [],.slice none 0 0,.slice none 0 0] 61 (0,0)) (by kernel_rfl) (λ_=>by kernel_rfl) λQ4 W13 N22 _ f=>am rfl (aw 3 J5 N22 rfl (av rfl (λW14 N23=>?_) ?_))
      ·have N24:=N23.pl [2]
       refine Y20 (z:=.agg #[S [],.int .i8 0,.int .i8 0,S [],.int .i64 0,S [],S [],.slice none 0 0,.int .i8 0,S [],.int .i64 0,S [],S [],.slice none 0 0,.slice none 0 0]) (f:=aF) (xs:=ak) (ys:=[(⟨([]:List UInt8),(0:Int),ae,ae,([]:List TH0)⟩:TH0)]) (news:=[S [],.int .i8 0,.int .i8 0,S [],.int .i64 0,S [],S [],.slice none 0 0,.int .i8 0,S [],.int .i64 0,S [],S [],.slice none 0 0,.slice none 0 0]) (ad:=⟨Q4,0,none⟩) (m:=1) (c:=1) f N24 (ag.mono (J1.trans J5) _ _ D2) (by exact⟨_,_,rfl,TH0.shut Sli.nil Sli.nil Sli.nil,rfl⟩) rfl rfl rfl rfl (an (N24.ownCell 1 rfl) 0 rfl) (by exact O1) (by have hg_:=O1;first|omega|(simp only[List.length_cons,List.length_nil] at*;omega)) λZ14 P15 L7 W15 N25 D9 _ f=>?_
       have N26:=N25.pl [1]
       have N27:=N26.drop
       refine am rfl (aw 2 J5 N27 rfl (Y1 (v:=.pointer (some (⟨b3,1,none⟩))) rfl f rfl rfl (λ_ _=>by kernel_rfl) λ_ f=>av rfl (λW16 N28=>?_) ?_))
       ·obtain⟨Q5,P16,H2,hcap_2⟩:=N28.rowAddr 0 rfl (bh l2)
        have f:=f.st 15 (H2)
        refine Z f (Y28 rfl (ad:=⟨Q5,0,none⟩) (len:=(ak++[(⟨([]:List UInt8),(0:Int),ae,ae,([]:List TH0)⟩:TH0)]).length) (cap:=P16) (k:=.i64) (i:=((ak.length:Nat):Int)) (e:=61) (sz:=15) (az l2) (ay l2)) λ_ f=>?_
        have f:=f.st 15 (H2.symm)
        refine am rfl (aw 2 J5 N28 rfl (av rfl (λW17 N29=>?_) ?_))
        ·refine Y24 (it:=((ak.length:Nat):Int)) (d:=ak++[(⟨([]:List UInt8),(0:Int),ae,ae,([]:List TH0)⟩:TH0)]) (f:=aF) (xv:=X7) (vs:=[S X7.aj,.int .i8 X7.ab,.int .i8 X7.fA.ab,S X7.fA.aa,.int .i64 X7.fA.ai,S X7.fA.aj,S X7.fA.ao,.slice Z11 X7.fA.fL.length P12,.int .i8 X7.fB.ab,S X7.fB.aa,.int .i64 X7.fB.ai,S X7.fB.aj,S X7.fB.ao,.slice Z12 X7.fB.fL.length P13,.slice Z13 X7.fL.length P14]) f N29 H2 rfl rfl (by exact TH0.shutx (x:=X7) B6 B7 B8) dc l2 D9 λL8 W18 N30 D10 _ f=>?_
         have N31:Hp w0 V5 ((Ent.row 61 15 (.slice Z14 ((ak++[(⟨([]:List UInt8),(0:Int),ae,ae,([]:List TH0)⟩:TH0)]).set ((ak.length:Nat):Int).toNat X7).length P15) ((ak++[(⟨([]:List UInt8),(0:Int),ae,ae,([]:List TH0)⟩:TH0)]).set ((ak.length:Nat):Int).toNat X7).length L8)::(Ent.obj b3 (.cells #[.slice Z1 aB.length P1,.slice Z2 ak.length P2,.slice Z3 aC.length P3,.slice Z4 aD.length P4] 41 (0,0)))::(Ent.row 58 10 (.slice Z1 aB.length P1) aB.length L1)::(Ent.row 66 7 (.slice Z3 aC.length P3) aC.length L3)::(Ent.row 68 8 (.slice Z4 aD.length P4) aD.length L4)::H) W18:=N30.rowVal (by simp only[List.length_set])
         have f:=Frm.set f 15 (v:=.slice Z14 (ak++[(⟨([]:List UInt8),(0:Int),ae,ae,([]:List TH0)⟩:TH0)]).length P15) (v':=.slice Z14 ((ak++[(⟨([]:List UInt8),(0:Int),ae,ae,([]:List TH0)⟩:TH0)]).set ((ak.length:Nat):Int).toNat X7).length P15) (by kernel_rfl) (by simp only[List.length_set])
         refine am rfl (aw 2 J5 N31 rfl (av rfl (λW19 N32=>?_) ?_))
         ·refine Y25 f N32 1 rfl rfl (b:=b3) (j:=1) (v:=.slice Z14 ((ak++[(⟨([]:List UInt8),(0:Int),ae,ae,([]:List TH0)⟩:TH0)]).set ((ak.length:Nat):Int).toNat X7).length P15) rfl (by exact rfl) (by simp) (by simp) ((Ent.row 61 15 (.slice Z14 ((ak++[(⟨([]:List UInt8),(0:Int),ae,ae,([]:List TH0)⟩:TH0)]).set ((ak.length:Nat):Int).toNat X7).length P15) ((ak++[(⟨([]:List UInt8),(0:Int),ae,ae,([]:List TH0)⟩:TH0)]).set ((ak.length:Nat):Int).toNat X7).length L8)::(Ent.obj b3 (.cells #[.slice Z1 aB.length P1,.slice Z14 ((ak++[(⟨([]:List UInt8),(0:Int),ae,ae,([]:List TH0)⟩:TH0)]).set ((ak.length:Nat):Int).toNat X7).length P15,.slice Z3 aC.length P3,.slice Z4 aD.length P4] 41 (0,0)))::(Ent.row 58 10 (.slice Z1 aB.length P1) aB.length L1)::(Ent.row 66 7 (.slice Z3 aC.length P3) aC.length L3)::(Ent.row 68 8 (.slice Z4 aD.length P4) aD.length L4)::H) rfl λW20 N33 _ f=>am rfl (aw 2 J5 N33 rfl (ci λW21 N34=>aS ?_))
          exact⟨(ak++[(⟨([]:List UInt8),(0:Int),ae,ae,([]:List TH0)⟩:TH0)]).set ((ak.length:Nat):Int).toNat X7,(sI F4).symm,V5,J5,Z14,P15,L8,D10,f.kp,N34⟩
         exact ar
        refine av rfl (λW22 N35=>?_) ?_
        ·refine Y25 f N35 1 rfl rfl (b:=b3) (j:=1) (v:=.slice Z14 (ak++[(⟨([]:List UInt8),(0:Int),ae,ae,([]:List TH0)⟩:TH0)]).length P15) rfl (by exact rfl) (by simp) (by simp) ((Ent.row 61 15 (.slice Z14 (ak++[(⟨([]:List UInt8),(0:Int),ae,ae,([]:List TH0)⟩:TH0)]).length P15) (ak++[(⟨([]:List UInt8),(0:Int),ae,ae,([]:List TH0)⟩:TH0)]).length L7)::(Ent.obj b3 (.cells #[.slice Z1 aB.length P1,.slice Z14 (ak++[(⟨([]:List UInt8),(0:Int),ae,ae,([]:List TH0)⟩:TH0)]).length P15,.slice Z3 aC.length P3,.slice Z4 aD.length P4] 41 (0,0)))::(Ent.row 58 10 (.slice Z1 aB.length P1) aB.length L1)::(Ent.row 66 7 (.slice Z3 aC.length P3) aC.length L3)::(Ent.row 68 8 (.slice Z4 aD.length P4) aD.length L4)::H) rfl λW23 N36 _ f=>am rfl (aw 2 J5 N36 rfl (av rfl (λW24 N37=>?_) ?_))
         ·refine Y24 (it:=((ak.length:Nat):Int)) (d:=ak++[(⟨([]:List UInt8),(0:Int),ae,ae,([]:List TH0)⟩:TH0)]) (f:=aF) (xv:=X7) (vs:=[S X7.aj,.int .i8 X7.ab,.int .i8 X7.fA.ab,S X7.fA.aa,.int .i64 X7.fA.ai,S X7.fA.aj,S X7.fA.ao,.slice Z11 X7.fA.fL.length P12,.int .i8 X7.fB.ab,S X7.fB.aa,.int .i64 X7.fB.ai,S X7.fB.aj,S X7.fB.ao,.slice Z12 X7.fB.fL.length P13,.slice Z13 X7.fL.length P14]) f N37 H2 rfl rfl (by exact TH0.shutx (x:=X7) B6 B7 B8) dc l2 D9 λL9 W25 N38 D11 _ f=>?_
          have N39:Hp w0 V5 ((Ent.row 61 15 (.slice Z14 ((ak++[(⟨([]:List UInt8),(0:Int),ae,ae,([]:List TH0)⟩:TH0)]).set ((ak.length:Nat):Int).toNat X7).length P15) ((ak++[(⟨([]:List UInt8),(0:Int),ae,ae,([]:List TH0)⟩:TH0)]).set ((ak.length:Nat):Int).toNat X7).length L9)::(Ent.obj b3 (.cells #[.slice Z1 aB.length P1,.slice Z14 (ak++[(⟨([]:List UInt8),(0:Int),ae,ae,([]:List TH0)⟩:TH0)]).length P15,.slice Z3 aC.length P3,.slice Z4 aD.length P4] 41 (0,0)))::(Ent.row 58 10 (.slice Z1 aB.length P1) aB.length L1)::(Ent.row 66 7 (.slice Z3 aC.length P3) aC.length L3)::(Ent.row 68 8 (.slice Z4 aD.length P4) aD.length L4)::H) W25:=N38.rowVal (by simp only[List.length_set])
          have f:=Frm.set f 15 (v:=.slice Z14 (ak++[(⟨([]:List UInt8),(0:Int),ae,ae,([]:List TH0)⟩:TH0)]).length P15) (v':=.slice Z14 ((ak++[(⟨([]:List UInt8),(0:Int),ae,ae,([]:List TH0)⟩:TH0)]).set ((ak.length:Nat):Int).toNat X7).length P15) (by kernel_rfl) (by simp only[List.length_set])
          have N40:Hp w0 V5 ((Ent.row 61 15 (.slice Z14 ((ak++[(⟨([]:List UInt8),(0:Int),ae,ae,([]:List TH0)⟩:TH0)]).set ((ak.length:Nat):Int).toNat X7).length P15) ((ak++[(⟨([]:List UInt8),(0:Int),ae,ae,([]:List TH0)⟩:TH0)]).set ((ak.length:Nat):Int).toNat X7).length L9)::(Ent.obj b3 (.cells #[.slice Z1 aB.length P1,.slice Z14 ((ak++[(⟨([]:List UInt8),(0:Int),ae,ae,([]:List TH0)⟩:TH0)]).set ((ak.length:Nat):Int).toNat X7).length P15,.slice Z3 aC.length P3,.slice Z4 aD.length P4] 41 (0,0)))::(Ent.row 58 10 (.slice Z1 aB.length P1) aB.length L1)::(Ent.row 66 7 (.slice Z3 aC.length P3) aC.length L3)::(Ent.row 68 8 (.slice Z4 aD.length P4) aD.length L4)::H) W25:=by simp only[List.length_set];rw[List.length_set] at N39;exact N39
          refine am rfl (aw 2 J5 N40 rfl (ci λW26 N41=>aS ?_))
          exact⟨(ak++[(⟨([]:List UInt8),(0:Int),ae,ae,([]:List TH0)⟩:TH0)]).set ((ak.length:Nat):Int).toNat X7,(sI F4).symm,V5,J5,Z14,P15,L9,D11,f.kp,N41⟩
         exact ar
        exact ar
       refine av rfl (λW27 N42=>?_) ?_
       ·refine Y25 f N42 1 rfl rfl (b:=b3) (j:=1) (v:=.slice Z14 (ak++[(⟨([]:List UInt8),(0:Int),ae,ae,([]:List TH0)⟩:TH0)]).length P15) rfl (by exact rfl) (by simp) (by simp) ((Ent.row 61 15 (.slice Z14 (ak++[(⟨([]:List UInt8),(0:Int),ae,ae,([]:List TH0)⟩:TH0)]).length P15) (ak++[(⟨([]:List UInt8),(0:Int),ae,ae,([]:List TH0)⟩:TH0)]).length L7)::(Ent.obj b3 (.cells #[.slice Z1 aB.length P1,.slice Z14 (ak++[(⟨([]:List UInt8),(0:Int),ae,ae,([]:List TH0)⟩:TH0)]).length P15,.slice Z3 aC.length P3,.slice Z4 aD.length P4] 41 (0,0)))::(Ent.row 58 10 (.slice Z1 aB.length P1) aB.length L1)::(Ent.row 66 7 (.slice Z3 aC.length P3) aC.length L3)::(Ent.row 68 8 (.slice Z4 aD.length P4) aD.length L4)::H) rfl λW28 N43 _ f=>am rfl (aw 2 J5 N43 rfl (av rfl (λW29 N44=>?_) ?_))
        ·obtain⟨Q6,P17,H3,hcap_3⟩:=N44.rowAddr 0 rfl (bh l2)
         have f:=f.st 15 (H3)
         refine Z f (Y28 rfl (ad:=⟨Q6,0,none⟩) (len:=(ak++[(⟨([]:List UInt8),(0:Int),ae,ae,([]:List TH0)⟩:TH0)]).length) (cap:=P17) (k:=.i64) (i:=((ak.length:Nat):Int)) (e:=61) (sz:=15) (az l2) (ay l2)) λ_ f=>?_
         have f:=f.st 15 (H3.symm)
         refine am rfl (aw 2 J5 N44 rfl (av rfl (λW30 N45=>?_) ?_))
         ·refine Y24 (it:=((ak.length:Nat):Int)) (d:=ak++[(⟨([]:List UInt8),(0:Int),ae,ae,([]:List TH0)⟩:TH0)]) (f:=aF) (xv:=X7) (vs:=[S X7.aj,.int .i8 X7.ab,.int .i8 X7.fA.ab,S X7.fA.aa,.int .i64 X7.fA.ai,S X7.fA.aj,S X7.fA.ao,.slice Z11 X7.fA.fL.length P12,.int .i8 X7.fB.ab,S X7.fB.aa,.int .i64 X7.fB.ai,S X7.fB.aj,S X7.fB.ao,.slice Z12 X7.fB.fL.length P13,.slice Z13 X7.fL.length P14]) f N45 H3 rfl rfl (by exact TH0.shutx (x:=X7) B6 B7 B8) dc l2 D9 λL10 W31 N46 D12 _ f=>?_
          have N47:Hp w0 V5 ((Ent.row 61 15 (.slice Z14 ((ak++[(⟨([]:List UInt8),(0:Int),ae,ae,([]:List TH0)⟩:TH0)]).set ((ak.length:Nat):Int).toNat X7).length P15) ((ak++[(⟨([]:List UInt8),(0:Int),ae,ae,([]:List TH0)⟩:TH0)]).set ((ak.length:Nat):Int).toNat X7).length L10)::(Ent.obj b3 (.cells #[.slice Z1 aB.length P1,.slice Z14 (ak++[(⟨([]:List UInt8),(0:Int),ae,ae,([]:List TH0)⟩:TH0)]).length P15,.slice Z3 aC.length P3,.slice Z4 aD.length P4] 41 (0,0)))::(Ent.row 58 10 (.slice Z1 aB.length P1) aB.length L1)::(Ent.row 66 7 (.slice Z3 aC.length P3) aC.length L3)::(Ent.row 68 8 (.slice Z4 aD.length P4) aD.length L4)::H) W31:=N46.rowVal (by simp only[List.length_set])
          have f:=Frm.set f 15 (v:=.slice Z14 (ak++[(⟨([]:List UInt8),(0:Int),ae,ae,([]:List TH0)⟩:TH0)]).length P15) (v':=.slice Z14 ((ak++[(⟨([]:List UInt8),(0:Int),ae,ae,([]:List TH0)⟩:TH0)]).set ((ak.length:Nat):Int).toNat X7).length P15) (by kernel_rfl) (by simp only[List.length_set])
          have N48:Hp w0 V5 ((Ent.row 61 15 (.slice Z14 ((ak++[(⟨([]:List UInt8),(0:Int),ae,ae,([]:List TH0)⟩:TH0)]).set ((ak.length:Nat):Int).toNat X7).length P15) ((ak++[(⟨([]:List UInt8),(0:Int),ae,ae,([]:List TH0)⟩:TH0)]).set ((ak.length:Nat):Int).toNat X7).length L10)::(Ent.obj b3 (.cells #[.slice Z1 aB.length P1,.slice Z14 ((ak++[(⟨([]:List UInt8),(0:Int),ae,ae,([]:List TH0)⟩:TH0)]).set ((ak.length:Nat):Int).toNat X7).length P15,.slice Z3 aC.length P3,.slice Z4 aD.length P4] 41 (0,0)))::(Ent.row 58 10 (.slice Z1 aB.length P1) aB.length L1)::(Ent.row 66 7 (.slice Z3 aC.length P3) aC.length L3)::(Ent.row 68 8 (.slice Z4 aD.length P4) aD.length L4)::H) W31:=by simp only[List.length_set];rw[List.length_set] at N47;exact N47
          refine am rfl (aw 2 J5 N48 rfl (ci λW32 N49=>aS ?_))
          exact⟨(ak++[(⟨([]:List UInt8),(0:Int),ae,ae,([]:List TH0)⟩:TH0)]).set ((ak.length:Nat):Int).toNat X7,(sI F4).symm,V5,J5,Z14,P15,L10,D12,f.kp,N49⟩
         exact ar
        exact ar
       exact ar
      exact ar
     exact ar
   refine av rfl (λW33 N50=>?_) ?_
   ·refine aQ (k:=1) (c:=1) f N50 (.cells #[S [],.int .i8 0,.int .i8 0,S [],.int .i64 0,S [],S [],.slice none 0 0,.int .i8 0,S [],.int .i64 0,S [],S [],.slice none 0 0,.slice none 0 0] 61 (0,0)) (by kernel_rfl) (λ_=>by kernel_rfl) λQ7 W34 N51 _ f=>am rfl (aw 3 (mR _) N51 rfl (av rfl (λW35 N52=>?_) ?_))
    ·rcases X1 with X11|X12
     ·refine aH f N52 (bN n _ (GL.mono J1 hG) d0 _ d1 (TD0.shutx (x:=d1) (B1.mono J1) (B2.mono J1)) d2 (.inl X11) l1) (by kernel_rfl) (λ_=>by kernel_rfl) λV6 W36 J6 N53=>lj f λ_ f=>?_
      have F6:=bK F4 F1
      refine bM (aP f ?_)
      obtain rfl:=sI F6
      exact⟨V6,(J1.trans J6),(N53.dropN 6),rfl⟩
     ·refine Y16 f N52 (OkX.ok (bN n _ (GL.mono J1 hG) d0 _ d1 (TD0.shutx (x:=d1) (B1.mono J1) (B2.mono J1)) d2 (.inr X12) l1)) λ_ V7 W37 J7 N54 mg _ f=>?_
      obtain⟨c_3,rfl,D13⟩:=mg
      obtain⟨Z15,P18,Z16,P19,Z17,P20,rfl,B9,B10,B11⟩:=TH0.opn D13
      refine am rfl (aw 3 J7 N54 rfl (av rfl (λW38 N55=>?_) ?_))
      ·have N56:=N55.pl [2]
       refine Y20 (z:=.agg #[S [],.int .i8 0,.int .i8 0,S [],.int .i64 0,S [],S [],.slice none 0 0,.int .i8 0,S [],.int .i64 0,S [],S [],.slice none 0 0,.slice none 0 0]) (f:=aF) (xs:=ak) (ys:=[(⟨([]:List UInt8),(0:Int),ae,ae,([]:List TH0)⟩:TH0)]) (news:=[S [],.int .i8 0,.int .i8 0,S [],.int .i64 0,S [],S [],.slice none 0 0,.int .i8 0,S [],.int .i64 0,S [],S [],.slice none 0 0,.slice none 0 0]) (ad:=⟨Q7,0,none⟩) (m:=1) (c:=1) f N56 (ag.mono (J1.trans J7) _ _ D2) (by exact⟨_,_,rfl,TH0.shut Sli.nil Sli.nil Sli.nil,rfl⟩) rfl rfl rfl rfl (an (N56.ownCell 1 rfl) 0 rfl) (by exact O1) (by have hg_:=O1;first|omega|(simp only[List.length_cons,List.length_nil] at*;omega)) λZ18 P21 L11 W39 N57 D14 _ f=>?_
       have N58:=N57.pl [1]
       have N59:=N58.drop
       refine am rfl (aw 2 J7 N59 rfl (Y1 (v:=.pointer (some (⟨b3,1,none⟩))) rfl f rfl rfl (λ_ _=>by kernel_rfl) λ_ f=>av rfl (λW40 N60=>?_) ?_))
       ·obtain⟨Q8,P22,H4,hcap_4⟩:=N60.rowAddr 0 rfl (bh l2)
        have f:=f.st 15 (H4)
        refine Z f (Y28 rfl (ad:=⟨Q8,0,none⟩) (len:=(ak++[(⟨([]:List UInt8),(0:Int),ae,ae,([]:List TH0)⟩:TH0)]).length) (cap:=P22) (k:=.i64) (i:=((ak.length:Nat):Int)) (e:=61) (sz:=15) (az l2) (ay l2)) λ_ f=>?_
        have f:=f.st 15 (H4.symm)
        refine am rfl (aw 2 J7 N60 rfl (av rfl (λW41 N61=>?_) ?_))
        ·refine Y24 (it:=((ak.length:Nat):Int)) (d:=ak++[(⟨([]:List UInt8),(0:Int),ae,ae,([]:List TH0)⟩:TH0)]) (f:=aF) (xv:=X12) (vs:=[S X12.aj,.int .i8 X12.ab,.int .i8 X12.fA.ab,S X12.fA.aa,.int .i64 X12.fA.ai,S X12.fA.aj,S X12.fA.ao,.slice Z15 X12.fA.fL.length P18,.int .i8 X12.fB.ab,S X12.fB.aa,.int .i64 X12.fB.ai,S X12.fB.aj,S X12.fB.ao,.slice Z16 X12.fB.fL.length P19,.slice Z17 X12.fL.length P20]) f N61 H4 rfl rfl (by exact TH0.shutx (x:=X12) B9 B10 B11) dc l2 D14 λL12 W42 N62 D15 _ f=>?_
         have N63:Hp w0 V7 ((Ent.row 61 15 (.slice Z18 ((ak++[(⟨([]:List UInt8),(0:Int),ae,ae,([]:List TH0)⟩:TH0)]).set ((ak.length:Nat):Int).toNat X12).length P21) ((ak++[(⟨([]:List UInt8),(0:Int),ae,ae,([]:List TH0)⟩:TH0)]).set ((ak.length:Nat):Int).toNat X12).length L12)::(Ent.obj b3 (.cells #[.slice Z1 aB.length P1,.slice Z2 ak.length P2,.slice Z3 aC.length P3,.slice Z4 aD.length P4] 41 (0,0)))::(Ent.row 58 10 (.slice Z1 aB.length P1) aB.length L1)::(Ent.row 66 7 (.slice Z3 aC.length P3) aC.length L3)::(Ent.row 68 8 (.slice Z4 aD.length P4) aD.length L4)::H) W42:=N62.rowVal (by simp only[List.length_set])
         have f:=Frm.set f 15 (v:=.slice Z18 (ak++[(⟨([]:List UInt8),(0:Int),ae,ae,([]:List TH0)⟩:TH0)]).length P21) (v':=.slice Z18 ((ak++[(⟨([]:List UInt8),(0:Int),ae,ae,([]:List TH0)⟩:TH0)]).set ((ak.length:Nat):Int).toNat X12).length P21) (by kernel_rfl) (by simp only[List.length_set])
         refine am rfl (aw 2 J7 N63 rfl (av rfl (λW43 N64=>?_) ?_))
         ·refine Y25 f N64 1 rfl rfl (b:=b3) (j:=1) (v:=.slice Z18 ((ak++[(⟨([]:List UInt8),(0:Int),ae,ae,([]:List TH0)⟩:TH0)]).set ((ak.length:Nat):Int).toNat X12).length P21) rfl (by exact rfl) (by simp) (by simp) ((Ent.row 61 15 (.slice Z18 ((ak++[(⟨([]:List UInt8),(0:Int),ae,ae,([]:List TH0)⟩:TH0)]).set ((ak.length:Nat):Int).toNat X12).length P21) ((ak++[(⟨([]:List UInt8),(0:Int),ae,ae,([]:List TH0)⟩:TH0)]).set ((ak.length:Nat):Int).toNat X12).length L12)::(Ent.obj b3 (.cells #[.slice Z1 aB.length P1,.slice Z18 ((ak++[(⟨([]:List UInt8),(0:Int),ae,ae,([]:List TH0)⟩:TH0)]).set ((ak.length:Nat):Int).toNat X12).length P21,.slice Z3 aC.length P3,.slice Z4 aD.length P4] 41 (0,0)))::(Ent.row 58 10 (.slice Z1 aB.length P1) aB.length L1)::(Ent.row 66 7 (.slice Z3 aC.length P3) aC.length L3)::(Ent.row 68 8 (.slice Z4 aD.length P4) aD.length L4)::H) rfl λW44 N65 _ f=>am rfl (aw 2 J7 N65 rfl (ci λW45 N66=>aS ?_))
          exact⟨(ak++[(⟨([]:List UInt8),(0:Int),ae,ae,([]:List TH0)⟩:TH0)]).set ((ak.length:Nat):Int).toNat X12,(sI F4).symm,V7,J7,Z18,P21,L12,D15,f.kp,N66⟩
         exact ar
        refine av rfl (λW46 N67=>?_) ?_
        ·refine Y25 f N67 1 rfl rfl (b:=b3) (j:=1) (v:=.slice Z18 (ak++[(⟨([]:List UInt8),(0:Int),ae,ae,([]:List TH0)⟩:TH0)]).length P21) rfl (by exact rfl) (by simp) (by simp) ((Ent.row 61 15 (.slice Z18 (ak++[(⟨([]:List UInt8),(0:Int),ae,ae,([]:List TH0)⟩:TH0)]).length P21) (ak++[(⟨([]:List UInt8),(0:Int),ae,ae,([]:List TH0)⟩:TH0)]).length L11)::(Ent.obj b3 (.cells #[.slice Z1 aB.length P1,.slice Z18 (ak++[(⟨([]:List UInt8),(0:Int),ae,ae,([]:List TH0)⟩:TH0)]).length P21,.slice Z3 aC.length P3,.slice Z4 aD.length P4] 41 (0,0)))::(Ent.row 58 10 (.slice Z1 aB.length P1) aB.length L1)::(Ent.row 66 7 (.slice Z3 aC.length P3) aC.length L3)::(Ent.row 68 8 (.slice Z4 aD.length P4) aD.length L4)::H) rfl λW47 N68 _ f=>am rfl (aw 2 J7 N68 rfl (av rfl (λW48 N69=>?_) ?_))
         ·refine Y24 (it:=((ak.length:Nat):Int)) (d:=ak++[(⟨([]:List UInt8),(0:Int),ae,ae,([]:List TH0)⟩:TH0)]) (f:=aF) (xv:=X12) (vs:=[S X12.aj,.int .i8 X12.ab,.int .i8 X12.fA.ab,S X12.fA.aa,.int .i64 X12.fA.ai,S X12.fA.aj,S X12.fA.ao,.slice Z15 X12.fA.fL.length P18,.int .i8 X12.fB.ab,S X12.fB.aa,.int .i64 X12.fB.ai,S X12.fB.aj,S X12.fB.ao,.slice Z16 X12.fB.fL.length P19,.slice Z17 X12.fL.length P20]) f N69 H4 rfl rfl (by exact TH0.shutx (x:=X12) B9 B10 B11) dc l2 D14 λL13 W49 N70 D16 _ f=>?_
          have N71:Hp w0 V7 ((Ent.row 61 15 (.slice Z18 ((ak++[(⟨([]:List UInt8),(0:Int),ae,ae,([]:List TH0)⟩:TH0)]).set ((ak.length:Nat):Int).toNat X12).length P21) ((ak++[(⟨([]:List UInt8),(0:Int),ae,ae,([]:List TH0)⟩:TH0)]).set ((ak.length:Nat):Int).toNat X12).length L13)::(Ent.obj b3 (.cells #[.slice Z1 aB.length P1,.slice Z18 (ak++[(⟨([]:List UInt8),(0:Int),ae,ae,([]:List TH0)⟩:TH0)]).length P21,.slice Z3 aC.length P3,.slice Z4 aD.length P4] 41 (0,0)))::(Ent.row 58 10 (.slice Z1 aB.length P1) aB.length L1)::(Ent.row 66 7 (.slice Z3 aC.length P3) aC.length L3)::(Ent.row 68 8 (.slice Z4 aD.length P4) aD.length L4)::H) W49:=N70.rowVal (by simp only[List.length_set])
          have f:=Frm.set f 15 (v:=.slice Z18 (ak++[(⟨([]:List UInt8),(0:Int),ae,ae,([]:List TH0)⟩:TH0)]).length P21) (v':=.slice Z18 ((ak++[(⟨([]:List UInt8),(0:Int),ae,ae,([]:List TH0)⟩:TH0)]).set ((ak.length:Nat):Int).toNat X12).length P21) (by kernel_rfl) (by simp only[List.length_set])
          have N72:Hp w0 V7 ((Ent.row 61 15 (.slice Z18 ((ak++[(⟨([]:List UInt8),(0:Int),ae,ae,([]:List TH0)⟩:TH0)]).set ((ak.length:Nat):Int).toNat X12).length P21) ((ak++[(⟨([]:List UInt8),(0:Int),ae,ae,([]:List TH0)⟩:TH0)]).set ((ak.length:Nat):Int).toNat X12).length L13)::(Ent.obj b3 (.cells #[.slice Z1 aB.length P1,.slice Z18 ((ak++[(⟨([]:List UInt8),(0:Int),ae,ae,([]:List TH0)⟩:TH0)]).set ((ak.length:Nat):Int).toNat X12).length P21,.slice Z3 aC.length P3,.slice Z4 aD.length P4] 41 (0,0)))::(Ent.row 58 10 (.slice Z1 aB.length P1) aB.length L1)::(Ent.row 66 7 (.slice Z3 aC.length P3) aC.length L3)::(Ent.row 68 8 (.slice Z4 aD.length P4) aD.length L4)::H) W49:=by simp only[List.length_set];rw[List.length_set] at N71;exact N71
          refine am rfl (aw 2 J7 N72 rfl (ci λW50 N73=>aS ?_))
          exact⟨(ak++[(⟨([]:List UInt8),(0:Int),ae,ae,([]:List TH0)⟩:TH0)]).set ((ak.length:Nat):Int).toNat X12,(sI F4).symm,V7,J7,Z18,P21,L13,D16,f.kp,N73⟩
         exact ar
        exact ar
       refine av rfl (λW51 N74=>?_) ?_
       ·refine Y25 f N74 1 rfl rfl (b:=b3) (j:=1) (v:=.slice Z18 (ak++[(⟨([]:List UInt8),(0:Int),ae,ae,([]:List TH0)⟩:TH0)]).length P21) rfl (by exact rfl) (by simp) (by simp) ((Ent.row 61 15 (.slice Z18 (ak++[(⟨([]:List UInt8),(0:Int),ae,ae,([]:List TH0)⟩:TH0)]).length P21) (ak++[(⟨([]:List UInt8),(0:Int),ae,ae,([]:List TH0)⟩:TH0)]).length L11)::(Ent.obj b3 (.cells #[.slice Z1 aB.length P1,.slice Z18 (ak++[(⟨([]:List UInt8),(0:Int),ae,ae,([]:List TH0)⟩:TH0)]).length P21,.slice Z3 aC.length P3,.slice Z4 aD.length P4] 41 (0,0)))::(Ent.row 58 10 (.slice Z1 aB.length P1) aB.length L1)::(Ent.row 66 7 (.slice Z3 aC.length P3) aC.length L3)::(Ent.row 68 8 (.slice Z4 aD.length P4) aD.length L4)::H) rfl λW52 N75 _ f=>am rfl (aw 2 J7 N75 rfl (av rfl (λW53 N76=>?_) ?_))
        ·obtain⟨Q9,P23,H5,hcap_5⟩:=N76.rowAddr 0 rfl (bh l2)
         have f:=f.st 15 (H5)
         refine Z f (Y28 rfl (ad:=⟨Q9,0,none⟩) (len:=(ak++[(⟨([]:List UInt8),(0:Int),ae,ae,([]:List TH0)⟩:TH0)]).length) (cap:=P23) (k:=.i64) (i:=((ak.length:Nat):Int)) (e:=61) (sz:=15) (az l2) (ay l2)) λ_ f=>?_
         have f:=f.st 15 (H5.symm)
         refine am rfl (aw 2 J7 N76 rfl (av rfl (λW54 N77=>?_) ?_))
         ·refine Y24 (it:=((ak.length:Nat):Int)) (d:=ak++[(⟨([]:List UInt8),(0:Int),ae,ae,([]:List TH0)⟩:TH0)]) (f:=aF) (xv:=X12) (vs:=[S X12.aj,.int .i8 X12.ab,.int .i8 X12.fA.ab,S X12.fA.aa,.int .i64 X12.fA.ai,S X12.fA.aj,S X12.fA.ao,.slice Z15 X12.fA.fL.length P18,.int .i8 X12.fB.ab,S X12.fB.aa,.int .i64 X12.fB.ai,S X12.fB.aj,S X12.fB.ao,.slice Z16 X12.fB.fL.length P19,.slice Z17 X12.fL.length P20]) f N77 H5 rfl rfl (by exact TH0.shutx (x:=X12) B9 B10 B11) dc l2 D14 λL14 W55 N78 D17 _ f=>?_
          have N79:Hp w0 V7 ((Ent.row 61 15 (.slice Z18 ((ak++[(⟨([]:List UInt8),(0:Int),ae,ae,([]:List TH0)⟩:TH0)]).set ((ak.length:Nat):Int).toNat X12).length P21) ((ak++[(⟨([]:List UInt8),(0:Int),ae,ae,([]:List TH0)⟩:TH0)]).set ((ak.length:Nat):Int).toNat X12).length L14)::(Ent.obj b3 (.cells #[.slice Z1 aB.length P1,.slice Z18 (ak++[(⟨([]:List UInt8),(0:Int),ae,ae,([]:List TH0)⟩:TH0)]).length P21,.slice Z3 aC.length P3,.slice Z4 aD.length P4] 41 (0,0)))::(Ent.row 58 10 (.slice Z1 aB.length P1) aB.length L1)::(Ent.row 66 7 (.slice Z3 aC.length P3) aC.length L3)::(Ent.row 68 8 (.slice Z4 aD.length P4) aD.length L4)::H) W55:=N78.rowVal (by simp only[List.length_set])
          have f:=Frm.set f 15 (v:=.slice Z18 (ak++[(⟨([]:List UInt8),(0:Int),ae,ae,([]:List TH0)⟩:TH0)]).length P21) (v':=.slice Z18 ((ak++[(⟨([]:List UInt8),(0:Int),ae,ae,([]:List TH0)⟩:TH0)]).set ((ak.length:Nat):Int).toNat X12).length P21) (by kernel_rfl) (by simp only[List.length_set])
          have N80:Hp w0 V7 ((Ent.row 61 15 (.slice Z18 ((ak++[(⟨([]:List UInt8),(0:Int),ae,ae,([]:List TH0)⟩:TH0)]).set ((ak.length:Nat):Int).toNat X12).length P21) ((ak++[(⟨([]:List UInt8),(0:Int),ae,ae,([]:List TH0)⟩:TH0)]).set ((ak.length:Nat):Int).toNat X12).length L14)::(Ent.obj b3 (.cells #[.slice Z1 aB.length P1,.slice Z18 ((ak++[(⟨([]:List UInt8),(0:Int),ae,ae,([]:List TH0)⟩:TH0)]).set ((ak.length:Nat):Int).toNat X12).length P21,.slice Z3 aC.length P3,.slice Z4 aD.length P4] 41 (0,0)))::(Ent.row 58 10 (.slice Z1 aB.length P1) aB.length L1)::(Ent.row 66 7 (.slice Z3 aC.length P3) aC.length L3)::(Ent.row 68 8 (.slice Z4 aD.length P4) aD.length L4)::H) W55:=by simp only[List.length_set];rw[List.length_set] at N79;exact N79
          refine am rfl (aw 2 J7 N80 rfl (ci λW56 N81=>aS ?_))
          exact⟨(ak++[(⟨([]:List UInt8),(0:Int),ae,ae,([]:List TH0)⟩:TH0)]).set ((ak.length:Nat):Int).toNat X12,(sI F4).symm,V7,J7,Z18,P21,L14,D17,f.kp,N81⟩
         exact ar
        exact ar
       exact ar
      exact ar
    exact ar
   exact ar
  refine av rfl (λW57 N82=>?_) ?_
  ·rcases X1 with X16|X17
   ·refine aH f N82 (bN n _ (GL.mono J1 hG) d0 _ d1 (TD0.shutx (x:=d1) (B1.mono J1) (B2.mono J1)) d2 (.inl X16) l1) (by kernel_rfl) (λ_=>by kernel_rfl) λV8 W58 J8 N83=>lj f λ_ f=>?_
    have F7:=bK F4 F1
    refine bM (aP f ?_)
    obtain rfl:=sI F7
    exact⟨V8,(J1.trans J8),(N83.dropN 5),rfl⟩
   ·refine Y16 f N82 (OkX.ok (bN n _ (GL.mono J1 hG) d0 _ d1 (TD0.shutx (x:=d1) (B1.mono J1) (B2.mono J1)) d2 (.inr X17) l1)) λ_ V9 W59 J9 N84 q_4 _ f=>?_
    obtain⟨c_4,rfl,D18⟩:=q_4
    obtain⟨Z19,P24,Z20,P25,Z21,P26,rfl,B12,B13,B14⟩:=TH0.opn D18
    refine am rfl (aw 2 J9 N84 rfl (av rfl (λW60 N85=>?_) ?_))
    ·refine Z f (Y30 (v:=.slice Z2 ak.length P2) rfl (ad:=⟨b3,1,none⟩) (N85.ownCell 0 rfl 1)) λ_ f=>am rfl (aw 2 J9 N85 rfl (Y1 (v:=.int .i64 ((ak.length:Nat):Int)) rfl f rfl rfl (λ_ _=>by kernel_rfl) λ_ f=>av rfl (λW61 N86=>?_) ?_))
     ·refine aQ (k:=1) (c:=1) f N86 (.cells #[S [],.int .i8 0,.int .i8 0,S [],.int .i64 0,S [],S [],.slice none 0 0,.int .i8 0,S [],.int .i64 0,S [],S [],.slice none 0 0,.slice none 0 0] 61 (0,0)) (by kernel_rfl) (λ_=>by kernel_rfl) λQ10 W62 N87 _ f=>am rfl (aw 3 J9 N87 rfl (av rfl (λW63 N88=>?_) ?_))
      ·have N89:=N88.pl [2]
       refine Y20 (z:=.agg #[S [],.int .i8 0,.int .i8 0,S [],.int .i64 0,S [],S [],.slice none 0 0,.int .i8 0,S [],.int .i64 0,S [],S [],.slice none 0 0,.slice none 0 0]) (f:=aF) (xs:=ak) (ys:=[(⟨([]:List UInt8),(0:Int),ae,ae,([]:List TH0)⟩:TH0)]) (news:=[S [],.int .i8 0,.int .i8 0,S [],.int .i64 0,S [],S [],.slice none 0 0,.int .i8 0,S [],.int .i64 0,S [],S [],.slice none 0 0,.slice none 0 0]) (ad:=⟨Q10,0,none⟩) (m:=1) (c:=1) f N89 (ag.mono (J1.trans J9) _ _ D2) (by exact⟨_,_,rfl,TH0.shut Sli.nil Sli.nil Sli.nil,rfl⟩) rfl rfl rfl rfl (an (N89.ownCell 1 rfl) 0 rfl) (by exact O1) (by have hg_:=O1;first|omega|(simp only[List.length_cons,List.length_nil] at*;omega)) λZ22 P27 L15 W64 N90 D19 _ f=>?_
       have N91:=N90.pl [1]
       have N92:=N91.drop
       refine am rfl (aw 2 J9 N92 rfl (Y1 (v:=.pointer (some (⟨b3,1,none⟩))) rfl f rfl rfl (λ_ _=>by kernel_rfl) λ_ f=>av rfl (λW65 N93=>?_) ?_))
       ·obtain⟨Q11,P28,H6,hcap_6⟩:=N93.rowAddr 0 rfl (bh l2)
        have f:=f.st 15 (H6)
        refine Z f (Y28 rfl (ad:=⟨Q11,0,none⟩) (len:=(ak++[(⟨([]:List UInt8),(0:Int),ae,ae,([]:List TH0)⟩:TH0)]).length) (cap:=P28) (k:=.i64) (i:=((ak.length:Nat):Int)) (e:=61) (sz:=15) (az l2) (ay l2)) λ_ f=>?_
        have f:=f.st 15 (H6.symm)
        refine am rfl (aw 2 J9 N93 rfl (av rfl (λW66 N94=>?_) ?_))
        ·refine Y24 (it:=((ak.length:Nat):Int)) (d:=ak++[(⟨([]:List UInt8),(0:Int),ae,ae,([]:List TH0)⟩:TH0)]) (f:=aF) (xv:=X17) (vs:=[S X17.aj,.int .i8 X17.ab,.int .i8 X17.fA.ab,S X17.fA.aa,.int .i64 X17.fA.ai,S X17.fA.aj,S X17.fA.ao,.slice Z19 X17.fA.fL.length P24,.int .i8 X17.fB.ab,S X17.fB.aa,.int .i64 X17.fB.ai,S X17.fB.aj,S X17.fB.ao,.slice Z20 X17.fB.fL.length P25,.slice Z21 X17.fL.length P26]) f N94 H6 rfl rfl (by exact TH0.shutx (x:=X17) B12 B13 B14) dc l2 D19 λL16 W67 N95 D20 _ f=>?_
         have N96:Hp w0 V9 ((Ent.row 61 15 (.slice Z22 ((ak++[(⟨([]:List UInt8),(0:Int),ae,ae,([]:List TH0)⟩:TH0)]).set ((ak.length:Nat):Int).toNat X17).length P27) ((ak++[(⟨([]:List UInt8),(0:Int),ae,ae,([]:List TH0)⟩:TH0)]).set ((ak.length:Nat):Int).toNat X17).length L16)::(Ent.obj b3 (.cells #[.slice Z1 aB.length P1,.slice Z2 ak.length P2,.slice Z3 aC.length P3,.slice Z4 aD.length P4] 41 (0,0)))::(Ent.row 58 10 (.slice Z1 aB.length P1) aB.length L1)::(Ent.row 66 7 (.slice Z3 aC.length P3) aC.length L3)::(Ent.row 68 8 (.slice Z4 aD.length P4) aD.length L4)::H) W67:=N95.rowVal (by simp only[List.length_set])
         have f:=Frm.set f 15 (v:=.slice Z22 (ak++[(⟨([]:List UInt8),(0:Int),ae,ae,([]:List TH0)⟩:TH0)]).length P27) (v':=.slice Z22 ((ak++[(⟨([]:List UInt8),(0:Int),ae,ae,([]:List TH0)⟩:TH0)]).set ((ak.length:Nat):Int).toNat X17).length P27) (by kernel_rfl) (by simp only[List.length_set])
         refine am rfl (aw 2 J9 N96 rfl (av rfl (λW68 N97=>?_) ?_))
         ·refine Y25 f N97 1 rfl rfl (b:=b3) (j:=1) (v:=.slice Z22 ((ak++[(⟨([]:List UInt8),(0:Int),ae,ae,([]:List TH0)⟩:TH0)]).set ((ak.length:Nat):Int).toNat X17).length P27) rfl (by exact rfl) (by simp) (by simp) ((Ent.row 61 15 (.slice Z22 ((ak++[(⟨([]:List UInt8),(0:Int),ae,ae,([]:List TH0)⟩:TH0)]).set ((ak.length:Nat):Int).toNat X17).length P27) ((ak++[(⟨([]:List UInt8),(0:Int),ae,ae,([]:List TH0)⟩:TH0)]).set ((ak.length:Nat):Int).toNat X17).length L16)::(Ent.obj b3 (.cells #[.slice Z1 aB.length P1,.slice Z22 ((ak++[(⟨([]:List UInt8),(0:Int),ae,ae,([]:List TH0)⟩:TH0)]).set ((ak.length:Nat):Int).toNat X17).length P27,.slice Z3 aC.length P3,.slice Z4 aD.length P4] 41 (0,0)))::(Ent.row 58 10 (.slice Z1 aB.length P1) aB.length L1)::(Ent.row 66 7 (.slice Z3 aC.length P3) aC.length L3)::(Ent.row 68 8 (.slice Z4 aD.length P4) aD.length L4)::H) rfl λW69 N98 _ f=>am rfl (aw 2 J9 N98 rfl (ci λW70 N99=>aS ?_))
          exact⟨(ak++[(⟨([]:List UInt8),(0:Int),ae,ae,([]:List TH0)⟩:TH0)]).set ((ak.length:Nat):Int).toNat X17,(sI F4).symm,V9,J9,Z22,P27,L16,D20,f.kp,N99⟩
         exact ar
        refine av rfl (λW71 N100=>?_) ?_
        ·refine Y25 f N100 1 rfl rfl (b:=b3) (j:=1) (v:=.slice Z22 (ak++[(⟨([]:List UInt8),(0:Int),ae,ae,([]:List TH0)⟩:TH0)]).length P27) rfl (by exact rfl) (by simp) (by simp) ((Ent.row 61 15 (.slice Z22 (ak++[(⟨([]:List UInt8),(0:Int),ae,ae,([]:List TH0)⟩:TH0)]).length P27) (ak++[(⟨([]:List UInt8),(0:Int),ae,ae,([]:List TH0)⟩:TH0)]).length L15)::(Ent.obj b3 (.cells #[.slice Z1 aB.length P1,.slice Z22 (ak++[(⟨([]:List UInt8),(0:Int),ae,ae,([]:List TH0)⟩:TH0)]).length P27,.slice Z3 aC.length P3,.slice Z4 aD.length P4] 41 (0,0)))::(Ent.row 58 10 (.slice Z1 aB.length P1) aB.length L1)::(Ent.row 66 7 (.slice Z3 aC.length P3) aC.length L3)::(Ent.row 68 8 (.slice Z4 aD.length P4) aD.length L4)::H) rfl λW72 N101 _ f=>am rfl (aw 2 J9 N101 rfl (av rfl (λW73 N102=>?_) ?_))
         ·refine Y24 (it:=((ak.length:Nat):Int)) (d:=ak++[(⟨([]:List UInt8),(0:Int),ae,ae,([]:List TH0)⟩:TH0)]) (f:=aF) (xv:=X17) (vs:=[S X17.aj,.int .i8 X17.ab,.int .i8 X17.fA.ab,S X17.fA.aa,.int .i64 X17.fA.ai,S X17.fA.aj,S X17.fA.ao,.slice Z19 X17.fA.fL.length P24,.int .i8 X17.fB.ab,S X17.fB.aa,.int .i64 X17.fB.ai,S X17.fB.aj,S X17.fB.ao,.slice Z20 X17.fB.fL.length P25,.slice Z21 X17.fL.length P26]) f N102 H6 rfl rfl (by exact TH0.shutx (x:=X17) B12 B13 B14) dc l2 D19 λL17 W74 N103 D21 _ f=>?_
          have N104:Hp w0 V9 ((Ent.row 61 15 (.slice Z22 ((ak++[(⟨([]:List UInt8),(0:Int),ae,ae,([]:List TH0)⟩:TH0)]).set ((ak.length:Nat):Int).toNat X17).length P27) ((ak++[(⟨([]:List UInt8),(0:Int),ae,ae,([]:List TH0)⟩:TH0)]).set ((ak.length:Nat):Int).toNat X17).length L17)::(Ent.obj b3 (.cells #[.slice Z1 aB.length P1,.slice Z22 (ak++[(⟨([]:List UInt8),(0:Int),ae,ae,([]:List TH0)⟩:TH0)]).length P27,.slice Z3 aC.length P3,.slice Z4 aD.length P4] 41 (0,0)))::(Ent.row 58 10 (.slice Z1 aB.length P1) aB.length L1)::(Ent.row 66 7 (.slice Z3 aC.length P3) aC.length L3)::(Ent.row 68 8 (.slice Z4 aD.length P4) aD.length L4)::H) W74:=N103.rowVal (by simp only[List.length_set])
          have f:=Frm.set f 15 (v:=.slice Z22 (ak++[(⟨([]:List UInt8),(0:Int),ae,ae,([]:List TH0)⟩:TH0)]).length P27) (v':=.slice Z22 ((ak++[(⟨([]:List UInt8),(0:Int),ae,ae,([]:List TH0)⟩:TH0)]).set ((ak.length:Nat):Int).toNat X17).length P27) (by kernel_rfl) (by simp only[List.length_set])
          have N105:Hp w0 V9 ((Ent.row 61 15 (.slice Z22 ((ak++[(⟨([]:List UInt8),(0:Int),ae,ae,([]:List TH0)⟩:TH0)]).set ((ak.length:Nat):Int).toNat X17).length P27) ((ak++[(⟨([]:List UInt8),(0:Int),ae,ae,([]:List TH0)⟩:TH0)]).set ((ak.length:Nat):Int).toNat X17).length L17)::(Ent.obj b3 (.cells #[.slice Z1 aB.length P1,.slice Z22 ((ak++[(⟨([]:List UInt8),(0:Int),ae,ae,([]:List TH0)⟩:TH0)]).set ((ak.length:Nat):Int).toNat X17).length P27,.slice Z3 aC.length P3,.slice Z4 aD.length P4] 41 (0,0)))::(Ent.row 58 10 (.slice Z1 aB.length P1) aB.length L1)::(Ent.row 66 7 (.slice Z3 aC.length P3) aC.length L3)::(Ent.row 68 8 (.slice Z4 aD.length P4) aD.length L4)::H) W74:=by simp only[List.length_set];rw[List.length_set] at N104;exact N104
          refine am rfl (aw 2 J9 N105 rfl (ci λW75 N106=>aS ?_))
          exact⟨(ak++[(⟨([]:List UInt8),(0:Int),ae,ae,([]:List TH0)⟩:TH0)]).set ((ak.length:Nat):Int).toNat X17,(sI F4).symm,V9,J9,Z22,P27,L17,D21,f.kp,N106⟩
         exact ar
        exact ar
       refine av rfl (λW76 N107=>?_) ?_
       ·refine Y25 f N107 1 rfl rfl (b:=b3) (j:=1) (v:=.slice Z22 (ak++[(⟨([]:List UInt8),(0:Int),ae,ae,([]:List TH0)⟩:TH0)]).length P27) rfl (by exact rfl) (by simp) (by simp) ((Ent.row 61 15 (.slice Z22 (ak++[(⟨([]:List UInt8),(0:Int),ae,ae,([]:List TH0)⟩:TH0)]).length P27) (ak++[(⟨([]:List UInt8),(0:Int),ae,ae,([]:List TH0)⟩:TH0)]).length L15)::(Ent.obj b3 (.cells #[.slice Z1 aB.length P1,.slice Z22 (ak++[(⟨([]:List UInt8),(0:Int),ae,ae,([]:List TH0)⟩:TH0)]).length P27,.slice Z3 aC.length P3,.slice Z4 aD.length P4] 41 (0,0)))::(Ent.row 58 10 (.slice Z1 aB.length P1) aB.length L1)::(Ent.row 66 7 (.slice Z3 aC.length P3) aC.length L3)::(Ent.row 68 8 (.slice Z4 aD.length P4) aD.length L4)::H) rfl λW77 N108 _ f=>am rfl (aw 2 J9 N108 rfl (av rfl (λW78 N109=>?_) ?_))
        ·obtain⟨Q12,P29,H7,hcap_7⟩:=N109.rowAddr 0 rfl (bh l2)
         have f:=f.st 15 (H7)
         refine Z f (Y28 rfl (ad:=⟨Q12,0,none⟩) (len:=(ak++[(⟨([]:List UInt8),(0:Int),ae,ae,([]:List TH0)⟩:TH0)]).length) (cap:=P29) (k:=.i64) (i:=((ak.length:Nat):Int)) (e:=61) (sz:=15) (az l2) (ay l2)) λ_ f=>?_
         have f:=f.st 15 (H7.symm)
         refine am rfl (aw 2 J9 N109 rfl (av rfl (λW79 N110=>?_) ?_))
         ·refine Y24 (it:=((ak.length:Nat):Int)) (d:=ak++[(⟨([]:List UInt8),(0:Int),ae,ae,([]:List TH0)⟩:TH0)]) (f:=aF) (xv:=X17) (vs:=[S X17.aj,.int .i8 X17.ab,.int .i8 X17.fA.ab,S X17.fA.aa,.int .i64 X17.fA.ai,S X17.fA.aj,S X17.fA.ao,.slice Z19 X17.fA.fL.length P24,.int .i8 X17.fB.ab,S X17.fB.aa,.int .i64 X17.fB.ai,S X17.fB.aj,S X17.fB.ao,.slice Z20 X17.fB.fL.length P25,.slice Z21 X17.fL.length P26]) f N110 H7 rfl rfl (by exact TH0.shutx (x:=X17) B12 B13 B14) dc l2 D19 λL18 W80 N111 D22 _ f=>?_
          have N112:Hp w0 V9 ((Ent.row 61 15 (.slice Z22 ((ak++[(⟨([]:List UInt8),(0:Int),ae,ae,([]:List TH0)⟩:TH0)]).set ((ak.length:Nat):Int).toNat X17).length P27) ((ak++[(⟨([]:List UInt8),(0:Int),ae,ae,([]:List TH0)⟩:TH0)]).set ((ak.length:Nat):Int).toNat X17).length L18)::(Ent.obj b3 (.cells #[.slice Z1 aB.length P1,.slice Z22 (ak++[(⟨([]:List UInt8),(0:Int),ae,ae,([]:List TH0)⟩:TH0)]).length P27,.slice Z3 aC.length P3,.slice Z4 aD.length P4] 41 (0,0)))::(Ent.row 58 10 (.slice Z1 aB.length P1) aB.length L1)::(Ent.row 66 7 (.slice Z3 aC.length P3) aC.length L3)::(Ent.row 68 8 (.slice Z4 aD.length P4) aD.length L4)::H) W80:=N111.rowVal (by simp only[List.length_set])
          have f:=Frm.set f 15 (v:=.slice Z22 (ak++[(⟨([]:List UInt8),(0:Int),ae,ae,([]:List TH0)⟩:TH0)]).length P27) (v':=.slice Z22 ((ak++[(⟨([]:List UInt8),(0:Int),ae,ae,([]:List TH0)⟩:TH0)]).set ((ak.length:Nat):Int).toNat X17).length P27) (by kernel_rfl) (by simp only[List.length_set])
          have N113:Hp w0 V9 ((Ent.row 61 15 (.slice Z22 ((ak++[(⟨([]:List UInt8),(0:Int),ae,ae,([]:List TH0)⟩:TH0)]).set ((ak.length:Nat):Int).toNat X17).length P27) ((ak++[(⟨([]:List UInt8),(0:Int),ae,ae,([]:List TH0)⟩:TH0)]).set ((ak.length:Nat):Int).toNat X17).length L18)::(Ent.obj b3 (.cells #[.slice Z1 aB.length P1,.slice Z22 ((ak++[(⟨([]:List UInt8),(0:Int),ae,ae,([]:List TH0)⟩:TH0)]).set ((ak.length:Nat):Int).toNat X17).length P27,.slice Z3 aC.length P3,.slice Z4 aD.length P4] 41 (0,0)))::(Ent.row 58 10 (.slice Z1 aB.length P1) aB.length L1)::(Ent.row 66 7 (.slice Z3 aC.length P3) aC.length L3)::(Ent.row 68 8 (.slice Z4 aD.length P4) aD.length L4)::H) W80:=by simp only[List.length_set];rw[List.length_set] at N112;exact N112
          refine am rfl (aw 2 J9 N113 rfl (ci λW81 N114=>aS ?_))
          exact⟨(ak++[(⟨([]:List UInt8),(0:Int),ae,ae,([]:List TH0)⟩:TH0)]).set ((ak.length:Nat):Int).toNat X17,(sI F4).symm,V9,J9,Z22,P27,L18,D22,f.kp,N114⟩
         exact ar
        exact ar
       exact ar
      exact ar
     exact ar
    refine av rfl (λW82 N115=>?_) ?_
    ·refine aQ (k:=1) (c:=1) f N115 (.cells #[S [],.int .i8 0,.int .i8 0,S [],.int .i64 0,S [],S [],.slice none 0 0,.int .i8 0,S [],.int .i64 0,S [],S [],.slice none 0 0,.slice none 0 0] 61 (0,0)) (by kernel_rfl) (λ_=>by kernel_rfl) λQ13 W83 N116 _ f=>am rfl (aw 3 J9 N116 rfl (av rfl (λW84 N117=>?_) ?_))
     ·refine Z f (Y30 (v:=.slice Z2 ak.length P2) rfl (ad:=⟨b3,1,none⟩) (N117.ownCell 1 rfl 1)) λ_ f=>am rfl (aw 3 J9 N117 rfl (Y1 (v:=.int .i64 ((ak.length:Nat):Int)) rfl f rfl rfl (λ_ _=>by kernel_rfl) λ_ f=>av rfl (λW85 N118=>?_) ?_))
      ·have N119:=N118.pl [2]
       refine Y20 (z:=.agg #[S [],.int .i8 0,.int .i8 0,S [],.int .i64 0,S [],S [],.slice none 0 0,.int .i8 0,S [],.int .i64 0,S [],S [],.slice none 0 0,.slice none 0 0]) (f:=aF) (xs:=ak) (ys:=[(⟨([]:List UInt8),(0:Int),ae,ae,([]:List TH0)⟩:TH0)]) (news:=[S [],.int .i8 0,.int .i8 0,S [],.int .i64 0,S [],S [],.slice none 0 0,.int .i8 0,S [],.int .i64 0,S [],S [],.slice none 0 0,.slice none 0 0]) (ad:=⟨Q13,0,none⟩) (m:=1) (c:=1) f N119 (ag.mono (J1.trans J9) _ _ D2) (by exact⟨_,_,rfl,TH0.shut Sli.nil Sli.nil Sli.nil,rfl⟩) rfl rfl rfl rfl (an (N119.ownCell 1 rfl) 0 rfl) (by exact O1) (by have hg_:=O1;first|omega|(simp only[List.length_cons,List.length_nil] at*;omega)) λZ23 P30 L19 W86 N120 D23 _ f=>?_
       have N121:=N120.pl [1]
       have N122:=N121.drop
       refine am rfl (aw 2 J9 N122 rfl (Y1 (v:=.pointer (some (⟨b3,1,none⟩))) rfl f rfl rfl (λ_ _=>by kernel_rfl) λ_ f=>av rfl (λW87 N123=>?_) ?_))
       ·obtain⟨Q14,P31,H8,hcap_8⟩:=N123.rowAddr 0 rfl (bh l2)
        have f:=f.st 15 (H8)
        refine Z f (Y28 rfl (ad:=⟨Q14,0,none⟩) (len:=(ak++[(⟨([]:List UInt8),(0:Int),ae,ae,([]:List TH0)⟩:TH0)]).length) (cap:=P31) (k:=.i64) (i:=((ak.length:Nat):Int)) (e:=61) (sz:=15) (az l2) (ay l2)) λ_ f=>?_
        have f:=f.st 15 (H8.symm)
        refine am rfl (aw 2 J9 N123 rfl (av rfl (λW88 N124=>?_) ?_))
        ·refine Y24 (it:=((ak.length:Nat):Int)) (d:=ak++[(⟨([]:List UInt8),(0:Int),ae,ae,([]:List TH0)⟩:TH0)]) (f:=aF) (xv:=X17) (vs:=[S X17.aj,.int .i8 X17.ab,.int .i8 X17.fA.ab,S X17.fA.aa,.int .i64 X17.fA.ai,S X17.fA.aj,S X17.fA.ao,.slice Z19 X17.fA.fL.length P24,.int .i8 X17.fB.ab,S X17.fB.aa,.int .i64 X17.fB.ai,S X17.fB.aj,S X17.fB.ao,.slice Z20 X17.fB.fL.length P25,.slice Z21 X17.fL.length P26]) f N124 H8 rfl rfl (by exact TH0.shutx (x:=X17) B12 B13 B14) dc l2 D23 λL20 W89 N125 D24 _ f=>?_
         have N126:Hp w0 V9 ((Ent.row 61 15 (.slice Z23 ((ak++[(⟨([]:List UInt8),(0:Int),ae,ae,([]:List TH0)⟩:TH0)]).set ((ak.length:Nat):Int).toNat X17).length P30) ((ak++[(⟨([]:List UInt8),(0:Int),ae,ae,([]:List TH0)⟩:TH0)]).set ((ak.length:Nat):Int).toNat X17).length L20)::(Ent.obj b3 (.cells #[.slice Z1 aB.length P1,.slice Z2 ak.length P2,.slice Z3 aC.length P3,.slice Z4 aD.length P4] 41 (0,0)))::(Ent.row 58 10 (.slice Z1 aB.length P1) aB.length L1)::(Ent.row 66 7 (.slice Z3 aC.length P3) aC.length L3)::(Ent.row 68 8 (.slice Z4 aD.length P4) aD.length L4)::H) W89:=N125.rowVal (by simp only[List.length_set])
         have f:=Frm.set f 15 (v:=.slice Z23 (ak++[(⟨([]:List UInt8),(0:Int),ae,ae,([]:List TH0)⟩:TH0)]).length P30) (v':=.slice Z23 ((ak++[(⟨([]:List UInt8),(0:Int),ae,ae,([]:List TH0)⟩:TH0)]).set ((ak.length:Nat):Int).toNat X17).length P30) (by kernel_rfl) (by simp only[List.length_set])
         refine am rfl (aw 2 J9 N126 rfl (av rfl (λW90 N127=>?_) ?_))
         ·refine Y25 f N127 1 rfl rfl (b:=b3) (j:=1) (v:=.slice Z23 ((ak++[(⟨([]:List UInt8),(0:Int),ae,ae,([]:List TH0)⟩:TH0)]).set ((ak.length:Nat):Int).toNat X17).length P30) rfl (by exact rfl) (by simp) (by simp) ((Ent.row 61 15 (.slice Z23 ((ak++[(⟨([]:List UInt8),(0:Int),ae,ae,([]:List TH0)⟩:TH0)]).set ((ak.length:Nat):Int).toNat X17).length P30) ((ak++[(⟨([]:List UInt8),(0:Int),ae,ae,([]:List TH0)⟩:TH0)]).set ((ak.length:Nat):Int).toNat X17).length L20)::(Ent.obj b3 (.cells #[.slice Z1 aB.length P1,.slice Z23 ((ak++[(⟨([]:List UInt8),(0:Int),ae,ae,([]:List TH0)⟩:TH0)]).set ((ak.length:Nat):Int).toNat X17).length P30,.slice Z3 aC.length P3,.slice Z4 aD.length P4] 41 (0,0)))::(Ent.row 58 10 (.slice Z1 aB.length P1) aB.length L1)::(Ent.row 66 7 (.slice Z3 aC.length P3) aC.length L3)::(Ent.row 68 8 (.slice Z4 aD.length P4) aD.length L4)::H) rfl λW91 N128 _ f=>am rfl (aw 2 J9 N128 rfl (ci λW92 N129=>aS ?_))
          exact⟨(ak++[(⟨([]:List UInt8),(0:Int),ae,ae,([]:List TH0)⟩:TH0)]).set ((ak.length:Nat):Int).toNat X17,(sI F4).symm,V9,J9,Z23,P30,L20,D24,f.kp,N129⟩
         exact ar
        refine av rfl (λW93 N130=>?_) ?_
        ·refine Y25 f N130 1 rfl rfl (b:=b3) (j:=1) (v:=.slice Z23 (ak++[(⟨([]:List UInt8),(0:Int),ae,ae,([]:List TH0)⟩:TH0)]).length P30) rfl (by exact rfl) (by simp) (by simp) ((Ent.row 61 15 (.slice Z23 (ak++[(⟨([]:List UInt8),(0:Int),ae,ae,([]:List TH0)⟩:TH0)]).length P30) (ak++[(⟨([]:List UInt8),(0:Int),ae,ae,([]:List TH0)⟩:TH0)]).length L19)::(Ent.obj b3 (.cells #[.slice Z1 aB.length P1,.slice Z23 (ak++[(⟨([]:List UInt8),(0:Int),ae,ae,([]:List TH0)⟩:TH0)]).length P30,.slice Z3 aC.length P3,.slice Z4 aD.length P4] 41 (0,0)))::(Ent.row 58 10 (.slice Z1 aB.length P1) aB.length L1)::(Ent.row 66 7 (.slice Z3 aC.length P3) aC.length L3)::(Ent.row 68 8 (.slice Z4 aD.length P4) aD.length L4)::H) rfl λW94 N131 _ f=>am rfl (aw 2 J9 N131 rfl (av rfl (λW95 N132=>?_) ?_))
         ·refine Y24 (it:=((ak.length:Nat):Int)) (d:=ak++[(⟨([]:List UInt8),(0:Int),ae,ae,([]:List TH0)⟩:TH0)]) (f:=aF) (xv:=X17) (vs:=[S X17.aj,.int .i8 X17.ab,.int .i8 X17.fA.ab,S X17.fA.aa,.int .i64 X17.fA.ai,S X17.fA.aj,S X17.fA.ao,.slice Z19 X17.fA.fL.length P24,.int .i8 X17.fB.ab,S X17.fB.aa,.int .i64 X17.fB.ai,S X17.fB.aj,S X17.fB.ao,.slice Z20 X17.fB.fL.length P25,.slice Z21 X17.fL.length P26]) f N132 H8 rfl rfl (by exact TH0.shutx (x:=X17) B12 B13 B14) dc l2 D23 λL21 W96 N133 D25 _ f=>?_
          have N134:Hp w0 V9 ((Ent.row 61 15 (.slice Z23 ((ak++[(⟨([]:List UInt8),(0:Int),ae,ae,([]:List TH0)⟩:TH0)]).set ((ak.length:Nat):Int).toNat X17).length P30) ((ak++[(⟨([]:List UInt8),(0:Int),ae,ae,([]:List TH0)⟩:TH0)]).set ((ak.length:Nat):Int).toNat X17).length L21)::(Ent.obj b3 (.cells #[.slice Z1 aB.length P1,.slice Z23 (ak++[(⟨([]:List UInt8),(0:Int),ae,ae,([]:List TH0)⟩:TH0)]).length P30,.slice Z3 aC.length P3,.slice Z4 aD.length P4] 41 (0,0)))::(Ent.row 58 10 (.slice Z1 aB.length P1) aB.length L1)::(Ent.row 66 7 (.slice Z3 aC.length P3) aC.length L3)::(Ent.row 68 8 (.slice Z4 aD.length P4) aD.length L4)::H) W96:=N133.rowVal (by simp only[List.length_set])
          have f:=Frm.set f 15 (v:=.slice Z23 (ak++[(⟨([]:List UInt8),(0:Int),ae,ae,([]:List TH0)⟩:TH0)]).length P30) (v':=.slice Z23 ((ak++[(⟨([]:List UInt8),(0:Int),ae,ae,([]:List TH0)⟩:TH0)]).set ((ak.length:Nat):Int).toNat X17).length P30) (by kernel_rfl) (by simp only[List.length_set])
          have N135:Hp w0 V9 ((Ent.row 61 15 (.slice Z23 ((ak++[(⟨([]:List UInt8),(0:Int),ae,ae,([]:List TH0)⟩:TH0)]).set ((ak.length:Nat):Int).toNat X17).length P30) ((ak++[(⟨([]:List UInt8),(0:Int),ae,ae,([]:List TH0)⟩:TH0)]).set ((ak.length:Nat):Int).toNat X17).length L21)::(Ent.obj b3 (.cells #[.slice Z1 aB.length P1,.slice Z23 ((ak++[(⟨([]:List UInt8),(0:Int),ae,ae,([]:List TH0)⟩:TH0)]).set ((ak.length:Nat):Int).toNat X17).length P30,.slice Z3 aC.length P3,.slice Z4 aD.length P4] 41 (0,0)))::(Ent.row 58 10 (.slice Z1 aB.length P1) aB.length L1)::(Ent.row 66 7 (.slice Z3 aC.length P3) aC.length L3)::(Ent.row 68 8 (.slice Z4 aD.length P4) aD.length L4)::H) W96:=by simp only[List.length_set];rw[List.length_set] at N134;exact N134
          refine am rfl (aw 2 J9 N135 rfl (ci λW97 N136=>aS ?_))
          exact⟨(ak++[(⟨([]:List UInt8),(0:Int),ae,ae,([]:List TH0)⟩:TH0)]).set ((ak.length:Nat):Int).toNat X17,(sI F4).symm,V9,J9,Z23,P30,L21,D25,f.kp,N136⟩
         exact ar
        exact ar
       refine av rfl (λW98 N137=>?_) ?_
       ·refine Y25 f N137 1 rfl rfl (b:=b3) (j:=1) (v:=.slice Z23 (ak++[(⟨([]:List UInt8),(0:Int),ae,ae,([]:List TH0)⟩:TH0)]).length P30) rfl (by exact rfl) (by simp) (by simp) ((Ent.row 61 15 (.slice Z23 (ak++[(⟨([]:List UInt8),(0:Int),ae,ae,([]:List TH0)⟩:TH0)]).length P30) (ak++[(⟨([]:List UInt8),(0:Int),ae,ae,([]:List TH0)⟩:TH0)]).length L19)::(Ent.obj b3 (.cells #[.slice Z1 aB.length P1,.slice Z23 (ak++[(⟨([]:List UInt8),(0:Int),ae,ae,([]:List TH0)⟩:TH0)]).length P30,.slice Z3 aC.length P3,.slice Z4 aD.length P4] 41 (0,0)))::(Ent.row 58 10 (.slice Z1 aB.length P1) aB.length L1)::(Ent.row 66 7 (.slice Z3 aC.length P3) aC.length L3)::(Ent.row 68 8 (.slice Z4 aD.length P4) aD.length L4)::H) rfl λW99 N138 _ f=>am rfl (aw 2 J9 N138 rfl (av rfl (λW100 N139=>?_) ?_))
        ·obtain⟨Q15,P32,H9,hcap_9⟩:=N139.rowAddr 0 rfl (bh l2)
         have f:=f.st 15 (H9)
         refine Z f (Y28 rfl (ad:=⟨Q15,0,none⟩) (len:=(ak++[(⟨([]:List UInt8),(0:Int),ae,ae,([]:List TH0)⟩:TH0)]).length) (cap:=P32) (k:=.i64) (i:=((ak.length:Nat):Int)) (e:=61) (sz:=15) (az l2) (ay l2)) λ_ f=>?_
         have f:=f.st 15 (H9.symm)
         refine am rfl (aw 2 J9 N139 rfl (av rfl (λW101 N140=>?_) ?_))
         ·refine Y24 (it:=((ak.length:Nat):Int)) (d:=ak++[(⟨([]:List UInt8),(0:Int),ae,ae,([]:List TH0)⟩:TH0)]) (f:=aF) (xv:=X17) (vs:=[S X17.aj,.int .i8 X17.ab,.int .i8 X17.fA.ab,S X17.fA.aa,.int .i64 X17.fA.ai,S X17.fA.aj,S X17.fA.ao,.slice Z19 X17.fA.fL.length P24,.int .i8 X17.fB.ab,S X17.fB.aa,.int .i64 X17.fB.ai,S X17.fB.aj,S X17.fB.ao,.slice Z20 X17.fB.fL.length P25,.slice Z21 X17.fL.length P26]) f N140 H9 rfl rfl (by exact TH0.shutx (x:=X17) B12 B13 B14) dc l2 D23 λL22 W102 N141 D26 _ f=>?_
          have N142:Hp w0 V9 ((Ent.row 61 15 (.slice Z23 ((ak++[(⟨([]:List UInt8),(0:Int),ae,ae,([]:List TH0)⟩:TH0)]).set ((ak.length:Nat):Int).toNat X17).length P30) ((ak++[(⟨([]:List UInt8),(0:Int),ae,ae,([]:List TH0)⟩:TH0)]).set ((ak.length:Nat):Int).toNat X17).length L22)::(Ent.obj b3 (.cells #[.slice Z1 aB.length P1,.slice Z23 (ak++[(⟨([]:List UInt8),(0:Int),ae,ae,([]:List TH0)⟩:TH0)]).length P30,.slice Z3 aC.length P3,.slice Z4 aD.length P4] 41 (0,0)))::(Ent.row 58 10 (.slice Z1 aB.length P1) aB.length L1)::(Ent.row 66 7 (.slice Z3 aC.length P3) aC.length L3)::(Ent.row 68 8 (.slice Z4 aD.length P4) aD.length L4)::H) W102:=N141.rowVal (by simp only[List.length_set])
          have f:=Frm.set f 15 (v:=.slice Z23 (ak++[(⟨([]:List UInt8),(0:Int),ae,ae,([]:List TH0)⟩:TH0)]).length P30) (v':=.slice Z23 ((ak++[(⟨([]:List UInt8),(0:Int),ae,ae,([]:List TH0)⟩:TH0)]).set ((ak.length:Nat):Int).toNat X17).length P30) (by kernel_rfl) (by simp only[List.length_set])
          have N143:Hp w0 V9 ((Ent.row 61 15 (.slice Z23 ((ak++[(⟨([]:List UInt8),(0:Int),ae,ae,([]:List TH0)⟩:TH0)]).set ((ak.length:Nat):Int).toNat X17).length P30) ((ak++[(⟨([]:List UInt8),(0:Int),ae,ae,([]:List TH0)⟩:TH0)]).set ((ak.length:Nat):Int).toNat X17).length L22)::(Ent.obj b3 (.cells #[.slice Z1 aB.length P1,.slice Z23 ((ak++[(⟨([]:List UInt8),(0:Int),ae,ae,([]:List TH0)⟩:TH0)]).set ((ak.length:Nat):Int).toNat X17).length P30,.slice Z3 aC.length P3,.slice Z4 aD.length P4] 41 (0,0)))::(Ent.row 58 10 (.slice Z1 aB.length P1) aB.length L1)::(Ent.row 66 7 (.slice Z3 aC.length P3) aC.length L3)::(Ent.row 68 8 (.slice Z4 aD.length P4) aD.length L4)::H) W102:=by simp only[List.length_set];rw[List.length_set] at N142;exact N142
          refine am rfl (aw 2 J9 N143 rfl (ci λW103 N144=>aS ?_))
          exact⟨(ak++[(⟨([]:List UInt8),(0:Int),ae,ae,([]:List TH0)⟩:TH0)]).set ((ak.length:Nat):Int).toNat X17,(sI F4).symm,V9,J9,Z23,P30,L22,D26,f.kp,N144⟩
         exact ar
        exact ar
       exact ar
      exact ar
     exact ar
    exact ar
  refine av rfl (λW104 N145=>?_) ?_
  ·refine aQ (k:=1) (c:=1) f N145 (.cells #[S [],.int .i8 0,.int .i8 0,S [],.int .i64 0,S [],S [],.slice none 0 0,.int .i8 0,S [],.int .i64 0,S [],S [],.slice none 0 0,.slice none 0 0] 61 (0,0)) (by kernel_rfl) (λ_=>by kernel_rfl) λQ16 W105 N146 _ f=>am rfl (aw 3 (mR _) N146 rfl (av rfl (λW106 N147=>?_) ?_))
   ·refine Z f (Y30 (v:=.slice Z2 ak.length P2) rfl (ad:=⟨b3,1,none⟩) (N147.ownCell 1 rfl 1)) λ_ f=>am rfl (aw 3 (mR _) N147 rfl (Y1 (v:=.int .i64 ((ak.length:Nat):Int)) rfl f rfl rfl (λ_ _=>by kernel_rfl) λ_ f=>av rfl (λW107 N148=>?_) ?_))
    ·rcases X1 with X23|X24
     ·refine aH f N148 (bN n _ (GL.mono J1 hG) d0 _ d1 (TD0.shutx (x:=d1) (B1.mono J1) (B2.mono J1)) d2 (.inl X23) l1) (by kernel_rfl) (λ_=>by kernel_rfl) λV10 W108 J10 N149=>lj f λ_ f=>?_
      have F8:=bK F4 F1
      refine bM (aP f ?_)
      obtain rfl:=sI F8
      exact⟨V10,(J1.trans J10),(N149.dropN 6),rfl⟩
     ·refine Y16 f N148 (OkX.ok (bN n _ (GL.mono J1 hG) d0 _ d1 (TD0.shutx (x:=d1) (B1.mono J1) (B2.mono J1)) d2 (.inr X24) l1)) λ_ V11 W109 J11 N150 q_5 _ f=>?_
      obtain⟨c_5,rfl,D27⟩:=q_5
      obtain⟨Z24,P33,Z25,P34,Z26,P35,rfl,B15,B16,B17⟩:=TH0.opn D27
      refine am rfl (aw 3 J11 N150 rfl (av rfl (λW110 N151=>?_) ?_))
      ·have N152:=N151.pl [2]
       refine Y20 (z:=.agg #[S [],.int .i8 0,.int .i8 0,S [],.int .i64 0,S [],S [],.slice none 0 0,.int .i8 0,S [],.int .i64 0,S [],S [],.slice none 0 0,.slice none 0 0]) (f:=aF) (xs:=ak) (ys:=[(⟨([]:List UInt8),(0:Int),ae,ae,([]:List TH0)⟩:TH0)]) (news:=[S [],.int .i8 0,.int .i8 0,S [],.int .i64 0,S [],S [],.slice none 0 0,.int .i8 0,S [],.int .i64 0,S [],S [],.slice none 0 0,.slice none 0 0]) (ad:=⟨Q16,0,none⟩) (m:=1) (c:=1) f N152 (ag.mono (J1.trans J11) _ _ D2) (by exact⟨_,_,rfl,TH0.shut Sli.nil Sli.nil Sli.nil,rfl⟩) rfl rfl rfl rfl (an (N152.ownCell 1 rfl) 0 rfl) (by exact O1) (by have hg_:=O1;first|omega|(simp only[List.length_cons,List.length_nil] at*;omega)) λZ27 P36 L23 W111 N153 D28 _ f=>?_
       have N154:=N153.pl [1]
       have N155:=N154.drop
       refine am rfl (aw 2 J11 N155 rfl (Y1 (v:=.pointer (some (⟨b3,1,none⟩))) rfl f rfl rfl (λ_ _=>by kernel_rfl) λ_ f=>av rfl (λW112 N156=>?_) ?_))
       ·obtain⟨Q17,P37,H10,hcap_10⟩:=N156.rowAddr 0 rfl (bh l2)
        have f:=f.st 15 (H10)
        refine Z f (Y28 rfl (ad:=⟨Q17,0,none⟩) (len:=(ak++[(⟨([]:List UInt8),(0:Int),ae,ae,([]:List TH0)⟩:TH0)]).length) (cap:=P37) (k:=.i64) (i:=((ak.length:Nat):Int)) (e:=61) (sz:=15) (az l2) (ay l2)) λ_ f=>?_
        have f:=f.st 15 (H10.symm)
        refine am rfl (aw 2 J11 N156 rfl (av rfl (λW113 N157=>?_) ?_))
        ·refine Y24 (it:=((ak.length:Nat):Int)) (d:=ak++[(⟨([]:List UInt8),(0:Int),ae,ae,([]:List TH0)⟩:TH0)]) (f:=aF) (xv:=X24) (vs:=[S X24.aj,.int .i8 X24.ab,.int .i8 X24.fA.ab,S X24.fA.aa,.int .i64 X24.fA.ai,S X24.fA.aj,S X24.fA.ao,.slice Z24 X24.fA.fL.length P33,.int .i8 X24.fB.ab,S X24.fB.aa,.int .i64 X24.fB.ai,S X24.fB.aj,S X24.fB.ao,.slice Z25 X24.fB.fL.length P34,.slice Z26 X24.fL.length P35]) f N157 H10 rfl rfl (by exact TH0.shutx (x:=X24) B15 B16 B17) dc l2 D28 λL24 W114 N158 D29 _ f=>?_
         have N159:Hp w0 V11 ((Ent.row 61 15 (.slice Z27 ((ak++[(⟨([]:List UInt8),(0:Int),ae,ae,([]:List TH0)⟩:TH0)]).set ((ak.length:Nat):Int).toNat X24).length P36) ((ak++[(⟨([]:List UInt8),(0:Int),ae,ae,([]:List TH0)⟩:TH0)]).set ((ak.length:Nat):Int).toNat X24).length L24)::(Ent.obj b3 (.cells #[.slice Z1 aB.length P1,.slice Z2 ak.length P2,.slice Z3 aC.length P3,.slice Z4 aD.length P4] 41 (0,0)))::(Ent.row 58 10 (.slice Z1 aB.length P1) aB.length L1)::(Ent.row 66 7 (.slice Z3 aC.length P3) aC.length L3)::(Ent.row 68 8 (.slice Z4 aD.length P4) aD.length L4)::H) W114:=N158.rowVal (by simp only[List.length_set])
         have f:=Frm.set f 15 (v:=.slice Z27 (ak++[(⟨([]:List UInt8),(0:Int),ae,ae,([]:List TH0)⟩:TH0)]).length P36) (v':=.slice Z27 ((ak++[(⟨([]:List UInt8),(0:Int),ae,ae,([]:List TH0)⟩:TH0)]).set ((ak.length:Nat):Int).toNat X24).length P36) (by kernel_rfl) (by simp only[List.length_set])
         refine am rfl (aw 2 J11 N159 rfl (av rfl (λW115 N160=>?_) ?_))
         ·refine Y25 f N160 1 rfl rfl (b:=b3) (j:=1) (v:=.slice Z27 ((ak++[(⟨([]:List UInt8),(0:Int),ae,ae,([]:List TH0)⟩:TH0)]).set ((ak.length:Nat):Int).toNat X24).length P36) rfl (by exact rfl) (by simp) (by simp) ((Ent.row 61 15 (.slice Z27 ((ak++[(⟨([]:List UInt8),(0:Int),ae,ae,([]:List TH0)⟩:TH0)]).set ((ak.length:Nat):Int).toNat X24).length P36) ((ak++[(⟨([]:List UInt8),(0:Int),ae,ae,([]:List TH0)⟩:TH0)]).set ((ak.length:Nat):Int).toNat X24).length L24)::(Ent.obj b3 (.cells #[.slice Z1 aB.length P1,.slice Z27 ((ak++[(⟨([]:List UInt8),(0:Int),ae,ae,([]:List TH0)⟩:TH0)]).set ((ak.length:Nat):Int).toNat X24).length P36,.slice Z3 aC.length P3,.slice Z4 aD.length P4] 41 (0,0)))::(Ent.row 58 10 (.slice Z1 aB.length P1) aB.length L1)::(Ent.row 66 7 (.slice Z3 aC.length P3) aC.length L3)::(Ent.row 68 8 (.slice Z4 aD.length P4) aD.length L4)::H) rfl λW116 N161 _ f=>am rfl (aw 2 J11 N161 rfl (ci λW117 N162=>aS ?_))
          exact⟨(ak++[(⟨([]:List UInt8),(0:Int),ae,ae,([]:List TH0)⟩:TH0)]).set ((ak.length:Nat):Int).toNat X24,(sI F4).symm,V11,J11,Z27,P36,L24,D29,f.kp,N162⟩
         exact ar
        refine av rfl (λW118 N163=>?_) ?_
        ·refine Y25 f N163 1 rfl rfl (b:=b3) (j:=1) (v:=.slice Z27 (ak++[(⟨([]:List UInt8),(0:Int),ae,ae,([]:List TH0)⟩:TH0)]).length P36) rfl (by exact rfl) (by simp) (by simp) ((Ent.row 61 15 (.slice Z27 (ak++[(⟨([]:List UInt8),(0:Int),ae,ae,([]:List TH0)⟩:TH0)]).length P36) (ak++[(⟨([]:List UInt8),(0:Int),ae,ae,([]:List TH0)⟩:TH0)]).length L23)::(Ent.obj b3 (.cells #[.slice Z1 aB.length P1,.slice Z27 (ak++[(⟨([]:List UInt8),(0:Int),ae,ae,([]:List TH0)⟩:TH0)]).length P36,.slice Z3 aC.length P3,.slice Z4 aD.length P4] 41 (0,0)))::(Ent.row 58 10 (.slice Z1 aB.length P1) aB.length L1)::(Ent.row 66 7 (.slice Z3 aC.length P3) aC.length L3)::(Ent.row 68 8 (.slice Z4 aD.length P4) aD.length L4)::H) rfl λW119 N164 _ f=>am rfl (aw 2 J11 N164 rfl (av rfl (λW120 N165=>?_) ?_))
         ·refine Y24 (it:=((ak.length:Nat):Int)) (d:=ak++[(⟨([]:List UInt8),(0:Int),ae,ae,([]:List TH0)⟩:TH0)]) (f:=aF) (xv:=X24) (vs:=[S X24.aj,.int .i8 X24.ab,.int .i8 X24.fA.ab,S X24.fA.aa,.int .i64 X24.fA.ai,S X24.fA.aj,S X24.fA.ao,.slice Z24 X24.fA.fL.length P33,.int .i8 X24.fB.ab,S X24.fB.aa,.int .i64 X24.fB.ai,S X24.fB.aj,S X24.fB.ao,.slice Z25 X24.fB.fL.length P34,.slice Z26 X24.fL.length P35]) f N165 H10 rfl rfl (by exact TH0.shutx (x:=X24) B15 B16 B17) dc l2 D28 λL25 W121 N166 D30 _ f=>?_
          have N167:Hp w0 V11 ((Ent.row 61 15 (.slice Z27 ((ak++[(⟨([]:List UInt8),(0:Int),ae,ae,([]:List TH0)⟩:TH0)]).set ((ak.length:Nat):Int).toNat X24).length P36) ((ak++[(⟨([]:List UInt8),(0:Int),ae,ae,([]:List TH0)⟩:TH0)]).set ((ak.length:Nat):Int).toNat X24).length L25)::(Ent.obj b3 (.cells #[.slice Z1 aB.length P1,.slice Z27 (ak++[(⟨([]:List UInt8),(0:Int),ae,ae,([]:List TH0)⟩:TH0)]).length P36,.slice Z3 aC.length P3,.slice Z4 aD.length P4] 41 (0,0)))::(Ent.row 58 10 (.slice Z1 aB.length P1) aB.length L1)::(Ent.row 66 7 (.slice Z3 aC.length P3) aC.length L3)::(Ent.row 68 8 (.slice Z4 aD.length P4) aD.length L4)::H) W121:=N166.rowVal (by simp only[List.length_set])
          have f:=Frm.set f 15 (v:=.slice Z27 (ak++[(⟨([]:List UInt8),(0:Int),ae,ae,([]:List TH0)⟩:TH0)]).length P36) (v':=.slice Z27 ((ak++[(⟨([]:List UInt8),(0:Int),ae,ae,([]:List TH0)⟩:TH0)]).set ((ak.length:Nat):Int).toNat X24).length P36) (by kernel_rfl) (by simp only[List.length_set])
          have N168:Hp w0 V11 ((Ent.row 61 15 (.slice Z27 ((ak++[(⟨([]:List UInt8),(0:Int),ae,ae,([]:List TH0)⟩:TH0)]).set ((ak.length:Nat):Int).toNat X24).length P36) ((ak++[(⟨([]:List UInt8),(0:Int),ae,ae,([]:List TH0)⟩:TH0)]).set ((ak.length:Nat):Int).toNat X24).length L25)::(Ent.obj b3 (.cells #[.slice Z1 aB.length P1,.slice Z27 ((ak++[(⟨([]:List UInt8),(0:Int),ae,ae,([]:List TH0)⟩:TH0)]).set ((ak.length:Nat):Int).toNat X24).length P36,.slice Z3 aC.length P3,.slice Z4 aD.length P4] 41 (0,0)))::(Ent.row 58 10 (.slice Z1 aB.length P1) aB.length L1)::(Ent.row 66 7 (.slice Z3 aC.length P3) aC.length L3)::(Ent.row 68 8 (.slice Z4 aD.length P4) aD.length L4)::H) W121:=by simp only[List.length_set];rw[List.length_set] at N167;exact N167
          refine am rfl (aw 2 J11 N168 rfl (ci λW122 N169=>aS ?_))
          exact⟨(ak++[(⟨([]:List UInt8),(0:Int),ae,ae,([]:List TH0)⟩:TH0)]).set ((ak.length:Nat):Int).toNat X24,(sI F4).symm,V11,J11,Z27,P36,L25,D30,f.kp,N169⟩
         exact ar
        exact ar
       refine av rfl (λW123 N170=>?_) ?_
       ·refine Y25 f N170 1 rfl rfl (b:=b3) (j:=1) (v:=.slice Z27 (ak++[(⟨([]:List UInt8),(0:Int),ae,ae,([]:List TH0)⟩:TH0)]).length P36) rfl (by exact rfl) (by simp) (by simp) ((Ent.row 61 15 (.slice Z27 (ak++[(⟨([]:List UInt8),(0:Int),ae,ae,([]:List TH0)⟩:TH0)]).length P36) (ak++[(⟨([]:List UInt8),(0:Int),ae,ae,([]:List TH0)⟩:TH0)]).length L23)::(Ent.obj b3 (.cells #[.slice Z1 aB.length P1,.slice Z27 (ak++[(⟨([]:List UInt8),(0:Int),ae,ae,([]:List TH0)⟩:TH0)]).length P36,.slice Z3 aC.length P3,.slice Z4 aD.length P4] 41 (0,0)))::(Ent.row 58 10 (.slice Z1 aB.length P1) aB.length L1)::(Ent.row 66 7 (.slice Z3 aC.length P3) aC.length L3)::(Ent.row 68 8 (.slice Z4 aD.length P4) aD.length L4)::H) rfl λW124 N171 _ f=>am rfl (aw 2 J11 N171 rfl (av rfl (λW125 N172=>?_) ?_))
        ·obtain⟨Q18,P38,H11,hcap_11⟩:=N172.rowAddr 0 rfl (bh l2)
         have f:=f.st 15 (H11)
         refine Z f (Y28 rfl (ad:=⟨Q18,0,none⟩) (len:=(ak++[(⟨([]:List UInt8),(0:Int),ae,ae,([]:List TH0)⟩:TH0)]).length) (cap:=P38) (k:=.i64) (i:=((ak.length:Nat):Int)) (e:=61) (sz:=15) (az l2) (ay l2)) λ_ f=>?_
         have f:=f.st 15 (H11.symm)
         refine am rfl (aw 2 J11 N172 rfl (av rfl (λW126 N173=>?_) ?_))
         ·refine Y24 (it:=((ak.length:Nat):Int)) (d:=ak++[(⟨([]:List UInt8),(0:Int),ae,ae,([]:List TH0)⟩:TH0)]) (f:=aF) (xv:=X24) (vs:=[S X24.aj,.int .i8 X24.ab,.int .i8 X24.fA.ab,S X24.fA.aa,.int .i64 X24.fA.ai,S X24.fA.aj,S X24.fA.ao,.slice Z24 X24.fA.fL.length P33,.int .i8 X24.fB.ab,S X24.fB.aa,.int .i64 X24.fB.ai,S X24.fB.aj,S X24.fB.ao,.slice Z25 X24.fB.fL.length P34,.slice Z26 X24.fL.length P35]) f N173 H11 rfl rfl (by exact TH0.shutx (x:=X24) B15 B16 B17) dc l2 D28 λL26 W127 N174 D31 _ f=>?_
          have N175:Hp w0 V11 ((Ent.row 61 15 (.slice Z27 ((ak++[(⟨([]:List UInt8),(0:Int),ae,ae,([]:List TH0)⟩:TH0)]).set ((ak.length:Nat):Int).toNat X24).length P36) ((ak++[(⟨([]:List UInt8),(0:Int),ae,ae,([]:List TH0)⟩:TH0)]).set ((ak.length:Nat):Int).toNat X24).length L26)::(Ent.obj b3 (.cells #[.slice Z1 aB.length P1,.slice Z27 (ak++[(⟨([]:List UInt8),(0:Int),ae,ae,([]:List TH0)⟩:TH0)]).length P36,.slice Z3 aC.length P3,.slice Z4 aD.length P4] 41 (0,0)))::(Ent.row 58 10 (.slice Z1 aB.length P1) aB.length L1)::(Ent.row 66 7 (.slice Z3 aC.length P3) aC.length L3)::(Ent.row 68 8 (.slice Z4 aD.length P4) aD.length L4)::H) W127:=N174.rowVal (by simp only[List.length_set])
          have f:=Frm.set f 15 (v:=.slice Z27 (ak++[(⟨([]:List UInt8),(0:Int),ae,ae,([]:List TH0)⟩:TH0)]).length P36) (v':=.slice Z27 ((ak++[(⟨([]:List UInt8),(0:Int),ae,ae,([]:List TH0)⟩:TH0)]).set ((ak.length:Nat):Int).toNat X24).length P36) (by kernel_rfl) (by simp only[List.length_set])
          have N176:Hp w0 V11 ((Ent.row 61 15 (.slice Z27 ((ak++[(⟨([]:List UInt8),(0:Int),ae,ae,([]:List TH0)⟩:TH0)]).set ((ak.length:Nat):Int).toNat X24).length P36) ((ak++[(⟨([]:List UInt8),(0:Int),ae,ae,([]:List TH0)⟩:TH0)]).set ((ak.length:Nat):Int).toNat X24).length L26)::(Ent.obj b3 (.cells #[.slice Z1 aB.length P1,.slice Z27 ((ak++[(⟨([]:List UInt8),(0:Int),ae,ae,([]:List TH0)⟩:TH0)]).set ((ak.length:Nat):Int).toNat X24).length P36,.slice Z3 aC.length P3,.slice Z4 aD.length P4] 41 (0,0)))::(Ent.row 58 10 (.slice Z1 aB.length P1) aB.length L1)::(Ent.row 66 7 (.slice Z3 aC.length P3) aC.length L3)::(Ent.row 68 8 (.slice Z4 aD.length P4) aD.length L4)::H) W127:=by simp only[List.length_set];rw[List.length_set] at N175;exact N175
          refine am rfl (aw 2 J11 N176 rfl (ci λW128 N177=>aS ?_))
          exact⟨(ak++[(⟨([]:List UInt8),(0:Int),ae,ae,([]:List TH0)⟩:TH0)]).set ((ak.length:Nat):Int).toNat X24,(sI F4).symm,V11,J11,Z27,P36,L26,D31,f.kp,N177⟩
         exact ar
        exact ar
       exact ar
      exact ar
    exact ar
   refine av rfl (λW129 N178=>?_) ?_
   ·rcases X1 with X28|X29
    ·refine aH f N178 (bN n _ (GL.mono J1 hG) d0 _ d1 (TD0.shutx (x:=d1) (B1.mono J1) (B2.mono J1)) d2 (.inl X28) l1) (by kernel_rfl) (λ_=>by kernel_rfl) λV12 W130 J12 N179=>lj f λ_ f=>?_
     have F9:=bK F4 F1
     refine bM (aP f ?_)
     obtain rfl:=sI F9
     exact⟨V12,(J1.trans J12),(N179.dropN 6),rfl⟩
    ·refine Y16 f N178 (OkX.ok (bN n _ (GL.mono J1 hG) d0 _ d1 (TD0.shutx (x:=d1) (B1.mono J1) (B2.mono J1)) d2 (.inr X29) l1)) λ_ V13 W131 J13 N180 q_6 _ f=>?_
     obtain⟨c_6,rfl,D32⟩:=q_6
     obtain⟨Z28,P39,Z29,P40,Z30,P41,rfl,B18,B19,B20⟩:=TH0.opn D32
     refine am rfl (aw 3 J13 N180 rfl (av rfl (λW132 N181=>?_) ?_))
     ·refine Z f (Y30 (v:=.slice Z2 ak.length P2) rfl (ad:=⟨b3,1,none⟩) (N181.ownCell 1 rfl 1)) λ_ f=>am rfl (aw 3 J13 N181 rfl (Y1 (v:=.int .i64 ((ak.length:Nat):Int)) rfl f rfl rfl (λ_ _=>by kernel_rfl) λ_ f=>av rfl (λW133 N182=>?_) ?_))
      ·have N183:=N182.pl [2]
       refine Y20 (z:=.agg #[S [],.int .i8 0,.int .i8 0,S [],.int .i64 0,S [],S [],.slice none 0 0,.int .i8 0,S [],.int .i64 0,S [],S [],.slice none 0 0,.slice none 0 0]) (f:=aF) (xs:=ak) (ys:=[(⟨([]:List UInt8),(0:Int),ae,ae,([]:List TH0)⟩:TH0)]) (news:=[S [],.int .i8 0,.int .i8 0,S [],.int .i64 0,S [],S [],.slice none 0 0,.int .i8 0,S [],.int .i64 0,S [],S [],.slice none 0 0,.slice none 0 0]) (ad:=⟨Q16,0,none⟩) (m:=1) (c:=1) f N183 (ag.mono (J1.trans J13) _ _ D2) (by exact⟨_,_,rfl,TH0.shut Sli.nil Sli.nil Sli.nil,rfl⟩) rfl rfl rfl rfl (an (N183.ownCell 1 rfl) 0 rfl) (by exact O1) (by have hg_:=O1;first|omega|(simp only[List.length_cons,List.length_nil] at*;omega)) λZ31 P42 L27 W134 N184 D33 _ f=>?_
       have N185:=N184.pl [1]
       have N186:=N185.drop
       refine am rfl (aw 2 J13 N186 rfl (Y1 (v:=.pointer (some (⟨b3,1,none⟩))) rfl f rfl rfl (λ_ _=>by kernel_rfl) λ_ f=>av rfl (λW135 N187=>?_) ?_))
       ·obtain⟨Q19,P43,H12,hcap_12⟩:=N187.rowAddr 0 rfl (bh l2)
        have f:=f.st 15 (H12)
        refine Z f (Y28 rfl (ad:=⟨Q19,0,none⟩) (len:=(ak++[(⟨([]:List UInt8),(0:Int),ae,ae,([]:List TH0)⟩:TH0)]).length) (cap:=P43) (k:=.i64) (i:=((ak.length:Nat):Int)) (e:=61) (sz:=15) (az l2) (ay l2)) λ_ f=>?_
        have f:=f.st 15 (H12.symm)
        refine am rfl (aw 2 J13 N187 rfl (av rfl (λW136 N188=>?_) ?_))
        ·refine Y24 (it:=((ak.length:Nat):Int)) (d:=ak++[(⟨([]:List UInt8),(0:Int),ae,ae,([]:List TH0)⟩:TH0)]) (f:=aF) (xv:=X29) (vs:=[S X29.aj,.int .i8 X29.ab,.int .i8 X29.fA.ab,S X29.fA.aa,.int .i64 X29.fA.ai,S X29.fA.aj,S X29.fA.ao,.slice Z28 X29.fA.fL.length P39,.int .i8 X29.fB.ab,S X29.fB.aa,.int .i64 X29.fB.ai,S X29.fB.aj,S X29.fB.ao,.slice Z29 X29.fB.fL.length P40,.slice Z30 X29.fL.length P41]) f N188 H12 rfl rfl (by exact TH0.shutx (x:=X29) B18 B19 B20) dc l2 D33 λL28 W137 N189 D34 _ f=>?_
         have N190:Hp w0 V13 ((Ent.row 61 15 (.slice Z31 ((ak++[(⟨([]:List UInt8),(0:Int),ae,ae,([]:List TH0)⟩:TH0)]).set ((ak.length:Nat):Int).toNat X29).length P42) ((ak++[(⟨([]:List UInt8),(0:Int),ae,ae,([]:List TH0)⟩:TH0)]).set ((ak.length:Nat):Int).toNat X29).length L28)::(Ent.obj b3 (.cells #[.slice Z1 aB.length P1,.slice Z2 ak.length P2,.slice Z3 aC.length P3,.slice Z4 aD.length P4] 41 (0,0)))::(Ent.row 58 10 (.slice Z1 aB.length P1) aB.length L1)::(Ent.row 66 7 (.slice Z3 aC.length P3) aC.length L3)::(Ent.row 68 8 (.slice Z4 aD.length P4) aD.length L4)::H) W137:=N189.rowVal (by simp only[List.length_set])
         have f:=Frm.set f 15 (v:=.slice Z31 (ak++[(⟨([]:List UInt8),(0:Int),ae,ae,([]:List TH0)⟩:TH0)]).length P42) (v':=.slice Z31 ((ak++[(⟨([]:List UInt8),(0:Int),ae,ae,([]:List TH0)⟩:TH0)]).set ((ak.length:Nat):Int).toNat X29).length P42) (by kernel_rfl) (by simp only[List.length_set])
         refine am rfl (aw 2 J13 N190 rfl (av rfl (λW138 N191=>?_) ?_))
         ·refine Y25 f N191 1 rfl rfl (b:=b3) (j:=1) (v:=.slice Z31 ((ak++[(⟨([]:List UInt8),(0:Int),ae,ae,([]:List TH0)⟩:TH0)]).set ((ak.length:Nat):Int).toNat X29).length P42) rfl (by exact rfl) (by simp) (by simp) ((Ent.row 61 15 (.slice Z31 ((ak++[(⟨([]:List UInt8),(0:Int),ae,ae,([]:List TH0)⟩:TH0)]).set ((ak.length:Nat):Int).toNat X29).length P42) ((ak++[(⟨([]:List UInt8),(0:Int),ae,ae,([]:List TH0)⟩:TH0)]).set ((ak.length:Nat):Int).toNat X29).length L28)::(Ent.obj b3 (.cells #[.slice Z1 aB.length P1,.slice Z31 ((ak++[(⟨([]:List UInt8),(0:Int),ae,ae,([]:List TH0)⟩:TH0)]).set ((ak.length:Nat):Int).toNat X29).length P42,.slice Z3 aC.length P3,.slice Z4 aD.length P4] 41 (0,0)))::(Ent.row 58 10 (.slice Z1 aB.length P1) aB.length L1)::(Ent.row 66 7 (.slice Z3 aC.length P3) aC.length L3)::(Ent.row 68 8 (.slice Z4 aD.length P4) aD.length L4)::H) rfl λW139 N192 _ f=>am rfl (aw 2 J13 N192 rfl (ci λW140 N193=>aS ?_))
          exact⟨(ak++[(⟨([]:List UInt8),(0:Int),ae,ae,([]:List TH0)⟩:TH0)]).set ((ak.length:Nat):Int).toNat X29,(sI F4).symm,V13,J13,Z31,P42,L28,D34,f.kp,N193⟩
         exact ar
        refine av rfl (λW141 N194=>?_) ?_
        ·refine Y25 f N194 1 rfl rfl (b:=b3) (j:=1) (v:=.slice Z31 (ak++[(⟨([]:List UInt8),(0:Int),ae,ae,([]:List TH0)⟩:TH0)]).length P42) rfl (by exact rfl) (by simp) (by simp) ((Ent.row 61 15 (.slice Z31 (ak++[(⟨([]:List UInt8),(0:Int),ae,ae,([]:List TH0)⟩:TH0)]).length P42) (ak++[(⟨([]:List UInt8),(0:Int),ae,ae,([]:List TH0)⟩:TH0)]).length L27)::(Ent.obj b3 (.cells #[.slice Z1 aB.length P1,.slice Z31 (ak++[(⟨([]:List UInt8),(0:Int),ae,ae,([]:List TH0)⟩:TH0)]).length P42,.slice Z3 aC.length P3,.slice Z4 aD.length P4] 41 (0,0)))::(Ent.row 58 10 (.slice Z1 aB.length P1) aB.length L1)::(Ent.row 66 7 (.slice Z3 aC.length P3) aC.length L3)::(Ent.row 68 8 (.slice Z4 aD.length P4) aD.length L4)::H) rfl λW142 N195 _ f=>am rfl (aw 2 J13 N195 rfl (av rfl (λW143 N196=>?_) ?_))
         ·refine Y24 (it:=((ak.length:Nat):Int)) (d:=ak++[(⟨([]:List UInt8),(0:Int),ae,ae,([]:List TH0)⟩:TH0)]) (f:=aF) (xv:=X29) (vs:=[S X29.aj,.int .i8 X29.ab,.int .i8 X29.fA.ab,S X29.fA.aa,.int .i64 X29.fA.ai,S X29.fA.aj,S X29.fA.ao,.slice Z28 X29.fA.fL.length P39,.int .i8 X29.fB.ab,S X29.fB.aa,.int .i64 X29.fB.ai,S X29.fB.aj,S X29.fB.ao,.slice Z29 X29.fB.fL.length P40,.slice Z30 X29.fL.length P41]) f N196 H12 rfl rfl (by exact TH0.shutx (x:=X29) B18 B19 B20) dc l2 D33 λL29 W144 N197 D35 _ f=>?_
          have N198:Hp w0 V13 ((Ent.row 61 15 (.slice Z31 ((ak++[(⟨([]:List UInt8),(0:Int),ae,ae,([]:List TH0)⟩:TH0)]).set ((ak.length:Nat):Int).toNat X29).length P42) ((ak++[(⟨([]:List UInt8),(0:Int),ae,ae,([]:List TH0)⟩:TH0)]).set ((ak.length:Nat):Int).toNat X29).length L29)::(Ent.obj b3 (.cells #[.slice Z1 aB.length P1,.slice Z31 (ak++[(⟨([]:List UInt8),(0:Int),ae,ae,([]:List TH0)⟩:TH0)]).length P42,.slice Z3 aC.length P3,.slice Z4 aD.length P4] 41 (0,0)))::(Ent.row 58 10 (.slice Z1 aB.length P1) aB.length L1)::(Ent.row 66 7 (.slice Z3 aC.length P3) aC.length L3)::(Ent.row 68 8 (.slice Z4 aD.length P4) aD.length L4)::H) W144:=N197.rowVal (by simp only[List.length_set])
          have f:=Frm.set f 15 (v:=.slice Z31 (ak++[(⟨([]:List UInt8),(0:Int),ae,ae,([]:List TH0)⟩:TH0)]).length P42) (v':=.slice Z31 ((ak++[(⟨([]:List UInt8),(0:Int),ae,ae,([]:List TH0)⟩:TH0)]).set ((ak.length:Nat):Int).toNat X29).length P42) (by kernel_rfl) (by simp only[List.length_set])
          have N199:Hp w0 V13 ((Ent.row 61 15 (.slice Z31 ((ak++[(⟨([]:List UInt8),(0:Int),ae,ae,([]:List TH0)⟩:TH0)]).set ((ak.length:Nat):Int).toNat X29).length P42) ((ak++[(⟨([]:List UInt8),(0:Int),ae,ae,([]:List TH0)⟩:TH0)]).set ((ak.length:Nat):Int).toNat X29).length L29)::(Ent.obj b3 (.cells #[.slice Z1 aB.length P1,.slice Z31 ((ak++[(⟨([]:List UInt8),(0:Int),ae,ae,([]:List TH0)⟩:TH0)]).set ((ak.length:Nat):Int).toNat X29).length P42,.slice Z3 aC.length P3,.slice Z4 aD.length P4] 41 (0,0)))::(Ent.row 58 10 (.slice Z1 aB.length P1) aB.length L1)::(Ent.row 66 7 (.slice Z3 aC.length P3) aC.length L3)::(Ent.row 68 8 (.slice Z4 aD.length P4) aD.length L4)::H) W144:=by simp only[List.length_set];rw[List.length_set] at N198;exact N198
          refine am rfl (aw 2 J13 N199 rfl (ci λW145 N200=>aS ?_))
          exact⟨(ak++[(⟨([]:List UInt8),(0:Int),ae,ae,([]:List TH0)⟩:TH0)]).set ((ak.length:Nat):Int).toNat X29,(sI F4).symm,V13,J13,Z31,P42,L29,D35,f.kp,N200⟩
         exact ar
        exact ar
       refine av rfl (λW146 N201=>?_) ?_
       ·refine Y25 f N201 1 rfl rfl (b:=b3) (j:=1) (v:=.slice Z31 (ak++[(⟨([]:List UInt8),(0:Int),ae,ae,([]:List TH0)⟩:TH0)]).length P42) rfl (by exact rfl) (by simp) (by simp) ((Ent.row 61 15 (.slice Z31 (ak++[(⟨([]:List UInt8),(0:Int),ae,ae,([]:List TH0)⟩:TH0)]).length P42) (ak++[(⟨([]:List UInt8),(0:Int),ae,ae,([]:List TH0)⟩:TH0)]).length L27)::(Ent.obj b3 (.cells #[.slice Z1 aB.length P1,.slice Z31 (ak++[(⟨([]:List UInt8),(0:Int),ae,ae,([]:List TH0)⟩:TH0)]).length P42,.slice Z3 aC.length P3,.slice Z4 aD.length P4] 41 (0,0)))::(Ent.row 58 10 (.slice Z1 aB.length P1) aB.length L1)::(Ent.row 66 7 (.slice Z3 aC.length P3) aC.length L3)::(Ent.row 68 8 (.slice Z4 aD.length P4) aD.length L4)::H) rfl λW147 N202 _ f=>am rfl (aw 2 J13 N202 rfl (av rfl (λW148 N203=>?_) ?_))
        ·obtain⟨Q20,P44,H13,hcap_13⟩:=N203.rowAddr 0 rfl (bh l2)
         have f:=f.st 15 (H13)
         refine Z f (Y28 rfl (ad:=⟨Q20,0,none⟩) (len:=(ak++[(⟨([]:List UInt8),(0:Int),ae,ae,([]:List TH0)⟩:TH0)]).length) (cap:=P44) (k:=.i64) (i:=((ak.length:Nat):Int)) (e:=61) (sz:=15) (az l2) (ay l2)) λ_ f=>?_
         have f:=f.st 15 (H13.symm)
         refine am rfl (aw 2 J13 N203 rfl (av rfl (λW149 N204=>?_) ?_))
         ·refine Y24 (it:=((ak.length:Nat):Int)) (d:=ak++[(⟨([]:List UInt8),(0:Int),ae,ae,([]:List TH0)⟩:TH0)]) (f:=aF) (xv:=X29) (vs:=[S X29.aj,.int .i8 X29.ab,.int .i8 X29.fA.ab,S X29.fA.aa,.int .i64 X29.fA.ai,S X29.fA.aj,S X29.fA.ao,.slice Z28 X29.fA.fL.length P39,.int .i8 X29.fB.ab,S X29.fB.aa,.int .i64 X29.fB.ai,S X29.fB.aj,S X29.fB.ao,.slice Z29 X29.fB.fL.length P40,.slice Z30 X29.fL.length P41]) f N204 H13 rfl rfl (by exact TH0.shutx (x:=X29) B18 B19 B20) dc l2 D33 λL30 W150 N205 D36 _ f=>?_
          have N206:Hp w0 V13 ((Ent.row 61 15 (.slice Z31 ((ak++[(⟨([]:List UInt8),(0:Int),ae,ae,([]:List TH0)⟩:TH0)]).set ((ak.length:Nat):Int).toNat X29).length P42) ((ak++[(⟨([]:List UInt8),(0:Int),ae,ae,([]:List TH0)⟩:TH0)]).set ((ak.length:Nat):Int).toNat X29).length L30)::(Ent.obj b3 (.cells #[.slice Z1 aB.length P1,.slice Z31 (ak++[(⟨([]:List UInt8),(0:Int),ae,ae,([]:List TH0)⟩:TH0)]).length P42,.slice Z3 aC.length P3,.slice Z4 aD.length P4] 41 (0,0)))::(Ent.row 58 10 (.slice Z1 aB.length P1) aB.length L1)::(Ent.row 66 7 (.slice Z3 aC.length P3) aC.length L3)::(Ent.row 68 8 (.slice Z4 aD.length P4) aD.length L4)::H) W150:=N205.rowVal (by simp only[List.length_set])
          have f:=Frm.set f 15 (v:=.slice Z31 (ak++[(⟨([]:List UInt8),(0:Int),ae,ae,([]:List TH0)⟩:TH0)]).length P42) (v':=.slice Z31 ((ak++[(⟨([]:List UInt8),(0:Int),ae,ae,([]:List TH0)⟩:TH0)]).set ((ak.length:Nat):Int).toNat X29).length P42) (by kernel_rfl) (by simp only[List.length_set])
          have N207:Hp w0 V13 ((Ent.row 61 15 (.slice Z31 ((ak++[(⟨([]:List UInt8),(0:Int),ae,ae,([]:List TH0)⟩:TH0)]).set ((ak.length:Nat):Int).toNat X29).length P42) ((ak++[(⟨([]:List UInt8),(0:Int),ae,ae,([]:List TH0)⟩:TH0)]).set ((ak.length:Nat):Int).toNat X29).length L30)::(Ent.obj b3 (.cells #[.slice Z1 aB.length P1,.slice Z31 ((ak++[(⟨([]:List UInt8),(0:Int),ae,ae,([]:List TH0)⟩:TH0)]).set ((ak.length:Nat):Int).toNat X29).length P42,.slice Z3 aC.length P3,.slice Z4 aD.length P4] 41 (0,0)))::(Ent.row 58 10 (.slice Z1 aB.length P1) aB.length L1)::(Ent.row 66 7 (.slice Z3 aC.length P3) aC.length L3)::(Ent.row 68 8 (.slice Z4 aD.length P4) aD.length L4)::H) W150:=by simp only[List.length_set];rw[List.length_set] at N206;exact N206
          refine am rfl (aw 2 J13 N207 rfl (ci λW151 N208=>aS ?_))
          exact⟨(ak++[(⟨([]:List UInt8),(0:Int),ae,ae,([]:List TH0)⟩:TH0)]).set ((ak.length:Nat):Int).toNat X29,(sI F4).symm,V13,J13,Z31,P42,L30,D36,f.kp,N208⟩
         exact ar
        exact ar
       exact ar
      exact ar
     exact ar
   exact ar
  exact ar
 ·rintro a_104 W152 ⟨G1,rfl,V14,J14,Z32,P45,L31,D37,f,N209⟩
  refine dK f rfl ?_
  obtain rfl:=sI F1
  have N214:=N209.pl [4,4,2,4,4]
  exact⟨_,rfl,V14,_,(J1.trans J14),N214,⟨Z1,P1,L1,Z32,P45,L31,Z3,P3,L3,Z4,P4,L4,rfl,rfl,(ag.mono (J1.trans J14) _ _ D1),D37,(ag.mono (J1.trans J14) _ _ D3),(ag.mono (J1.trans J14) _ _ D4)⟩⟩
def em (n:Nat) (X1:TD0×Bs×Bool) (X2:List ax) (K1:Int×List TE0×List TH0×List TB0×List TC0):Option (Lp (Int×List TE0×List TH0×List TB0×List TC0) (Sum (Int×Bs) (List TE0×List TH0×List TB0×List TC0))):=
    bif(decide (K1.1<((X2.length:Nat):Int))) then
     ((aU X2 K1.1).bind λX3=>
     (ck n X3.key).bind λX4=>
     (aM n X1.2.1 X3.key).bind λX5=>
     bif X4 then
      ((aM n X1.2.1 X3.key).bind λX6=>
      (da n X3.key (⟨X3.v.ab,(X3.v.ah),X3.v.ai,X3.v.aa,X3.v.ac,X3.v.af⟩:TD0) X6 K1.2.1 K1.2.2.1 K1.2.2.2.1 K1.2.2.2.2).bind λX7=>
      (match X7 with
      |.inl X8=>some (.br (.inl X8))
      |.inr X9=>bb (inR .i64 (K1.1+1))<|
       some (.nx (K1.1+1,X9.1,X9.2.1,X9.2.2.1,X9.2.2.2))))
     else
      some (.br (.inl ((120:Int),X5))))
    else
     some (.br (.inr (K1.2.1,K1.2.2.1,K1.2.2.2.1,K1.2.2.2.2)))
def dP (n:Nat) (d0:Bs) (d1:Int) (bl:List TE0) (bm:List TH0) (bn:List TB0) (bq:List TC0) (d3_f_0:TD0) (d3_f_1:Bs):Option (Sum (Int×Bs) (List TE0×List TH0×List TB0×List TC0)):=
 (aR n d0 d3_f_0 d3_f_1).bind λX1=>
 bif !X1.2.2 then
  (some (.inr (bl,bm,bn,bq)))
 else
  bif(decide (X1.1.ab=5)) then
   (bif(decide (((X1.1.af.length:Nat):Int)≤d1)) then
    ((bX n X1.1).bind λX2=>
    (aL (em n X1 X2) n ((0:Int),bl,bm,bn,bq)).bind λQ2=>
    (match Q2 with
    |.inl G1=>some (.inl G1)
    |.inr G2=>some (.inr (G2.1,G2.2.1,G2.2.2.1,G2.2.2.2))))
   else
    some (.inl ((3:Int),X1.2.1)))
  else
   some (.inl ((120:Int),X1.2.1))
set_option maxRecDepth 20000 in
theorem gO (n:Nat) (M:Mem) (hG:GL M) (d0:Bs) (d1:Int) (cj:Nat) (bl:List TE0) (Z1:Oa) (P1:Nat) (L1:Lv) (D1:ag M (bl.map bx) L1) (bm:List TH0) (Z2:Oa) (P2:Nat) (L2:Lv) (D2:ag M (bm.map aF) L2) (bn:List TB0) (Z3:Oa) (P3:Nat) (L3:Lv) (D3:ag M (bn.map bu) L3) (bq:List TC0) (Z4:Oa) (P4:Nat) (L4:Lv) (D4:ag M (bq.map bw) L4) (ad3_f_0:Addr) (c3_f_0:Lv) (d3_f_0:TD0) (h3_f_0:Rep M (ap d3_f_0) c3_f_0) (q3_f_0: ∀j v,c3_f_0[j]? =some v→M.cell? (ad3_f_0.add j)=some v) (ad3_f_1:Addr) (c3_f_1:Lv) (d3_f_1:Bs) (h3_f_1:Rep M (Dat.str d3_f_1) c3_f_1) (q3_f_1: ∀j v,c3_f_1[j]? =some v→M.cell? (ad3_f_1.add j)=some v) (ad3:Addr) (q3: ∀j v,[(.func (.func 93) #[] #[Pa ad3_f_0,Pa ad3_f_1]:Value)][j]? =some v→M.cell? (ad3.add j)=some v) (r:Sum (Int×Bs) (List TE0×List TH0×List TB0×List TC0)) (hF:dP n d0 d1 bl bm bn bq d3_f_0 d3_f_1=some r):OkXH Tryz.prog M [oC cj #[sL Z1 bl P1,sL Z2 bm P2,sL Z3 bn P3,sL Z4 bq P4] 41,rO 58 10 Z1 bl P1 L1,rO 61 15 Z2 bm P2 L2,rO 66 7 Z3 bn P3 L3,rO 68 8 Z4 bq P4 L4] 46 [S d0,iL d1,.func (.func 51) #[] #[pP cj],Pa ad3] 78 r (λr=>λM' E' v=>∃ (Z24:Oa) (P25:Nat) (L18:Lv) (Z25:Oa) (P26:Nat) (L19:Lv) (Z26:Oa) (P27:Nat) (L20:Lv) (Z27:Oa) (P28:Nat) (L21:Lv),v=.tuple #[]∧E'=[oC cj #[sL Z24 r.1 P25,sL Z25 r.2.1 P26,sL Z26 r.2.2.1 P27,sL Z27 r.t3 P28] 41,rO 58 10 Z24 r.1 P25 L18,rO 61 15 Z25 r.2.1 P26 L19,rO 66 7 Z26 r.2.2.1 P27 L20,rO 68 8 Z27 r.t3 P28 L21]∧ag M' (r.1.map bx) L18∧ag M' (r.2.1.map aF) L19∧ag M' (r.2.2.1.map bu) L20∧ag M' (r.t3.map bw) L21):=by
 unfold dP at hF
 intro M1 hM0 w0 H w p0
 replace hG:=GL.mono hM0 hG
 replace D1:=ag.mono hM0 _ _ D1
 replace D2:=ag.mono hM0 _ _ D2
 replace D3:=ag.mono hM0 _ _ D3
 replace D4:=ag.mono hM0 _ _ D4
 replace h3_f_0:=Rep.mono hM0 _ _ h3_f_0
 replace q3_f_0:=λj v h=>hM0.cell (q3_f_0 j v h)
 replace h3_f_1:=Rep.mono hM0 _ _ h3_f_1
 replace q3_f_1:=λj v h=>hM0.cell (q3_f_1 j v h)
 replace q3:=λj v h=>hM0.cell (q3 j v h)
 obtain⟨Z5,P5,Z6,P6,rfl,B1,B2⟩:=TD0.opn h3_f_0
 obtain rfl:c3_f_1=[S d3_f_1]:=h3_f_1
 refine Re 59 Tryz.func46 rfl λa0 f0=>RR (Y15 f0 p0 q3 0 rfl λ_ f=>Y f 1 λ_ f=>?_)
 obtain⟨X1,l1,F1⟩:=bS hF
 refine Y16 f p0 (aV n _ hG d0 ad3_f_0 (lTD0 d3_f_0 Z5 P5 Z6 P6) d3_f_0 (TD0.shutx (x:=d3_f_0) B1 B2) (bL (q3_f_0) 0 rfl) ad3_f_1 [S d3_f_1] d3_f_1 (rfl) (bL (q3_f_1) 0 rfl) X1 l1) λ_ V1 W1 J1 N1 eM _ f=>?_
 obtain⟨eF,rfl,D5⟩:=eM
 obtain⟨Z7,P7,Z8,P8,rfl,B3,B4⟩:=TD0.opn D5
 refine Y f 4 λ_ f=>Y12 f N1 (.cells #[iB 0,bO false,iL 0,S [],Sn,Sn] 26 (0,0)) λQ1 W2 N2 _ f=>Ys (lTD0 X1.1 Z7 P7 Z8 P8) (aTD0 X1.1 Z7 P7 Z8 P8) f N2 rfl rfl λW3 N3 _ f=>Ye f 2 λ_ f=>aq (RR (Ye f 2 λ_ f=>RcF f F1 (λB5 F2=>?_) λB5 F3=>?_))
 ·have U1: (X1.2.2)=false:=by simpa using B5
  refine wp_ret (dj (E_ret0 f rfl ?_))
  cases sI F2
  exact⟨_,rfl,V1,_,J1,(N3.dropN 1),⟨Z1,P1,L1,Z2,P2,L2,Z3,P3,L3,Z4,P4,L4,rfl,rfl,(ag.mono J1 _ _ D1),(ag.mono J1 _ _ D2),(ag.mono J1 _ _ D3),(ag.mono J1 _ _ D4)⟩⟩
 ·have U2: (X1.2.2)=true:=by simpa using B5
  refine St (RR (Y f 1 λ_ f=>Z f (Y30 (v:=iB X1.1.ab) rfl (ad:=⟨Q1,0,none⟩) (N3.ownCell 0 rfl 0)) λ_ f=>Y f 2 λ_ f=>?_))
  rcases cE F3 with⟨B6,F4⟩|⟨B6,F19⟩
  ·have U3:=dI.1 B6
   have f:=f.st 23 (cB B6)
   refine Y18 f N3 (be _ (120:Int) X1.2.1) λW4 N4 _ f=>eT (RR (Y f 1 λ_ f=>Z f (Y30 (v:=sL Z8 X1.1.af P8) rfl (ad:=⟨Q1,5,none⟩) (N4.ownCell 0 rfl 5)) λ_ f=>Y f 4 λ_ f=>?_))
   rcases cE F4 with⟨B7,F5⟩|⟨B7,F18⟩
   ·have U4:=dI.1 B7
    have f:=f.st 30 (cB B7)
    refine Y18 f N4 (be _ (3:Int) X1.2.1) λW5 N5 _ f=>eT (RR (Z f (Y31 (cs:=(lTD0 X1.1 Z7 P7 Z8 P8)) rfl (ad:=⟨Q1,0,none⟩) (an (N5.ownCell 0 rfl) 0 rfl)) λ_ f=>?_))
    obtain⟨X2,l2,F6⟩:=bS F5
    refine Y17 (E:=[]) (H:=((Ent.obj Q1 (.cells (aTD0 X1.1 Z7 P7 Z8 P8) 26 (0,0)))::(oC cj #[sL Z1 bl P1,sL Z2 bm P2,sL Z3 bn P3,sL Z4 bq P4] 41)::(rO 58 10 Z1 bl P1 L1)::(rO 61 15 Z2 bm P2 L2)::(rO 66 7 Z3 bn P3 L3)::(rO 68 8 Z4 bq P4 L4)::H)) f N5 (cX n _ (GL.mono J1 hG) _ X1.1 (TD0.shutx (x:=X1.1) B3 B4) X2 l2) λ_ V2 mN W6 J2 N6 iQ _ f=>?_
    obtain⟨Z9,P9,L5,rfl,rfl,D6⟩:=iQ
    refine Ye f 2 λ_ f=>wp_block ?_
    have N13:=N6.pl [2,2,2,6,6,6,6]
    obtain⟨Q2,dy,F7⟩:=bS F6
    refine wp_mono (Q:=λe a w=>(∃G1:Int×Bs,e=.panic (flawE 78 G1)∧Q2=.inl G1∧∃V7:Mem,V2.le V7∧Frm 59 [] a∧Hp w0 V7 (H) w)∨(e=.exit 0∧(∃G2:List TE0×List TH0×List TB0×List TC0,Q2=.inr G2∧∃V8:Mem,V2.le V8∧∃ (Z20:Oa),∃ (P21:Nat),∃ (L14:Lv),∃ (Z21:Oa),∃ (P22:Nat),∃ (L15:Lv),∃ (Z22:Oa),∃ (P23:Nat),∃ (L16:Lv),∃ (Z23:Oa),∃ (P24:Nat),∃ (L17:Lv),ag V8 (G2.1.map bx) L14∧ag V8 (G2.2.1.map aF) L15∧ag V8 (G2.2.2.1.map bu) L16∧ag V8 (G2.t3.map bw) L17∧Frm 59 [] a∧Hp w0 V8 ((rO 58 10 Z20 G2.1 P21 L14)::(rO 61 15 Z21 G2.2.1 P22 L15)::(rO 66 7 Z22 G2.2.2.1 P23 L16)::(rO 68 8 Z23 G2.t3 P24 L17)::(rO 99 7 Z9 X2 P9 L5)::(Ent.obj Q1 (.cells (aTD0 X1.1 Z7 P7 Z8 P8) 26 (0,0)))::(oC cj #[sL Z20 G2.1 P21,sL Z21 G2.2.1 P22,sL Z22 G2.2.2.1 P23,sL Z23 G2.t3 P24] 41)::H) w))) (cD (n:=59) (w0:=w0) (M:=V2) (λ (I1,K1,Z10,P10,L6,Z11,P11,L7,Z12,P12,L8,Z13,P13,L9)=>[(2,.func (.func 51) #[] #[pP cj]),(8,S X1.2.1),(34,sL Z9 X2 P9),(35,iL ((X2.length:Nat):Int)),(36,iL K1.1)]) (λ (I1,K1,Z10,P10,L6,Z11,P11,L7,Z12,P12,L8,Z13,P13,L9)=>((rO 58 10 Z10 K1.2.1 P10 L6)::(rO 61 15 Z11 K1.2.2.1 P11 L7)::(rO 66 7 Z12 K1.t3.1 P12 L8)::(rO 68 8 Z13 K1.t4 P13 L9)::(rO 99 7 Z9 X2 P9 L5)::(Ent.obj Q1 (.cells (aTD0 X1.1 Z7 P7 Z8 P8) 26 (0,0)))::(oC cj #[sL Z10 K1.2.1 P10,sL Z11 K1.2.2.1 P11,sL Z12 K1.t3.1 P12,sL Z13 K1.t4 P13] 41)::H)) (λ (I1,K1,Z10,P10,L6,Z11,P11,L7,Z12,P12,L8,Z13,P13,L9) MM=>aL (em n X1 X2) I1 K1=some Q2∧ag MM (K1.2.1.map bx) L6∧ag MM (K1.2.2.1.map aF) L7∧ag MM (K1.t3.1.map bu) L8∧ag MM (K1.t4.map bw) L9) (λ (I1,K1,Z10,P10,L6,Z11,P11,L7,Z12,P12,L8,Z13,P13,L9)=>I1) (n,((0:Int),bl,bm,bn,bq),Z1,P1,L1,Z2,P2,L2,Z3,P3,L3,Z4,P4,L4) (f.kp) N13 ⟨dy,(ag.mono (J1.trans J2) _ _ D1),(ag.mono (J1.trans J2) _ _ D2),(ag.mono (J1.trans J2) _ _ D3),(ag.mono (J1.trans J2) _ _ D4)⟩ ?_) ?_
    ·rintro⟨I1,K1,Z10,P10,L6,Z11,P11,L7,Z12,P12,L8,Z13,P13,L9⟩ V3 _ W7 J3 je f N14
     obtain⟨dL,D7,D8,D9,D10⟩:=je
     obtain⟨I2,nL,rfl,ca,T1⟩:=bB dL
     unfold em at ca
     refine RR (Ye f 1 λ_ f=>aq (RcF f ca (λB8 F8=>?_) λB8 F17=>?_))
     ·have U5:=dI.1 B8
      refine St (aq (wp_block (RR ?_)))
      obtain⟨X3,l3,F9⟩:=bS F8
      obtain⟨Q3,P14,H1,ld⟩:=N14.rowAddr 4 rfl (bh l3)
      have f:=f.st 34 (H1)
      refine Z f (Y28 rfl (ad:=⟨Q3,0,none⟩) (len:=X2.length) (cap:=P14) (k:=.i64) (i:=K1.1) (e:=99) (sz:=7) (az l3) (ay l3)) λ_ f=>?_
      have f:=f.st 34 (H1.symm)
      obtain⟨iA,-,D11,R1⟩:=ag.get K1.1.toNat (eJ cK) (ag.mono J3 _ _ D6) (gE l3)
      obtain⟨Z14,P15,Z15,P16,rfl,B9,B10⟩:=ax.opn D11
      refine Z f (Y31 (cs:=[S X3.key,iB X3.v.ab,bO X3.v.ah,iL X3.v.ai,S X3.v.aa,sL Z14 X3.v.ac P15,sL Z15 X3.v.af P16]) rfl (ad:=(⟨Q3,0,none⟩:Addr).add (K1.1.toNat*7)) (λj v h=>jD (N14.rowCell 4 rfl H1) R1 j v h)) λ_ f=>Y12 f N14 (.cells #[S [],iB 0,bO false,iL 0,S [],Sn,Sn] 99 (0,0)) λQ4 W8 N15 _ f=>Ys [S X3.key,iB X3.v.ab,bO X3.v.ah,iL X3.v.ai,S X3.v.aa,sL Z14 X3.v.ac P15,sL Z15 X3.v.af P16] #[S X3.key,iB X3.v.ab,bO X3.v.ah,iL X3.v.ai,S X3.v.aa,sL Z14 X3.v.ac P15,sL Z15 X3.v.af P16] f N15 rfl rfl λW9 N16 _ f=>eT (aq (ei (E:=[]) (Hr:=((oC Q4 #[S X3.key,iB X3.v.ab,bO X3.v.ah,iL X3.v.ai,S X3.v.aa,sL Z14 X3.v.ac P15,sL Z15 X3.v.af P16] 99)::(rO 58 10 Z10 K1.2.1 P10 L6)::(rO 61 15 Z11 K1.2.2.1 P11 L7)::(rO 66 7 Z12 K1.t3.1 P12 L8)::(rO 68 8 Z13 K1.t4 P13 L9)::(rO 99 7 Z9 X2 P9 L5)::(Ent.obj Q1 (.cells (aTD0 X1.1 Z7 P7 Z8 P8) 26 (0,0)))::(oC cj #[sL Z10 K1.2.1 P10,sL Z11 K1.2.2.1 P11,sL Z12 K1.t3.1 P12,sL Z13 K1.t4 P13] 41)::H)) [(0,true),(1,true),(2,true),(3,true),(4,true),(5,true),(6,true),(7,false)] N16 kr kr rfl kr (Y0 default f 1 λ_ f=>cg (v:=S X3.key) f kr kr rfl rfl (λ_ pq=>Y30 (v:=S X3.key) rfl (ad:=⟨Q4,0,none⟩) (pq.ownCell 0 rfl 0)) λ_ f=>?_)))
      obtain⟨X4,l4,F10⟩:=bS F9
      refine eE (v:=bO X4) f kr kr rfl rfl (λ_=>by kernel_rfl) (cp n _ X3.key X4 l4) λ_ f=>Y0 default f 2 λ_ f=>cg (v:=S X3.key) f kr kr rfl rfl (λ_ pq=>Y30 (v:=S X3.key) rfl (ad:=⟨Q4,0,none⟩) (pq.ownCell 0 rfl 0)) λ_ f=>?_
      obtain⟨X5,l5,F11⟩:=bS F10
      refine eE (v:=S X5) f kr kr rfl rfl (λ_=>by kernel_rfl) (aK n _ (GL.mono ((J1.trans J2).trans J3) hG) X1.2.1 X3.key X5 l5) λ_ f=>cd (E:=[]) λW12 N19=>?_
      rcases cE F11 with⟨B11,F12⟩|⟨B11,F16⟩
      ·have f:=f.st 42 (cB B11)
       refine Y18 f N19 (be _ (120:Int) X5) λW13 N20 _ f=>am rfl (dC (M1:=V3) (E:=[]) (mR _) N20 (eh rfl λW14 N21=>aS ?_))
       have N29:=N21.pl [6,6,2,7,7,7,7,7]
       refine ei (E:=[rO 58 10 Z10 K1.2.1 P10 L6,rO 61 15 Z11 K1.2.2.1 P11 L7,rO 66 7 Z12 K1.t3.1 P12 L8,rO 68 8 Z13 K1.t4 P13 L9,oC cj #[sL Z10 K1.2.1 P10,sL Z11 K1.2.2.1 P11,sL Z12 K1.t3.1 P12,sL Z13 K1.t4 P13] 41]) (Hr:=((oC Q4 #[S X3.key,iB X3.v.ab,bO X3.v.ah,iL X3.v.ai,S X3.v.aa,sL Z14 X3.v.ac P15,sL Z15 X3.v.af P16] 99)::(rO 99 7 Z9 X2 P9 L5)::(Ent.obj Q1 (.cells (aTD0 X1.1 Z7 P7 Z8 P8) 26 (0,0)))::H)) [(0,true),(1,true),(2,true),(3,true),(4,true),(5,true),(6,true),(7,true),(8,true),(9,false)] N29 kr kr rfl kr (Y0 default f 2 λ_ f=>cg (v:=S X3.key) f kr kr rfl rfl (λ_ pq=>Y30 (v:=S X3.key) rfl (ad:=⟨Q4,0,none⟩) (pq.ownCell 0 rfl 0)) λ_ f=>Y0 default f 1 λ_ f=>cg (v:=.agg (aTD0 X3.v Z14 P15 Z15 P16)) f kr kr rfl rfl (λ_ pq=>Y31 (cs:=(lTD0 X3.v Z14 P15 Z15 P16)) rfl (ad:=⟨Q4,1,none⟩) (an (pq.ownCell 0 rfl) 1 rfl)) λ_ f=>Y0 default f 2 λ_ f=>cg (v:=S X3.key) f kr kr rfl rfl (λ_ pq=>Y30 (v:=S X3.key) rfl (ad:=⟨Q4,0,none⟩) (pq.ownCell 0 rfl 0)) λ_ f=>?_)
       obtain⟨X6,l6,F13⟩:=bS F12
       refine eE (v:=S X6) f kr kr rfl rfl (λ_=>by kernel_rfl) (aK n _ (GL.mono ((J1.trans J2).trans J3) hG) X1.2.1 X3.key X6 l6) λ_ f=>cd (E:=[rO 58 10 Z10 K1.2.1 P10 L6,rO 61 15 Z11 K1.2.2.1 P11 L7,rO 66 7 Z12 K1.t3.1 P12 L8,rO 68 8 Z13 K1.t4 P13 L9,oC cj #[sL Z10 K1.2.1 P10,sL Z11 K1.2.2.1 P11,sL Z12 K1.t3.1 P12,sL Z13 K1.t4 P13] 41]) λW16 N31=>?_
       obtain⟨X7,l7,F14⟩:=bS F13
       rcases X7 with X8|X9
       ·have N37:=N31.pl [3,3,3,3,4]
        refine ej (E:=[oC cj #[sL Z10 K1.2.1 P10,sL Z11 K1.2.2.1 P11,sL Z12 K1.t3.1 P12,sL Z13 K1.t4 P13] 41,rO 58 10 Z10 K1.2.1 P10 L6,rO 61 15 Z11 K1.2.2.1 P11 L7,rO 66 7 Z12 K1.t3.1 P12 L8,rO 68 8 Z13 K1.t4 P13 L9]) (H:=((oC Q4 #[S X3.key,iB X3.v.ab,bO X3.v.ah,iL X3.v.ai,S X3.v.aa,sL Z14 X3.v.ac P15,sL Z15 X3.v.af P16] 99)::(rO 99 7 Z9 X2 P9 L5)::(Ent.obj Q1 (.cells (aTD0 X1.1 Z7 P7 Z8 P8) 26 (0,0)))::H)) f N37 (ig n _ (GL.mono ((J1.trans J2).trans J3) hG) X3.key _ (⟨X3.v.ab,(X3.v.ah),X3.v.ai,X3.v.aa,X3.v.ac,X3.v.af⟩:TD0) (TD0.shut B9 B10) X6 cj K1.2.1 Z10 P10 L6 D7 K1.2.2.1 Z11 P11 L7 D8 K1.t3.1 Z12 P12 L8 D9 K1.t4 Z13 P13 L9 D10 (.inl X8) l7) kr (λ_=>by kernel_rfl) λV4 W17 J4 N32=>lj f λ_ f=>kU (bM (bM ?_))
        cases sI F14
        exact .inl ⟨X8,rfl,(sI T1).symm,V4,(J3.trans J4),f.kp,(N32.dropN 3)⟩
       ·have N43:=N31.pl [3,3,3,3,4]
        refine Y17 (E:=[oC cj #[sL Z10 K1.2.1 P10,sL Z11 K1.2.2.1 P11,sL Z12 K1.t3.1 P12,sL Z13 K1.t4 P13] 41,rO 58 10 Z10 K1.2.1 P10 L6,rO 61 15 Z11 K1.2.2.1 P11 L7,rO 66 7 Z12 K1.t3.1 P12 L8,rO 68 8 Z13 K1.t4 P13 L9]) (H:=((oC Q4 #[S X3.key,iB X3.v.ab,bO X3.v.ah,iL X3.v.ai,S X3.v.aa,sL Z14 X3.v.ac P15,sL Z15 X3.v.af P16] 99)::(rO 99 7 Z9 X2 P9 L5)::(Ent.obj Q1 (.cells (aTD0 X1.1 Z7 P7 Z8 P8) 26 (0,0)))::H)) f N43 (OkXH.ok (ig n _ (GL.mono ((J1.trans J2).trans J3) hG) X3.key _ (⟨X3.v.ab,(X3.v.ah),X3.v.ai,X3.v.aa,X3.v.ac,X3.v.af⟩:TD0) (TD0.shut B9 B10) X6 cj K1.2.1 Z10 P10 L6 D7 K1.2.2.1 Z11 P11 L7 D8 K1.t3.1 Z12 P12 L8 D9 K1.t4 Z13 P13 L9 D10 (.inr X9) l7)) λ_ V5 E_2 W18 J5 N38 mg _ f=>?_
        obtain⟨Z16,P17,L10,Z17,P18,L11,Z18,P19,L12,Z19,P20,L13,rfl,rfl,D12,D13,D14,D15⟩:=mg
        refine am rfl (dC (M1:=V5) (E:=[oC cj #[sL Z16 X9.1 P17,sL Z17 X9.2.1 P18,sL Z18 X9.2.2.1 P19,sL Z19 X9.t3 P20] 41,rO 58 10 Z16 X9.1 P17 L10,rO 61 15 Z17 X9.2.1 P18 L11,rO 66 7 Z18 X9.2.2.1 P19 L12,rO 68 8 Z19 X9.t3 P20 L13]) J5 N38 (eh rfl λW19 N44=>gh (aS (aN ?_))))
        obtain⟨O1,F15⟩:=nS F14
        refine Y f 1 λ_ f=>?_
        have f:=f.st 58 (iW O1)
        refine Y f 1 λ_ f=>am rfl ?_
        have N54:=N44.pl [7,7,6,6,6,6,7]
        refine aS ?_
        cases sI F15
        exact⟨⟨I2,(K1.1+1,X9.1,X9.2.1,X9.2.2.1,X9.t3),Z16,P17,L10,Z17,P18,L11,Z18,P19,L12,Z19,P20,L13⟩,Nat.lt_succ_self _,V5,(J3.trans J5),⟨T1,D12,D13,D14,D15⟩,f.kp,(N54.dropN 1)⟩
      ·have f:=f.st 42 (cB B11)
       refine aH f N19 (bc _ (120:Int) X5) kr (λ_=>by kernel_rfl) λV6 W20 J6 N45=>lj f λ_ f=>bM (kU (bM (bM ?_)))
       cases sI F16
       exact .inl ⟨((120:Int),X5),rfl,(sI T1).symm,V6,(J3.trans J6),f.kp,(N45.dropN 8)⟩
     ·have U8:=aA dI B8
      refine wp_exit (gT (gT ?_))
      cases sI F17
      exact .inr ⟨rfl,(K1.2.1,K1.2.2.1,K1.t3.1,K1.t4),(sI T1).symm,V3,J3,Z10,P10,L6,Z11,P11,L7,Z12,P12,L8,Z13,P13,L9,D7,D8,D9,D10,f.kp,N14⟩
    ·rintro _ _ W23 (⟨G1,rfl,rfl,V7,J7,f,N46⟩|⟨rfl,G2,rfl,V8,J8,Z20,P21,L14,Z21,P22,L15,Z22,P23,L16,Z23,P24,L17,D16,D17,D18,D19,f,N47⟩)
     ·refine kU (aP f ?_)
      cases sI F7
      exact⟨V7,((J1.trans J2).trans J7),N46,rfl⟩
     ·refine lO (dK f rfl ?_)
      cases sI F7
      have N61:=N47.pl [3,3,3,3,6,6,6]
      exact⟨_,rfl,V8,_,((J1.trans J2).trans J8),(N61.dropN 2),⟨Z20,P21,L14,Z21,P22,L15,Z22,P23,L16,Z23,P24,L17,rfl,rfl,D16,D17,D18,D19⟩⟩
   ·have U9:=aA dI B7
    have f:=f.st 30 (cB B7)
    refine aH f N4 (bc _ (3:Int) X1.2.1) kr (λ_=>by kernel_rfl) λV9 W24 J9 N62=>bM (aP f ?_)
    cases sI F18
    exact⟨V9,(J1.trans J9),(N62.dropN 6),rfl⟩
  ·have U10:=aA dI B6
   have f:=f.st 23 (cB B6)
   refine aH f N3 (bc _ (120:Int) X1.2.1) kr (λ_=>by kernel_rfl) λV10 W25 J10 N63=>bM (aP f ?_)
   cases sI F19
   exact⟨V10,(J1.trans J10),(N63.dropN 6),rfl⟩
def el (n:Nat) (d0:TD0) (d1:Bs) (d2:Bool):Option (Sum (Int×Bs) Bs):=
 bif !d2 then
  (some (.inr d0.aa))
 else
  (cS n d0).bind λX1=>
  bif X1 then
   (some (.inr d0.aa))
  else
   some (.inl ((120:Int),d1))
theorem dz (n:Nat) (M:Mem) (hG:GL M) (c0:Lv) (d0:TD0) (h0:Rep M (ap d0) c0) (d1:Bs) (d2:Bool) (r:Sum (Int×Bs) Bs) (hF:el n d0 d1 d2=some r):OkX Tryz.prog M 99 [.agg c0.toArray,S d1,bO d2] 78 r (λr=>λ_ v=>v=S r):=by
 unfold el at hF
 intro M1 hM0 w0 H w p0
 replace hG:=GL.mono hM0 hG
 replace h0:=Rep.mono hM0 _ _ h0
 obtain⟨Z1,P1,Z2,P2,rfl,B1,B2⟩:=TD0.opn h0
 refine Re 17 Tryz.func99 rfl λa0 f0=>RR (Y13 (cs:=(aTD0 d0 Z1 P1 Z2 P2)) (T:=26) f0 p0 λQ1 V1 W1 J1 R1 N1 _ f=>?_)
 have R2:=bR R1
 refine Ye f 1 λ_ f=>RR (Y f 3 λ_ f=>?_)
 rcases cE hF with⟨B3,F1⟩|⟨B3,F2⟩
 ·have U1: (d2)=false:=by simpa using B3
  have f:=f.st 9 (cB B3)
  refine Y f 4 λ_ f=>Y18 f N1 (be _ (120:Int) d1) λW2 N2 _ f=>eT (RR (Y f 1 λ_ f=>Y15 f N2 R2 3 rfl λ_ f=>Ye f 1 λ_ f=>wp_ret (aJ f rfl (Lk 6 (S d0.aa)) ?_)))
  cases sI F1
  exact⟨_,rfl,V1,J1,N2,rfl⟩
 ·have U2: (d2)=true:=by simpa using B3
  have f:=f.st 9 (cB B3)
  refine Z f (Y31 (cs:=(lTD0 d0 Z1 P1 Z2 P2)) rfl (ad:=⟨Q1,0,none⟩) (λj v h=>N1.cell (R2 j v h))) λ_ f=>?_
  obtain⟨X1,l1,F3⟩:=bS F2
  refine Y18 f N1 (dw n _ (GL.mono J1 hG) _ d0 (TD0.shutx (x:=d0) (B1.mono J1) (B2.mono J1)) X1 l1) λW3 N3 _ f=>Y f 2 λ_ f=>?_
  rcases cE F3 with⟨B4,F4⟩|⟨B4,F5⟩
  ·have f:=f.st 12 (cB B4)
   refine Y18 f N3 (be _ (120:Int) d1) λW4 N4 _ f=>eT (RR (Y f 1 λ_ f=>Y15 f N4 R2 3 rfl λ_ f=>Ye f 1 λ_ f=>wp_ret (aJ f rfl (Lk 6 (S d0.aa)) ?_)))
   cases sI F4
   exact⟨_,rfl,V1,J1,N4,rfl⟩
  ·have f:=f.st 12 (cB B4)
   refine aH f N3 (bc _ (120:Int) d1) kr (λ_=>by kernel_rfl) λV2 W5 J2 N5=>bM (aP f ?_)
   cases sI F5
   exact⟨V2,(J1.trans J2),N5,rfl⟩
def cW (n:Nat) (d0:TD0) (d1:Bs) (K1:List Bs×Int):Option (Lp (List Bs×Int) (Sum (Int×Bs) (List Bs))):=
    bif(decide (K1.2<((d0.ac.length:Nat):Int))) then
     ((aU d0.ac K1.2).bind λX2=>
     (cS n X2).bind λX3=>
     (cM n d1 K1.2).bind λX4=>
     bif X3 then
      ((bF n K1.1 X2.aa).bind λX5=>
      (cM n d1 K1.2).bind λX6=>
      bif !X5 then
       (bb ((K1.1.length+1)*16≤140737488355328)<|
       bb (inR .i64 (K1.2+1))<|
       some (.nx (K1.1++[X2.aa],K1.2+1)))
      else
       some (.br (.inl ((41:Int),X6))))
     else
      some (.br (.inl ((120:Int),X4))))
    else
     some (.br (.inr K1.1))
def gb (n:Nat) (d0:TD0) (d1:Bs) (d2:Bool):Option (Sum (Int×Bs) (List Bs)):=
 bif !d2 then
  (some (.inr ([]:List Bs)))
 else
  (cS n d0).bind λX1=>
  bif X1 then
   (some (.inr ([d0.aa]:List Bs)))
  else
   bif(decide (d0.ab=4)) then
    (bif(decide (((d0.ac.length:Nat):Int)≤8)) then
     ((aL (cW n d0 d1) n (([]:List Bs),(0:Int))).bind λQ3=>
     (match Q3 with
     |.inl G1=>some (.inl G1)
     |.inr G2=>some (.inr G2)))
    else
     some (.inl ((3:Int),d1)))
   else
    some (.inl ((120:Int),d1))
set_option maxRecDepth 20000 in
theorem jc (n:Nat) (M:Mem) (hG:GL M) (c0:Lv) (d0:TD0) (h0:Rep M (ap d0) c0) (d1:Bs) (d2:Bool) (r:Sum (Int×Bs) (List Bs)) (hF:gb n d0 d1 d2=some r):OkX Tryz.prog M 100 [.agg c0.toArray,S d1,bO d2] 78 r (λr=>λM' v=>∃ (A0:Oa) (k0:Nat),v=sL A0 r k0∧Sli M' 1 Dat.str A0 k0 r):=by
 unfold gb at hF
 intro M1 hM0 w0 H w p0
 replace hG:=GL.mono hM0 hG
 replace h0:=Rep.mono hM0 _ _ h0
 obtain⟨Z1,P1,Z2,P2,rfl,B1,B2⟩:=TD0.opn h0
 refine Re 59 Tryz.func100 rfl λa0 f0=>RR (Y13 (cs:=(aTD0 d0 Z1 P1 Z2 P2)) (T:=26) f0 p0 λQ1 V1 W1 J1 R1 N1 _ f=>?_)
 have R2:=bR R1
 refine Ye f 1 λ_ f=>aq (wp_block (RR (Ye f 3 λ_ f=>RcF f hF (λB3 F1=>?_) λB3 F2=>?_)))
 ·have U1: (d2)=false:=by simpa using B3
  refine RR (Ye f 1 λ_ f=>wp_ret (hU (dj (aJ f rfl (Lk 6 Sn) ?_))))
  cases sI F1
  exact⟨_,rfl,V1,J1,N1,⟨none,0,rfl,Sli.nil⟩⟩
 ·have U2: (d2)=true:=by simpa using B3
  refine RR (Z f (Y31 (cs:=(lTD0 d0 Z1 P1 Z2 P2)) rfl (ad:=⟨Q1,0,none⟩) (λj v h=>N1.cell (R2 j v h))) λ_ f=>?_)
  obtain⟨X1,l1,F3⟩:=bS F2
  refine Y18 f N1 (dw n _ (GL.mono J1 hG) _ d0 (TD0.shutx (x:=d0) (B1.mono J1) (B2.mono J1)) X1 l1) λW2 N2 _ f=>Ye f 1 λ_ f=>RcF f F3 (λB4 F4=>?_) λB4 F5=>?_
  ·refine RR (Y f 1 λ_ f=>Y15 f N2 R2 3 rfl λ_ f=>aQ (k:=1) (c:=1) f N2 (.cells #[S d0.aa] 9 (0,0)) kr (λ_=>by kernel_rfl) λQ2 W3 N3 _ f=>Ye f 1 λ_ f=>wp_ret (hU (dj ?_)))
   have D1:ag V1 (([d0.aa]:List Bs).map Dat.str) [S d0.aa]:=⟨_,_,rfl,rfl,rfl⟩
   have N4:Hp w0 V1 ((Ent.row 9 1 (.slice (some ⟨Q2,0,none⟩) 1 1) ([d0.aa]:List Bs).length [S d0.aa])::H) W3:=N3.objRow (n:=1) (cap:=1) (size:=1) (by decide) (by decide) (dS (by decide) rfl) rfl rfl
   obtain⟨Z3,P3,V2,H1,J2,N5,B5⟩:=N4.rowSli (f:=Dat.str) (xs:=([d0.aa]:List Bs)) bZ D1
   have f:=f.st 6 (H1)
   refine aJ f rfl (Lk 6 (sL Z3 ([d0.aa]:List Bs) P3)) ?_
   cases sI F4
   exact⟨_,rfl,V2,(J1.trans J2),N5,⟨Z3,P3,rfl,B5⟩⟩
  ·refine wp_skip (gh (aS (RR (Y f 1 λ_ f=>Y15 f N2 R2 0 rfl λ_ f=>Y f 2 λ_ f=>?_))))
   rcases cE F5 with⟨B6,F6⟩|⟨B6,F23⟩
   ·have U5:=dI.1 B6
    have f:=f.st 20 (cB B6)
    refine Y18 f N2 (be _ (120:Int) d1) λW4 N6 _ f=>eT (RR (Y f 1 λ_ f=>Y15 f N6 R2 4 rfl λ_ f=>Y f 3 λ_ f=>?_))
    rcases cE F6 with⟨B7,F7⟩|⟨B7,F22⟩
    ·have U6:=dI.1 B7
     have f:=f.st 26 (cB B7)
     refine Y18 f N6 (be _ (3:Int) d1) λW5 N7 _ f=>eT (aq (RR (Y f 1 λ_ f=>Y15 f N7 R2 4 rfl λ_ f=>Ye f 2 λ_ f=>wp_block ?_)))
     obtain⟨Z4,P4,H2,N8⟩:=N7.nilR 9 1 Bs
     have f:=f.st 6 (H2)
     have D2:ag V1 (([]:List Bs).map Dat.str) []:=rfl
     obtain⟨Q3,dy,F8⟩:=bS F7
     refine wp_mono (Q:=λe a w=>(∃G1:Int×Bs,e=.panic (flawE 78 G1)∧Q3=.inl G1∧∃V8:Mem,V1.le V8∧Frm 59 [] a∧Hp w0 V8 (H) w)∨(e=.exit 1∧(∃G2:List Bs,Q3=.inr G2∧∃V9:Mem,V1.le V9∧∃ (Z10:Oa),∃ (P10:Nat),∃ (L3:Lv),ag V9 (G2.map Dat.str) L3∧Frm 59 [(6,sL Z10 G2 P10)] a∧Hp w0 V9 ((rO 9 1 Z10 G2 P10 L3)::H) w))) (cD (n:=59) (w0:=w0) (M:=V1) (λ (I1,K1,Z5,P5,L1)=>[(1,S d1),(6,sL Z5 K1.1 P5),(30,sL Z1 d0.ac P1),(31,iL ((d0.ac.length:Nat):Int)),(32,iL K1.2)]) (λ (I1,K1,Z5,P5,L1)=>((rO 9 1 Z5 K1.1 P5 L1)::H)) (λ (I1,K1,Z5,P5,L1) MM=>aL (cW n d0 d1) I1 K1=some Q3∧ag MM (K1.1.map Dat.str) L1) (λ (I1,K1,Z5,P5,L1)=>I1) (n,(([]:List Bs),(0:Int)),Z4,P4,[]) (f.kp) N8 ⟨dy,D2⟩ ?_) ?_
     ·rintro⟨I1,K1,Z5,P5,L1⟩ V3 _ W6 J3 je f N9
      obtain⟨dL,D3⟩:=je
      obtain⟨I2,nL,rfl,ca,T1⟩:=bB dL
      unfold cW at ca
      refine RR (Ye f 1 λ_ f=>aq (RcF f ca (λB8 F9=>?_) λB8 F21=>?_))
      ·have U7:=dI.1 B8
       refine St (aq (wp_block (RR (Y f 1 λ_ f=>?_))))
       obtain⟨X2,l2,F10⟩:=bS F9
       obtain⟨C1,eF,jV,-,D4,R3⟩:=Sli.at_ (B1.mono (J1.trans J3)) l2
       obtain⟨Z6,P6,Z7,P7,rfl,B9,B10⟩:=TD0.opn D4
       refine Z f (Y29 jV rfl (len:=d0.ac.length) (cap:=P1) (k:=.i64) (i:=K1.2) (e:=26) (sz:=6) (az l2) (ay l2)) λ_ f=>Z f (Y31 (cs:=(lTD0 X2 Z6 P6 Z7 P7)) rfl (ad:=C1.add (K1.2.toNat*6)) (λj v h=>N9.cell (R3 j v h))) λ_ f=>Y12 f N9 (.cells #[iB 0,bO false,iL 0,S [],Sn,Sn] 26 (0,0)) λQ4 W7 N10 _ f=>Y f 1 λ_ f=>Ys (lTD0 X2 Z6 P6 Z7 P7) (aTD0 X2 Z6 P6 Z7 P7) f N10 rfl rfl λW8 N11 _ f=>eT (RR (Z f (Y31 (cs:=(lTD0 X2 Z6 P6 Z7 P7)) rfl (ad:=⟨Q4,0,none⟩) (an (N11.ownCell 0 rfl) 0 rfl)) λ_ f=>?_))
       obtain⟨X3,l3,F11⟩:=bS F10
       refine Y18 f N11 (dw n _ (GL.mono (J1.trans J3) hG) _ X2 (TD0.shutx (x:=X2) B9 B10) X3 l3) λW9 N12 _ f=>Y f 2 λ_ f=>?_
       obtain⟨X4,l4,F12⟩:=bS F11
       refine Y18 f N12 (dA n _ (GL.mono (J1.trans J3) hG) d1 K1.2 X4 l4) λW10 N13 _ f=>?_
       rcases cE F12 with⟨B11,F13⟩|⟨B11,F20⟩
       ·have f:=f.st 38 (cB B11)
        refine Y18 f N13 (be _ (120:Int) X4) λW11 N14 _ f=>eT (RR (Y f 2 λ_ f=>Z f (Y30 (v:=S X2.aa) rfl (ad:=⟨Q4,3,none⟩) (N14.ownCell 0 rfl 3)) λ_ f=>?_))
        have N15:=N14.pl [1]
        obtain⟨V4,Z8,P8,J4,H3,N16,B12,gV⟩:=N15.lend (f:=Dat.str) (xs:=K1.1) bZ D3
        have f:=f.st 6 (H3)
        have f:=f.st 43 (H3)
        obtain⟨X5,l5,F14⟩:=bS F13
        refine Y18 f N16 (dN n _ Z8 P8 K1.1 B12 X2.aa X5 l5) λW12 N17 _ f=>?_
        obtain⟨V5,J5,N18⟩:=gV _ _ _ (mR _) N17
        have f:=f.st 6 (H3.symm)
        have f:=f.st 43 (H3.symm)
        refine Y f 3 λ_ f=>?_
        obtain⟨X6,l6,F15⟩:=bS F14
        refine Y18 f N18 (dA n _ (GL.mono ((J1.trans J3).trans J5) hG) d1 K1.2 X6 l6) λW13 N19 _ f=>?_
        rcases cE F15 with⟨B13,F16⟩|⟨B13,F19⟩
        ·have U9: (X5)=false:=by simpa using B13
         have f:=f.st 47 (cB B13)
         refine Y18 f N19 (be _ (41:Int) X6) λW14 N20 _ f=>eT (aN (Y f 2 λ_ f=>Z f (Y30 (v:=S X2.aa) rfl (ad:=⟨Q4,3,none⟩) (N20.ownCell 1 rfl 3)) λ_ f=>aQ (k:=1) (c:=1) f N20 (.cells #[S X2.aa] 9 (0,0)) kr (λ_=>by kernel_rfl) λQ5 W15 N21 _ f=>?_))
         have N22:=N21.pl [1]
         obtain⟨O1,F17⟩:=nS F16
         refine Y20 (z:=S []) (f:=Dat.str) (xs:=K1.1) (ys:=[X2.aa]) (news:=[S X2.aa]) (ad:=⟨Q5,0,none⟩) (m:=1) (c:=1) f N22 (ag.mono J5 _ _ D3) (by exact⟨_,_,rfl,rfl,rfl⟩) rfl rfl rfl rfl (an (N22.ownCell 1 rfl) 0 rfl) (by exact O1) (by have hg_:=O1;first|omega|(simp only[List.length_cons,List.length_nil] at*;omega)) λZ9 P9 L2 W16 N23 D5 _ f=>?_
         have N24:=N23.pl [1]
         have N25:=N24.drop
         refine Y f 1 λ_ f=>am rfl (gh (aS (aN ?_)))
         obtain⟨O2,F18⟩:=nS F17
         refine Y f 1 λ_ f=>?_
         have f:=f.st 57 (iW O2)
         refine Y f 1 λ_ f=>am rfl ?_
         have N30:=N25.pl [1]
         refine aS ?_
         cases sI F18
         exact⟨⟨I2,(K1.1++[X2.aa],K1.2+1),Z9,P9,L2⟩,Nat.lt_succ_self _,V5,(J3.trans J5),⟨T1,D5⟩,f.kp,(N30.dropN 1)⟩
        ·have U10: (X5)=true:=by simpa using B13
         have f:=f.st 47 (cB B13)
         refine aH f N19 (bc _ (41:Int) X6) kr (λ_=>by kernel_rfl) λV6 W17 J6 N26=>bM (kU (bM (bM ?_)))
         cases sI F19
         exact .inl ⟨((41:Int),X6),rfl,(sI T1).symm,V6,((J3.trans J5).trans J6),f.kp,(N26.dropN 2)⟩
       ·have f:=f.st 38 (cB B11)
        refine aH f N13 (bc _ (120:Int) X4) kr (λ_=>by kernel_rfl) λV7 W18 J7 N27=>bM (kU (bM (bM ?_)))
        cases sI F20
        exact .inl ⟨((120:Int),X4),rfl,(sI T1).symm,V7,(J3.trans J7),f.kp,(N27.dropN 2)⟩
      ·have U12:=aA dI B8
       refine wp_exit (gT (gT ?_))
       cases sI F21
       exact .inr ⟨rfl,K1.1,(sI T1).symm,V3,J3,Z5,P5,L1,D3,f.kp,N9⟩
     ·rintro _ _ W21 (⟨G1,rfl,rfl,V8,J8,f,N28⟩|⟨rfl,G2,rfl,V9,J9,Z10,P10,L3,D6,f,N29⟩)
      ·refine kU (bM (aP f ?_))
       cases sI F8
       exact⟨V8,(J1.trans J8),N28,rfl⟩
      ·refine lO (aS (RR (Ye f 2 λ_ f=>wp_ret ?_)))
       obtain⟨Z11,P11,V10,H4,J10,N31,B14⟩:=N29.rowSli (f:=Dat.str) (xs:=G2) bZ D6
       have f:=f.st 6 (H4)
       refine aJ f rfl (Lk 6 (sL Z11 G2 P11)) ?_
       cases sI F8
       exact⟨_,rfl,V10,((J1.trans J9).trans J10),N31,⟨Z11,P11,rfl,B14⟩⟩
    ·have U13:=aA dI B7
     have f:=f.st 26 (cB B7)
     refine aH f N6 (bc _ (3:Int) d1) kr (λ_=>by kernel_rfl) λV11 W22 J11 N32=>bM (aP f ?_)
     cases sI F22
     exact⟨V11,(J1.trans J11),N32,rfl⟩
   ·have U14:=aA dI B6
    have f:=f.st 20 (cB B6)
    refine aH f N2 (bc _ (120:Int) d1) kr (λ_=>by kernel_rfl) λV12 W23 J12 N33=>bM (aP f ?_)
    cases sI F23
    exact⟨V12,(J1.trans J12),N33,rfl⟩
def dB (n:Nat) (d1:Bs) (X1:List ax) (K1:List TG0×Int):Option (Lp (List TG0×Int) (Sum (Int×Bs) (List TG0))):=
    bif(decide (K1.2<((X1.length:Nat):Int))) then
     ((aU X1 K1.2).bind λX2=>
     (aM n d1 X2.key).bind λX3=>
     (ck n X2.key).bind λX4=>
     bif X4 then
      ((gc n (⟨X2.v.ab,(X2.v.ah),X2.v.ai,X2.v.aa,X2.v.ac,X2.v.af⟩:TD0) X3).bind λX5=>
      (match X5 with
      |.inl X6=>some (.br (.inl X6))
      |.inr X7=>bb ((K1.1.length+1)*104≤140737488355328)<|
       bb (inR .i64 (K1.2+1))<|
       some (.nx (K1.1++[(⟨X2.key,(⟨X7.ab,X7.aa,X7.ai,X7.aj,X7.ao,X7.fL⟩:TF0)⟩:TG0)],K1.2+1))))
     else
      some (.br (.inl ((120:Int),X3))))
    else
     some (.br (.inr K1.1))
def gg (n:Nat) (d0:TD0) (d1:Bs):Option (Sum (Int×Bs) (List TG0)):=
 bif(decide (d0.ab=5)) then
  ((bX n d0).bind λX1=>
  (aL (dB n d1 X1) n (([]:List TG0),(0:Int))).bind λQ2=>
  (match Q2 with
  |.inl G1=>some (.inl G1)
  |.inr G2=>some (.inr G2)))
 else
  some (.inl ((120:Int),d1))
set_option maxRecDepth 20000 in
theorem gx (n:Nat) (M:Mem) (hG:GL M) (c0:Lv) (d0:TD0) (h0:Rep M (ap d0) c0) (d1:Bs) (r:Sum (Int×Bs) (List TG0)) (hF:gg n d0 d1=some r):OkXH Tryz.prog M [] 101 [.agg c0.toArray,S d1] 78 r (λr=>λM' E' v=>∃ (A0:Oa) (k0:Nat) (s0:Lv),v=sL A0 r k0∧E'=[.row 70 7 (sL A0 r k0) r.length s0]∧ag M' (r.map dx) s0):=by
 unfold gg at hF
 intro M1 hM0 w0 H w p0
 replace hG:=GL.mono hM0 hG
 replace h0:=Rep.mono hM0 _ _ h0
 obtain⟨Z1,P1,Z2,P2,rfl,B1,B2⟩:=TD0.opn h0
 refine Re 41 Tryz.func101 rfl λa0 f0=>RR (Y13 (cs:=(aTD0 d0 Z1 P1 Z2 P2)) (T:=26) f0 p0 λQ1 V1 W1 J1 R1 N1 _ f=>?_)
 have R2:=bR R1
 refine Ye f 1 λ_ f=>RR (Y f 1 λ_ f=>Y15 f N1 R2 0 rfl λ_ f=>Y f 2 λ_ f=>?_)
 rcases cE hF with⟨B3,F1⟩|⟨B3,F14⟩
 ·have U1:=dI.1 B3
  have f:=f.st 10 (cB B3)
  refine Y18 f N1 (be _ (120:Int) d1) λW2 N2 _ f=>eT (aq (RR (Z f (Y31 (cs:=(lTD0 d0 Z1 P1 Z2 P2)) rfl (ad:=⟨Q1,0,none⟩) (λj v h=>N2.cell (R2 j v h))) λ_ f=>?_)))
  obtain⟨X1,l1,F2⟩:=bS F1
  refine Y17 (E:=[]) (H:=(H)) f N2 (cX n _ (GL.mono J1 hG) _ d0 (TD0.shutx (x:=d0) (B1.mono J1) (B2.mono J1)) X1 l1) λ_ V2 mN W3 J2 N3 eM _ f=>?_
  obtain⟨Z3,P3,L1,rfl,rfl,D1⟩:=eM
  refine Ye f 2 λ_ f=>wp_block ?_
  obtain⟨Z4,P4,H1,N4⟩:=N3.nilR 70 7 TG0
  have f:=f.st 4 (H1)
  have D2:ag V2 (([]:List TG0).map dx) []:=rfl
  obtain⟨Q2,dy,F3⟩:=bS F2
  refine wp_mono (Q:=λe a w=>(∃G1:Int×Bs,e=.panic (flawE 78 G1)∧Q2=.inl G1∧∃V7:Mem,V2.le V7∧Frm 41 [] a∧Hp w0 V7 (H) w)∨(e=.exit 0∧(∃G2:List TG0,Q2=.inr G2∧∃V8:Mem,V2.le V8∧∃ (Z10:Oa),∃ (P11:Nat),∃ (L4:Lv),ag V8 (G2.map dx) L4∧Frm 41 [(4,sL Z10 G2 P11)] a∧Hp w0 V8 ((rO 70 7 Z10 G2 P11 L4)::(rO 99 7 Z3 X1 P3 L1)::H) w))) (cD (n:=41) (w0:=w0) (M:=V2) (λ (I1,K1,Z5,P5,L2)=>[(1,S d1),(4,sL Z5 K1.1 P5),(14,sL Z3 X1 P3),(15,iL ((X1.length:Nat):Int)),(16,iL K1.2)]) (λ (I1,K1,Z5,P5,L2)=>((rO 70 7 Z5 K1.1 P5 L2)::(rO 99 7 Z3 X1 P3 L1)::H)) (λ (I1,K1,Z5,P5,L2) MM=>aL (dB n d1 X1) I1 K1=some Q2∧ag MM (K1.1.map dx) L2) (λ (I1,K1,Z5,P5,L2)=>I1) (n,(([]:List TG0),(0:Int)),Z4,P4,[]) (f.kp) N4 ⟨dy,D2⟩ ?_) ?_
  ·rintro⟨I1,K1,Z5,P5,L2⟩ V3 _ W4 J3 je f N5
   obtain⟨dL,D3⟩:=je
   obtain⟨I2,nL,rfl,ca,T1⟩:=bB dL
   unfold dB at ca
   refine RR (Ye f 1 λ_ f=>aq (RcF f ca (λB4 F4=>?_) λB4 F13=>?_))
   ·have U2:=dI.1 B4
    refine St (aq (wp_block (RR ?_)))
    obtain⟨X2,l2,F5⟩:=bS F4
    obtain⟨Q3,P6,H2,ld⟩:=N5.rowAddr 1 rfl (bh l2)
    have f:=f.st 14 (H2)
    refine Z f (Y28 rfl (ad:=⟨Q3,0,none⟩) (len:=X1.length) (cap:=P6) (k:=.i64) (i:=K1.2) (e:=99) (sz:=7) (az l2) (ay l2)) λ_ f=>?_
    have f:=f.st 14 (H2.symm)
    obtain⟨eF,-,D4,R3⟩:=ag.get K1.2.toNat (eJ cK) (ag.mono J3 _ _ D1) (gE l2)
    obtain⟨Z6,P7,Z7,P8,rfl,B5,B6⟩:=ax.opn D4
    refine Z f (Y31 (cs:=[S X2.key,iB X2.v.ab,bO X2.v.ah,iL X2.v.ai,S X2.v.aa,sL Z6 X2.v.ac P7,sL Z7 X2.v.af P8]) rfl (ad:=(⟨Q3,0,none⟩:Addr).add (K1.2.toNat*7)) (λj v h=>jD (N5.rowCell 1 rfl H2) R3 j v h)) λ_ f=>Y12 f N5 (.cells #[S [],iB 0,bO false,iL 0,S [],Sn,Sn] 99 (0,0)) λQ4 W5 N6 _ f=>Ys [S X2.key,iB X2.v.ab,bO X2.v.ah,iL X2.v.ai,S X2.v.aa,sL Z6 X2.v.ac P7,sL Z7 X2.v.af P8] #[S X2.key,iB X2.v.ab,bO X2.v.ah,iL X2.v.ai,S X2.v.aa,sL Z6 X2.v.ac P7,sL Z7 X2.v.af P8] f N6 rfl rfl λW6 N7 _ f=>eT (RR (Y f 2 λ_ f=>Z f (Y30 (v:=S X2.key) rfl (ad:=⟨Q4,0,none⟩) (N7.ownCell 0 rfl 0)) λ_ f=>?_))
    obtain⟨X3,l3,F6⟩:=bS F5
    refine Y18 f N7 (aK n _ (GL.mono ((J1.trans J2).trans J3) hG) d1 X2.key X3 l3) λW7 N8 _ f=>Ye f 1 λ_ f=>RR (Y f 1 λ_ f=>Z f (Y30 (v:=S X2.key) rfl (ad:=⟨Q4,0,none⟩) (N8.ownCell 0 rfl 0)) λ_ f=>?_)
    obtain⟨X4,l4,F7⟩:=bS F6
    refine Y18 f N8 (cp n _ X2.key X4 l4) λW8 N9 _ f=>Y f 1 λ_ f=>?_
    rcases cE F7 with⟨B7,F8⟩|⟨B7,F12⟩
    ·have f:=f.st 26 (cB B7)
     refine Y18 f N9 (be _ (120:Int) X3) λW9 N10 _ f=>eT ?_
     have N13:=N10.pl [2,1,2]
     refine ei (E:=[rO 70 7 Z5 K1.1 P5 L2]) (Hr:=((oC Q4 #[S X2.key,iB X2.v.ab,bO X2.v.ah,iL X2.v.ai,S X2.v.aa,sL Z6 X2.v.ac P7,sL Z7 X2.v.af P8] 99)::(rO 99 7 Z3 X1 P3 L1)::H)) [(0,true),(1,true),(2,true),(3,true),(4,true),(5,true),(6,false),(7,true),(8,false),(9,false),(10,true)] N13 kr kr rfl kr (Y0 default f 2 λ_ f=>cg (v:=S X2.key) f kr kr rfl rfl (λ_ pq=>Y30 (v:=S X2.key) rfl (ad:=⟨Q4,0,none⟩) (pq.ownCell 0 rfl 0)) λ_ f=>Y0 default f 1 λ_ f=>cg (v:=.agg (aTD0 X2.v Z6 P7 Z7 P8)) f kr kr rfl rfl (λ_ pq=>Y31 (cs:=(lTD0 X2.v Z6 P7 Z7 P8)) rfl (ad:=⟨Q4,1,none⟩) (an (pq.ownCell 0 rfl) 1 rfl)) λ_ f=>Y0 default f 1 λ_ f=>cd (E:=[rO 70 7 Z5 K1.1 P5 L2]) λW10 N14=>?_)
     obtain⟨X5,l5,F9⟩:=bS F8
     rcases X5 with X6|X7
     ·refine aH f N14 (cP n _ (GL.mono ((J1.trans J2).trans J3) hG) _ (⟨X2.v.ab,(X2.v.ah),X2.v.ai,X2.v.aa,X2.v.ac,X2.v.af⟩:TD0) (TD0.shut B5 B6) X3 (.inl X6) l5) kr (λ_=>by kernel_rfl) λV4 W11 J4 N15=>lj f λ_ f=>kU (bM (bM ?_))
      cases sI F9
      exact .inl ⟨X6,rfl,(sI T1).symm,V4,(J3.trans J4),f.kp,(N15.dropN 3)⟩
     ·refine Y16 f N14 (OkX.ok (cP n _ (GL.mono ((J1.trans J2).trans J3) hG) _ (⟨X2.v.ab,(X2.v.ah),X2.v.ai,X2.v.aa,X2.v.ac,X2.v.af⟩:TD0) (TD0.shut B5 B6) X3 (.inr X7) l5)) λ_ V5 W12 J5 N16 iQ _ f=>?_
      obtain⟨iA,rfl,D5⟩:=iQ
      obtain⟨Z8,P9,rfl,B8⟩:=TF0.opn D5
      refine am rfl (dC (M1:=V5) (E:=[rO 70 7 Z5 K1.1 P5 L2]) J5 N16 (Y0 default f 1 λ_ f=>cd (E:=[rO 70 7 Z5 K1.1 P5 L2]) λW13 N17=>aQ (k:=1) (c:=1) f N17 (.cells #[S X2.key,iB X7.ab,S X7.aa,iL X7.ai,S X7.aj,S X7.ao,sL Z8 X7.fL P9] 70 (0,0)) kr (λ_=>by kernel_rfl) λQ5 W14 N18 _ f=>am rfl (dC (M1:=V5) (E:=[oC Q5 #[S X2.key,iB X7.ab,S X7.aa,iL X7.ai,S X7.aj,S X7.ao,sL Z8 X7.fL P9] 70,rO 70 7 Z5 K1.1 P5 L2]) J5 N18 (cd (E:=[oC Q5 #[S X2.key,iB X7.ab,S X7.aa,iL X7.ai,S X7.aj,S X7.ao,sL Z8 X7.fL P9] 70,rO 70 7 Z5 K1.1 P5 L2]) λW15 N19=>?_))))
      have N20:=N19.pl [1]
      obtain⟨O1,F10⟩:=nS F9
      refine Y20 (z:=.agg #[S [],iB 0,S [],iL 0,S [],S [],Sn]) (f:=dx) (xs:=K1.1) (ys:=[(⟨X2.key,(⟨X7.ab,X7.aa,X7.ai,X7.aj,X7.ao,X7.fL⟩:TF0)⟩:TG0)]) (news:=[S X2.key,iB X7.ab,S X7.aa,iL X7.ai,S X7.aj,S X7.ao,sL Z8 X7.fL P9]) (ad:=⟨Q5,0,none⟩) (m:=1) (c:=1) f N20 (ag.mono J5 _ _ D3) (by exact⟨_,_,rfl,TG0.shut B8,rfl⟩) rfl rfl rfl rfl (an (N20.ownCell 1 rfl) 0 rfl) (by exact O1) (by have hg_:=O1;first|omega|(simp only[List.length_cons,List.length_nil] at*;omega)) λZ9 P10 L3 W16 N21 D6 _ f=>?_
      have N22:=N21.pl [1]
      have N23:=N22.drop
      refine am rfl (dC (M1:=V5) (E:=[rO 70 7 Z9 (K1.1++[(⟨X2.key,(⟨X7.ab,X7.aa,X7.ai,X7.aj,X7.ao,X7.fL⟩:TF0)⟩:TG0)]) P10 L3]) J5 N23 (Y0 default f 1 λ_ f=>eh rfl λW17 N24=>gh (aS (aN ?_))))
      obtain⟨O2,F11⟩:=nS F10
      refine Y f 1 λ_ f=>?_
      have f:=f.st 39 (iW O2)
      refine Y f 1 λ_ f=>am rfl ?_
      have N30:=N24.pl [2,1,2]
      refine aS ?_
      cases sI F11
      exact⟨⟨I2,(K1.1++[(⟨X2.key,(⟨X7.ab,X7.aa,X7.ai,X7.aj,X7.ao,X7.fL⟩:TF0)⟩:TG0)],K1.2+1),Z9,P10,L3⟩,Nat.lt_succ_self _,V5,(J3.trans J5),⟨T1,D6⟩,f.kp,(N30.dropN 1)⟩
    ·have f:=f.st 26 (cB B7)
     refine aH f N9 (bc _ (120:Int) X3) kr (λ_=>by kernel_rfl) λV6 W18 J6 N25=>bM (kU (bM (bM ?_)))
     cases sI F12
     exact .inl ⟨((120:Int),X3),rfl,(sI T1).symm,V6,(J3.trans J6),f.kp,(N25.dropN 3)⟩
   ·have U5:=aA dI B4
    refine wp_exit (gT (gT ?_))
    cases sI F13
    exact .inr ⟨rfl,K1.1,(sI T1).symm,V3,J3,Z5,P5,L2,D3,f.kp,N5⟩
  ·rintro _ _ W21 (⟨G1,rfl,rfl,V7,J7,f,N26⟩|⟨rfl,G2,rfl,V8,J8,Z10,P11,L4,D7,f,N27⟩)
   ·refine kU (bM (aP f ?_))
    cases sI F3
    exact⟨V7,((J1.trans J2).trans J7),N26,rfl⟩
   ·refine lO (aS (RR (Ye f 2 λ_ f=>wp_ret (aJ f rfl (Lk 4 (sL Z10 G2 P11)) ?_))))
    cases sI F3
    have N31:=N27.pl [1]
    exact⟨_,rfl,V8,_,((J1.trans J2).trans J8),(N31.dropN 1),⟨Z10,P11,L4,rfl,rfl,D7⟩⟩
 ·have U6:=aA dI B3
  have f:=f.st 10 (cB B3)
  refine aH f N1 (bc _ (120:Int) d1) kr (λ_=>by kernel_rfl) λV9 W22 J9 N32=>bM (aP f ?_)
  cases sI F14
  exact⟨V9,(J1.trans J9),N32,rfl⟩
def dG (n:Nat) (rec_syntax_template:TD0→Bs→Int→Option (Sum (Int×Bs) TA0)) (d0:Bs) (d1:TD0) (d2:Bs) (d3:Int):Option (Sum (Int×Bs) TB0):=
 (cr n d1 d2 ([[84,121,112,101],[67,111,110,100,105,116,105,111,110],[68,101,112,101,110,100,115,79,110],[68,101,108,101,116,105,111,110,80,111,108,105,99,121],[80,114,111,112,101,114,116,105,101,115]]:List Bs)).bind λX1=>
 (match X1 with
 |.inl X2=>some (.inl X2)
 |.inr X3=>(aR n [84,121,112,101] X3.1 X3.2).bind λX4=>
  bif X4.2.2 then
   ((el n X4.1 X4.2.1 (true)).bind λX5=>
   (match X5 with
   |.inl X6=>some (.inl X6)
   |.inr X7=>(aR n [67,111,110,100,105,116,105,111,110] X3.1 X3.2).bind λX8=>
    (el n X8.1 X8.2.1 (X8.2.2)).bind λX9=>
    (match X9 with
    |.inl X10=>some (.inl X10)
    |.inr X11=>(aR n [68,101,112,101,110,100,115,79,110] X3.1 X3.2).bind λX12=>
     (gb n X12.1 X12.2.1 (X12.2.2)).bind λX13=>
     (match X13 with
     |.inl X14=>some (.inl X14)
     |.inr X15=>(aR n [68,101,108,101,116,105,111,110,80,111,108,105,99,121] X3.1 X3.2).bind λX16=>
      ((bif !X16.2.2 then
       (some (.nx ()))
        else
         bif(decide (X16.1.ab=3)) then
          (bif(decide (X16.1.aa=[68,101,108,101,116,101])) then
           (some (.nx ()))
          else
           bif(decide (X16.1.aa=[82,101,116,97,105,110])) then
            (some (.nx ()))
           else
            ((some (.inl ((120:Int),X16.2.1)):Option (Sum (Int×Bs) TB0))).map Lp.br)
         else
          ((some (.inl ((120:Int),X16.2.1)):Option (Sum (Int×Bs) TB0))).map Lp.br:Option (Lp Unit (Sum (Int×Bs) TB0)))).bind λj=>joinF j λG1=>
      (aR n [80,114,111,112,101,114,116,105,101,115] X3.1 X3.2).bind λX17=>
      bif(!(decide (X7=[83,116,97,99,107]))) then
       (((bif X17.2.2 then
        ((gg n X17.1 X17.2.1).bind λX18=>
        (match X18 with
        |.inl X19=>((some (.inl X19):Option (Sum (Int×Bs) TB0))).map Lp.br
        |.inr X20=>some (.nx X20)))
         else
          some (.nx ([]:List TG0)):Option (Lp (List TG0) (Sum (Int×Bs) TB0)))).bind λj=>joinF j λG2=>
       some (.inr (⟨d0,X7,X11,G2,X15,(decide (X16.1.aa=[82,101,116,97,105,110])),([]:List TA0)⟩:TB0)))
      else
       bif X17.2.2 then
        ((cr n X17.1 X17.2.1 ([[84,101,109,112,108,97,116,101],[80,97,114,97,109,101,116,101,114,115]]:List Bs)).bind λX21=>
        (match X21 with
        |.inl X22=>some (.inl X22)
        |.inr X23=>(aR n [84,101,109,112,108,97,116,101] X23.1 X23.2).bind λX24=>
         bif X24.2.2 then
          (bif(decide (d3<2)) then
           (bb (inR .i64 (d3+1))<|
           (rec_syntax_template X24.1 X24.2.1 (d3+1)).bind λX25=>
           (match X25 with
           |.inl X26=>some (.inl X26)
           |.inr X27=>(aR n [80,97,114,97,109,101,116,101,114,115] X23.1 X23.2).bind λX28=>
            bif X28.2.2 then
             ((gg n X28.1 X28.2.1).bind λX29=>
             (match X29 with
             |.inl X30=>some (.inl X30)
             |.inr X31=>some (.inr (⟨d0,X7,X11,X31,X15,(decide (X16.1.aa=[82,101,116,97,105,110])),[(⟨X27.aO,X27.aW,X27.bU,X27.bC⟩:TA0)]⟩:TB0))))
            else
             some (.inr (⟨d0,X7,X11,([]:List TG0),X15,(decide (X16.1.aa=[82,101,116,97,105,110])),[(⟨X27.aO,X27.aW,X27.bU,X27.bC⟩:TA0)]⟩:TB0))))
          else
           some (.inl ((170:Int),X24.2.1)))
         else
          some (.inl ((120:Int),X17.2.1))))
       else
        some (.inl ((120:Int),d2))))))
  else
   some (.inl ((120:Int),d2)))
end Go.Proofs.YtkopljikappieaaGreatDoor
