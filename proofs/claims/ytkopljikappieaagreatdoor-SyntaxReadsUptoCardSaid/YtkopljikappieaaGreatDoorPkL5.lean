/-
  Texts of this claim, packed (what nothing names is left out): HdS, Y0, VkN, Y1, Y2, Z3a. Own work, partly printed by own programs. No condition.
-/
import Derived.Test.YtkopljikappieaaGreatDoorPkL1
import Derived.Test.YtkopljikappieaaGreatDoorPkL2
import Derived.Test.YtkopljikappieaaGreatDoorPkL4
set_option linter.unusedVariables false
set_option linter.unusedSimpArgs false
set_option maxHeartbeats 2000000
section
namespace Go.Proofs.YtkopljikappieaaGreatDoor
open Go Go.Vc Go.RowKit Go.Sort
def insG {α:Type} (le:α→α→Bool) (x:α):List α→List α
 |[]=>[x]
 |y::r=>bif le x y then x::y::r else y::insG le x r
def sortG {α:Type} (le:α→α→Bool):List α→List α
 |[]=>[]
 |x::r=>insG le x (sortG le r)
section
variable {α:Type} {le:α→α→Bool}
theorem qv (le:α→α→Bool) (x:α): ∀l,(insG le x l).Perm (x::l)
 |[]=>List.Perm.refl _
 |y::r=>by
  unfold insG
  cases le x y with
  |true=>exact List.Perm.refl _
  |false=>exact((qv le x r).cons y).trans (List.Perm.swap x y r)
theorem kF (le:α→α→Bool): ∀l,(sortG le l).Perm l
 |[]=>List.Perm.refl _
 |x::r=>(qv le x _).trans ((kF le r).cons x)
theorem tO (le:α→α→Bool) (l:List α): (sortG le l).length=l.length:=(kF le l).length_eq
theorem qU (ht: ∀a b c,le a b=true→le b c=true→le a c=true) (hn: ∀a b,le a b=true∨le b a=true) (x:α): ∀l,l.Pairwise (λa b=>le a b=true)→(insG le x l).Pairwise (λa b=>le a b=true)
 |[],_=>by simp[insG]
 |y::r,h=>by
  obtain⟨h1,h2⟩:=List.pairwise_cons.1 h
  unfold insG
  cases hxy:le x y with
  |true=>exact List.pairwise_cons.2 ⟨λz hz=>by
   rcases List.mem_cons.1 hz with rfl|hz
   ·exact hxy
   exact ht _ _ _ hxy (h1 z hz),h⟩
  |false=>
   refine List.pairwise_cons.2 ⟨λz hz=>?_,qU ht hn x r h2⟩
   rcases List.mem_cons.1 ((qv le x r).mem_iff.1 hz) with rfl|hz
   ·exact(hn z y).resolve_left (by simp[hxy])
   exact h1 z hz
theorem ne (ht: ∀a b c,le a b=true→le b c=true→le a c=true) (hn: ∀a b,le a b=true∨le b a=true): ∀l,(sortG le l).Pairwise (λa b=>le a b=true)
 |[]=>List.Pairwise.nil
 |x::r=>qU ht hn x _ (ne ht hn r)
theorem sortG_eq (ht: ∀a b c,le a b=true→le b c=true→le a c=true) (hn: ∀a b,le a b=true∨le b a=true) (ha: ∀a b,le a b=true→le b a=true→a=b) (l:List α):l.mergeSort le=sortG le l:=
 List.Perm.eq_of_pairwise (le:=λa b=>le a b=true) (λa b _ _ h1 h2=>ha a b h1 h2) (List.pairwise_mergeSort ht (λa b=>by simpa using hn a b) l) (ne ht hn l) ((List.mergeSort_perm l _).trans (kF _ l).symm)
end
def leS (x y:Bs):Bool:=decide (x≤y)
theorem sortS_eq (l:List Bs):l.mergeSort (λx y=>decide (x≤y))=sortG leS l:=
 sortG_eq (le:=leS) (λa b c h1 h2=>by simp only[leS,decide_eq_true_eq] at*;exact List.le_trans h1 h2) (λa b=>by simp only[leS,decide_eq_true_eq];exact List.le_total a b) (λa b h1 h2=>by simp only[leS,decide_eq_true_eq] at*;exact List.le_antisymm h1 h2) l
def rq (_:Nat) (d:List Bs):Option (List Bs):=aL (d.length<4611686018427387904) (some (sortG leS d))
theorem h_SortS_ok (n:Nat) (M:Mem) (A:Oa) (cap:Nat) (d:List Bs) (cs:Lv) (hr:ae M (d.map Dat.str) cs) (r:List Bs) (hF:rq n d=some r):
 OkH Tryz.prog M [.row 9 1 (sL A d cap) d.length cs] 96 [sL A d cap] λM' E' v=>∃s,v=.tuple #[]∧E'=[.row 9 1 (sL A d cap) r.length s]∧ae M' (r.map Dat.str) s∧r.length=d.length:=by
 unfold rq at hF
 obtain⟨g0,hF⟩:=ov hF
 obtain rfl:=Option.some.inj hF
 have hl:=tO leS d
 obtain rfl:=strs_eq_ hr
 intro M2 hM w0 H w hp
 refine(sortRow (P:=Tryz.prog) (f:=96) (e:=9) (enc:=S) (zs:=d) (ys:=sortG leS d) hl (λblk off cap w hH hb=>by have:=Tryz.slices_Sort_string blk off cap d w hH hb g0;rwa [sortS_eq] at this) (λ_ M=>Ok.ofPure λw=>Tryz.slices_Sort_string_none none 0 w) M (sL A d cap) M2 hM w0 H w hp).mono λ_ w' ⟨v,he,M',E',h1,h2,h3,h4⟩=>⟨v,he,M',E',h1,h2,_,h3,by rw[hl];exact h4,dD _,hl⟩
end Go.Proofs.YtkopljikappieaaGreatDoor
end
section
namespace Go.Proofs.YtkopljikappieaaGreatDoor
open Go Go.Vc Go.RowKit
def cc (n:Nat) (d0:List Bs) (d1:Bs) (K1:Int):Option (Lp Int (Sum Int Unit)):=
    bif(decide (K1<((d0.length:Nat):Int))) then
     ((aB d0 K1).bind λX1=>
     bif(decide (d1=X1)) then
      (some (.br (.inl K1)))
     else
      aL (inR .i64 (K1+1))<|
      some (.nx (K1+1)))
    else
     some (.br (.inr ()))
def cr (n:Nat) (d0:List Bs) (d1:Bs):Option Int:=
 (au (cc n d0 d1) n (0:Int)).bind λQ1=>
 (match Q1 with
 |.inl G1=>some (G1)
 |.inr G2=>some ((-1:Int)))
theorem il (n:Nat) (M:Mem) (A0:Oa) (cap0:Nat) (d0:List Bs) (h0:Sli M 1 Dat.str A0 cap0 d0) (d1:Bs) (r:Int) (hF:cr n d0 d1=some r):Ok Tryz.prog M 131 [sL A0 d0 cap0,S d1] (λ_ v=>v=iL r):=by
 unfold cr at hF
 intro M1 hM0 w0 H w p0
 replace h0:=h0.mono hM0
 refine Re 19 Tryz.func131 rfl λa0 f0=>RR (Ye f0 1 λ_ f=>ah (RR (Ye f 3 λ_ f=>wp_block ?_)))
 obtain⟨Q1,ce,F1⟩:=bS hF
 refine wp_mono (Q:=λe a w=>(e=.ret∧(∃G1,Q1=.inl G1∧∃V2,M1.le V2∧Frm 19 [(4,iL G1)] a∧Hp w0 V2 (H) w))∨(e=.exit 0∧(∃G2,Q1=.inr G2∧∃V3,M1.le V3∧Frm 19 [] a∧Hp w0 V3 (H) w))) (aZ (σ:=Int) (λx=>match x with|(I1,K1)=>(((8,iL K1)::kpL [0,1,7] f.fr),(H),λMM=>au (cc n d0 d1) I1 K1=some Q1)) (n,(0:Int)) (f.kp) p0.kr ce ?_) ?_
 ·rintro⟨I1,K1⟩ V1 _ W1 J1 gL f N1
  have ci:=gL
  obtain⟨I2,lT,rfl,bg,T1⟩:=aK ci
  unfold cc at bg
  refine RR (Ye f 1 λ_ f=>ah (RcF f bg (λB1 F2=>?_) λB1 F7=>?_))
  ·refine St (ah (wp_block (RR (Ye f 2 λ_ f=>RR (Y f 3 λ_ f=>?_)))))
   obtain⟨X1,l1,F3⟩:=bS F2
   obtain⟨C1,dW,jC,D1,R1⟩:=N1.at_ h0 l1
   obtain rfl:dW=[S X1]:=D1
   refine Z f (XI jC l1) λ_ f=>Y7 f N1 R1 0 rfl λ_ f=>Z f (Y11 rfl (l:=d1) (m:=X1)) λ_ f=>eT (RcF f F3 (λB2 F4=>?_) λB2 F5=>?_)
   ·refine RR (Ye f 2 λ_ f=>wp_ret (eu (bl (bl ?_))))
    cases sI F4
    exact .inl ⟨rfl,_,(sI T1).symm,_,J1,f.kp,N1.kr⟩
   refine wp_skip (ec (az (ay ?_)))
   obtain⟨O1,F6⟩:=nS F5
   refine Y f 1 λ_ f=>?_
   have f:=f.st 18 (iW O1)
   refine Ye f 1 λ_ f=>?_
   cases sI F6
   exact⟨⟨_,_⟩,Nat.lt_succ_self _,_,J1,T1,f.kp,N1.kr⟩
  refine wp_exit (dJ (dJ ?_))
  cases sI F7
  exact .inr ⟨rfl,_,(sI T1).symm,_,J1,f.kp,N1.kr⟩
 rintro _ _ W4 (⟨rfl,G1,rfl,V2,J2,f,N2⟩|⟨rfl,G2,rfl,V3,J3,f,N3⟩)
 ·refine eu (bl (am f rfl (Lk 4 (iL G1)) ?_))
  cases sI F1
  exact⟨_,rfl,_,J2,N2.kr,rfl⟩
 refine jV (az (RR (Ye f 1 λ_ f=>wp_ret (am f rfl (Lk 4 (iL (-1))) ?_))))
 cases sI F1
 exact⟨_,rfl,_,J3,N3.kr,rfl⟩
def cb (n:Nat) (d0:List Bs) (d1:Bs):Option Bool:=
 (cr n d0 d1).bind λX1=>
 some ((decide ((0:Int)≤X1)))
theorem gO (n:Nat) (M:Mem) (A0:Oa) (cap0:Nat) (d0:List Bs) (h0:Sli M 1 Dat.str A0 cap0 d0) (d1:Bs) (r:Bool) (hF:cb n d0 d1=some r):Ok Tryz.prog M 92 [sL A0 d0 cap0,S d1] (λ_ v=>v=bO r):=by
 unfold cb at hF
 intro M1 hM0 w0 H w p0
 replace h0:=h0.mono hM0
 refine Re 9 Tryz.func92 rfl λa0 f0=>RR (Ye f0 1 λ_ f=>RR (Y f 2 λ_ f=>?_))
 obtain⟨X1,l1,F1⟩:=bS hF
 refine Y9 f p0 (il n _ A0 cap0 d0 h0 d1 X1 l1) λW1 N1 _ f=>Ye f 2 λ_ f=>wp_ret (am f rfl (Lk 4 (bO (decide ((0:Int)≤X1)))) ?_)
 cases sI F1
 exact⟨_,rfl,M1,mL,N1.kr,rfl⟩
end Go.Proofs.YtkopljikappieaaGreatDoor
end
section
namespace Go.Vc
open Go Go.RowKit
variable {dd:List Deferred}
section
variable {P:Program} {α:Type} {ops:Array Oper} {n:Nat} {L:Fr} {a:Act} {w0 w:World} {M:Mem} {H:List Ent} {Q:Exit→Act→World→Prop} {sz:Nat} {f:α→Dat}
end
end Go.Vc
end
section
namespace Go.Proofs.YtkopljikappieaaGreatDoor
open Go Go.Vc Go.RowKit
def mF (n:Nat) (d0:TE0) (d1:Bs):Option (TE0×Bool):=
 (cr n d0.af d1).bind λX1=>
 ((bif(!(decide (d0.ab=5))) then
  (some ((true)))
   else
    bif(!(decide (((d0.af.length:Nat):Int)=((d0.ac.length:Nat):Int)))) then
     (some ((true)))
    else
     some ((decide (X1<0))):Option Bool)).bind λG1=>
 bif G1 then
  (some ((oO,(false))))
 else
  (aB d0.ac X1).bind λX2=>
  some ((X2,(true)))
theorem qZ (n:Nat) (M:Mem) (hG:GL M) (c0:Lv) (d0:TE0) (h0:Rep M (ai d0) c0) (d1:Bs) (r:TE0×Bool) (hF:mF n d0 d1=some r):Ok Tryz.prog M 94 [.agg c0.toArray,S d1] (λM' v=>∃ (c0:Lv),v=.tuple #[.agg c0.toArray,bO r.2]∧Rep M' (ai r.1) c0):=by
 unfold mF at hF
 intro M1 hM0 w0 H w p0
 replace hG:=GL.mono hM0 hG
 replace h0:=Rep.mono hM0 _ _ h0
 obtain⟨Z1,P1,Z2,P2,rfl,B1,B2⟩:=TE0.opn h0
 refine Re 33 Tryz.func94 rfl λa0 f0=>RR (Y5 (cs:=(aTE0 d0 Z1 P1 Z2 P2)) (T:=26) f0 p0 λQ1 V1 W1 J1 R1 N1 _ f=>?_)
 have R2:=aU R1
 refine Y4 f N1 (.cells #[iB 0,bO false,iL 0,S [],Sn,Sn] 26 (0,0)) λQ2 W2 N2 _ f=>Ye f 1 λ_ f=>RR (Y f 1 λ_ f=>Y7 f N2 R2 5 rfl λ_ f=>Y f 1 λ_ f=>?_)
 obtain⟨X1,l1,F1⟩:=bS hF
 refine Y9 f N2 (il n _ Z2 P2 d0.af B2.mo d1 X1 l1) λW3 N3 _ f=>Ye f 1 λ_ f=>ah (ah ?_)
 obtain⟨eF,cL,F2⟩:=bS F1
 refine aW (λa_20 W4=>∃G1,eF=G1∧∃V2,V1.le V2∧Frm 33 ((26,bO G1)::kpL [2,4,6] f.fr) a_20∧Hp w0 V2 (N3.en) W4) ?_ ?_
 ·refine ay (Y f 1 λ_ f=>Y7 f N3 R2 0 rfl λ_ f=>Y f 2 λ_ f=>?_)
  rcases cE cL with⟨B3,F3⟩|⟨B3,F4⟩
  ·have f:=f.st 14 (cB B3)
   refine Ye f 12 λ_ f=>?_
   exact⟨_,(sI F3).symm,_,mL,f.kp,N3.kr⟩
  have f:=f.st 14 (cB B3)
  refine Y f 1 λ_ f=>Y7 f N3 R2 5 rfl λ_ f=>Y f 2 λ_ f=>Y7 f N3 R2 4 rfl λ_ f=>Y f 4 λ_ f=>?_
  rcases cE F4 with⟨B4,F5⟩|⟨B4,F6⟩
  ·have f:=f.st 23 (cB B4)
   refine Ye f 3 λ_ f=>?_
   exact⟨_,(sI F5).symm,_,mL,f.kp,N3.kr⟩
  have f:=f.st 23 (cB B4)
  refine Ye f 3 λ_ f=>?_
  exact⟨_,(sI F6).symm,_,mL,f.kp,N3.kr⟩
 rintro a_20 W4 ⟨G1,eS,V2,J2,f,N4⟩
 dsimp only[Hp.en] at N4
 subst eF
 refine az (RcF f F2 (λB5 F7=>?_) λB5 F8=>?_)
 ·refine RR (Y f 1 λ_ f=>Wu f N4 0 0 [iB 0,bO false,iL 0,S [],Sn,Sn] λW5 N5 _ f=>Ye f 1 λ_ f=>wp_ret (bl (nn f rfl (Rv.oN [iB 0,bO false,iL 0,S [],Sn,Sn] f N5 0 0) (Rv.slot (v:=bO false) f kr) ?_)))
  cases sI F7
  exact⟨_,rfl,_,mL,(N5.dropN 1).kr,⟨_,rfl,(TE0.shutx Sli.nil Sli.nil)⟩⟩
 refine St (RR (Y f 1 λ_ f=>Y7 f N4 (fu R2) 4 rfl λ_ f=>Y f 1 λ_ f=>?_))
 obtain⟨X2,l2,F9⟩:=bS F8
 obtain⟨C1,dW,jC,D1,R3⟩:=N4.at_ B1 l2
 obtain⟨Z3,P3,Z4,P4,rfl,B6,B7⟩:=TE0.opn D1
 refine Z f (XI jC l2) λ_ f=>Z f (XK N4 R3 0) λ_ f=>Wu f N4 0 0 (lTE0 X2 Z3 P3 Z4 P4) λW6 N6 _ f=>Ye f 1 λ_ f=>wp_ret (nn f rfl (Rv.oN (lTE0 X2 Z3 P3 Z4 P4) f N6 0 0) (Rv.slot (v:=bO true) f kr) ?_)
 cases sI F9
 exact⟨_,rfl,_,mL,(N6.dropN 1).kr,⟨_,rfl,D1.mo⟩⟩
def eX (n:Nat) (d0:List Bs) (z0:Bool):Option (List Bs):=
 bif z0 then
  (some (([]:List Bs)))
 else
  aL ((([]:List Bs).length+d0.length)*16≤140737488355328)<|
  some (([]:List Bs)++d0)
theorem kD (n:Nat) (M:Mem) (A0:Oa) (cap0:Nat) (d0:List Bs) (h0:Sli M 1 Dat.str A0 cap0 d0) (z0:Bool) (hz0:A0.isNone=z0) (r:List Bs) (hF:eX n d0 z0=some r):OkH Tryz.prog M [] 95 [sL A0 d0 cap0] (λM' E' v=>∃ (A0:Oa) (k0:Nat) (s0:Lv),v=sL A0 r k0∧E'=[.row 9 1 (sL A0 r k0) r.length s0]∧ae M' (r.map Dat.str) s0):=by
 unfold eX at hF
 intro M1 hM0 w0 H w p0
 replace h0:=h0.mono hM0
 refine Re 8 Tryz.func95 rfl λa0 f0=>RR (Ye f0 1 λ_ f=>ah (RR (Y f 1 λ_ f=>Z (v:=bO A0.isNone) f (X_slicenil (A:=A0) (n:=d0.length) (c:=cap0) (e:=9) rfl kr kr kr _) λ_ f=>?_)))
 have f:=Frm.set f 4 (v:=bO A0.isNone) (v':=bO z0) kr (cB hz0)
 refine eT (RcF f hF (λB1 F1=>?_) λB1 F2=>?_)
 ·refine RR (Ye f 1 λ_ f=>wp_ret (bl ?_))
  obtain⟨Z1,P1,H1,N1⟩:=p0.nilD 9 1 Bs
  have f:=f.st 2 (H1)
  have D1:ae M1 (([]:List Bs).map Dat.str) []:=rfl
  refine am f rfl (Lk 2 (sL Z1 ([]:List Bs) P1)) ?_
  cases sI F1
  exact⟨_,rfl,M1,_,mL,N1.kr,⟨Z1,P1,[],rfl,rfl,D1⟩⟩
 refine St (RR (aE (k:=0) (c:=0) f p0 (.cells #[] 9 (0,0)) kr (λ_=>by kernel_rfl) λQ1 W1 N2 _ f=>Y f 1 λ_ f=>?_))
 have D2:ae M1 (([]:List Bs).map Dat.str) []:=rfl
 have N3:=N2.objR 0 1
 obtain⟨O1,F3⟩:=nS F2
 refine ms (z:=S []) (f:=Dat.str) (xs:=([]:List Bs)) (ys:=d0) (c:=cap0) f N3 D2 h0 kr kr rfl rfl rfl kr kr kr kr O1 (by omega) λZ2 P2 L1 W2 N4 D3 _ f=>Ye f 1 λ_ f=>wp_ret (am f rfl (Lk 2 (sL Z2 (([]:List Bs)++d0) P2)) ?_)
 cases sI F3
 exact⟨_,rfl,M1,_,mL,N4.kr,⟨Z2,P2,L1,rfl,rfl,D3⟩⟩
def ed (_:Nat) (d0:List Bs):Option (List Bs):=aL (d0.length*16≤140737488355328) (some d0)
theorem lc (n:Nat) (M:Mem) (A0:Oa) (cap0:Nat) (d0:List Bs) (h0:Sli M 1 Dat.str A0 cap0 d0) (r:List Bs) (hF:ed n d0=some r):OkH Tryz.prog M [] 95 [sL A0 d0 cap0] (λM' E' v=>∃ (A0:Oa) (k0:Nat) (s0:Lv),v=sL A0 r k0∧E'=[.row 9 1 (sL A0 r k0) r.length s0]∧ae M' (r.map Dat.str) s0):=by
 unfold ed at hF
 obtain⟨g,hF⟩:=nS hF
 cases sI hF
 refine kD n M A0 cap0 d0 h0 A0.isNone rfl d0 ?_
 unfold eX
 cases A0 with
 |none=>
  obtain⟨h1,h2,_⟩:=h0
  have h3:=h2 rfl
  obtain rfl:d0=[]:=List.eq_nil_of_length_eq_zero (by omega)
  rfl
 |some a=>simp[aL];omega
def dV (n:Nat) (d0:TE0) (X2:List Bs) (K1:List aD×Int):Option (Lp (List aD×Int) (List aD)):=
    bif(decide (K1.2<((X2.length:Nat):Int))) then
     ((aB X2 K1.2).bind λX3=>
     (mF n d0 X3).bind λX4=>
     aL ((K1.1.length+1)*96≤140737488355328)<|
     aL (inR .i64 (K1.2+1))<|
     some (.nx (K1.1++[(⟨X3,X4.1⟩:aD)],K1.2+1)))
    else
     some (.br K1.1)
def cW (n:Nat) (d0:TE0):Option (List aD):=
 (ed n d0.af).bind λX1=>
 (rq n X1).bind λX2=>
 (au (dV n d0 X2) n (([]:List aD),(0:Int))).bind λG1=>
 some (G1)
set_option maxRecDepth 20000 in
theorem eM (n:Nat) (M:Mem) (hG:GL M) (c0:List Value) (d0:TE0) (h0:Rep M (ai d0) c0) (r:List aD) (hF:cW n d0=some r):OkH Tryz.prog M [] 47 [.agg c0.toArray] (λM' E' v=>∃ (A0:Option Addr) (k0:Nat) (s0:List Value),v=.slice A0 r.length k0∧E'=[.row 99 7 (.slice A0 r.length k0) r.length s0]∧ae M' (r.map cC) s0):=by
 unfold cW at hF
 intro M1 hM0 w0 H w p0
 replace hG:=GL.mono hM0 hG
 replace h0:=Rep.mono hM0 _ _ h0
 obtain⟨Z1,P1,Z2,P2,rfl,B1,B2⟩:=TE0.opn h0
 refine aw 33 Tryz.func47 rfl rfl (by simp) λa0 f0=>RR (Y5 (cs:=#[.int .i8 d0.ab,.bool d0.an,.int .i64 d0.ak,S d0.aa,.slice Z1 d0.ac.length P1,.slice Z2 d0.af.length P2]) (T:=26) f0 p0 λQ1 V1 W1 J1 R1 N1 _ f=>?_)
 have R2:=aU R1
 refine Y f 1 λ_ f=>eT (RR (Y f 1 λ_ f=>Y7 f N1 R2 5 rfl λ_ f=>?_))
 obtain⟨X1,l1,F1⟩:=bS hF
 refine Ch f N1 (lc n _ Z2 P2 d0.af B2.mo X1 l1) λ_ V2 mG W2 J2 N2 ef _ f=>?_
 obtain⟨Z3,P3,L1,rfl,rfl,D1⟩:=ef
 refine Y f 1 λ_ f=>eT (RR (Y f 1 λ_ f=>?_))
 obtain⟨X2,l2,F2⟩:=bS F1
 refine Ch f N2 (h_SortS_ok n _ Z3 P3 X1 L1 D1 X2 l2) λ_ V3 rB W3 J3 N3 iK _ f=>?_
 obtain⟨L2,rfl,rfl,D2,hl_1⟩:=iK
 have H1: (.slice Z3 X1.length P3:Value)=.slice Z3 X2.length P3:=by rw[hl_1]
 have N4:Hp w0 V3 ((Ent.row 9 1 (.slice Z3 X2.length P3) X2.length L2)::H) W3:=by rw[←H1];exact N3
 have f:=f.st 3 (H1)
 have f:=f.st 11 (H1)
 refine eT (ah (RR (Y f 3 λ_ f=>eT (wp_block ?_))))
 obtain⟨Z4,P4,H2,N5⟩:=N4.nilD 99 7 (aD)
 have f:=f.st 2 (H2)
 have D3:ae V3 (([]:List aD).map cC) []:=rfl
 obtain⟨Q2,ce,F3⟩:=bS F2
 refine wp_mono (Q:=λe a w=>(e=.exit 0∧(∃G1,Q2=G1∧∃V6,V3.le V6∧∃Z9 P10 L5,ae V6 (G1.map cC) L5∧Frm 33 [(2,.slice Z9 G1.length P10)] a∧Hp w0 V6 ((Ent.row 99 7 (.slice Z9 G1.length P10) G1.length L5)::N5.en.drop 1) w))) (aZ (σ:=(List aD×Int)× (Option Addr)×Nat× (List Value)) (λx=>match x with|(I1,K1,Z5,P5,L3)=>(((2,.slice Z5 K1.1.length P5)::(15,.int .i64 K1.2)::kpL [1,13,14] f.fr),((Ent.row 99 7 (.slice Z5 K1.1.length P5) K1.1.length L3)::N5.en.drop 1),λMM=>au (dV n d0 X2) I1 K1=some Q2∧ae MM (K1.1.map cC) L3)) (n,(([]:List aD),(0:Int)),Z4,P4,[]) (f.kp) N5.kr ⟨ce,D3⟩ ?_) ?_
 ·rintro⟨I1,K1,Z5,P5,L3⟩ V4 _ W4 J4 gL f N6
  obtain⟨ci,D4⟩:=gL
  dsimp only[Hp.en] at N6
  obtain⟨I2,lT,rfl,bg,T1⟩:=aK ci
  unfold dV at bg
  refine RR (Y f 1 λ_ f=>eT (ah (RcF f bg (λB3 F4=>?_) λB3 F9=>?_)))
  ·refine wp_skip (az (ah (wp_block (RR ?_))))
   obtain⟨X3,l3,F5⟩:=bS F4
   obtain⟨Q3,P6,H3,mJ⟩:=N6.rowAddr 1 rfl (bn l3)
   refine Z f (XIo H3 l3) λ_ f=>?_
   obtain⟨dW,-,D5,R3⟩:=ae.get K1.2.toNat (dv bH) (ae.mono J4 _ _ D2) (ig l3)
   obtain rfl:dW=[S X3]:=D5
   refine Z f (XR N6 1 H3 R3 0) λ_ f=>Y f 1 λ_ f=>eT (RR (Z f (XK N6 R2 0) λ_ f=>Y f 1 λ_ f=>?_))
   obtain⟨X4,l4,F6⟩:=bS F5
   refine Y8 f N6 (qZ n _ hG.mo _ d0 h0.mo X3 X4 l4) λ_ V5 W5 J5 N7 mi _ f=>?_
   obtain⟨ie,rfl,D6⟩:=mi
   obtain⟨Z6,P7,Z7,P8,rfl,B4,B5⟩:=TE0.opn D6
   refine Y f 3 λ_ f=>Y4 f N7 (.cells #[.int .i8 0,.bool false,.int .i64 0,S [],.slice none 0 0,.slice none 0 0] 26 (0,0)) λQ4 W6 N8 _ f=>Wu f N8 0 0 [.int .i8 X4.1.ab,.bool X4.1.an,.int .i64 X4.1.ak,S X4.1.aa,.slice Z6 X4.1.ac.length P7,.slice Z7 X4.1.af.length P8] λW7 N9 _ f=>Y f 1 λ_ f=>eT (ay (Y f 2 λ_ f=>Z f (XO N9 0) λ_ f=>Y f 1 λ_ f=>aE (k:=1) (c:=1) f N9 (.cells #[S X3,.int .i8 X4.1.ab,.bool X4.1.an,.int .i64 X4.1.ak,S X4.1.aa,.slice Z6 X4.1.ac.length P7,.slice Z7 X4.1.af.length P8] 99 (0,0)) (by kernel_rfl) (λ_=>by kernel_rfl) λQ5 W8 N10 _ f=>?_))
   obtain⟨O1,F7⟩:=nS F6
   refine dM (⟨X3,X4.1⟩:aD) 0 f (N10.toRow 2 99 7 Z5 P5 D4.mo) D4.mo (aD.shutx B4 B5) O1 λZ8 P9 L4 W9 N11 D7 _ f=>Y f 1 λ_ f=>ag rfl (ec (az (ay ?_)))
   obtain⟨O2,F8⟩:=nS F7
   refine Y f 1 λ_ f=>?_
   have f:=f.st 31 (iW O2)
   refine Y f 1 λ_ f=>ag rfl ?_
   have N15:=N11.pl [2,1,2]
   refine az ?_
   obtain rfl:=sI F8
   exact⟨⟨_,_,Z8,P9,L4⟩,Nat.lt_succ_self _,_,mL,⟨T1,D7⟩,f.kp,(N15.dropN 1).kr⟩
  refine wp_exit (dJ (dJ ?_))
  obtain rfl:=sI F9
  exact⟨rfl,_,(sI T1).symm,_,J4,Z5,P5,L3,D4,f.kp,N6.kr⟩
 rintro _ _ W11 ⟨rfl,G1,hq_,V6,J6,Z9,P10,L5,D8,f,N12⟩
 subst Q2
 refine jV (az (RR (Y f 2 λ_ f=>eT (wp_ret (am f rfl (by kernel_rfl:Vc.look _ 2=some (.slice Z9 G1.length P10)) ?_)))))
 obtain rfl:=sI F3
 have N16:=N12.pl [1]
 exact⟨_,rfl,_,_,mL,(N16.dropN 1).kr,⟨Z9,P10,L5,rfl,rfl,D8⟩⟩
def gm (n:Nat) (d1:Bs) (d2:List Bs) (X1:List aD) (K1:Int):Option (Lp Int (Sum (Int×Bs) Unit)):=
    bif(decide (K1<((X1.length:Nat):Int))) then
     ((aB X1 K1).bind λX2=>
     (cb n d2 X2.key).bind λX3=>
     (aT n d1 X2.key).bind λX4=>
     bif X3 then
      (aL (inR .i64 (K1+1))<|
      some (.nx (K1+1)))
     else
      some (.br (.inl ((120:Int),X4))))
    else
     some (.br (.inr ()))
def cX (n:Nat) (d0:TE0) (d1:Bs) (d2:List Bs):Option (Sum (Int×Bs) (TE0×Bs)):=
 bif(decide (d0.ab=5)) then
  ((cW n d0).bind λX1=>
  (au (gm n d1 d2 X1) n (0:Int)).bind λQ3=>
  (match Q3 with
  |.inl G1=>some (.inl G1)
  |.inr G2=>some (.inr (d0,d1))))
 else
  some (.inl ((120:Int),d1))
set_option maxRecDepth 20000 in
theorem cd (n:Nat) (M:Mem) (hG:GL M) (c0:Lv) (d0:TE0) (h0:Rep M (ai d0) c0) (d1:Bs) (A2:Oa) (cap2:Nat) (d2:List Bs) (h2:Sli M 1 Dat.str A2 cap2 d2) (r:Sum (Int×Bs) (TE0×Bs)) (hF:cX n d0 d1 d2=some r):OkX Tryz.prog M 45 [.agg c0.toArray,S d1,sL A2 d2 cap2] 78 r (λr=>λM' v=>∃ (ad0_0:Addr) (c0_0:Lv) (ad0_1:Addr) (c0_1:Lv),v=.func (.func 93) #[] #[Pa ad0_0,Pa ad0_1]∧Rep M' (ai r.1) c0_0∧(∀j v,c0_0[j]? =some v→M'.cell? (ad0_0.add j)=some v)∧Rep M' (Dat.str r.2) c0_1∧(∀j v,c0_1[j]? =some v→M'.cell? (ad0_1.add j)=some v)):=by
 unfold cX at hF
 intro M1 hM0 w0 H w p0
 replace hG:=GL.mono hM0 hG
 replace h0:=Rep.mono hM0 _ _ h0
 replace h2:=h2.mono hM0
 obtain⟨Z1,P1,Z2,P2,rfl,B1,B2⟩:=TE0.opn h0
 refine Re 32 Tryz.func45 rfl λa0 f0=>RR (Y5 (cs:=(aTE0 d0 Z1 P1 Z2 P2)) (T:=26) f0 p0 λQ1 V1 W1 J1 R1 N1 _ f=>?_)
 have R2:=aU R1
 refine Y5 (cs:=#[S d1]) (T:=9) f N1 λQ2 V2 W2 J2 R3 N2 _ f=>?_
 have R4:=aU R3
 refine Ye f 1 λ_ f=>RR (Y f 1 λ_ f=>Y7 f N2 (fu R2) 0 rfl λ_ f=>Y f 1 λ_ f=>Y7 f N2 R4 0 rfl λ_ f=>?_)
 rcases cE hF with⟨B3,F1⟩|⟨B3,F12⟩
 ·have f:=f.st 11 (cB B3)
  refine Y9 f N2 (bA _ (120:Int) d1) λW3 N3 _ f=>eT (ah (RR (Z f (XK N3 R2 0) λ_ f=>?_)))
  obtain⟨X1,l1,F2⟩:=bS F1
  refine Ch f N3 (eM n _ hG.mo _ d0 h0.mo X1 l1) λ_ V3 mG W4 J3 N4 ef _ f=>?_
  obtain⟨Z3,P3,L1,rfl,rfl,D1⟩:=ef
  refine Ye f 2 λ_ f=>wp_block ?_
  obtain⟨Q3,ce,F3⟩:=bS F2
  refine wp_mono (Q:=λe a w=>(∃G1,e=.panic (flawE 78 G1)∧Q3=.inl G1∧∃V6,V3.le V6∧Frm 32 [] a∧Hp w0 V6 (H) w)∨(e=.exit 0∧(∃G2,Q3=.inr G2∧∃V7,V3.le V7∧Frm 32 (kpL [3,4] f.fr) a∧Hp w0 V7 (N4.en) w))) (aZ (σ:=Int) (λx=>match x with|(I1,K1)=>(((17,iL K1)::kpL [2,3,4,15,16] f.fr),(N4.en),λMM=>au (gm n d1 d2 X1) I1 K1=some Q3)) (n,(0:Int)) (f.kp) N4.kr ce ?_) ?_
  ·rintro⟨I1,K1⟩ V4 _ W5 J4 gL f N5
   have ci:=gL
   dsimp only[Hp.en] at N5
   obtain⟨I2,lT,rfl,bg,T1⟩:=aK ci
   unfold gm at bg
   refine RR (Ye f 1 λ_ f=>ah (RcF f bg (λB4 F4=>?_) λB4 F11=>?_))
   ·refine St (ah (wp_block (RR ?_)))
    obtain⟨X2,l2,F5⟩:=bS F4
    obtain⟨Q4,P4,H1,mJ⟩:=N5.rowAddr 0 rfl (bn l2)
    refine Z f (XIo H1 l2) λ_ f=>?_
    obtain⟨dW,-,D2,R5⟩:=ae.get K1.toNat (dv em) (ae.mono J4 _ _ D1) (ig l2)
    obtain⟨Z4,P5,Z5,P6,rfl,B5,B6⟩:=aD.opn D2
    refine Z f (XR N5 0 H1 R5 0) λ_ f=>Y4 f N5 (.cells #[S [],iB 0,bO false,iL 0,S [],Sn,Sn] 99 (0,0)) λQ5 W6 N6 _ f=>Wu f N6 0 0 [S X2.key,iB X2.v.ab,bO X2.v.an,iL X2.v.ak,S X2.v.aa,sL Z4 X2.v.ac P5,sL Z5 X2.v.af P6] λW7 N7 _ f=>eT (cu 0 [(0,true),(1,true),(2,true),(3,true),(4,true),(5,true),(6,true),(7,true),(8,false)] N7 (Y0 default f 2 λ_ f=>bG f kr kr rfl rfl (λ_ pq=>XO pq 0) λ_ f=>?_))
    obtain⟨X3,l3,F6⟩:=bS F5
    refine eR (v:=bO X3) f kr kr rfl rfl (λ_=>by kernel_rfl) (gO n _ A2 cap2 d2 h2.mo X2.key X3 l3) λ_ f=>bG f kr kr rfl rfl (λ_ pq=>XK pq (fu R4) 0) λ_ f=>Y0 default f 1 λ_ f=>bG f kr kr rfl rfl (λ_ pq=>XO pq 0) λ_ f=>?_
    obtain⟨X4,l4,F7⟩:=bS F6
    refine eR (v:=S X4) f kr kr rfl rfl (λ_=>by kernel_rfl) (aR n _ hG.mo d1 X2.key X4 l4) λ_ f=>bI λW10 N10=>?_
    rcases cE F7 with⟨B7,F8⟩|⟨B7,F10⟩
    ·have f:=f.st 24 (cB B7)
     refine Y9 f N10 (bA _ (120:Int) X4) λW11 N11 _ f=>ag rfl (bL 0 mL N11 (dx rfl λW12 N12=>ec (az (ay ?_))))
     obtain⟨O1,F9⟩:=nS F8
     refine Y f 1 λ_ f=>?_
     have f:=f.st 30 (iW O1)
     refine Ye f 1 λ_ f=>?_
     cases sI F9
     exact⟨⟨_,_⟩,Nat.lt_succ_self _,_,J4,T1,f.kp,(N12.dropN 1).kr⟩
    have f:=f.st 24 (cB B7)
    refine aN f N10 (bz _ (120:Int) X4) kr (λ_=>by kernel_rfl) λV5 W13 J5 N13=>pm f λ_ f=>oP (cj (cj ?_))
    cases sI F10
    exact .inl ⟨_,rfl,(sI T1).symm,_,mL,f.kp,(N13.dropN 2).kr⟩
   refine wp_exit (dJ (dJ ?_))
   cases sI F11
   exact .inr ⟨rfl,_,(sI T1).symm,_,J4,f.kp,N5.kr⟩
  rintro _ _ W16 (⟨G1,rfl,rfl,V6,J6,f,N14⟩|⟨rfl,G2,rfl,V7,J7,f,N15⟩)
  ·refine oP (cj (aV f ?_))
   cases sI F3
   exact⟨V6,mL,N14,rfl⟩
  refine jV (az (RR (Ye f 2 λ_ f=>wp_ret (am f rfl (Lk 6 (.func (.func 93) #[] #[pP Q1,pP Q2])) ?_))))
  cases sI F3
  exact⟨_,rfl,_,mL,(N15.dropN 1).kr,⟨(⟨Q1,0,none⟩),(lTE0 d0 Z1 P1 Z2 P2),(⟨Q2,0,none⟩),[S d1],rfl,h0.mo,(bF (fu R2) 0 rfl),(rfl),(bF (fu R4) 0 rfl)⟩⟩
 have f:=f.st 11 (cB B3)
 refine aN f N2 (bz _ (120:Int) d1) kr (λ_=>by kernel_rfl) λV8 W17 J8 N16=>cj (aV f ?_)
 cases sI F12
 exact⟨V8,mL,N16,rfl⟩
def aX (n:Nat) (d0:Bs) (d1:TE0) (d2:Bs):Option (TE0×Bs×Bool):=
 (mF n d1 d0).bind λX1=>
 (aT n d2 d0).bind λX2=>
 some ((X1.1,X2,(X1.2)))
theorem bf (n:Nat) (M:Mem) (hG:GL M) (d0:Bs) (ad1:Addr) (c1:Lv) (d1:TE0) (h1:Rep M (ai d1) c1) (q1: ∀j v,c1[j]? =some v→M.cell? (ad1.add j)=some v) (ad2:Addr) (c2:Lv) (d2:Bs) (h2:Rep M (Dat.str d2) c2) (q2: ∀j v,c2[j]? =some v→M.cell? (ad2.add j)=some v) (r:TE0×Bs×Bool) (hF:aX n d0 d1 d2=some r):Ok Tryz.prog M 93 [S d0,Pa ad1,Pa ad2] (λM' v=>∃ (c0:Lv),v=.tuple #[.agg c0.toArray,S r.2.1,bO r.2.2]∧Rep M' (ai r.1) c0):=by
 unfold aX at hF
 intro M1 hM0 w0 H w p0
 replace hG:=GL.mono hM0 hG
 replace h1:=Rep.mono hM0 _ _ h1
 replace q1:=λj v h=>hM0.cell (q1 j v h)
 replace h2:=Rep.mono hM0 _ _ h2
 replace q2:=λj v h=>hM0.cell (q2 j v h)
 obtain⟨Z1,P1,Z2,P2,rfl,B1,B2⟩:=TE0.opn h1
 obtain rfl:c2=[S d2]:=h2
 refine Re 20 Tryz.func93 rfl λa0 f0=>RR (Y4 f0 p0 (.cells #[iB 0,bO false,iL 0,S [],Sn,Sn] 26 (0,0)) λQ1 W1 N1 _ f=>Ye f 2 λ_ f=>RR (Z f (XK N1 q1 0) λ_ f=>Y f 1 λ_ f=>?_))
 obtain⟨X1,l1,F1⟩:=bS hF
 refine Y8 f N1 (qZ n _ hG _ d1 h1.mo d0 X1 l1) λ_ V1 W2 J1 N2 ef _ f=>?_
 obtain⟨dW,rfl,D1⟩:=ef
 obtain⟨Z3,P3,Z4,P4,rfl,B3,B4⟩:=TE0.opn D1
 refine Y f 3 λ_ f=>Y4 f N2 (.cells #[iB 0,bO false,iL 0,S [],Sn,Sn] 26 (0,0)) λQ2 W3 N3 _ f=>Wu f N3 0 0 (lTE0 X1.1 Z3 P3 Z4 P4) λW4 N4 _ f=>Ye f 1 λ_ f=>ah ?_
 have N5:=N4.pl [1]
 refine cu 1 [(0,true),(1,true),(2,true),(3,true),(4,true),(5,false),(6,true),(7,true)] N5 (bG f kr kr rfl rfl (λ_ pq=>XO pq 0) λ_ f=>bG f kr kr rfl rfl (λ_ pq=>XK pq (fu q2) 0) λ_ f=>Y0 default f 1 λ_ f=>?_)
 obtain⟨X2,l2,F2⟩:=bS F1
 refine eR (v:=S X2) f kr kr rfl rfl (λ_=>by kernel_rfl) (aR n _ hG.mo d2 d0 X2 l2) λ_ f=>Y0 default f 1 λ_ f=>bI λW6 N7=>Wu f N7 0 0 (lTE0 X1.1 Z3 P3 Z4 P4) λW7 N8 _ f=>ag rfl (bL 1 mL N8 (Y0 default f 2 λ_ f=>dx rfl λW8 N9=>az (wp_ret (pn f rfl (Rv.oN (lTE0 X1.1 Z3 P3 Z4 P4) f N9 0 0) (Rv.slot (v:=S X2) f kr) (Rv.slot (v:=bO X1.2) f kr) ?_))))
 cases sI F2
 exact⟨_,rfl,_,J1,(N9.dropN 2).kr,⟨_,rfl,D1.mo⟩⟩
def jk (n:Nat) (d0:TE0) (dc:Bs) (hO:Bool) (kK:Bool) (kw:Int) (kz:Bool) (kL:Int) (jZ:Bs) (mf:List TE0) (mg:List Bs) (lw:List TE0):Option (Bool×Bs×Bool×Bool×Int×Bool×Int×Bs×List TE0×List Bs×List TE0):=
 bif hO then
  (bif(decide (d0.ab=2)) then
   (some (((true),dc,(hO),(kK),kw,(kz),kL,jZ,mf,mg,lw)))
  else
   bif !hO then
    ((gj n d0).bind λX1=>
    some (((X1),dc,(hO),(kK),kw,(kz),kL,jZ,mf,mg,lw)))
   else
    some (((false),dc,(hO),(kK),kw,(kz),kL,jZ,mf,mg,lw)))
 else
  bif !hO then
   ((gj n d0).bind λX2=>
   some (((X2),dc,(hO),(kK),kw,(kz),kL,jZ,mf,mg,lw)))
  else
   some (((false),dc,(hO),(kK),kw,(kz),kL,jZ,mf,mg,lw))
theorem qf (n:Nat) (M:Mem) (hG:GL M) (c0:Lv) (d0:TE0) (h0:Rep M (ai d0) c0) (b1:Nat) (dc:Bs) (hO:Bool) (kK:Bool) (kw:Int) (kz:Bool) (kL:Int) (jZ:Bs) (mf:List TE0) (Z1:Oa) (P1:Nat) (L1:Lv) (D1:ae M (mf.map ai) L1) (mg:List Bs) (Z2:Oa) (P2:Nat) (L2:Lv) (D2:ae M (mg.map Dat.str) L2) (lw:List TE0) (Z3:Oa) (P3:Nat) (L3:Lv) (D3:ae M (lw.map ai) L3) (r:Bool×Bs×Bool×Bool×Int×Bool×Int×Bs×List TE0×List Bs×List TE0) (hF:jk n d0 dc hO kK kw kz kL jZ mf mg lw=some r):OkH Tryz.prog M [oC b1 #[S dc,bO hO,bO kK,iB kw,bO kz,iL kL,S jZ,sL Z1 mf P1,sL Z2 mg P2,sL Z3 lw P3] 58,rO 26 6 Z1 mf P1 L1,rO 9 1 Z2 mg P2 L2,rO 26 6 Z3 lw P3 L3] 97 [.agg c0.toArray,pP b1] (λM' E' v=>∃ (Z6:Oa) (P6:Nat) (L4:Lv) (Z7:Oa) (P7:Nat) (L5:Lv) (Z8:Oa) (P8:Nat) (L6:Lv),v=bO r.1∧E'=[oC b1 #[S r.2.1,bO r.2.2.1,bO r.t3.1,iB r.t4.1,bO r.t5.1,iL r.t6.1,S r.t7.1,sL Z6 r.t8.1 P6,sL Z7 r.t9.1 P7,sL Z8 r.t10 P8] 58,rO 26 6 Z6 r.t8.1 P6 L4,rO 9 1 Z7 r.t9.1 P7 L5,rO 26 6 Z8 r.t10 P8 L6]∧ae M' (r.t8.1.map ai) L4∧ae M' (r.t9.1.map Dat.str) L5∧ae M' (r.t10.map ai) L6):=by
 unfold jk at hF
 intro M1 hM0 w0 H w p0
 replace hG:=GL.mono hM0 hG
 replace h0:=Rep.mono hM0 _ _ h0
 replace D1:=ae.mono hM0 _ _ D1
 replace D2:=ae.mono hM0 _ _ D2
 replace D3:=ae.mono hM0 _ _ D3
 obtain⟨Z4,P4,Z5,P5,rfl,B1,B2⟩:=TE0.opn h0
 refine Re 20 Tryz.func97 rfl λa0 f0=>RR (Y5 (cs:=(aTE0 d0 Z4 P4 Z5 P5)) (T:=26) f0 p0 λQ1 V1 W1 J1 R1 N1 _ f=>?_)
 have R2:=aU R1
 refine Ye f 1 λ_ f=>RR (Y f 1 λ_ f=>Z f (XO N1 0) λ_ f=>Y f 1 λ_ f=>?_)
 rcases cE hF with⟨B3,F1⟩|⟨B3,F7⟩
 ·have f:=f.st 6 (cB B3)
  refine Y f 1 λ_ f=>Y7 f N1 R2 0 rfl λ_ f=>Y f 3 λ_ f=>?_
  rcases cE F1 with⟨B4,F2⟩|⟨B4,F3⟩
  ·have f:=f.st 11 (cB B4)
   refine Ye f 9 λ_ f=>wp_ret (am f rfl (Lk 3 (bO true)) ?_)
   cases sI F2
   exact⟨_,rfl,_,_,J1,N1.kr,⟨Z1,P1,L1,Z2,P2,L2,Z3,P3,L3,rfl,rfl,D1.mo,D2.mo,D3.mo⟩⟩
  have f:=f.st 11 (cB B4)
  refine Y f 1 λ_ f=>Z f (XO N1 0) λ_ f=>Y f 2 λ_ f=>?_
  rcases cE F3 with⟨B5,F4⟩|⟨B5,F6⟩
  ·have f:=f.st 15 (cB B5)
   refine Z f (XK N1 R2 0) λ_ f=>?_
   obtain⟨X1,l1,F5⟩:=bS F4
   refine Y9 f N1 (gY n _ hG.mo _ d0 h0.mo X1 l1) λW2 N2 _ f=>Ye f 3 λ_ f=>wp_ret (am f rfl (Lk 3 (bO X1)) ?_)
   cases sI F5
   exact⟨_,rfl,_,_,J1,N2.kr,⟨Z1,P1,L1,Z2,P2,L2,Z3,P3,L3,rfl,rfl,D1.mo,D2.mo,D3.mo⟩⟩
  have f:=f.st 15 (cB B5)
  refine Ye f 5 λ_ f=>wp_ret (am f rfl (Lk 3 (bO false)) ?_)
  cases sI F6
  exact⟨_,rfl,_,_,J1,N1.kr,⟨Z1,P1,L1,Z2,P2,L2,Z3,P3,L3,rfl,rfl,D1.mo,D2.mo,D3.mo⟩⟩
 have f:=f.st 6 (cB B3)
 refine Y f 6 λ_ f=>Z f (XO N1 0) λ_ f=>Y f 2 λ_ f=>?_
 rcases cE F7 with⟨B6,F8⟩|⟨B6,F10⟩
 ·have f:=f.st 15 (cB B6)
  refine Z f (XK N1 R2 0) λ_ f=>?_
  obtain⟨X2,l2,F9⟩:=bS F8
  refine Y9 f N1 (gY n _ hG.mo _ d0 h0.mo X2 l2) λW3 N3 _ f=>Ye f 3 λ_ f=>wp_ret (am f rfl (Lk 3 (bO X2)) ?_)
  cases sI F9
  exact⟨_,rfl,_,_,J1,N3.kr,⟨Z1,P1,L1,Z2,P2,L2,Z3,P3,L3,rfl,rfl,D1.mo,D2.mo,D3.mo⟩⟩
 have f:=f.st 15 (cB B6)
 refine Ye f 5 λ_ f=>wp_ret (am f rfl (Lk 3 (bO false)) ?_)
 cases sI F10
 exact⟨_,rfl,_,_,J1,N1.kr,⟨Z1,P1,L1,Z2,P2,L2,Z3,P3,L3,rfl,rfl,D1.mo,D2.mo,D3.mo⟩⟩
def ju (n:Nat) (d0:TE0) (dc:Bs) (hO:Bool) (kK:Bool) (kw:Int) (kz:Bool) (kL:Int) (jZ:Bs) (mf:List TE0) (mg:List Bs) (lw:List TE0):Option (Bool×Bs×Bool×Bool×Int×Bool×Int×Bs×List TE0×List Bs×List TE0):=
 bif hO then
  (bif(decide (d0.ab=2)) then
   (some (((true),dc,(hO),(kK),kw,(kz),kL,jZ,mf,mg,lw)))
  else
   bif !hO then
    ((gj n d0).bind λX1=>
    some (((X1),dc,(hO),(kK),kw,(kz),kL,jZ,mf,mg,lw)))
   else
    some (((false),dc,(hO),(kK),kw,(kz),kL,jZ,mf,mg,lw)))
 else
  bif !hO then
   ((gj n d0).bind λX2=>
   some (((X2),dc,(hO),(kK),kw,(kz),kL,jZ,mf,mg,lw)))
  else
   some (((false),dc,(hO),(kK),kw,(kz),kL,jZ,mf,mg,lw))
theorem oB (n:Nat) (M:Mem) (hG:GL M) (c0:Lv) (d0:TE0) (h0:Rep M (ai d0) c0) (b1:Nat) (dc:Bs) (hO:Bool) (kK:Bool) (kw:Int) (kz:Bool) (kL:Int) (jZ:Bs) (mf:List TE0) (Z1:Oa) (P1:Nat) (B1:Sli M 6 ai Z1 P1 mf) (mg:List Bs) (Z2:Oa) (P2:Nat) (B2:Sli M 1 Dat.str Z2 P2 mg) (lw:List TE0) (Z3:Oa) (P3:Nat) (L1:Lv) (D1:ae M (lw.map ai) L1) (r:Bool×Bs×Bool×Bool×Int×Bool×Int×Bs×List TE0×List Bs×List TE0) (hF:ju n d0 dc hO kK kw kz kL jZ mf mg lw=some r):OkH Tryz.prog M [oC b1 #[S dc,bO hO,bO kK,iB kw,bO kz,iL kL,S jZ,sL Z1 mf P1,sL Z2 mg P2,sL Z3 lw P3] 58,rO 26 6 Z3 lw P3 L1] 97 [.agg c0.toArray,pP b1] (λM' E' v=>∃ (Z6:Oa) (P6:Nat) (Z7:Oa) (P7:Nat) (Z8:Oa) (P8:Nat) (L2:Lv),v=bO r.1∧E'=[oC b1 #[S r.2.1,bO r.2.2.1,bO r.t3.1,iB r.t4.1,bO r.t5.1,iL r.t6.1,S r.t7.1,sL Z6 r.t8.1 P6,sL Z7 r.t9.1 P7,sL Z8 r.t10 P8] 58,rO 26 6 Z8 r.t10 P8 L2]∧Sli M' 6 ai Z6 P6 r.t8.1∧Sli M' 1 Dat.str Z7 P7 r.t9.1∧ae M' (r.t10.map ai) L2):=by
 unfold ju at hF
 intro M1 hM0 w0 H w p0
 replace hG:=GL.mono hM0 hG
 replace h0:=Rep.mono hM0 _ _ h0
 replace B1:=B1.mono hM0
 replace B2:=B2.mono hM0
 replace D1:=ae.mono hM0 _ _ D1
 obtain⟨Z4,P4,Z5,P5,rfl,B3,B4⟩:=TE0.opn h0
 refine Re 20 Tryz.func97 rfl λa0 f0=>RR (Y5 (cs:=(aTE0 d0 Z4 P4 Z5 P5)) (T:=26) f0 p0 λQ1 V1 W1 J1 R1 N1 _ f=>?_)
 have R2:=aU R1
 refine Ye f 1 λ_ f=>RR (Y f 1 λ_ f=>Z f (XO N1 0) λ_ f=>Y f 1 λ_ f=>?_)
 rcases cE hF with⟨B5,F1⟩|⟨B5,F7⟩
 ·have f:=f.st 6 (cB B5)
  refine Y f 1 λ_ f=>Y7 f N1 R2 0 rfl λ_ f=>Y f 3 λ_ f=>?_
  rcases cE F1 with⟨B6,F2⟩|⟨B6,F3⟩
  ·have f:=f.st 11 (cB B6)
   refine Ye f 9 λ_ f=>wp_ret (am f rfl (Lk 3 (bO true)) ?_)
   cases sI F2
   exact⟨_,rfl,_,_,J1,N1.kr,⟨Z1,P1,Z2,P2,Z3,P3,L1,rfl,rfl,B1.mo,B2.mo,D1.mo⟩⟩
  have f:=f.st 11 (cB B6)
  refine Y f 1 λ_ f=>Z f (XO N1 0) λ_ f=>Y f 2 λ_ f=>?_
  rcases cE F3 with⟨B7,F4⟩|⟨B7,F6⟩
  ·have f:=f.st 15 (cB B7)
   refine Z f (XK N1 R2 0) λ_ f=>?_
   obtain⟨X1,l1,F5⟩:=bS F4
   refine Y9 f N1 (gY n _ hG.mo _ d0 h0.mo X1 l1) λW2 N2 _ f=>Ye f 3 λ_ f=>wp_ret (am f rfl (Lk 3 (bO X1)) ?_)
   cases sI F5
   exact⟨_,rfl,_,_,J1,N2.kr,⟨Z1,P1,Z2,P2,Z3,P3,L1,rfl,rfl,B1.mo,B2.mo,D1.mo⟩⟩
  have f:=f.st 15 (cB B7)
  refine Ye f 5 λ_ f=>wp_ret (am f rfl (Lk 3 (bO false)) ?_)
  cases sI F6
  exact⟨_,rfl,_,_,J1,N1.kr,⟨Z1,P1,Z2,P2,Z3,P3,L1,rfl,rfl,B1.mo,B2.mo,D1.mo⟩⟩
 have f:=f.st 6 (cB B5)
 refine Y f 6 λ_ f=>Z f (XO N1 0) λ_ f=>Y f 2 λ_ f=>?_
 rcases cE F7 with⟨B8,F8⟩|⟨B8,F10⟩
 ·have f:=f.st 15 (cB B8)
  refine Z f (XK N1 R2 0) λ_ f=>?_
  obtain⟨X2,l2,F9⟩:=bS F8
  refine Y9 f N1 (gY n _ hG.mo _ d0 h0.mo X2 l2) λW3 N3 _ f=>Ye f 3 λ_ f=>wp_ret (am f rfl (Lk 3 (bO X2)) ?_)
  cases sI F9
  exact⟨_,rfl,_,_,J1,N3.kr,⟨Z1,P1,Z2,P2,Z3,P3,L1,rfl,rfl,B1.mo,B2.mo,D1.mo⟩⟩
 have f:=f.st 15 (cB B8)
 refine Ye f 5 λ_ f=>wp_ret (am f rfl (Lk 3 (bO false)) ?_)
 cases sI F10
 exact⟨_,rfl,_,_,J1,N1.kr,⟨Z1,P1,Z2,P2,Z3,P3,L1,rfl,rfl,B1.mo,B2.mo,D1.mo⟩⟩
def dZ (n:Nat) (X7:TE0×Bs×Bool) (K1:Int×Bs×Bool×Bool×Int×Bool×Int×Bs×List TE0×List Bs×List TE0):Option (Lp (Int×Bs×Bool×Bool×Int×Bool×Int×Bs×List TE0×List Bs×List TE0) (Sum (Int×Bs) (Bs×Bool×Bool×Int×Bool×Int×Bs×List TE0×List Bs×List TE0))):=
    bif(decide (K1.1<((X7.1.ac.length:Nat):Int))) then
     ((aB X7.1.ac K1.1).bind λX8=>
     (ju n X8 K1.2.1 (K1.2.2.1) (K1.2.2.2.1) K1.2.2.2.2.1 (K1.2.2.2.2.2.1) K1.2.2.2.2.2.2.1 K1.2.2.2.2.2.2.2.1 K1.2.2.2.2.2.2.2.2.1 K1.2.2.2.2.2.2.2.2.2.1 K1.2.2.2.2.2.2.2.2.2.2).bind λX9=>
     (er n X7.2.1 K1.1).bind λX10=>
     bif X9.1 then
      (aL (inR .i64 (K1.1+1))<|
      some (.nx (K1.1+1,X9.2.1,(X9.2.2.1),(X9.2.2.2.1),X9.2.2.2.2.1,(X9.2.2.2.2.2.1),X9.2.2.2.2.2.2.1,X9.2.2.2.2.2.2.2.1,X9.2.2.2.2.2.2.2.2.1,X9.2.2.2.2.2.2.2.2.2.1,X9.2.2.2.2.2.2.2.2.2.2)))
     else
      some (.br (.inl ((120:Int),X10))))
    else
     some (.br (.inr (K1.2.1,(K1.2.2.1),(K1.2.2.2.1),K1.2.2.2.2.1,(K1.2.2.2.2.2.1),K1.2.2.2.2.2.2.1,K1.2.2.2.2.2.2.2.1,K1.2.2.2.2.2.2.2.2.1,K1.2.2.2.2.2.2.2.2.2.1,K1.2.2.2.2.2.2.2.2.2.2)))
def km (n:Nat) (d0:Bs) (d1:TE0) (d2:Bs):Option (Sum (Int×Bs) TD0):=
 (cX n d1 d2 ([[84,121,112,101],[68,101,102,97,117,108,116],[65,108,108,111,119,101,100,86,97,108,117,101,115]]:List Bs)).bind λX1=>
 (match X1 with
 |.inl X2=>some (.inl X2)
 |.inr X3=>(aX n [84,121,112,101] X3.1 X3.2).bind λX4=>
  bif X4.2.2 then
   (((bif(decide (X4.1.ab=3)) then
    (bif(decide (X4.1.aa=[83,116,114,105,110,103])) then
     (some (.nx ()))
    else
     bif(decide (X4.1.aa=[78,117,109,98,101,114])) then
      (some (.nx ()))
     else
      ((some (.inl ((120:Int),X4.2.1)):Option (Sum (Int×Bs) TD0))).map Lp.br)
     else
      ((some (.inl ((120:Int),X4.2.1)):Option (Sum (Int×Bs) TD0))).map Lp.br:Option (Lp Unit (Sum (Int×Bs) TD0)))).bind λj=>joinF j λG1=>
   (aX n [68,101,102,97,117,108,116] X3.1 X3.2).bind λX5=>
   ((bif X5.2.2 then
    ((jk n X5.1 d0 (decide (X4.1.aa=[78,117,109,98,101,114])) (false) (0:Int) (false) (0:Int) ([]:Bs) ([]:List TE0) ([]:List Bs) ([]:List TE0)).bind λX6=>
    bif X6.1 then
     (some (.nx (X6.2.1,(X6.2.2.1),(true),X5.1.ab,(X5.1.an),X5.1.ak,X5.1.aa,X5.1.ac,X5.1.af,X6.2.2.2.2.2.2.2.2.2.2)))
    else
     ((some (.inl ((120:Int),X5.2.1)):Option (Sum (Int×Bs) TD0))).map Lp.br)
     else
      some (.nx (d0,(decide (X4.1.aa=[78,117,109,98,101,114])),(false),(0:Int),(false),(0:Int),([]:Bs),([]:List TE0),([]:List Bs),([]:List TE0))):Option (Lp (Bs×Bool×Bool×Int×Bool×Int×Bs×List TE0×List Bs×List TE0) (Sum (Int×Bs) TD0)))).bind λj=>joinF j λG2=>
   (aX n [65,108,108,111,119,101,100,86,97,108,117,101,115] X3.1 X3.2).bind λX7=>
   bif X7.2.2 then
    (((bif(decide (X7.1.ab=4)) then
     (bif(decide ((0:Int)<((X7.1.ac.length:Nat):Int))) then
      (some (.nx ()))
     else
      ((some (.inl ((120:Int),X7.2.1)):Option (Sum (Int×Bs) TD0))).map Lp.br)
      else
       ((some (.inl ((120:Int),X7.2.1)):Option (Sum (Int×Bs) TD0))).map Lp.br:Option (Lp Unit (Sum (Int×Bs) TD0)))).bind λj=>joinF j λG3=>
    bif(decide (((X7.1.ac.length:Nat):Int)≤8)) then
     ((au (dZ n X7) n ((0:Int),G2.1,(G2.2.1),(G2.2.2.1),G2.2.2.2.1,(G2.2.2.2.2.1),G2.2.2.2.2.2.1,G2.2.2.2.2.2.2.1,G2.2.2.2.2.2.2.2.1,G2.2.2.2.2.2.2.2.2.1,G2.2.2.2.2.2.2.2.2.2)).bind λQ8=>
     (match Q8 with
     |.inl G4=>some (.inl G4)
     |.inr G5=>some (.inr (⟨G5.1,(G5.2.1),(G5.2.2.1),(⟨G5.2.2.2.1,(G5.2.2.2.2.1),G5.2.2.2.2.2.1,G5.2.2.2.2.2.2.1,G5.2.2.2.2.2.2.2.1,G5.2.2.2.2.2.2.2.2.1⟩:TE0),X7.1.ac⟩:TD0))))
    else
     some (.inl ((3:Int),X7.2.1)))
   else
    some (.inr (⟨G2.1,(G2.2.1),(G2.2.2.1),(⟨G2.2.2.2.1,(G2.2.2.2.2.1),G2.2.2.2.2.2.1,G2.2.2.2.2.2.2.1,G2.2.2.2.2.2.2.2.1,G2.2.2.2.2.2.2.2.2.1⟩:TE0),G2.2.2.2.2.2.2.2.2.2⟩:TD0)))
  else
   some (.inl ((120:Int),d2)))
set_option maxRecDepth 20000 in
theorem nr (n:Nat) (M:Mem) (hG:GL M) (d0:Bs) (c1:Lv) (d1:TE0) (h1:Rep M (ai d1) c1) (d2:Bs) (r:Sum (Int×Bs) TD0) (hF:km n d0 d1 d2=some r):OkX Tryz.prog M 50 [S d0,.agg c1.toArray,S d2] 78 r (λr=>λM' v=>∃ (c0:Lv),v=.agg c0.toArray∧Rep M' (ba r) c0):=by
 unfold km at hF
 intro M1 hM0 w0 H w p0
 replace hG:=GL.mono hM0 hG
 replace h1:=Rep.mono hM0 _ _ h1
 obtain⟨Z1,P1,Z2,P2,rfl,B1,B2⟩:=TE0.opn h1
 refine Re 114 Tryz.func50 rfl λa0 f0=>RR (Y5 (cs:=(aTE0 d1 Z1 P1 Z2 P2)) (T:=26) f0 p0 λQ1 V1 W1 J1 R1 N1 _ f=>?_)
 have R2:=aU R1
 refine Y4 f N1 (.cells #[S [],bO false,bO false,iB 0,bO false,iL 0,S [],Sn,Sn,Sn] 58 (0,0)) λQ2 W2 N2 _ f=>eT (RR (Z f (XK N2 R2 0) λ_ f=>Y f 1 λ_ f=>aE (k:=3) (c:=3) f N2 (.cells #[S [84,121,112,101],S [68,101,102,97,117,108,116],S [65,108,108,111,119,101,100,86,97,108,117,101,115]] 9 (0,0)) kr (λ_=>by kernel_rfl) λQ3 W3 N3 _ f=>?_))
 obtain⟨Z3,P3,V2,H1,J2,N4,B3⟩:=N3.litS (f:=Dat.str) 3 bH (dD ([[84,121,112,101],[68,101,102,97,117,108,116],[65,108,108,111,119,101,100,86,97,108,117,101,115]]:List Bs))
 have f:=f.st 23 (H1)
 obtain⟨X1,l1,F1⟩:=bS hF
 rcases X1 with X2|X3
 ·refine aN f N4 (cd n _ hG.mo _ d1 h1.mo d2 Z3 P3 ([[84,121,112,101],[68,101,102,97,117,108,116],[65,108,108,111,119,101,100,86,97,108,117,101,115]]:List Bs) B3 (.inl X2) l1) kr (λ_=>by kernel_rfl) λV3 W4 J3 N5=>cj (aV f ?_)
  cases sI F1
  exact⟨V3,mL,(N5.dropN 1),rfl⟩
 refine Y8 f N4 (OkX.ok (cd n _ hG.mo _ d1 h1.mo d2 Z3 P3 ([[84,121,112,101],[68,101,102,97,117,108,116],[65,108,108,111,119,101,100,86,97,108,117,101,115]]:List Bs) B3 (.inr X3) l1)) λ_ V4 W5 J4 N6 ef _ f=>?_
 obtain⟨C1,dW,C2,ie,rfl,D1,eS,D2,hZ⟩:=ef
 obtain⟨Z4,P4,Z5,P5,rfl,B4,B5⟩:=TE0.opn D1
 obtain rfl:ie=[S X3.2]:=D2
 refine Ye f 1 λ_ f=>RR (Y f 1 λ_ f=>?_)
 obtain⟨X4,l2,F2⟩:=bS F1
 refine Y8 f N6 (bf n _ hG.mo [84,121,112,101] C1 (lTE0 X3.1 Z4 P4 Z5 P5) X3.1 D1.mo (bF (eS) 0 rfl) C2 [S X3.2] X3.2 (rfl) (bF (hZ) 0 rfl) X4 l2) λ_ V5 W6 J5 N7 iK _ f=>?_
 obtain⟨lQ,rfl,D3⟩:=iK
 obtain⟨Z6,P6,Z7,P7,rfl,B6,B7⟩:=TE0.opn D3
 refine Y f 4 λ_ f=>Y4 f N7 (.cells #[iB 0,bO false,iL 0,S [],Sn,Sn] 26 (0,0)) λQ4 W7 N8 _ f=>Wu f N8 0 0 (lTE0 X4.1 Z6 P6 Z7 P7) λW8 N9 _ f=>Ye f 2 λ_ f=>RR (Y f 2 λ_ f=>?_)
 rcases cE F2 with⟨B8,F3⟩|⟨B8,F42⟩
 ·have f:=f.st 31 (cB B8)
  refine Y9 f N9 (bA _ (120:Int) d2) λW9 N10 _ f=>eT (ah ?_)
  obtain⟨eF,cL,F4⟩:=bS F3
  refine aW (λa_31 W14=>∃G1,eF=.nx G1∧∃V8,V5.le V8∧Frm 114 (kpL [0,6,7,8] f.fr) a_31∧Hp w0 V8 (N10.en) W14) ?_ ?_
  ·refine ay (Y f 1 λ_ f=>Z f (XO N10 0) λ_ f=>Y f 2 λ_ f=>?_)
   rcases cE cL with⟨B9,F5⟩|⟨B9,F11⟩
   ·have f:=f.st 37 (cB B9)
    refine Y f 1 λ_ f=>Z f (XO N10 0) λ_ f=>Z f (Y11 rfl (l:=X4.1.aa) (m:=[83,116,114,105,110,103])) λ_ f=>Y f 1 λ_ f=>?_
    rcases cE F5 with⟨B10,F6⟩|⟨B10,F7⟩
    ·have f:=f.st 41 (cB B10)
     refine Y f 6 λ_ f=>Y9 f N10 (bA _ (120:Int) X4.2.1) λW10 N11 _ f=>eT ?_
     exact⟨_,(sI F6).symm,_,mL,f.kp,N11.kr⟩
    have f:=f.st 41 (cB B10)
    refine Y f 1 λ_ f=>Z f (XO N10 0) λ_ f=>Z f (Y11 rfl (l:=X4.1.aa) (m:=[78,117,109,98,101,114])) λ_ f=>Y f 3 λ_ f=>?_
    rcases cE F7 with⟨B11,F8⟩|⟨B11,F9⟩
    ·have f:=f.st 46 (cB B11)
     refine Y9 f N10 (bA _ (120:Int) X4.2.1) λW11 N12 _ f=>eT ?_
     exact⟨_,(sI F8).symm,_,mL,f.kp,N12.kr⟩
    have f:=f.st 46 (cB B11)
    refine aN f N10 (bz _ (120:Int) X4.2.1) kr (λ_=>by kernel_rfl) λV6 W12 J6 N13=>?_
    have F10:=bw F9 F4
    refine cj (cj (aV f ?_))
    cases sI F10
    exact⟨V6,mL,(N13.dropN 2),rfl⟩
   have f:=f.st 37 (cB B9)
   refine Y f 10 λ_ f=>aN f N10 (bz _ (120:Int) X4.2.1) kr (λ_=>by kernel_rfl) λV7 W13 J7 N14=>?_
   have F12:=bw F11 F4
   refine cj (cj (aV f ?_))
   cases sI F12
   exact⟨V7,mL,(N14.dropN 2),rfl⟩
  rintro a_31 W14 ⟨G1,rfl,V8,J8,f,N15⟩
  dsimp only[Hp.en] at N15
  refine az (RR (Y f 2 λ_ f=>Z f (XO N15 0) λ_ f=>Z f (Y11 rfl (l:=X4.1.aa) (m:=[78,117,109,98,101,114])) λ_ f=>Y f 1 λ_ f=>Y4 f N15 (.cells #[S [],bO false,bO false,iB 0,bO false,iL 0,S [],Sn,Sn,Sn] 58 (0,0)) λQ5 W15 N16 _ f=>Wu f N16 0 0 [S d0,bO (decide (X4.1.aa=[78,117,109,98,101,114])),bO false,iB 0,bO false,iL 0,S [],Sn,Sn,Sn] λW16 N17 _ f=>eT (RR (Ye f 2 λ_ f=>ah (RR (Y f 1 λ_ f=>?_))))))
  obtain⟨X5,l3,F13⟩:=bS F4
  refine Y8 f N17 (bf n _ hG.mo [68,101,102,97,117,108,116] C1 (lTE0 X3.1 Z4 P4 Z5 P5) X3.1 D1.mo (bF (fu eS) 0 rfl) C2 [S X3.2] X3.2 (rfl) (bF (fu hZ) 0 rfl) X5 l3) λ_ V9 W17 J9 N18 mi _ f=>?_
  obtain⟨rJ,rfl,D4⟩:=mi
  obtain⟨Z8,P8,Z9,P9,rfl,B12,B13⟩:=TE0.opn D4
  refine Y f 4 λ_ f=>Y4 f N18 (.cells #[iB 0,bO false,iL 0,S [],Sn,Sn] 26 (0,0)) λQ6 W18 N19 _ f=>Wu f N19 0 0 (lTE0 X5.1 Z8 P8 Z9 P9) λW19 N20 _ f=>Ye f 2 λ_ f=>RR (Ye f 1 λ_ f=>?_)
  obtain⟨lb,iJ,F14⟩:=bS F13
  refine aW (λa_56 W28=>∃G2,lb=.nx G2∧∃V12,V9.le V12∧∃Z16 P16 Z17 P17 Z18 P18 L4,Sli V12 6 ai Z16 P16 G2.t7.1∧Sli V12 1 Dat.str Z17 P17 G2.t8.1∧ae V12 (G2.t9.map ai) L4∧Frm 114 (kpL [6,7,11,12] f.fr) a_56∧Hp w0 V12 ((rO 26 6 Z18 G2.t9 P18 L4)::setE (setE (setE (setE (setE (setE (setE (setE (setE (setE (selE [1,0,2,3] 4 N20.en) 0 0 [S G2.1]) 0 1 [bO G2.2.1]) 0 2 [bO G2.2.2.1]) 0 3 [iB G2.t3.1]) 0 4 [bO G2.t4.1]) 0 5 [iL G2.t5.1]) 0 6 [S G2.t6.1]) 0 7 [sL Z16 G2.t7.1 P16]) 0 8 [sL Z17 G2.t8.1 P17]) 0 9 [sL Z18 G2.t9 P18]) W28) ?_ ?_
  ·refine RcF f iJ (λB14 F15=>?_) λB14 F20=>?_
   ·refine RR (Y f 1 λ_ f=>Z f (XO N20 0) λ_ f=>?_)
    obtain⟨Z10,P10,H2,N21⟩:=N20.nilC 1 7 26 6 (TE0)
    have D5:ae V9 (([]:List TE0).map ai) []:=rfl
    obtain⟨Z11,P11,H3,N22⟩:=N21.nilC 2 8 9 1 Bs
    have D6:ae V9 (([]:List Bs).map Dat.str) []:=rfl
    obtain⟨Z12,P12,H4,N23⟩:=N22.nilC 3 9 26 6 (TE0)
    have D7:ae V9 (([]:List TE0).map ai) []:=rfl
    obtain⟨X6,l4,F16⟩:=bS F15
    have N27:=N23.pl [1,2,4]
    refine Ch f N27 (qf n _ hG.mo _ X5.1 D4.mo Q5 d0 (decide (X4.1.aa=[78,117,109,98,101,114])) (false) (0:Int) (false) (0:Int) ([]:Bs) ([]:List TE0) Z10 P10 [] D5 ([]:List Bs) Z11 P11 [] D6 ([]:List TE0) Z12 P12 [] D7 X6 l4) λ_ V10 mG W20 J10 N24 nt _ f=>?_
    obtain⟨Z13,P13,L1,Z14,P14,L2,Z15,P15,L3,rfl,rfl,D8,D9,D10⟩:=nt
    refine Y f 1 λ_ f=>?_
    rcases cE F16 with⟨B15,F17⟩|⟨B15,F18⟩
    ·have f:=f.st 64 (cB B15)
     refine Y9 f N24 (bA _ (120:Int) X5.2.1) λW21 N28 _ f=>eT (cu 1 [(0,true),(1,true),(2,false),(3,true),(4,false)] N28 (bG f kr kr rfl rfl (λ_ pq=>XO pq 3) λ_ f=>Y0 default f 1 λ_ f=>bI λW22 N29=>Wt f N29 0 2 (bO true) λW23 N30 _ f=>ag rfl (bL 1 mL N30 (Y0 default f 1 λ_ f=>bI λW24 N31=>Wu f N31 0 3 (lTE0 X5.1 Z8 P8 Z9 P9) λW25 N32 _ f=>ag rfl (bL 1 mL N32 (dx rfl λW26 N33=>?_))))))
     have N42:=N33.pl [6,6,6,3,6,6,6]
     refine az ?_
     exact⟨_,(sI F17).symm,_,J10,Z8,P8,Z9,P9,Z15,P15,L3,B12.mo,B13.mo,D10,f.kp,(N42.dropN 2).kr⟩
    have f:=f.st 64 (cB B15)
    refine aN f N24 (bz _ (120:Int) X5.2.1) kr (λ_=>by kernel_rfl) λV11 W27 J11 N34=>cj ?_
    have F19:=bw F18 F14
    refine cj (cj (aV f ?_))
    cases sI F19
    exact⟨V11,mL,(N34.dropN 7),rfl⟩
   refine wp_skip ?_
   obtain⟨Z19,P19,H5,N43⟩:=N20.nilC 1 9 26 6 (TE0)
   have D12:ae V9 (([]:List TE0).map ai) []:=rfl
   have N48:=N43.pl [4,4,3,4,4]
   refine az ?_
   exact⟨_,(sI F20).symm,_,mL,none,0,none,0,Z19,P19,_,Sli.nil,Sli.nil,D12,f.kp,N48.kr⟩
  rintro a_56 W28 ⟨G2,rfl,V12,J12,Z16,P16,Z17,P17,Z18,P18,L4,B16,B17,D11,f,N35⟩
  dsimp only[Hp.en] at N35
  refine az (ah (RR (Y f 1 λ_ f=>?_)))
  obtain⟨X7,l5,F21⟩:=bS F14
  refine Y8 f N35 (bf n _ hG.mo [65,108,108,111,119,101,100,86,97,108,117,101,115] C1 (lTE0 X3.1 Z4 P4 Z5 P5) X3.1 D1.mo (bF (fu eS) 0 rfl) C2 [S X3.2] X3.2 (rfl) (bF (fu hZ) 0 rfl) X7 l5) λ_ V13 W29 J13 N49 pg _ f=>?_
  obtain⟨c_5,rfl,D13⟩:=pg
  obtain⟨Z20,P20,Z21,P21,rfl,B18,B19⟩:=TE0.opn D13
  refine Y f 4 λ_ f=>Y4 f N49 (.cells #[iB 0,bO false,iL 0,S [],Sn,Sn] 26 (0,0)) λQ7 W30 N50 _ f=>Wu f N50 0 0 (lTE0 X7.1 Z20 P20 Z21 P21) λW31 N51 _ f=>Ye f 2 λ_ f=>RR (Ye f 1 λ_ f=>RcF f F21 (λB20 F22=>?_) λB20 F41=>?_)
  ·refine ah ?_
   obtain⟨ns,la,F23⟩:=bS F22
   refine aW (λa_72 W35=>∃G3,ns=.nx G3∧∃V16,V13.le V16∧Frm 114 (kpL [6,11,12,16,17] f.fr) a_72∧Hp w0 V16 (N51.en) W35) ?_ ?_
   ·refine ay (Y f 1 λ_ f=>Z f (XO N51 0) λ_ f=>Y f 2 λ_ f=>?_)
    rcases cE la with⟨B21,F24⟩|⟨B21,F28⟩
    ·have f:=f.st 80 (cB B21)
     refine Y f 1 λ_ f=>Z f (XO N51 0) λ_ f=>Y f 4 λ_ f=>?_
     rcases cE F24 with⟨B22,F25⟩|⟨B22,F26⟩
     ·have f:=f.st 85 (cB B22)
      refine Y9 f N51 (bA _ (120:Int) X7.2.1) λW32 N52 _ f=>eT ?_
      exact⟨_,(sI F25).symm,_,mL,f.kp,N52.kr⟩
     have f:=f.st 85 (cB B22)
     refine aN f N51 (bz _ (120:Int) X7.2.1) kr (λ_=>by kernel_rfl) λV14 W33 J14 N53=>?_
     have F27:=bw F26 F23
     refine cj (cj (cj (aV f ?_)))
     cases sI F27
     exact⟨V14,mL,(N53.dropN 6),rfl⟩
    have f:=f.st 80 (cB B21)
    refine Y f 6 λ_ f=>aN f N51 (bz _ (120:Int) X7.2.1) kr (λ_=>by kernel_rfl) λV15 W34 J15 N54=>?_
    have F29:=bw F28 F23
    refine cj (cj (cj (aV f ?_)))
    cases sI F29
    exact⟨V15,mL,(N54.dropN 6),rfl⟩
   rintro a_72 W35 ⟨G3,rfl,V16,J16,f,N55⟩
   dsimp only[Hp.en] at N55
   refine az (RR (Y f 1 λ_ f=>Z f (XO N55 0) λ_ f=>Y f 3 λ_ f=>?_))
   rcases cE F23 with⟨B23,F30⟩|⟨B23,F40⟩
   ·have f:=f.st 91 (cB B23)
    refine Y9 f N55 (bA _ (3:Int) X7.2.1) λW36 N56 _ f=>eT (ah (RR (Y f 1 λ_ f=>Z f (XO N56 0) λ_ f=>Ye f 2 λ_ f=>wp_block ?_)))
    have N62:=N56.pl [5,5,5,5,4,5]
    obtain⟨Q8,ce,F31⟩:=bS F30
    refine wp_mono (Q:=λe a w=>(∃G4,e=.panic (flawE 78 G4)∧Q8=.inl G4∧∃V20,V16.le V20∧Frm 114 [] a∧Hp w0 V20 (H) w)∨(e=.exit 0∧(∃G5,Q8=.inr G5∧∃V21,V16.le V21∧∃Z30 P30 Z31 P31 Z32 P32 L7,Sli V21 6 ai Z30 P30 G5.t7.1∧Sli V21 1 Dat.str Z31 P31 G5.t8.1∧ae V21 (G5.t9.map ai) L7∧Frm 114 (kpL [6,11,16] f.fr) a∧Hp w0 V21 ((rO 26 6 Z32 G5.t9 P32 L7)::setE (setE (setE (setE (setE (setE (setE (setE (setE (setE (N62.en.drop 1) 1 0 [S G5.1]) 1 1 [bO G5.2.1]) 1 2 [bO G5.2.2.1]) 1 3 [iB G5.t3.1]) 1 4 [bO G5.t4.1]) 1 5 [iL G5.t5.1]) 1 6 [S G5.t6.1]) 1 7 [sL Z30 G5.t7.1 P30]) 1 8 [sL Z31 G5.t8.1 P31]) 1 9 [sL Z32 G5.t9 P32]) w))) (aZ (σ:=(Int×Bs×Bool×Bool×Int×Bool×Int×Bs×List TE0×List Bs×List TE0)×Oa×Nat×Oa×Nat×Oa×Nat×Lv) (λx=>match x with|(I1,K1,Z22,P22,Z23,P23,Z24,P24,L5)=>(((97,iL K1.1)::kpL [6,11,12,16,17,95,96] f.fr),((rO 26 6 Z24 K1.t10 P24 L5)::setE (setE (setE (setE (setE (setE (setE (setE (setE (setE (N62.en.drop 1) 1 0 [S K1.2.1]) 1 1 [bO K1.2.2.1]) 1 2 [bO K1.t3.1]) 1 3 [iB K1.t4.1]) 1 4 [bO K1.t5.1]) 1 5 [iL K1.t6.1]) 1 6 [S K1.t7.1]) 1 7 [sL Z22 K1.t8.1 P22]) 1 8 [sL Z23 K1.t9.1 P23]) 1 9 [sL Z24 K1.t10 P24]),λMM=>au (dZ n X7) I1 K1=some Q8∧Sli MM 6 ai Z22 P22 K1.t8.1∧Sli MM 1 Dat.str Z23 P23 K1.t9.1∧ae MM (K1.t10.map ai) L5)) (n,((0:Int),G2.1,(G2.2.1),(G2.2.2.1),G2.t3.1,(G2.t4.1),G2.t5.1,G2.t6.1,G2.t7.1,G2.t8.1,G2.t9),Z16,P16,Z17,P17,Z18,P18,L4) (f.kp) N62.kr ⟨ce,B16.mo,B17.mo,D11.mo⟩ ?_) ?_
    ·rintro⟨I1,K1,Z22,P22,Z23,P23,Z24,P24,L5⟩ V17 _ W37 J17 gL f N63
     obtain⟨ci,B24,B25,D14⟩:=gL
     dsimp only[Hp.en] at N63
     obtain⟨I2,lT,rfl,bg,T1⟩:=aK ci
     unfold dZ at bg
     refine RR (Ye f 1 λ_ f=>ah (RcF f bg (λB26 F32=>?_) λB26 F39=>?_))
     ·refine St (ah (wp_block (RR (Y f 1 λ_ f=>?_))))
      obtain⟨X8,l6,F33⟩:=bS F32
      obtain⟨C3,c_6,jC,D15,R3⟩:=N63.at_ B18 l6
      obtain⟨Z25,P25,Z26,P26,rfl,B27,B28⟩:=TE0.opn D15
      refine Z f (XI jC l6) λ_ f=>Z f (XK N63 R3 0) λ_ f=>Y4 f N63 (.cells #[iB 0,bO false,iL 0,S [],Sn,Sn] 26 (0,0)) λQ9 W38 N64 _ f=>Y f 1 λ_ f=>Wu f N64 0 0 (lTE0 X8 Z25 P25 Z26 P26) λW39 N65 _ f=>eT (ay (Y f 1 λ_ f=>Z f (XO N65 0) λ_ f=>?_))
      obtain⟨X9,l7,F34⟩:=bS F33
      have N68:=N65.pl [1,3]
      refine Ch f N68 (oB n _ hG.mo _ X8 D15.mo Q5 K1.2.1 (K1.2.2.1) (K1.t3.1) K1.t4.1 (K1.t5.1) K1.t6.1 K1.t7.1 K1.t8.1 Z22 P22 B24 K1.t9.1 Z23 P23 B25 K1.t10 Z24 P24 L5 D14 X9 l7) λ_ V18 rB W40 J18 N66 so _ f=>?_
      obtain⟨Z27,P27,Z28,P28,Z29,P29,L6,rfl,rfl,B29,B30,D16⟩:=so
      refine Y f 2 λ_ f=>?_
      obtain⟨X10,l8,F35⟩:=bS F34
      refine Y9 f N66 (gA n _ hG.mo X7.2.1 K1.1 X10 l8) λW41 N69 _ f=>?_
      rcases cE F35 with⟨B31,F36⟩|⟨B31,F38⟩
      ·have f:=f.st 104 (cB B31)
       refine Y9 f N69 (bA _ (120:Int) X10) λW42 N70 _ f=>ag rfl (ec (az (ay ?_)))
       obtain⟨O1,F37⟩:=nS F36
       refine Y f 1 λ_ f=>?_
       have f:=f.st 109 (iW O1)
       refine Y f 1 λ_ f=>ag rfl ?_
       have N80:=N70.pl [6,6,6,3,6,5,6]
       refine az ?_
       cases sI F37
       exact⟨⟨_,_,Z27,P27,Z28,P28,Z29,P29,L6⟩,Nat.lt_succ_self _,_,mL,⟨T1,B29,B30,D16⟩,f.kp,(N80.dropN 1).kr⟩
      have f:=f.st 104 (cB B31)
      refine aN f N69 (bz _ (120:Int) X10) kr (λ_=>by kernel_rfl) λV19 W43 J19 N71=>oP (cj (cj ?_))
      cases sI F38
      exact .inl ⟨_,rfl,(sI T1).symm,_,mL,f.kp,(N71.dropN 7).kr⟩
     refine wp_exit (dJ (dJ ?_))
     cases sI F39
     exact .inr ⟨rfl,_,(sI T1).symm,_,J17,Z22,P22,Z23,P23,Z24,P24,L5,B24,B25,D14,f.kp,N63.kr⟩
    rintro _ _ W46 (⟨G4,rfl,rfl,V20,J20,f,N72⟩|⟨rfl,G5,rfl,V21,J21,Z30,P30,Z31,P31,Z32,P32,L7,B32,B33,D17,f,N73⟩)
    ·refine oP (cj (cj (aV f ?_)))
     cases sI F31
     exact⟨V20,mL,N72,rfl⟩
    refine jV (az (ay (Y f 1 λ_ f=>Z f (XO N73 1) λ_ f=>Y f 1 λ_ f=>Wt f N73 2 9 (sL Z20 X7.1.ac P20) λW47 N81 _ f=>eT (RR (Z f (XO N81 2) λ_ f=>Wu f N81 5 0 [S G5.1,bO G5.2.1,bO G5.2.2.1,iB G5.t3.1,bO G5.t4.1,iL G5.t5.1,S G5.t6.1,sL Z30 G5.t7.1 P30,sL Z31 G5.t8.1 P31,sL Z20 X7.1.ac P20] λW48 N82 _ f=>Er (bM f rfl (Rv.oN [S G5.1,bO G5.2.1,bO G5.2.2.1,iB G5.t3.1,bO G5.t4.1,iL G5.t5.1,S G5.t6.1,sL Z30 G5.t7.1 P30,sL Z31 G5.t8.1 P31,sL Z20 X7.1.ac P20] f N82 5 0) ?_))))))
    cases sI F31
    exact⟨_,rfl,_,mL,(N82.dropN 6).kr,⟨_,rfl,(TD0.shutx B32 B33 B18.mo)⟩⟩
   have f:=f.st 91 (cB B23)
   refine aN f N55 (bz _ (3:Int) X7.2.1) kr (λ_=>by kernel_rfl) λV22 W49 J22 N83=>cj (cj (aV f ?_))
   cases sI F40
   exact⟨V22,mL,(N83.dropN 6),rfl⟩
  refine St (RR (Z f (XO N51 2) λ_ f=>?_))
  obtain⟨Z33,P33,V23,H6,J23,N84,B34⟩:=N51.rowSliK (f:=ai) (xs:=G2.t9) 1 26 Z18 P18 jx D11.mo
  have f:=Frm.set f 113 (v:=.agg #[S G2.1,.bool G2.2.1,.bool G2.2.2.1,.int .i8 G2.2.2.2.1,.bool G2.2.2.2.2.1,.int .i64 G2.2.2.2.2.2.1,S G2.2.2.2.2.2.2.1,.slice Z16 G2.2.2.2.2.2.2.2.1.length P16,.slice Z17 G2.2.2.2.2.2.2.2.2.1.length P17,.slice Z18 G2.2.2.2.2.2.2.2.2.2.length P18]) (v':=.agg #[S G2.1,.bool G2.2.1,.bool G2.2.2.1,.int .i8 G2.2.2.2.1,.bool G2.2.2.2.2.1,.int .i64 G2.2.2.2.2.2.1,S G2.2.2.2.2.2.2.1,.slice Z16 G2.2.2.2.2.2.2.2.1.length P16,.slice Z17 G2.2.2.2.2.2.2.2.2.1.length P17,.slice Z33 G2.2.2.2.2.2.2.2.2.2.length P33]) (by kernel_rfl) (by rw[H6])
  try simp only[sL] at H6 N84
  rw[H6] at N84
  refine Wu f N84 4 0 [S G2.1,bO G2.2.1,bO G2.2.2.1,iB G2.t3.1,bO G2.t4.1,iL G2.t5.1,S G2.t6.1,sL Z16 G2.t7.1 P16,sL Z17 G2.t8.1 P17,sL Z33 G2.t9 P33] λW50 N86 _ f=>Er (bM f rfl (Rv.oN [S G2.1,bO G2.2.1,bO G2.2.2.1,iB G2.t3.1,bO G2.t4.1,iL G2.t5.1,S G2.t6.1,sL Z16 G2.t7.1 P16,sL Z17 G2.t8.1 P17,sL Z33 G2.t9 P33] f N86 4 0) ?_)
  cases sI F41
  exact⟨_,rfl,_,mL,(N86.dropN 5).kr,⟨_,rfl,(TD0.shutx B16.mo B17.mo B34)⟩⟩
 have f:=f.st 31 (cB B8)
 refine aN f N9 (bz _ (120:Int) d2) kr (λ_=>by kernel_rfl) λV24 W51 J24 N87=>cj (aV f ?_)
 cases sI F42
 exact⟨V24,mL,(N87.dropN 2),rfl⟩
def dk (n:Nat) (d0:Bs) (d1:TE0) (d2:Bs) (jy:List TD0) (dt:List TH0) (jz:List TA0) (jA:List TC0):Option (Sum (Int×Bs) (List TD0×List TH0×List TA0×List TC0)):=
 (((km n d0 d1 d2).bind λX1=>
   aL ((jy.length+1)*128≤140737488355328)<|
   (match X1 with
   |.inl X5=>((some (.inl X5):Option (Sum (Int×Bs) (List TD0×List TH0×List TA0×List TC0)))).map Lp.br
   |.inr X6=>some (.nx (jy++[X6]))):Option (Lp (List TD0) (Sum (Int×Bs) (List TD0×List TH0×List TA0×List TC0))))).bind λj=>joinF j λG1=>
 some (.inr (G1,dt,jz,jA))
theorem kW (n:Nat) (M:Mem) (hG:GL M) (d0:Bs) (c1:Lv) (d1:TE0) (h1:Rep M (ai d1) c1) (d2:Bs) (b3:Nat) (jy:List TD0) (Z1:Oa) (P1:Nat) (L1:Lv) (D1:ae M (jy.map ba) L1) (dt:List TH0) (Z2:Oa) (P2:Nat) (L2:Lv) (D2:ae M (dt.map aH) L2) (jz:List TA0) (Z3:Oa) (P3:Nat) (L3:Lv) (D3:ae M (jz.map aY) L3) (jA:List TC0) (Z4:Oa) (P4:Nat) (L4:Lv) (D4:ae M (jA.map bc) L4) (r:Sum (Int×Bs) (List TD0×List TH0×List TA0×List TC0)) (hF:dk n d0 d1 d2 jy dt jz jA=some r):OkXH Tryz.prog M [oC b3 #[sL Z1 jy P1,sL Z2 dt P2,sL Z3 jz P3,sL Z4 jA P4] 41,rO 58 10 Z1 jy P1 L1,rO 61 15 Z2 dt P2 L2,rO 66 7 Z3 jz P3 L3,rO 68 8 Z4 jA P4 L4] 49 [S d0,.agg c1.toArray,S d2,pP b3] 78 r (λr=>λM' E' v=>∃ (Z16:Oa) (P16:Nat) (L8:Lv) (Z17:Oa) (P17:Nat) (L9:Lv) (Z18:Oa) (P18:Nat) (L10:Lv) (Z19:Oa) (P19:Nat) (L11:Lv),v=.tuple #[]∧E'=[oC b3 #[sL Z16 r.1 P16,sL Z17 r.2.1 P17,sL Z18 r.2.2.1 P18,sL Z19 r.t3 P19] 41,rO 58 10 Z16 r.1 P16 L8,rO 61 15 Z17 r.2.1 P17 L9,rO 66 7 Z18 r.2.2.1 P18 L10,rO 68 8 Z19 r.t3 P19 L11]∧ae M' (r.1.map ba) L8∧ae M' (r.2.1.map aH) L9∧ae M' (r.2.2.1.map aY) L10∧ae M' (r.t3.map bc) L11):=by
 unfold dk at hF
 intro M1 hM0 w0 H w p0
 replace hG:=GL.mono hM0 hG
 replace h1:=Rep.mono hM0 _ _ h1
 replace D1:=ae.mono hM0 _ _ D1
 replace D2:=ae.mono hM0 _ _ D2
 replace D3:=ae.mono hM0 _ _ D3
 replace D4:=ae.mono hM0 _ _ D4
 obtain⟨Z5,P5,Z6,P6,rfl,B1,B2⟩:=TE0.opn h1
 refine Re 16 Tryz.func49 rfl λa0 f0=>RR (Y5 (cs:=(aTE0 d1 Z5 P5 Z6 P6)) (T:=26) f0 p0 λQ1 V1 W1 J1 R1 N1 _ f=>?_)
 have R2:=aU R1
 refine eT ?_
 obtain⟨eF,cL,F1⟩:=bS hF
 refine aW (λa_22 W15=>∃G1,eF=.nx G1∧∃V6,V1.le V6∧∃Z15 P15 L7,ae V6 (G1.map ba) L7∧Frm 16 [] a_22∧Hp w0 V6 ((rO 58 10 Z15 G1 P15 L7)::setE (selE [0,2,3,4] 5 N1.en) 0 0 [sL Z15 G1 P15]) W15) ?_ ?_
 ·have N10:=N1.pl [4,4,4,3,4]
  obtain⟨X1,l1,F2⟩:=bS cL
  obtain⟨O1,F3⟩:=nS F2
  refine dG [8,9] 1 N10 (.quiet 0 (.quiet 1 (.quiet 2 (.quiet 3 (.quiet 4 (.alt 5 (.alt 6 (.alt 7 .done .none) .none) .none)))))) (Y1 (v:=pP b3) rfl f rfl rfl (λ_ _=>by kernel_rfl) λ_ f=>Y1 rfl f rfl rfl (λ_ pq=>XO pq 0) λ_ f=>Y1 (v:=S d0) rfl f rfl rfl (λ_ _=>by kernel_rfl) λ_ f=>Y1 rfl f rfl rfl (λ_ pq=>XK pq R2 0) λ_ f=>Y1 (v:=S d2) rfl f rfl rfl (λ_ _=>by kernel_rfl) λ_ f=>ao rfl (λW6 N11=>?_) ?_)
  ·rcases X1 with X5|X6
   ·refine aN f N11 (nr n _ hG.mo d0 _ d1 h1.mo d2 (.inl X5) l1) kr (λ_=>by kernel_rfl) λV4 W7 J4 N12=>pm f λ_ f=>?_
    have F4:=bw F3 F1
    refine cj (aV f ?_)
    cases sI F4
    exact⟨V4,mL,(N12.dropN 5),rfl⟩
   refine Y8 f N11 (OkX.ok (nr n _ hG.mo d0 _ d1 h1.mo d2 (.inr X6) l1)) λ_ V5 W8 J5 N13 iK _ f=>?_
   obtain⟨ie,rfl,D7⟩:=iK
   obtain⟨Z11,P11,Z12,P12,Z13,P13,rfl,B6,B7,B8⟩:=TD0.opn D7
   refine ag rfl (ap 1 J5 N13 (ao rfl (λW9 N14=>?_) ?_))
   ·refine aE (k:=1) (c:=1) f N14 (.cells (aTD0 X6 Z11 P11 Z12 P12 Z13 P13) 58 (0,0)) kr (λ_=>by kernel_rfl) λQ3 W10 N15 _ f=>ag rfl (ap 2 J5 N15 (ao rfl (λW11 N16=>?_) ?_))
    ·refine dM X6 0 f (N16.toRow 1 58 10 Z1 P1 D1.mo) D1.mo (TD0.shutx B6 B7 B8) O1 λZ14 P14 L6 W12 N17 D8 _ f=>ag rfl (ap 1 J5 N17 (dp λW13 N18=>Y f 1 λ_ f=>Wt f N18 1 0 (sL Z14 (jy++[X6]) P14) λW14 N19 _ f=>ag rfl (jD (az ?_))))
     exact⟨_,(sI F3).symm,_,J5,Z14,P14,L6,D8,f.kp,N19.kr⟩
    exact al
   exact al
  exact al
 rintro a_22 W15 ⟨G1,rfl,V6,J6,Z15,P15,L7,D9,f,N20⟩
 dsimp only[Hp.en] at N20
 refine eN f rfl ?_
 cases sI F1
 have N25:=N20.pl [4,4,4,3,4]
 exact⟨_,rfl,_,_,mL,N25.kr,⟨Z15,P15,L7,Z2,P2,L2,Z3,P3,L3,Z4,P4,L4,rfl,rfl,D9,D2.mo,D3.mo,D4.mo⟩⟩
def jl (n:Nat) (X1:TE0×Bs×Bool) (X2:List aD) (K1:Int×List TD0×List TH0×List TA0×List TC0):Option (Lp (Int×List TD0×List TH0×List TA0×List TC0) (Sum (Int×Bs) (List TD0×List TH0×List TA0×List TC0))):=
    bif(decide (K1.1<((X2.length:Nat):Int))) then
     ((aB X2 K1.1).bind λX3=>
     (dz n X3.key).bind λX4=>
     (aT n X1.2.1 X3.key).bind λX5=>
     bif X4 then
      ((aT n X1.2.1 X3.key).bind λX6=>
      (dk n X3.key X3.v X6 K1.2.1 K1.2.2.1 K1.2.2.2.1 K1.2.2.2.2).bind λX7=>
      (match X7 with
      |.inl X8=>some (.br (.inl X8))
      |.inr X9=>aL (inR .i64 (K1.1+1))<|
       some (.nx (K1.1+1,X9.1,X9.2.1,X9.2.2.1,X9.2.2.2))))
     else
      some (.br (.inl ((120:Int),X5))))
    else
     some (.br (.inr (K1.2.1,K1.2.2.1,K1.2.2.2.1,K1.2.2.2.2)))
def iR (n:Nat) (d0:Bs) (d1:Int) (cx:List TD0) (cy:List TH0) (cz:List TA0) (cA:List TC0) (d3_f_0:TE0) (d3_f_1:Bs):Option (Sum (Int×Bs) (List TD0×List TH0×List TA0×List TC0)):=
 (aX n d0 d3_f_0 d3_f_1).bind λX1=>
 bif !X1.2.2 then
  (some (.inr (cx,cy,cz,cA)))
 else
  bif(decide (X1.1.ab=5)) then
   (bif(decide (((X1.1.af.length:Nat):Int)≤d1)) then
    ((cW n X1.1).bind λX2=>
    (au (jl n X1 X2) n ((0:Int),cx,cy,cz,cA)).bind λQ2=>
    (match Q2 with
    |.inl G1=>some (.inl G1)
    |.inr G2=>some (.inr (G2.1,G2.2.1,G2.2.2.1,G2.2.2.2))))
   else
    some (.inl ((3:Int),X1.2.1)))
  else
   some (.inl ((120:Int),X1.2.1))
set_option maxRecDepth 20000 in
theorem kV (n:Nat) (M:Mem) (hG:GL M) (d0:Bs) (d1:Int) (lv:Nat) (cx:List TD0) (Z1:Oa) (P1:Nat) (L1:Lv) (D1:ae M (cx.map ba) L1) (cy:List TH0) (Z2:Oa) (P2:Nat) (L2:Lv) (D2:ae M (cy.map aH) L2) (cz:List TA0) (Z3:Oa) (P3:Nat) (L3:Lv) (D3:ae M (cz.map aY) L3) (cA:List TC0) (Z4:Oa) (P4:Nat) (L4:Lv) (D4:ae M (cA.map bc) L4) (ad3_f_0:Addr) (c3_f_0:Lv) (d3_f_0:TE0) (h3_f_0:Rep M (ai d3_f_0) c3_f_0) (q3_f_0: ∀j v,c3_f_0[j]? =some v→M.cell? (ad3_f_0.add j)=some v) (ad3_f_1:Addr) (c3_f_1:Lv) (d3_f_1:Bs) (h3_f_1:Rep M (Dat.str d3_f_1) c3_f_1) (q3_f_1: ∀j v,c3_f_1[j]? =some v→M.cell? (ad3_f_1.add j)=some v) (ad3:Addr) (q3: ∀j v,[(.func (.func 93) #[] #[Pa ad3_f_0,Pa ad3_f_1]:Value)][j]? =some v→M.cell? (ad3.add j)=some v) (r:Sum (Int×Bs) (List TD0×List TH0×List TA0×List TC0)) (hF:iR n d0 d1 cx cy cz cA d3_f_0 d3_f_1=some r):OkXH Tryz.prog M [oC lv #[sL Z1 cx P1,sL Z2 cy P2,sL Z3 cz P3,sL Z4 cA P4] 41,rO 58 10 Z1 cx P1 L1,rO 61 15 Z2 cy P2 L2,rO 66 7 Z3 cz P3 L3,rO 68 8 Z4 cA P4 L4] 46 [S d0,iL d1,.func (.func 49) #[] #[pP lv],Pa ad3] 78 r (λr=>λM' E' v=>∃ (Z24:Oa) (P25:Nat) (L18:Lv) (Z25:Oa) (P26:Nat) (L19:Lv) (Z26:Oa) (P27:Nat) (L20:Lv) (Z27:Oa) (P28:Nat) (L21:Lv),v=.tuple #[]∧E'=[oC lv #[sL Z24 r.1 P25,sL Z25 r.2.1 P26,sL Z26 r.2.2.1 P27,sL Z27 r.t3 P28] 41,rO 58 10 Z24 r.1 P25 L18,rO 61 15 Z25 r.2.1 P26 L19,rO 66 7 Z26 r.2.2.1 P27 L20,rO 68 8 Z27 r.t3 P28 L21]∧ae M' (r.1.map ba) L18∧ae M' (r.2.1.map aH) L19∧ae M' (r.2.2.1.map aY) L20∧ae M' (r.t3.map bc) L21):=by
 unfold iR at hF
 intro M1 hM0 w0 H w p0
 replace hG:=GL.mono hM0 hG
 replace D1:=ae.mono hM0 _ _ D1
 replace D2:=ae.mono hM0 _ _ D2
 replace D3:=ae.mono hM0 _ _ D3
 replace D4:=ae.mono hM0 _ _ D4
 replace h3_f_0:=Rep.mono hM0 _ _ h3_f_0
 replace q3_f_0:=λj v h=>hM0.cell (q3_f_0 j v h)
 replace h3_f_1:=Rep.mono hM0 _ _ h3_f_1
 replace q3_f_1:=λj v h=>hM0.cell (q3_f_1 j v h)
 replace q3:=λj v h=>hM0.cell (q3 j v h)
 obtain⟨Z5,P5,Z6,P6,rfl,B1,B2⟩:=TE0.opn h3_f_0
 obtain rfl:c3_f_1=[S d3_f_1]:=h3_f_1
 refine Re 59 Tryz.func46 rfl λa0 f0=>RR (Y7 f0 p0 q3 0 rfl λ_ f=>Y f 1 λ_ f=>?_)
 obtain⟨X1,l1,F1⟩:=bS hF
 refine Y8 f p0 (bf n _ hG d0 ad3_f_0 (lTE0 d3_f_0 Z5 P5 Z6 P6) d3_f_0 h3_f_0.mo (bF (q3_f_0) 0 rfl) ad3_f_1 [S d3_f_1] d3_f_1 (rfl) (bF (q3_f_1) 0 rfl) X1 l1) λ_ V1 W1 J1 N1 ef _ f=>?_
 obtain⟨dW,rfl,D5⟩:=ef
 obtain⟨Z7,P7,Z8,P8,rfl,B3,B4⟩:=TE0.opn D5
 refine Y f 4 λ_ f=>Y4 f N1 (.cells #[iB 0,bO false,iL 0,S [],Sn,Sn] 26 (0,0)) λQ1 W2 N2 _ f=>Wu f N2 0 0 (lTE0 X1.1 Z7 P7 Z8 P8) λW3 N3 _ f=>Ye f 2 λ_ f=>ah (RR (Ye f 2 λ_ f=>RcF f F1 (λB5 F2=>?_) λB5 F3=>?_))
 ·refine wp_ret (bl (oQ f rfl ?_))
  cases sI F2
  exact⟨_,rfl,_,_,J1,(N3.dropN 1).kr,⟨Z1,P1,L1,Z2,P2,L2,Z3,P3,L3,Z4,P4,L4,rfl,rfl,D1.mo,D2.mo,D3.mo,D4.mo⟩⟩
 refine St (RR (Y f 1 λ_ f=>Z f (XO N3 0) λ_ f=>Y f 2 λ_ f=>?_))
 rcases cE F3 with⟨B6,F4⟩|⟨B6,F19⟩
 ·have f:=f.st 23 (cB B6)
  refine Y9 f N3 (bA _ (120:Int) X1.2.1) λW4 N4 _ f=>eT (RR (Y f 1 λ_ f=>Z f (XO N4 0) λ_ f=>Y f 4 λ_ f=>?_))
  rcases cE F4 with⟨B7,F5⟩|⟨B7,F18⟩
  ·have f:=f.st 30 (cB B7)
   refine Y9 f N4 (bA _ (3:Int) X1.2.1) λW5 N5 _ f=>eT (RR (Z f (XO N5 0) λ_ f=>?_))
   obtain⟨X2,l2,F6⟩:=bS F5
   refine Ch f N5 (eM n _ hG.mo _ X1.1 D5.mo X2 l2) λ_ V2 mG W6 J2 N6 iK _ f=>?_
   obtain⟨Z9,P9,L5,rfl,rfl,D6⟩:=iK
   refine Ye f 2 λ_ f=>wp_block ?_
   have N13:=N6.pl [2,2,2,6,6,6,6]
   obtain⟨Q2,ce,F7⟩:=bS F6
   refine wp_mono (Q:=λe a w=>(∃G1,e=.panic (flawE 78 G1)∧Q2=.inl G1∧∃V7,V2.le V7∧Frm 59 [] a∧Hp w0 V7 (H) w)∨(e=.exit 0∧(∃G2,Q2=.inr G2∧∃V8,V2.le V8∧∃Z20 P21 L14 Z21 P22 L15 Z22 P23 L16 Z23 P24 L17,ae V8 (G2.1.map ba) L14∧ae V8 (G2.2.1.map aH) L15∧ae V8 (G2.2.2.1.map aY) L16∧ae V8 (G2.t3.map bc) L17∧Frm 59 [] a∧Hp w0 V8 ((rO 58 10 Z20 G2.1 P21 L14)::(rO 61 15 Z21 G2.2.1 P22 L15)::(rO 66 7 Z22 G2.2.2.1 P23 L16)::(rO 68 8 Z23 G2.t3 P24 L17)::setE (setE (setE (setE (N13.en.drop 4) 2 0 [sL Z20 G2.1 P21]) 2 1 [sL Z21 G2.2.1 P22]) 2 2 [sL Z22 G2.2.2.1 P23]) 2 3 [sL Z23 G2.t3 P24]) w))) (aZ (σ:=(Int×List TD0×List TH0×List TA0×List TC0)×Oa×Nat×Lv×Oa×Nat×Lv×Oa×Nat×Lv×Oa×Nat×Lv) (λx=>match x with|(I1,K1,Z10,P10,L6,Z11,P11,L7,Z12,P12,L8,Z13,P13,L9)=>(((36,iL K1.1)::kpL [2,8,34,35] f.fr),((rO 58 10 Z10 K1.2.1 P10 L6)::(rO 61 15 Z11 K1.2.2.1 P11 L7)::(rO 66 7 Z12 K1.t3.1 P12 L8)::(rO 68 8 Z13 K1.t4 P13 L9)::setE (setE (setE (setE (N13.en.drop 4) 2 0 [sL Z10 K1.2.1 P10]) 2 1 [sL Z11 K1.2.2.1 P11]) 2 2 [sL Z12 K1.t3.1 P12]) 2 3 [sL Z13 K1.t4 P13]),λMM=>au (jl n X1 X2) I1 K1=some Q2∧ae MM (K1.2.1.map ba) L6∧ae MM (K1.2.2.1.map aH) L7∧ae MM (K1.t3.1.map aY) L8∧ae MM (K1.t4.map bc) L9)) (n,((0:Int),cx,cy,cz,cA),Z1,P1,L1,Z2,P2,L2,Z3,P3,L3,Z4,P4,L4) (f.kp) N13.kr ⟨ce,D1.mo,D2.mo,D3.mo,D4.mo⟩ ?_) ?_
   ·rintro⟨I1,K1,Z10,P10,L6,Z11,P11,L7,Z12,P12,L8,Z13,P13,L9⟩ V3 _ W7 J3 gL f N14
    obtain⟨ci,D7,D8,D9,D10⟩:=gL
    dsimp only[Hp.en] at N14
    obtain⟨I2,lT,rfl,bg,T1⟩:=aK ci
    unfold jl at bg
    refine RR (Ye f 1 λ_ f=>ah (RcF f bg (λB8 F8=>?_) λB8 F17=>?_))
    ·refine St (ah (wp_block (RR ?_)))
     obtain⟨X3,l3,F9⟩:=bS F8
     obtain⟨Q3,P14,H1,mJ⟩:=N14.rowAddr 4 rfl (bn l3)
     refine Z f (XIo H1 l3) λ_ f=>?_
     obtain⟨ie,-,D11,R1⟩:=ae.get K1.1.toNat (dv em) (ae.mono J3 _ _ D6) (ig l3)
     obtain⟨Z14,P15,Z15,P16,rfl,B9,B10⟩:=aD.opn D11
     refine Z f (XR N14 4 H1 R1 0) λ_ f=>Y4 f N14 (.cells #[S [],iB 0,bO false,iL 0,S [],Sn,Sn] 99 (0,0)) λQ4 W8 N15 _ f=>Wu f N15 0 0 [S X3.key,iB X3.v.ab,bO X3.v.an,iL X3.v.ak,S X3.v.aa,sL Z14 X3.v.ac P15,sL Z15 X3.v.af P16] λW9 N16 _ f=>eT (ah (cu 0 [(0,true),(1,true),(2,true),(3,true),(4,true),(5,true),(6,true),(7,false)] N16 (Y0 default f 1 λ_ f=>bG f kr kr rfl rfl (λ_ pq=>XO pq 0) λ_ f=>?_)))
     obtain⟨X4,l4,F10⟩:=bS F9
     refine eR (v:=bO X4) f kr kr rfl rfl (λ_=>by kernel_rfl) (dK n _ X3.key X4 l4) λ_ f=>Y0 default f 2 λ_ f=>bG f kr kr rfl rfl (λ_ pq=>XO pq 0) λ_ f=>?_
     obtain⟨X5,l5,F11⟩:=bS F10
     refine eR (v:=S X5) f kr kr rfl rfl (λ_=>by kernel_rfl) (aR n _ hG.mo X1.2.1 X3.key X5 l5) λ_ f=>bI λW12 N19=>?_
     rcases cE F11 with⟨B11,F12⟩|⟨B11,F16⟩
     ·have f:=f.st 42 (cB B11)
      refine Y9 f N19 (bA _ (120:Int) X5) λW13 N20 _ f=>ag rfl (bL 0 mL N20 (dx rfl λW14 N21=>az ?_))
      have N29:=N21.pl [6,6,2,7,7,7,7,7]
      refine cu 5 [(0,true),(1,true),(2,true),(3,true),(4,true),(5,true),(6,true),(7,true),(8,true),(9,false)] N29 (Y0 default f 2 λ_ f=>bG f kr kr rfl rfl (λ_ pq=>XO pq 0) λ_ f=>Y0 default f 1 λ_ f=>bG f kr kr rfl rfl (λ_ pq=>XO pq 0) λ_ f=>Y0 default f 2 λ_ f=>bG f kr kr rfl rfl (λ_ pq=>XO pq 0) λ_ f=>?_)
      obtain⟨X6,l6,F13⟩:=bS F12
      refine eR (v:=S X6) f kr kr rfl rfl (λ_=>by kernel_rfl) (aR n _ hG.mo X1.2.1 X3.key X6 l6) λ_ f=>bI λW16 N31=>?_
      obtain⟨X7,l7,F14⟩:=bS F13
      rcases X7 with X8|X9
      ·have N37:=N31.pl [3,3,3,3,4]
       refine Cx f N37 (kW n _ hG.mo X3.key _ X3.v (TE0.shutx B9 B10) X6 lv K1.2.1 Z10 P10 L6 D7 K1.2.2.1 Z11 P11 L7 D8 K1.t3.1 Z12 P12 L8 D9 K1.t4 Z13 P13 L9 D10 (.inl X8) l7) λV4 W17 J4 N32=>pm f λ_ f=>oP (cj (cj ?_))
       cases sI F14
       exact .inl ⟨_,rfl,(sI T1).symm,_,mL,f.kp,(N32.dropN 3).kr⟩
      have N43:=N31.pl [3,3,3,3,4]
      refine Ch f N43 (OkXH.ok (kW n _ hG.mo X3.key _ X3.v (TE0.shutx B9 B10) X6 lv K1.2.1 Z10 P10 L6 D7 K1.2.2.1 Z11 P11 L7 D8 K1.t3.1 Z12 P12 L8 D9 K1.t4 Z13 P13 L9 D10 (.inr X9) l7)) λ_ V5 rB W18 J5 N38 mi _ f=>?_
      obtain⟨Z16,P17,L10,Z17,P18,L11,Z18,P19,L12,Z19,P20,L13,rfl,rfl,D12,D13,D14,D15⟩:=mi
      refine ag rfl (bL 5 J5 N38 (dx rfl λW19 N44=>ec (az (ay ?_))))
      obtain⟨O1,F15⟩:=nS F14
      refine Y f 1 λ_ f=>?_
      have f:=f.st 58 (iW O1)
      refine Y f 1 λ_ f=>ag rfl ?_
      have N54:=N44.pl [7,7,6,6,6,6,7]
      refine az ?_
      cases sI F15
      exact⟨⟨_,_,Z16,P17,L10,Z17,P18,L11,Z18,P19,L12,Z19,P20,L13⟩,Nat.lt_succ_self _,_,mL,⟨T1,D12,D13,D14,D15⟩,f.kp,(N54.dropN 1).kr⟩
     have f:=f.st 42 (cB B11)
     refine aN f N19 (bz _ (120:Int) X5) kr (λ_=>by kernel_rfl) λV6 W20 J6 N45=>pm f λ_ f=>cj (oP (cj (cj ?_)))
     cases sI F16
     exact .inl ⟨_,rfl,(sI T1).symm,_,mL,f.kp,(N45.dropN 8).kr⟩
    refine wp_exit (dJ (dJ ?_))
    cases sI F17
    exact .inr ⟨rfl,_,(sI T1).symm,_,J3,Z10,P10,L6,Z11,P11,L7,Z12,P12,L8,Z13,P13,L9,D7,D8,D9,D10,f.kp,N14.kr⟩
   rintro _ _ W23 (⟨G1,rfl,rfl,V7,J7,f,N46⟩|⟨rfl,G2,rfl,V8,J8,Z20,P21,L14,Z21,P22,L15,Z22,P23,L16,Z23,P24,L17,D16,D17,D18,D19,f,N47⟩)
   ·refine oP (aV f ?_)
    cases sI F7
    exact⟨V7,mL,N46,rfl⟩
   refine jV (eN f rfl ?_)
   cases sI F7
   have N61:=N47.pl [3,3,3,3,6,6,6]
   exact⟨_,rfl,_,_,mL,(N61.dropN 2).kr,⟨Z20,P21,L14,Z21,P22,L15,Z22,P23,L16,Z23,P24,L17,rfl,rfl,D16,D17,D18,D19⟩⟩
  have f:=f.st 30 (cB B7)
  refine aN f N4 (bz _ (3:Int) X1.2.1) kr (λ_=>by kernel_rfl) λV9 W24 J9 N62=>cj (aV f ?_)
  cases sI F18
  exact⟨V9,mL,(N62.dropN 6),rfl⟩
 have f:=f.st 23 (cB B6)
 refine aN f N3 (bz _ (120:Int) X1.2.1) kr (λ_=>by kernel_rfl) λV10 W25 J10 N63=>cj (aV f ?_)
 cases sI F19
 exact⟨V10,mL,(N63.dropN 6),rfl⟩
def lf (n:Nat) (d0:List TE0) (d2:Bs) (K1:List TG0×Int):Option (Lp (List TG0×Int) (Sum (Int×Bs) (List TG0))):=
    bif(decide (K1.2<((d0.length:Nat):Int))) then
     ((aB d0 K1.2).bind λX1=>
     (er n d2 K1.2).bind λX2=>
     (jj n X1 X2).bind λX3=>
     (match X3 with
     |.inl X4=>some (.br (.inl X4))
     |.inr X5=>aL ((K1.1.length+1)*88≤140737488355328)<|
      aL (inR .i64 (K1.2+1))<|
      some (.nx (K1.1++[X5],K1.2+1))))
    else
     some (.br (.inr K1.1))
def lm (n:Nat) (d0:List TE0) (d1:Int) (d2:Bs):Option (Sum (Int×Bs) (List TG0)):=
 (au (lf n d0 d2) n (([]:List TG0),d1)).bind λQ1=>
 (match Q1 with
 |.inl G1=>some (.inl G1)
 |.inr G2=>some (.inr G2))
theorem nq (n:Nat) (M:Mem) (hG:GL M) (A0:Oa) (cap0:Nat) (d0:List TE0) (h0:Sli M 6 ai A0 cap0 d0) (d1:Int) (d2:Bs) (r:Sum (Int×Bs) (List TG0)) (hF:lm n d0 d1 d2=some r):OkXH Tryz.prog M [] 33 [sL A0 d0 cap0,iL d1,S d2] 78 r (λr=>λM' E' v=>∃ (A0:Oa) (k0:Nat) (s0:Lv),v=sL A0 r k0∧E'=[.row 31 6 (sL A0 r k0) r.length s0]∧ae M' (r.map aA) s0):=by
 unfold lm at hF
 intro M1 hM0 w0 H w p0
 replace hG:=GL.mono hM0 hG
 replace h0:=h0.mono hM0
 refine Re 27 Tryz.func33 rfl λa0 f0=>RR (Ye f0 1 λ_ f=>ah (RR (Ye f 2 λ_ f=>wp_block ?_)))
 obtain⟨Z1,P1,H1,N1⟩:=p0.nilD 31 6 (TG0)
 have f:=f.st 6 (H1)
 have D1:ae M1 (([]:List TG0).map aA) []:=rfl
 obtain⟨Q1,ce,F1⟩:=bS hF
 refine wp_mono (Q:=λe a w=>(∃G1,e=.panic (flawE 78 G1)∧Q1=.inl G1∧∃V4,M1.le V4∧Frm 27 [] a∧Hp w0 V4 (H) w)∨(e=.exit 0∧(∃G2,Q1=.inr G2∧∃V5,M1.le V5∧∃Z7 P7 L3,ae V5 (G2.map aA) L3∧Frm 27 [(6,sL Z7 G2 P7)] a∧Hp w0 V5 ((rO 31 6 Z7 G2 P7 L3)::H) w))) (aZ (σ:=(List TG0×Int)×Oa×Nat×Lv) (λx=>match x with|(I1,K1,Z2,P2,L1)=>(((6,sL Z2 K1.1 P2)::(7,iL K1.2)::kpL [0,2] f.fr),((rO 31 6 Z2 K1.1 P2 L1)::H),λMM=>au (lf n d0 d2) I1 K1=some Q1∧ae MM (K1.1.map aA) L1)) (n,(([]:List TG0),d1),Z1,P1,[]) (f.kp) N1.kr ⟨ce,D1⟩ ?_) ?_
 ·rintro⟨I1,K1,Z2,P2,L1⟩ V1 _ W1 J1 gL f N2
  obtain⟨ci,D2⟩:=gL
  obtain⟨I2,lT,rfl,bg,T1⟩:=aK ci
  unfold lf at bg
  refine ah (RR (Ye f 4 λ_ f=>RcF f bg (λB1 F2=>?_) λB1 F8=>?_))
  ·refine St (ah (wp_block (cu 1 [(0,true),(1,true),(2,true),(3,true),(4,true),(5,true),(6,true),(7,true),(8,false),(9,false),(10,false),(11,true)] N2 (Y0 default f 3 λ_ f=>?_))))
   obtain⟨X1,l1,F3⟩:=bS F2
   obtain⟨C1,dW,jC,D3,R1⟩:=Sli.aM V1 h0 l1
   obtain⟨Z3,P3,Z4,P4,rfl,B2,B3⟩:=TE0.opn D3
   refine bG f kr kr rfl rfl (λ_ pq=>XI jC l1) λ_ f=>bG f kr kr rfl rfl (λ_ pq=>XK pq R1 0) λ_ f=>Y0 default f 2 λ_ f=>?_
   obtain⟨X2,l2,F4⟩:=bS F3
   refine eR (v:=S X2) f kr kr rfl rfl (λ_=>by kernel_rfl) (gA n _ hG.mo d2 K1.2 X2 l2) λ_ f=>bI λW3 N4=>?_
   obtain⟨X3,l3,F5⟩:=bS F4
   rcases X3 with X4|X5
   ·refine aN f N4 (eB n _ hG.mo _ X1 D3.mo X2 (.inl X4) l3) kr (λ_=>by kernel_rfl) λV2 W4 J2 N5=>pm f λ_ f=>oP (cj (cj ?_))
    cases sI F5
    exact .inl ⟨_,rfl,(sI T1).symm,_,mL,f.kp,(N5.dropN 1).kr⟩
   refine Y8 f N4 (OkX.ok (eB n _ hG.mo _ X1 D3.mo X2 (.inr X5) l3)) λ_ V3 W5 J3 N6 ef _ f=>?_
   obtain⟨ie,rfl,D4⟩:=ef
   obtain⟨Z5,P5,rfl,B4⟩:=TG0.opn D4
   refine ag rfl (bL 1 J3 N6 (bI λW6 N7=>aE (k:=1) (c:=1) f N7 (.cells (aTG0 X5 Z5 P5) 31 (0,0)) kr (λ_=>by kernel_rfl) λQ2 W7 N8 _ f=>ag rfl (bL 2 J3 N8 (bI λW8 N9=>?_))))
   obtain⟨O1,F6⟩:=nS F5
   refine dM X5 0 f (N9.toRow 1 31 6 Z2 P2 D2.mo) D2.mo (TG0.shutx B4) O1 λZ6 P6 L2 W9 N10 D5 _ f=>ag rfl (bL 1 J3 N10 (Y0 default f 1 λ_ f=>dx rfl λW10 N11=>ec (az (ay (Y f 1 λ_ f=>?_)))))
   obtain⟨O2,F7⟩:=nS F6
   refine Y f 1 λ_ f=>?_
   have f:=f.st 14 (iW O2)
   refine Ye f 1 λ_ f=>?_
   cases sI F7
   exact⟨⟨_,_,Z6,P6,L2⟩,Nat.lt_succ_self _,_,mL,⟨T1,D5⟩,f.kp,N11.kr⟩
  refine wp_exit (dJ (dJ ?_))
  cases sI F8
  exact .inr ⟨rfl,_,(sI T1).symm,_,J1,Z2,P2,L1,D2,f.kp,N2.kr⟩
 rintro _ _ W13 (⟨G1,rfl,rfl,V4,J4,f,N12⟩|⟨rfl,G2,rfl,V5,J5,Z7,P7,L3,D6,f,N13⟩)
 ·refine oP (cj (aV f ?_))
  cases sI F1
  exact⟨V4,J4,N12,rfl⟩
 refine jV (az (RR (Ye f 2 λ_ f=>wp_ret (am f rfl (Lk 6 (sL Z7 G2 P7)) ?_))))
 cases sI F1
 exact⟨_,rfl,_,_,J5,N13.kr,⟨Z7,P7,L3,rfl,rfl,D6⟩⟩
def gv (n:Nat) (rec_syntax_cond:TE0→Bs→Option (Sum (Int×Bs) TH0)) (X5:TE0) (X6:Bs) (K1:Int×List TH0):Option (Lp (Int×List TH0) (Sum (Int×Bs) (List TH0))):=
    bif(decide (K1.1<((X5.ac.length:Nat):Int))) then
     ((aB X5.ac K1.1).bind λX13=>
     (((er n X6 K1.1).bind λX14=>
       (rec_syntax_cond X13 X14).bind λX15=>
       aL ((K1.2.length+1)*224≤140737488355328)<|
       (match X15 with
       |.inl X20=>((some (.br (.inl X20)):Option (Lp (Int×List TH0) (Sum (Int×Bs) (List TH0))))).map Lp.br
       |.inr X21=>some (.nx (K1.2++[X21]))):Option (Lp (List TH0) (Lp (Int×List TH0) (Sum (Int×Bs) (List TH0)))))).bind λj=>joinF j λG2=>
     aL (inR .i64 (K1.1+1))<|
     some (.nx (K1.1+1,G2)))
    else
     some (.br (.inr K1.2))
def jL (n:Nat) (rec_syntax_cond:TE0→Bs→Option (Sum (Int×Bs) TH0)) (d0:TE0) (d1:Bs):Option (Sum (Int×Bs) TH0):=
 (cX n d0 d1 ([[69,113,117,97,108,115],[65,110,100],[79,114],[78,111,116],[67,111,110,100,105,116,105,111,110]]:List Bs)).bind λX1=>
 (match X1 with
 |.inl X2=>some (.inl X2)
 |.inr X3=>bif(decide (((d0.af.length:Nat):Int)=1)) then
  ((aB d0.af (0:Int)).bind λX4=>
  (aB d0.ac (0:Int)).bind λX5=>
  (aT n d1 X4).bind λX6=>
  bif(decide (X4=[67,111,110,100,105,116,105,111,110])) then
   ((eE n X5).bind λX7=>
   bif X7 then
    (some (.inr (⟨X5.aa,(4:Int),aQ,aQ,([]:List TH0)⟩:TH0)))
   else
    some (.inl ((120:Int),X6)))
  else
   ((bif(decide (X5.ab=4)) then
    (bif(decide (((ew (bJ (bJ (bJ (bJ ([]:List (Bs× (Int×Int))) [69,113,117,97,108,115] ((2:Int),(2:Int))) [65,110,100] ((1:Int),(4:Int))) [79,114] ((1:Int),(4:Int))) [78,111,116] ((1:Int),(1:Int))) X4).getD ((0:Int),(0:Int))).1≤((X5.ac.length:Nat):Int))) then
     (bif(decide (((X5.ac.length:Nat):Int)≤((ew (bJ (bJ (bJ (bJ ([]:List (Bs× (Int×Int))) [69,113,117,97,108,115] ((2:Int),(2:Int))) [65,110,100] ((1:Int),(4:Int))) [79,114] ((1:Int),(4:Int))) [78,111,116] ((1:Int),(1:Int))) X4).getD ((0:Int),(0:Int))).2)) then
      (some (.nx ()))
     else
      ((some (.inl ((120:Int),X6)):Option (Sum (Int×Bs) TH0))).map Lp.br)
    else
     ((some (.inl ((120:Int),X6)):Option (Sum (Int×Bs) TH0))).map Lp.br)
     else
      ((some (.inl ((120:Int),X6)):Option (Sum (Int×Bs) TH0))).map Lp.br:Option (Lp Unit (Sum (Int×Bs) TH0)))).bind λj=>joinF j λG1=>
   bif(decide (X4=[69,113,117,97,108,115])) then
    ((lm n X5.ac (0:Int) X6).bind λX8=>
    (match X8 with
    |.inl X9=>some (.inl X9)
    |.inr X10=>(aB X10 (0:Int)).bind λX11=>
     (aB X10 (1:Int)).bind λX12=>
     some (.inr (⟨([]:Bs),(0:Int),X11,X12,([]:List TH0)⟩:TH0))))
   else
    (au (gv n rec_syntax_cond X5 X6) n ((0:Int),([]:List TH0))).bind λQ7=>
    (match Q7 with
    |.inl G3=>some (.inl G3)
    |.inr G4=>some (.inr (⟨([]:Bs),(ew (bJ (bJ (bJ ([]:List (Bs×Int)) [65,110,100] (1:Int)) [79,114] (2:Int)) [78,111,116] (3:Int)) X4).getD (0:Int),aQ,aQ,G4⟩:TH0))))
  else
   some (.inl ((120:Int),d1)))
set_option maxRecDepth 20000 in
theorem qG (n:Nat) (rec_syntax_cond:TE0→Bs→Option (Sum (Int×Bs) TH0)) (hrec_syntax_cond: ∀ (M:Mem) (hG:GL M) (c0:Lv) (d0:TE0) (h0:Rep M (ai d0) c0) (d1:Bs) (r:Sum (Int×Bs) TH0) (hF:rec_syntax_cond d0 d1=some r),OkX Tryz.prog M 98 [.agg c0.toArray,S d1] 78 r (λr=>λM' v=>∃ (c0:Lv),v=.agg c0.toArray∧Rep M' (aH r) c0)) (M:Mem) (hG:GL M) (c0:Lv) (d0:TE0) (h0:Rep M (ai d0) c0) (d1:Bs) (r:Sum (Int×Bs) TH0) (hF:jL n rec_syntax_cond d0 d1=some r):OkX Tryz.prog M 98 [.agg c0.toArray,S d1] 78 r (λr=>λM' v=>∃ (c0:Lv),v=.agg c0.toArray∧Rep M' (aH r) c0):=by
 unfold jL at hF
 intro M1 hM0 w0 H w p0
 replace hG:=GL.mono hM0 hG
 replace h0:=Rep.mono hM0 _ _ h0
 obtain⟨Z1,P1,Z2,P2,rfl,B1,B2⟩:=TE0.opn h0
 refine Re 110 Tryz.func98 rfl λa0 f0=>RR (Y5 (cs:=(aTE0 d0 Z1 P1 Z2 P2)) (T:=26) f0 p0 λQ1 V1 W1 J1 R1 N1 _ f=>?_)
 have R2:=aU R1
 refine Y4 f N1 (.cells #[S [],iB 0,iB 0,S [],iL 0,S [],S [],Sn,iB 0,S [],iL 0,S [],S [],Sn,Sn] 61 (0,0)) λQ2 W2 N2 _ f=>eT (RR (Z f (XK N2 R2 0) λ_ f=>Y f 1 λ_ f=>aE (k:=5) (c:=5) f N2 (.cells #[S [69,113,117,97,108,115],S [65,110,100],S [79,114],S [78,111,116],S [67,111,110,100,105,116,105,111,110]] 9 (0,0)) kr (λ_=>by kernel_rfl) λQ3 W3 N3 _ f=>?_))
 obtain⟨Z3,P3,V2,H1,J2,N4,B3⟩:=N3.litS (f:=Dat.str) 5 bH (dD ([[69,113,117,97,108,115],[65,110,100],[79,114],[78,111,116],[67,111,110,100,105,116,105,111,110]]:List Bs))
 have f:=f.st 13 (H1)
 obtain⟨X1,l1,F1⟩:=bS hF
 rcases X1 with X2|X3
 ·refine aN f N4 (cd n _ hG.mo _ d0 h0.mo d1 Z3 P3 ([[69,113,117,97,108,115],[65,110,100],[79,114],[78,111,116],[67,111,110,100,105,116,105,111,110]]:List Bs) B3 (.inl X2) l1) kr (λ_=>by kernel_rfl) λV3 W4 J3 N5=>cj (aV f ?_)
  cases sI F1
  exact⟨V3,mL,(N5.dropN 1),rfl⟩
 refine Y8 f N4 (OkX.ok (cd n _ hG.mo _ d0 h0.mo d1 Z3 P3 ([[69,113,117,97,108,115],[65,110,100],[79,114],[78,111,116],[67,111,110,100,105,116,105,111,110]]:List Bs) B3 (.inr X3) l1)) λ_ V4 W5 J4 N6 ef _ f=>?_
 obtain⟨C1,dW,C2,ie,rfl,D1,eS,D2,hZ⟩:=ef
 obtain⟨Z4,P4,Z5,P5,rfl,B4,B5⟩:=TE0.opn D1
 obtain rfl:ie=[S X3.2]:=D2
 refine eT (RR (Y f 1 λ_ f=>Y7 f N6 (fu R2) 5 rfl λ_ f=>Y f 3 λ_ f=>?_))
 rcases cE F1 with⟨B6,F2⟩|⟨B6,F36⟩
 ·have f:=f.st 18 (cB B6)
  refine Y9 f N6 (bA _ (120:Int) d1) λW6 N7 _ f=>eT (ah (cu 0 [(0,true),(1,true),(2,true),(3,true),(4,true),(5,true),(6,true),(7,true),(8,false),(9,true),(10,false)] N7 (Y0 default f 1 λ_ f=>bG f kr kr rfl rfl (λ_ pq=>XK pq (fu R2) 5) λ_ f=>?_)))
  obtain⟨X4,l2,F3⟩:=bS F2
  obtain⟨C3,lQ,jC,D3,R3⟩:=Sli.aM V4 B2 l2
  obtain rfl:lQ=[S X4]:=D3
  refine bG f kr kr rfl rfl (λ_ pq=>XI jC l2) λ_ f=>bG f kr kr rfl rfl (λ_ pq=>XK pq R3 0) λ_ f=>Y0 default f 1 λ_ f=>bG f kr kr rfl rfl (λ_ pq=>XK pq (fu R2) 4) λ_ f=>?_
  obtain⟨X5,l3,F4⟩:=bS F3
  obtain⟨C4,rJ,ly,D4,R4⟩:=Sli.aM V4 B1 l3
  obtain⟨Z6,P6,Z7,P7,rfl,B7,B8⟩:=TE0.opn D4
  refine bG f kr kr rfl rfl (λ_ pq=>XI ly l3) λ_ f=>bG f kr kr rfl rfl (λ_ pq=>XK pq R4 0) λ_ f=>bI λW7 N8=>Y4 f N8 (.cells #[iB 0,bO false,iL 0,S [],Sn,Sn] 26 (0,0)) λQ4 W8 N9 _ f=>ag rfl (bL 1 mL N9 (Y0 default f 1 λ_ f=>bI λW9 N10=>Wu f N10 0 0 (lTE0 X5 Z6 P6 Z7 P7) λW10 N11 _ f=>ag rfl (bL 1 mL N11 (dx rfl λW11 N12=>az (RR (Y f 2 λ_ f=>?_))))))
  obtain⟨X6,l4,F5⟩:=bS F4
  refine Y9 f N12 (aR n _ hG.mo d1 X4 X6 l4) λW12 N13 _ f=>Ye f 1 λ_ f=>ah (RR (Y f 1 λ_ f=>Z f (Y11 rfl (l:=X4) (m:=[67,111,110,100,105,116,105,111,110])) λ_ f=>eT (RcF f F5 (λB9 F6=>?_) λB9 F10=>?_)))
  ·refine RR (Z f (XO N13 0) λ_ f=>?_)
   obtain⟨X7,l5,F7⟩:=bS F6
   refine Y9 f N13 (gw n _ hG.mo _ X5 D4.mo X7 l5) λW13 N14 _ f=>Y f 1 λ_ f=>?_
   rcases cE F7 with⟨B10,F8⟩|⟨B10,F9⟩
   ·have f:=f.st 35 (cB B10)
    refine Y9 f N14 (bA _ (120:Int) X6) λW14 N15 _ f=>eT (RR (Y f 1 λ_ f=>Z f (XO N15 0) λ_ f=>Y f 1 λ_ f=>Wu f N15 1 0 [S X5.aa,iB 4,iB 0,S [],iL 0,S [],S [],Sn,iB 0,S [],iL 0,S [],S [],Sn,Sn] λW15 N16 _ f=>Er (bl (bM f rfl (Rv.oN [S X5.aa,iB 4,iB 0,S [],iL 0,S [],S [],Sn,iB 0,S [],iL 0,S [],S [],Sn,Sn] f N16 1 0) ?_))))
    cases sI F8
    exact⟨_,rfl,_,mL,(N16.dropN 2).kr,⟨_,rfl,(TH0.shutx Sli.nil Sli.nil Sli.nil)⟩⟩
   have f:=f.st 35 (cB B10)
   refine aN f N14 (bz _ (120:Int) X6) kr (λ_=>by kernel_rfl) λV5 W16 J5 N17=>cj (cj (aV f ?_))
   cases sI F9
   exact⟨V5,mL,(N17.dropN 2),rfl⟩
  refine St (RR (pr S (λx:Int×Int=>Value.agg #[iL x.1,iL x.2]) f N13 kr kr rfl rfl rfl λzz1 W17 N18 _ f=>Y f 1 λ_ f=>gC (ek:=S) (ev:=(λx:Int×Int=>Value.agg #[iL x.1,iL x.2])) (m:=([]:List (Bs× (Int×Int)))) (k:=[69,113,117,97,108,115]) (v:=((2:Int),(2:Int))) (kt:=9) (et:=164) f N18 kr kr rfl (.inr rfl) kr kr kr kr (strKey kr) λW18 N19 _ f=>Y f 1 λ_ f=>gC (ek:=S) (ev:=(λx:Int×Int=>Value.agg #[iL x.1,iL x.2])) (m:=bJ ([]:List (Bs× (Int×Int))) [69,113,117,97,108,115] ((2:Int),(2:Int))) (k:=[65,110,100]) (v:=((1:Int),(4:Int))) (kt:=9) (et:=164) f N19 kr kr rfl (.inr rfl) kr kr kr kr (strKey kr) λW19 N20 _ f=>Y f 1 λ_ f=>gC (ek:=S) (ev:=(λx:Int×Int=>Value.agg #[iL x.1,iL x.2])) (m:=bJ (bJ ([]:List (Bs× (Int×Int))) [69,113,117,97,108,115] ((2:Int),(2:Int))) [65,110,100] ((1:Int),(4:Int))) (k:=[79,114]) (v:=((1:Int),(4:Int))) (kt:=9) (et:=164) f N20 kr kr rfl (.inr rfl) kr kr kr kr (strKey kr) λW20 N21 _ f=>Y f 1 λ_ f=>gC (ek:=S) (ev:=(λx:Int×Int=>Value.agg #[iL x.1,iL x.2])) (m:=bJ (bJ (bJ ([]:List (Bs× (Int×Int))) [69,113,117,97,108,115] ((2:Int),(2:Int))) [65,110,100] ((1:Int),(4:Int))) [79,114] ((1:Int),(4:Int))) (k:=[78,111,116]) (v:=((1:Int),(1:Int))) (kt:=9) (et:=164) f N21 kr kr rfl (.inr rfl) kr kr kr kr (strKey kr) λW21 N22 _ f=>Ye f 2 λ_ f=>ah ?_))
  obtain⟨eF,cL,F11⟩:=bS F10
  refine aW (λa_63 W26=>∃G1,eF=.nx G1∧∃V9,V4.le V9∧Frm 110 (kpL [1,4,5,6] f.fr) a_63∧Hp w0 V9 (N22.en) W26) ?_ ?_
  ·refine ay (Y f 1 λ_ f=>Z f (XO N22 1) λ_ f=>Y f 2 λ_ f=>?_)
   rcases cE cL with⟨B11,F12⟩|⟨B11,F19⟩
   ·have f:=f.st 50 (cB B11)
    refine Y f 1 λ_ f=>Z f (XO N22 1) λ_ f=>Y f 3 λ_ f=>Z (v:=.agg #[iL ((ew (bJ (bJ (bJ (bJ ([]:List (Bs× (Int×Int))) [69,113,117,97,108,115] ((2:Int),(2:Int))) [65,110,100] ((1:Int),(4:Int))) [79,114] ((1:Int),(4:Int))) [78,111,116] ((1:Int),(1:Int))) X4).getD ((0:Int),(0:Int))).1,iL ((ew (bJ (bJ (bJ (bJ ([]:List (Bs× (Int×Int))) [69,113,117,97,108,115] ((2:Int),(2:Int))) [65,110,100] ((1:Int),(4:Int))) [79,114] ((1:Int),(4:Int))) [78,111,116] ((1:Int),(1:Int))) X4).getD ((0:Int),(0:Int))).2]) f (oe (ek:=S) (ev:=(λx:Int×Int=>Value.agg #[iL x.1,iL x.2])) (m:=bJ (bJ (bJ (bJ ([]:List (Bs× (Int×Int))) [69,113,117,97,108,115] ((2:Int),(2:Int))) [65,110,100] ((1:Int),(4:Int))) [79,114] ((1:Int),(4:Int))) [78,111,116] ((1:Int),(1:Int))) (k:=X4) (z:=((0:Int),(0:Int))) (kt:=9) (et:=164) rfl kr kr kr (strKey kr) kr (N22.ownObj 0 rfl)) λ_ f=>Y f 1 λ_ f=>Y f 3 λ_ f=>?_
    rcases cE F12 with⟨B12,F13⟩|⟨B12,F17⟩
    ·have f:=f.st 60 (cB B12)
     refine Y f 1 λ_ f=>Z f (XO N22 1) λ_ f=>Y f 3 λ_ f=>Z (v:=.agg #[iL ((ew (bJ (bJ (bJ (bJ ([]:List (Bs× (Int×Int))) [69,113,117,97,108,115] ((2:Int),(2:Int))) [65,110,100] ((1:Int),(4:Int))) [79,114] ((1:Int),(4:Int))) [78,111,116] ((1:Int),(1:Int))) X4).getD ((0:Int),(0:Int))).1,iL ((ew (bJ (bJ (bJ (bJ ([]:List (Bs× (Int×Int))) [69,113,117,97,108,115] ((2:Int),(2:Int))) [65,110,100] ((1:Int),(4:Int))) [79,114] ((1:Int),(4:Int))) [78,111,116] ((1:Int),(1:Int))) X4).getD ((0:Int),(0:Int))).2]) f (oe (ek:=S) (ev:=(λx:Int×Int=>Value.agg #[iL x.1,iL x.2])) (m:=bJ (bJ (bJ (bJ ([]:List (Bs× (Int×Int))) [69,113,117,97,108,115] ((2:Int),(2:Int))) [65,110,100] ((1:Int),(4:Int))) [79,114] ((1:Int),(4:Int))) [78,111,116] ((1:Int),(1:Int))) (k:=X4) (z:=((0:Int),(0:Int))) (kt:=9) (et:=164) rfl kr kr kr (strKey kr) kr (N22.ownObj 0 rfl)) λ_ f=>Y f 1 λ_ f=>Y f 3 λ_ f=>?_
     rcases cE F13 with⟨B13,F14⟩|⟨B13,F15⟩
     ·have f:=f.st 69 (cB B13)
      refine Y9 f N22 (bA _ (120:Int) X6) λW22 N23 _ f=>eT ?_
      exact⟨_,(sI F14).symm,_,mL,f.kp,N23.kr⟩
     have f:=f.st 69 (cB B13)
     refine aN f N22 (bz _ (120:Int) X6) kr (λ_=>by kernel_rfl) λV6 W23 J6 N24=>?_
     have F16:=bw F15 F11
     refine cj (cj (aV f ?_))
     cases sI F16
     exact⟨V6,mL,(N24.dropN 3),rfl⟩
    have f:=f.st 60 (cB B12)
    refine Y f 10 λ_ f=>aN f N22 (bz _ (120:Int) X6) kr (λ_=>by kernel_rfl) λV7 W24 J7 N25=>?_
    have F18:=bw F17 F11
    refine cj (cj (aV f ?_))
    cases sI F18
    exact⟨V7,mL,(N25.dropN 3),rfl⟩
   have f:=f.st 50 (cB B11)
   refine Y f 20 λ_ f=>aN f N22 (bz _ (120:Int) X6) kr (λ_=>by kernel_rfl) λV8 W25 J8 N26=>?_
   have F20:=bw F19 F11
   refine cj (cj (aV f ?_))
   cases sI F20
   exact⟨V8,mL,(N26.dropN 3),rfl⟩
  rintro a_63 W26 ⟨G1,rfl,V9,J9,f,N27⟩
  dsimp only[Hp.en] at N27
  refine az (ah (RR (Y f 1 λ_ f=>Z f (Y11 rfl (l:=X4) (m:=[69,113,117,97,108,115])) λ_ f=>eT (RcF f F11 (λB14 F21=>?_) λB14 F25=>?_))))
  ·refine RR (Y f 1 λ_ f=>Z f (XO N27 1) λ_ f=>Y f 1 λ_ f=>?_)
   obtain⟨X8,l6,F22⟩:=bS F21
   rcases X8 with X9|X10
   ·refine Cx f N27 (nq n _ hG.mo Z6 P6 X5.ac B7.mo (0:Int) X6 (.inl X9) l6) λV10 W27 J10 N28=>cj (cj (aV f ?_))
    cases sI F22
    exact⟨V10,mL,(N28.dropN 3),rfl⟩
   refine Ch f N27 (OkXH.ok (nq n _ hG.mo Z6 P6 X5.ac B7.mo (0:Int) X6 (.inr X10) l6)) λ_ V11 mG W28 J11 N29 iK _ f=>?_
   obtain⟨Z8,P8,L1,rfl,rfl,D5⟩:=iK
   refine Ye f 1 λ_ f=>ah (po 7 N29 kr kr λW29 N30=>cY (v:=sL Z8 X10 P8) f kr kr rfl rfl kr λ_ f=>?_)
   obtain⟨X11,l7,F23⟩:=bS F22
   obtain⟨Q5,P9,H2,mJ⟩:=N30.rowAddr 0 rfl (bn l7)
   refine cY f kr kr rfl rfl (XIo H2 l7) λ_ f=>?_
   obtain⟨c_5,-,D6,R5⟩:=ae.get (0:Int).toNat (dv bT) D5 (ig l7)
   obtain⟨Z9,P10,rfl,B15⟩:=TG0.opn D6
   refine cY f kr kr rfl rfl (XR N30 0 H2 R5 0) λ_ f=>cY (v:=sL Z8 X10 P8) f kr kr rfl rfl kr λ_ f=>?_
   obtain⟨X12,l8,F24⟩:=bS F23
   obtain⟨Q6,P11,H3,rW⟩:=N30.rowAddr 0 rfl (bn l8)
   refine cY f kr kr rfl rfl (XIo H3 l8) λ_ f=>?_
   obtain⟨c_6,-,D7,R6⟩:=ae.get (1:Int).toNat (dv bT) D5 (ig l8)
   obtain⟨Z10,P12,rfl,B16⟩:=TG0.opn D7
   refine cY f kr kr rfl rfl (XR N30 0 H3 R6 0) λ_ f=>cY (v:=.agg #[S [],iB 0,iB X11.ab,S X11.aa,iL X11.ak,S X11.av,S X11.aF,sL Z9 X11.fL P10,iB X12.ab,S X12.aa,iL X12.ak,S X12.av,S X12.aF,sL Z10 X12.fL P12,Sn]) f kr kr rfl rfl kr λ_ f=>qi rfl (Wu f N30 3 0 [S [],iB 0,iB X11.ab,S X11.aa,iL X11.ak,S X11.av,S X11.aF,sL Z9 X11.fL P10,iB X12.ab,S X12.aa,iL X12.ak,S X12.av,S X12.aF,sL Z10 X12.fL P12,Sn] λW30 N31 _ f=>Er (bl (bM f rfl (Rv.oN [S [],iB 0,iB X11.ab,S X11.aa,iL X11.ak,S X11.av,S X11.aF,sL Z9 X11.fL P10,iB X12.ab,S X12.aa,iL X12.ak,S X12.av,S X12.aF,sL Z10 X12.fL P12,Sn] f N31 3 0) ?_)))
   cases sI F24
   exact⟨_,rfl,_,mL,(N31.dropN 4).kr,⟨_,rfl,(TH0.shutx B15 B16 Sli.nil)⟩⟩
  refine St (RR (pr S (Value.int .i8) f N27 kr kr rfl rfl rfl λzz2 W31 N32 _ f=>gC (ek:=S) (ev:=(Value.int .i8)) (m:=([]:List (Bs×Int))) (k:=[65,110,100]) (v:=(1:Int)) (kt:=9) (et:=22) f N32 kr kr rfl (.inr rfl) kr kr kr kr (strKey kr) λW32 N33 _ f=>gC (ek:=S) (ev:=(Value.int .i8)) (m:=bJ ([]:List (Bs×Int)) [65,110,100] (1:Int)) (k:=[79,114]) (v:=(2:Int)) (kt:=9) (et:=22) f N33 kr kr rfl (.inr rfl) kr kr kr kr (strKey kr) λW33 N34 _ f=>gC (ek:=S) (ev:=(Value.int .i8)) (m:=bJ (bJ ([]:List (Bs×Int)) [65,110,100] (1:Int)) [79,114] (2:Int)) (k:=[78,111,116]) (v:=(3:Int)) (kt:=9) (et:=22) f N34 kr kr rfl (.inr rfl) kr kr kr kr (strKey kr) λW34 N35 _ f=>Y f 2 λ_ f=>Z (v:=iB ((ew (bJ (bJ (bJ ([]:List (Bs×Int)) [65,110,100] (1:Int)) [79,114] (2:Int)) [78,111,116] (3:Int)) X4).getD (0:Int))) f (oe (ek:=S) (ev:=(Value.int .i8)) (m:=bJ (bJ (bJ ([]:List (Bs×Int)) [65,110,100] (1:Int)) [79,114] (2:Int)) [78,111,116] (3:Int)) (k:=X4) (z:=(0:Int)) (kt:=9) (et:=22) rfl kr kr kr (strKey kr) kr (N35.ownObj 0 rfl)) λ_ f=>Y f 1 λ_ f=>Wt f N35 3 1 (iB ((ew (bJ (bJ (bJ ([]:List (Bs×Int)) [65,110,100] (1:Int)) [79,114] (2:Int)) [78,111,116] (3:Int)) X4).getD (0:Int))) λW35 N36 _ f=>eT (ah (RR (Y f 1 λ_ f=>Z f (XO N36 2) λ_ f=>Ye f 2 λ_ f=>wp_block ?_)))))
  obtain⟨Z11,P13,H4,N37⟩:=N36.nilC 3 14 61 15 (TH0)
  have D8:ae V9 (([]:List TH0).map aH) []:=rfl
  obtain⟨Q7,ce,F26⟩:=bS F25
  refine wp_mono (Q:=λe a w=>(∃G3,e=.panic (flawE 78 G3)∧Q7=.inl G3∧∃V18,V9.le V18∧Frm 110 [] a∧Hp w0 V18 (H) w)∨(e=.exit 0∧(∃G4,Q7=.inr G4∧∃V19,V9.le V19∧∃Z24 P26 L6,ae V19 (G4.map aH) L6∧Frm 110 [(4,pP Q2)] a∧Hp w0 V19 ((rO 61 15 Z24 G4 P26 L6)::setE (N37.en.drop 1) 3 14 [sL Z24 G4 P26]) w))) (aZ (σ:=(Int×List TH0)×Oa×Nat×Lv) (λx=>match x with|(I1,K1,Z12,P14,L2)=>(((93,iL K1.1)::kpL [1,4,91,92] f.fr),((rO 61 15 Z12 K1.2 P14 L2)::setE (N37.en.drop 1) 3 14 [sL Z12 K1.2 P14]),λMM=>au (gv n rec_syntax_cond X5 X6) I1 K1=some Q7∧ae MM (K1.2.map aH) L2)) (n,((0:Int),([]:List TH0)),Z11,P13,[]) (f.kp) N37.kr ⟨ce,D8⟩ ?_) ?_
  ·rintro⟨I1,K1,Z12,P14,L2⟩ V12 _ W36 J12 gL f N38
   obtain⟨ci,D9⟩:=gL
   dsimp only[Hp.en] at N38
   obtain⟨I2,lT,rfl,bg,T1⟩:=aK ci
   unfold gv at bg
   refine RR (Ye f 1 λ_ f=>ah (RcF f bg (λB17 F27=>?_) λB17 F35=>?_))
   ·refine St (ah (wp_block (RR (Y f 1 λ_ f=>?_))))
    obtain⟨X13,l9,F28⟩:=bS F27
    obtain⟨C5,c_7,qm,D10,R7⟩:=N38.at_ B7 l9
    obtain⟨Z13,P15,Z14,P16,rfl,B18,B19⟩:=TE0.opn D10
    refine Z f (XI qm l9) λ_ f=>Z f (XK N38 R7 0) λ_ f=>Y4 f N38 (.cells #[iB 0,bO false,iL 0,S [],Sn,Sn] 26 (0,0)) λQ8 W37 N39 _ f=>Y f 1 λ_ f=>Wu f N39 0 0 (lTE0 X13 Z13 P15 Z14 P16) λW38 N40 _ f=>eT ?_
    obtain⟨lb,iJ,F29⟩:=bS F28
    refine aW (λa_119 W54=>∃G2,lb=.nx G2∧∃V17,V12.le V17∧∃Z23 P25 L5,ae V17 (G2.map aH) L5∧Frm 110 (kpL [1,4,91,92,93] f.fr) a_119∧Hp w0 V17 ((rO 61 15 Z23 G2 P25 L5)::setE (selE [0,2,3,4,5] 6 N40.en) 4 14 [sL Z23 G2 P25]) W54) ?_ ?_
    ·have N51:=N40.pl [5,5,5,5,4,5]
     obtain⟨X14,l10,F30⟩:=bS iJ
     obtain⟨X15,l11,F31⟩:=bS F30
     obtain⟨O1,F32⟩:=nS F31
     refine dG [9,10] 1 N51 (.quiet 0 (.quiet 1 (.quiet 2 (.quiet 3 (.quiet 4 (.quiet 5 (.alt 6 (.alt 7 (.alt 8 .done .none) .none) .none))))))) (Y1 (v:=Pa (⟨Q2,14,none⟩)) rfl f rfl rfl (λ_ _=>by kernel_rfl) λ_ f=>Y1 rfl f rfl rfl (λ_ pq=>XO pq 4) λ_ f=>Y1 rfl f rfl rfl (λ_ pq=>XO pq 0) λ_ f=>Y1 (v:=S X6) rfl f rfl rfl (λ_ _=>by kernel_rfl) λ_ f=>Y1 (v:=iL K1.1) rfl f rfl rfl (λ_ _=>by kernel_rfl) λ_ f=>oD (v:=S X14) rfl f kr kr rfl rfl (λ_=>by kernel_rfl) (gA n _ hG.mo X6 K1.1 X14 l10) λ_ f=>ao rfl (λW45 N53=>?_) ?_)
     ·rcases X15 with X20|X21
      ·refine aN f N53 (hrec_syntax_cond _ hG.mo _ X13 D10.mo X14 (.inl X20) l11) kr (λ_=>by kernel_rfl) λV15 W46 J15 N54=>pm f λ_ f=>?_
       have F33:=bw F32 F29
       refine cj (oP (cj (cj ?_)))
       cases sI F33
       exact .inl ⟨_,rfl,(sI T1).symm,_,mL,f.kp,(N54.dropN 6).kr⟩
      refine Y8 f N53 (OkX.ok (hrec_syntax_cond _ hG.mo _ X13 D10.mo X14 (.inr X21) l11)) λ_ V16 W47 J16 N55 nt _ f=>?_
      obtain⟨c_9,rfl,D13⟩:=nt
      obtain⟨Z19,P21,Z20,P22,Z21,P23,rfl,B23,B24,B25⟩:=TH0.opn D13
      refine ag rfl (ap 1 J16 N55 (ao rfl (λW48 N56=>?_) ?_))
      ·refine aE (k:=1) (c:=1) f N56 (.cells (aTH0 X21 Z19 P21 Z20 P22 Z21 P23) 61 (0,0)) kr (λ_=>by kernel_rfl) λQ10 W49 N57 _ f=>ag rfl (ap 2 J16 N57 (ao rfl (λW50 N58=>?_) ?_))
       ·refine dM X21 0 f (N58.toRow 1 61 15 Z12 P14 D9.mo) D9.mo (TH0.shutx B23 B24 B25) O1 λZ22 P24 L4 W51 N59 D14 _ f=>ag rfl (ap 1 J16 N59 (dp λW52 N60=>Y f 1 λ_ f=>Wt f N60 5 14 (sL Z22 (K1.2++[X21]) P24) λW53 N61 _ f=>ag rfl (jD (az ?_))))
        exact⟨_,(sI F32).symm,_,J16,Z22,P24,L4,D14,f.kp,N61.kr⟩
       exact al
      exact al
     exact al
    rintro a_119 W54 ⟨G2,rfl,V17,J17,Z23,P25,L5,D15,f,N62⟩
    dsimp only[Hp.en] at N62
    refine ec (az (ay ?_))
    obtain⟨O2,F34⟩:=nS F29
    refine Y f 1 λ_ f=>?_
    have f:=f.st 108 (iW O2)
    refine Y f 1 λ_ f=>ag rfl ?_
    have N70:=N62.pl [5,5,5,5,4,5]
    refine az ?_
    cases sI F34
    exact⟨⟨_,_,Z23,P25,L5⟩,Nat.lt_succ_self _,_,mL,⟨T1,D15⟩,f.kp,(N70.dropN 1).kr⟩
   refine wp_exit (dJ (dJ ?_))
   cases sI F35
   exact .inr ⟨rfl,_,(sI T1).symm,_,J12,Z12,P14,L2,D9,f.kp,N38.kr⟩
  rintro _ _ W57 (⟨G3,rfl,rfl,V18,J18,f,N63⟩|⟨rfl,G4,rfl,V19,J19,Z24,P26,L6,D16,f,N64⟩)
  ·refine oP (cj (aV f ?_))
   cases sI F26
   exact⟨V18,mL,N63,rfl⟩
  refine jV (az (RR (Z f (XO N64 4) λ_ f=>?_)))
  obtain⟨Z25,P27,V20,H5,J20,N71,B26⟩:=N64.rowSliK (f:=aH) (xs:=G4) 0 61 Z24 P26 dH D16
  have f:=Frm.set f 109 (v:=.agg #[S [],.int .i8 ((ew (bJ (bJ (bJ ([]:List ((List UInt8)×Int)) [65,110,100] (1:Int)) [79,114] (2:Int)) [78,111,116] (3:Int)) X4).getD (0:Int)),.int .i8 0,S [],.int .i64 0,S [],S [],.slice none 0 0,.int .i8 0,S [],.int .i64 0,S [],S [],.slice none 0 0,.slice Z24 G4.length P26]) (v':=.agg #[S [],.int .i8 ((ew (bJ (bJ (bJ ([]:List ((List UInt8)×Int)) [65,110,100] (1:Int)) [79,114] (2:Int)) [78,111,116] (3:Int)) X4).getD (0:Int)),.int .i8 0,S [],.int .i64 0,S [],S [],.slice none 0 0,.int .i8 0,S [],.int .i64 0,S [],S [],.slice none 0 0,.slice Z25 G4.length P27]) (by kernel_rfl) (by rw[H5])
  try simp only[sL] at H5 N71
  rw[H5] at N71
  refine Wu f N71 3 0 [S [],iB ((ew (bJ (bJ (bJ ([]:List (Bs×Int)) [65,110,100] (1:Int)) [79,114] (2:Int)) [78,111,116] (3:Int)) X4).getD (0:Int)),iB 0,S [],iL 0,S [],S [],Sn,iB 0,S [],iL 0,S [],S [],Sn,sL Z25 G4 P27] λW58 N73 _ f=>Er (bM f rfl (Rv.oN [S [],iB ((ew (bJ (bJ (bJ ([]:List (Bs×Int)) [65,110,100] (1:Int)) [79,114] (2:Int)) [78,111,116] (3:Int)) X4).getD (0:Int)),iB 0,S [],iL 0,S [],S [],Sn,iB 0,S [],iL 0,S [],S [],Sn,sL Z25 G4 P27] f N73 3 0) ?_)
  cases sI F26
  exact⟨_,rfl,_,mL,(N73.dropN 4).kr,⟨_,rfl,(TH0.shutx Sli.nil Sli.nil B26)⟩⟩
 have f:=f.st 18 (cB B6)
 refine aN f N6 (bz _ (120:Int) d1) kr (λ_=>by kernel_rfl) λV21 W59 J21 N74=>cj (aV f ?_)
 cases sI F36
 exact⟨V21,mL,(N74.dropN 1),rfl⟩
def gh (n:Nat):Nat→TE0→Bs→Option (Sum (Int×Bs) TH0)
 |0=>λ_ _=>none
 |k+1=>jL n (gh n k)
def nY (n:Nat) (d0:TE0) (d1:Bs):Option (Sum (Int×Bs) TH0):=gh n n d0 d1
theorem nZ (n:Nat) (M:Mem) (hG:GL M) (c0:Lv) (d0:TE0) (h0:Rep M (ai d0) c0) (d1:Bs) (r:Sum (Int×Bs) TH0) (hF:nY n d0 d1=some r):OkX Tryz.prog M 98 [.agg c0.toArray,S d1] 78 r (λr=>λM' v=>∃ (c0:Lv),v=.agg c0.toArray∧Rep M' (aH r) c0):=by
 have key: ∀ (k:Nat) (M:Mem) (hG:GL M) (c0:Lv) (d0:TE0) (h0:Rep M (ai d0) c0) (d1:Bs) (r:Sum (Int×Bs) TH0) (hF:gh n k d0 d1=some r),OkX Tryz.prog M 98 [.agg c0.toArray,S d1] 78 r (λr=>λM' v=>∃ (c0:Lv),v=.agg c0.toArray∧Rep M' (aH r) c0):=by
  intro k
  induction k with
  |zero=>intro M hG c0 d0 h0 d1 r hF;simp[gh] at hF
  |succ k ih=>intro M hG c0 d0 h0 d1 r hF;exact qG n (gh n k) ih M hG c0 d0 h0 d1 r hF
 exact key n M hG c0 d0 h0 d1 r hF
def jh (n:Nat) (d0:Bs) (d1:TE0) (d2:Bs):Option (Sum (Int×Bs) TH0):=
 (nY n d1 d2).bind λX1=>
 (match X1 with
 |.inl X2=>some (.inl X2)
 |.inr X3=>(aT n d2 [67,111,110,100,105,116,105,111,110]).bind λX4=>
  bif(!(decide (X3.ab=4))) then
   (some (.inr (⟨d0,X3.ab,X3.fA,X3.fB,X3.fL⟩:TH0)))
  else
   some (.inl ((120:Int),X4)))
theorem cm (n:Nat) (M:Mem) (hG:GL M) (d0:Bs) (c1:Lv) (d1:TE0) (h1:Rep M (ai d1) c1) (d2:Bs) (r:Sum (Int×Bs) TH0) (hF:jh n d0 d1 d2=some r):OkX Tryz.prog M 52 [S d0,.agg c1.toArray,S d2] 78 r (λr=>λM' v=>∃ (c0:Lv),v=.agg c0.toArray∧Rep M' (aH r) c0):=by
 unfold jh at hF
 intro M1 hM0 w0 H w p0
 replace hG:=GL.mono hM0 hG
 replace h1:=Rep.mono hM0 _ _ h1
 obtain⟨Z1,P1,Z2,P2,rfl,B1,B2⟩:=TE0.opn h1
 refine Re 20 Tryz.func52 rfl λa0 f0=>RR (Y5 (cs:=(aTE0 d1 Z1 P1 Z2 P2)) (T:=26) f0 p0 λQ1 V1 W1 J1 R1 N1 _ f=>?_)
 have R2:=aU R1
 refine Y4 f N1 (.cells #[S [],iB 0,iB 0,S [],iL 0,S [],S [],Sn,iB 0,S [],iL 0,S [],S [],Sn,Sn] 61 (0,0)) λQ2 W2 N2 _ f=>eT (RR (Z f (XK N2 R2 0) λ_ f=>Y f 1 λ_ f=>?_))
 obtain⟨X1,l1,F1⟩:=bS hF
 rcases X1 with X2|X3
 ·refine aN f N2 (nZ n _ hG.mo _ d1 h1.mo d2 (.inl X2) l1) kr (λ_=>by kernel_rfl) λV2 W3 J2 N3=>cj (aV f ?_)
  cases sI F1
  exact⟨V2,mL,(N3.dropN 1),rfl⟩
 refine Y8 f N2 (OkX.ok (nZ n _ hG.mo _ d1 h1.mo d2 (.inr X3) l1)) λ_ V3 W4 J3 N4 ef _ f=>?_
 obtain⟨dW,rfl,D1⟩:=ef
 obtain⟨Z3,P3,Z4,P4,Z5,P5,rfl,B3,B4,B5⟩:=TH0.opn D1
 refine Y4 f N4 (.cells #[S [],iB 0,iB 0,S [],iL 0,S [],S [],Sn,iB 0,S [],iL 0,S [],S [],Sn,Sn] 61 (0,0)) λQ3 W5 N5 _ f=>Wu f N5 0 0 (lTH0 X3 Z3 P3 Z4 P4 Z5 P5) λW6 N6 _ f=>eT (ah (cu 0 [(0,true),(1,true),(2,true),(3,true),(4,true),(5,false)] N6 (Y0 default f 1 λ_ f=>bG f kr kr rfl rfl (λ_ pq=>XO pq 0) λ_ f=>Y0 default f 2 λ_ f=>?_)))
 obtain⟨X4,l2,F2⟩:=bS F1
 refine eR (v:=S X4) f kr kr rfl rfl (λ_=>by kernel_rfl) (aR n _ hG.mo d2 [67,111,110,100,105,116,105,111,110] X4 l2) λ_ f=>bI λW8 N8=>?_
 rcases cE F2 with⟨B6,F3⟩|⟨B6,F4⟩
 ·have f:=f.st 13 (cB B6)
  refine Y9 f N8 (bA _ (120:Int) X4) λW9 N9 _ f=>ag rfl (bL 0 mL N9 (dx rfl λW10 N10=>az (RR (Y f 2 λ_ f=>Wt f N10 0 0 (S d0) λW11 N11 _ f=>eT (RR (Z f (XO N11 0) λ_ f=>Wu f N11 1 0 [S d0,iB X3.ab,iB X3.fA.ab,S X3.fA.aa,iL X3.fA.ak,S X3.fA.av,S X3.fA.aF,sL Z3 X3.fA.fL P3,iB X3.fB.ab,S X3.fB.aa,iL X3.fB.ak,S X3.fB.av,S X3.fB.aF,sL Z4 X3.fB.fL P4,sL Z5 X3.fL P5] λW12 N12 _ f=>Er (bM f rfl (Rv.oN [S d0,iB X3.ab,iB X3.fA.ab,S X3.fA.aa,iL X3.fA.ak,S X3.fA.av,S X3.fA.aF,sL Z3 X3.fA.fL P3,iB X3.fB.ab,S X3.fB.aa,iL X3.fB.ak,S X3.fB.av,S X3.fB.aF,sL Z4 X3.fB.fL P4,sL Z5 X3.fL P5] f N12 1 0) ?_)))))))
  cases sI F3
  exact⟨_,rfl,_,mL,(N12.dropN 2).kr,⟨_,rfl,(TH0.shutx B3 B4 B5)⟩⟩
 have f:=f.st 13 (cB B6)
 refine aN f N8 (bz _ (120:Int) X4) kr (λ_=>by kernel_rfl) λV4 W13 J4 N13=>pm f λ_ f=>cj (aV f ?_)
 cases sI F4
 exact⟨V4,mL,(N13.dropN 2),rfl⟩
def dl (n:Nat) (d0:Bs) (d1:TE0) (d2:Bs) (jy:List TD0) (dt:List TH0) (jz:List TA0) (jA:List TC0):Option (Sum (Int×Bs) (List TD0×List TH0×List TA0×List TC0)):=
 (((jh n d0 d1 d2).bind λX1=>
   aL ((dt.length+1)*224≤140737488355328)<|
   (aB (dt++[(⟨([]:Bs),(0:Int),aQ,aQ,([]:List TH0)⟩:TH0)]) ((dt.length:Nat):Int)).bind λX4=>
   (match X1 with
   |.inl X6=>((some (.inl X6):Option (Sum (Int×Bs) (List TD0×List TH0×List TA0×List TC0)))).map Lp.br
   |.inr X7=>some (.nx ((dt++[(⟨([]:Bs),(0:Int),aQ,aQ,([]:List TH0)⟩:TH0)]).set ((dt.length:Nat):Int).toNat X7))):Option (Lp (List TH0) (Sum (Int×Bs) (List TD0×List TH0×List TA0×List TC0))))).bind λj=>joinF j λG1=>
 some (.inr (jy,G1,jz,jA))
set_option maxRecDepth 20000 in
theorem kX (n:Nat) (M:Mem) (hG:GL M) (d0:Bs) (c1:Lv) (d1:TE0) (h1:Rep M (ai d1) c1) (d2:Bs) (b3:Nat) (jy:List TD0) (Z1:Oa) (P1:Nat) (L1:Lv) (D1:ae M (jy.map ba) L1) (dt:List TH0) (Z2:Oa) (P2:Nat) (L2:Lv) (D2:ae M (dt.map aH) L2) (jz:List TA0) (Z3:Oa) (P3:Nat) (L3:Lv) (D3:ae M (jz.map aY) L3) (jA:List TC0) (Z4:Oa) (P4:Nat) (L4:Lv) (D4:ae M (jA.map bc) L4) (r:Sum (Int×Bs) (List TD0×List TH0×List TA0×List TC0)) (hF:dl n d0 d1 d2 jy dt jz jA=some r):OkXH Tryz.prog M [oC b3 #[sL Z1 jy P1,sL Z2 dt P2,sL Z3 jz P3,sL Z4 jA P4] 41,rO 58 10 Z1 jy P1 L1,rO 61 15 Z2 dt P2 L2,rO 66 7 Z3 jz P3 L3,rO 68 8 Z4 jA P4 L4] 51 [S d0,.agg c1.toArray,S d2,pP b3] 78 r (λr=>λM' E' v=>∃ (Z33:Oa) (P46:Nat) (L32:Lv) (Z34:Oa) (P47:Nat) (L33:Lv) (Z35:Oa) (P48:Nat) (L34:Lv) (Z36:Oa) (P49:Nat) (L35:Lv),v=.tuple #[]∧E'=[oC b3 #[sL Z33 r.1 P46,sL Z34 r.2.1 P47,sL Z35 r.2.2.1 P48,sL Z36 r.t3 P49] 41,rO 58 10 Z33 r.1 P46 L32,rO 61 15 Z34 r.2.1 P47 L33,rO 66 7 Z35 r.2.2.1 P48 L34,rO 68 8 Z36 r.t3 P49 L35]∧ae M' (r.1.map ba) L32∧ae M' (r.2.1.map aH) L33∧ae M' (r.2.2.1.map aY) L34∧ae M' (r.t3.map bc) L35):=by
 unfold dl at hF
 intro M1 hM0 w0 H w p0
 replace hG:=GL.mono hM0 hG
 replace h1:=Rep.mono hM0 _ _ h1
 replace D1:=ae.mono hM0 _ _ D1
 replace D2:=ae.mono hM0 _ _ D2
 replace D3:=ae.mono hM0 _ _ D3
 replace D4:=ae.mono hM0 _ _ D4
 obtain⟨Z5,P5,Z6,P6,rfl,B1,B2⟩:=TE0.opn h1
 refine Re 18 Tryz.func51 rfl λa0 f0=>RR (Y5 (cs:=(aTE0 d1 Z5 P5 Z6 P6)) (T:=26) f0 p0 λQ1 V1 W1 J1 R1 N1 _ f=>?_)
 have R2:=aU R1
 refine eT ?_
 obtain⟨eF,cL,F1⟩:=bS hF
 refine aW (λa_104 W152=>∃G1,eF=.nx G1∧∃V14,V1.le V14∧∃Z32 P45 L31,ae V14 (G1.map aH) L31∧Frm 18 [] a_104∧Hp w0 V14 ((rO 61 15 Z32 G1 P45 L31)::setE (selE [0,1,3,4] 5 N1.en) 0 1 [sL Z32 G1 P45]) W152) ?_ ?_
 ·have N12:=N1.pl [4,4,3,4,4]
  obtain⟨X1,l1,F2⟩:=bS cL
  obtain⟨O1,F3⟩:=nS F2
  obtain⟨X4,l2,F4⟩:=bS F3
  refine dG [] 2 N12 (.quiet 0 (.quiet 2 (.quiet 3 (.quiet 4 (.alt 1 (.quiet 6 (.alt 5 (.alt 7 (.alt 8 (.quiet 11 (.alt 9 (.alt 10 (.alt 12 .done .none) (.alt 12 (.alt 10 .done .none) .none)) (.alt 12 (.alt 9 (.alt 10 .done .none) .none) .none))) .none) .none) (.alt 7 (.alt 5 (.alt 8 (.quiet 11 (.alt 9 (.alt 10 (.alt 12 .done .none) (.alt 12 (.alt 10 .done .none) .none)) (.alt 12 (.alt 9 (.alt 10 .done .none) .none) .none))) .none) .none) .none))) (.alt 5 (.alt 1 (.quiet 6 (.alt 7 (.alt 8 (.quiet 11 (.alt 9 (.alt 10 (.alt 12 .done .none) (.alt 12 (.alt 10 .done .none) .none)) (.alt 12 (.alt 9 (.alt 10 .done .none) .none) .none))) .none) .none)) (.alt 7 (.alt 1 (.quiet 6 (.alt 8 (.quiet 11 (.alt 9 (.alt 10 (.alt 12 .done .none) (.alt 12 (.alt 10 .done .none) .none)) (.alt 12 (.alt 9 (.alt 10 .done .none) .none) .none))) .none)) .none) .none)) (.alt 7 (.alt 1 (.quiet 6 (.alt 5 (.alt 8 (.quiet 11 (.alt 9 (.alt 10 (.alt 12 .done .none) (.alt 12 (.alt 10 .done .none) .none)) (.alt 12 (.alt 9 (.alt 10 .done .none) .none) .none))) .none) .none)) (.alt 5 (.alt 1 (.quiet 6 (.alt 8 (.quiet 11 (.alt 9 (.alt 10 (.alt 12 .done .none) (.alt 12 (.alt 10 .done .none) .none)) (.alt 12 (.alt 9 (.alt 10 .done .none) .none) .none))) .none)) .none) .none)) .none))))))) (Y1 (v:=Pa (⟨b3,1,none⟩)) rfl f rfl rfl (λ_ _=>by kernel_rfl) λ_ f=>Y1 (v:=S d0) rfl f rfl rfl (λ_ _=>by kernel_rfl) λ_ f=>Y1 rfl f rfl rfl (λ_ pq=>XK pq R2 0) λ_ f=>Y1 (v:=S d2) rfl f rfl rfl (λ_ _=>by kernel_rfl) λ_ f=>ao rfl (λW8 N13=>?_) ?_)
  ·refine Z f (XO N13 0) λ_ f=>ag rfl (ap 2 mL N13 (Y1 (v:=iL ((dt.length:Nat):Int)) rfl f rfl rfl (λ_ _=>by kernel_rfl) λ_ f=>ao rfl (λW9 N14=>?_) ?_))
   ·rcases X1 with X6|X7
    ·refine aN f N14 (cm n _ hG.mo d0 _ d1 h1.mo d2 (.inl X6) l1) kr (λ_=>by kernel_rfl) λV4 W10 J4 N15=>pm f λ_ f=>?_
     have F5:=bw F4 F1
     refine cj (aV f ?_)
     cases sI F5
     exact⟨V4,mL,(N15.dropN 5),rfl⟩
    refine Y8 f N14 (OkX.ok (cm n _ hG.mo d0 _ d1 h1.mo d2 (.inr X7) l1)) λ_ V5 W11 J5 N16 iK _ f=>?_
    obtain⟨ie,rfl,D8⟩:=iK
    obtain⟨Z11,P12,Z12,P13,Z13,P14,rfl,B6,B7,B8⟩:=TH0.opn D8
    refine ag rfl (ap 2 J5 N16 (ao rfl (λW12 N17=>?_) ?_))
    ·refine aE (k:=1) (c:=1) f N17 (.cells #[S [],iB 0,iB 0,S [],iL 0,S [],S [],Sn,iB 0,S [],iL 0,S [],S [],Sn,Sn] 61 (0,0)) kr (λ_=>by kernel_rfl) λQ4 W13 N18 _ f=>ag rfl (ap 3 J5 N18 (ao rfl (λW14 N19=>?_) ?_))
     ·refine dM (⟨([]:Bs),(0:Int),aQ,aQ,([]:List TH0)⟩:TH0) 0 f (N19.toRow 2 61 15 Z2 P2 D2.mo) D2.mo (TH0.shutx Sli.nil Sli.nil Sli.nil) O1 λZ14 P15 L7 W15 N20 D9 _ f=>ag rfl (ap 2 J5 N20 (Y1 (v:=Pa (⟨b3,1,none⟩)) rfl f rfl rfl (λ_ _=>by kernel_rfl) λ_ f=>ao rfl (λW16 N21=>?_) ?_))
      ·obtain⟨Q5,P16,H2,rW⟩:=N21.rowAddr 0 rfl (bn l2)
       refine Z f (XIo H2 l2) λ_ f=>ag rfl (ap 2 J5 N21 (ao rfl (λW17 N22=>?_) ?_))
       ·refine Wr f N22 H2 D8.mo dH l2 D9 λL8 W18 N23 D10 hl_2 _ f=>?_
        try simp only[sL] at hl_2 N23
        rw[hl_2] at N23
        have f:=f.sv 15 Z14 P15 hl_2
        refine ag rfl (ap 2 J5 N23 (ao rfl (λW19 N24=>?_) ?_))
        ·refine Wt f N24 1 1 (sL Z14 ((dt++[(⟨([]:Bs),(0:Int),aQ,aQ,([]:List TH0)⟩:TH0)]).set ((dt.length:Nat):Int).toNat X7) P15) λW20 N25 _ f=>ag rfl (ap 2 J5 N25 (dy λW21 N26=>az ?_))
         exact⟨_,(sI F4).symm,_,J5,Z14,P15,L8,D10,f.kp,N26.kr⟩
        exact al
       refine ao rfl (λW22 N27=>?_) ?_
       ·refine Wt f N27 1 1 (sL Z14 (dt++[(⟨([]:Bs),(0:Int),aQ,aQ,([]:List TH0)⟩:TH0)]) P15) λW23 N28 _ f=>ag rfl (ap 2 J5 N28 (ao rfl (λW24 N29=>?_) ?_))
        ·refine Wr f N29 H2 D8.mo dH l2 D9 λL9 W25 N30 D11 hl_3 _ f=>?_
         try simp only[sL] at hl_3 N30
         rw[hl_3] at N30
         have f:=f.sv 15 Z14 P15 hl_3
         refine ag rfl (ap 2 J5 N30 (dy λW26 N31=>az ?_))
         exact⟨_,(sI F4).symm,_,J5,Z14,P15,L9,D11,f.kp,N31.kr⟩
        exact al
       exact al
      refine ao rfl (λW27 N32=>?_) ?_
      ·refine Wt f N32 1 1 (sL Z14 (dt++[(⟨([]:Bs),(0:Int),aQ,aQ,([]:List TH0)⟩:TH0)]) P15) λW28 N33 _ f=>ag rfl (ap 2 J5 N33 (ao rfl (λW29 N34=>?_) ?_))
       ·obtain⟨Q6,P17,H3,hcap_3⟩:=N34.rowAddr 0 rfl (bn l2)
        refine Z f (XIo H3 l2) λ_ f=>ag rfl (ap 2 J5 N34 (ao rfl (λW30 N35=>?_) ?_))
        ·refine Wr f N35 H3 D8.mo dH l2 D9 λL10 W31 N36 D12 hl_4 _ f=>?_
         try simp only[sL] at hl_4 N36
         rw[hl_4] at N36
         have f:=f.sv 15 Z14 P15 hl_4
         refine ag rfl (ap 2 J5 N36 (dy λW32 N37=>az ?_))
         exact⟨_,(sI F4).symm,_,J5,Z14,P15,L10,D12,f.kp,N37.kr⟩
        exact al
       exact al
      exact al
     exact al
    exact al
   refine ao rfl (λW33 N38=>?_) ?_
   ·refine aE (k:=1) (c:=1) f N38 (.cells #[S [],iB 0,iB 0,S [],iL 0,S [],S [],Sn,iB 0,S [],iL 0,S [],S [],Sn,Sn] 61 (0,0)) kr (λ_=>by kernel_rfl) λQ7 W34 N39 _ f=>ag rfl (ap 3 mL N39 (ao rfl (λW35 N40=>?_) ?_))
    ·rcases X1 with X11|X12
     ·refine aN f N40 (cm n _ hG.mo d0 _ d1 h1.mo d2 (.inl X11) l1) kr (λ_=>by kernel_rfl) λV6 W36 J6 N41=>pm f λ_ f=>?_
      have F6:=bw F4 F1
      refine cj (aV f ?_)
      cases sI F6
      exact⟨V6,mL,(N41.dropN 6),rfl⟩
     refine Y8 f N40 (OkX.ok (cm n _ hG.mo d0 _ d1 h1.mo d2 (.inr X12) l1)) λ_ V7 W37 J7 N42 mi _ f=>?_
     obtain⟨lQ,rfl,D13⟩:=mi
     obtain⟨Z15,P18,Z16,P19,Z17,P20,rfl,B9,B10,B11⟩:=TH0.opn D13
     refine ag rfl (ap 3 J7 N42 (ao rfl (λW38 N43=>?_) ?_))
     ·refine dM (⟨([]:Bs),(0:Int),aQ,aQ,([]:List TH0)⟩:TH0) 0 f (N43.toRow 2 61 15 Z2 P2 D2.mo) D2.mo (TH0.shutx Sli.nil Sli.nil Sli.nil) O1 λZ18 P21 L11 W39 N44 D14 _ f=>ag rfl (ap 2 J7 N44 (Y1 (v:=Pa (⟨b3,1,none⟩)) rfl f rfl rfl (λ_ _=>by kernel_rfl) λ_ f=>ao rfl (λW40 N45=>?_) ?_))
      ·obtain⟨Q8,P22,H4,hcap_4⟩:=N45.rowAddr 0 rfl (bn l2)
       refine Z f (XIo H4 l2) λ_ f=>ag rfl (ap 2 J7 N45 (ao rfl (λW41 N46=>?_) ?_))
       ·refine Wr f N46 H4 D13.mo dH l2 D14 λL12 W42 N47 D15 hl_5 _ f=>?_
        try simp only[sL] at hl_5 N47
        rw[hl_5] at N47
        have f:=f.sv 15 Z18 P21 hl_5
        refine ag rfl (ap 2 J7 N47 (ao rfl (λW43 N48=>?_) ?_))
        ·refine Wt f N48 1 1 (sL Z18 ((dt++[(⟨([]:Bs),(0:Int),aQ,aQ,([]:List TH0)⟩:TH0)]).set ((dt.length:Nat):Int).toNat X12) P21) λW44 N49 _ f=>ag rfl (ap 2 J7 N49 (dy λW45 N50=>az ?_))
         exact⟨_,(sI F4).symm,_,J7,Z18,P21,L12,D15,f.kp,N50.kr⟩
        exact al
       refine ao rfl (λW46 N51=>?_) ?_
       ·refine Wt f N51 1 1 (sL Z18 (dt++[(⟨([]:Bs),(0:Int),aQ,aQ,([]:List TH0)⟩:TH0)]) P21) λW47 N52 _ f=>ag rfl (ap 2 J7 N52 (ao rfl (λW48 N53=>?_) ?_))
        ·refine Wr f N53 H4 D13.mo dH l2 D14 λL13 W49 N54 D16 hl_6 _ f=>?_
         try simp only[sL] at hl_6 N54
         rw[hl_6] at N54
         have f:=f.sv 15 Z18 P21 hl_6
         refine ag rfl (ap 2 J7 N54 (dy λW50 N55=>az ?_))
         exact⟨_,(sI F4).symm,_,J7,Z18,P21,L13,D16,f.kp,N55.kr⟩
        exact al
       exact al
      refine ao rfl (λW51 N56=>?_) ?_
      ·refine Wt f N56 1 1 (sL Z18 (dt++[(⟨([]:Bs),(0:Int),aQ,aQ,([]:List TH0)⟩:TH0)]) P21) λW52 N57 _ f=>ag rfl (ap 2 J7 N57 (ao rfl (λW53 N58=>?_) ?_))
       ·obtain⟨Q9,P23,H5,hcap_5⟩:=N58.rowAddr 0 rfl (bn l2)
        refine Z f (XIo H5 l2) λ_ f=>ag rfl (ap 2 J7 N58 (ao rfl (λW54 N59=>?_) ?_))
        ·refine Wr f N59 H5 D13.mo dH l2 D14 λL14 W55 N60 D17 rX _ f=>?_
         try simp only[sL] at rX N60
         rw[rX] at N60
         have f:=f.sv 15 Z18 P21 rX
         refine ag rfl (ap 2 J7 N60 (dy λW56 N61=>az ?_))
         exact⟨_,(sI F4).symm,_,J7,Z18,P21,L14,D17,f.kp,N61.kr⟩
        exact al
       exact al
      exact al
     exact al
    exact al
   exact al
  refine ao rfl (λW57 N62=>?_) ?_
  ·rcases X1 with X16|X17
   ·refine aN f N62 (cm n _ hG.mo d0 _ d1 h1.mo d2 (.inl X16) l1) kr (λ_=>by kernel_rfl) λV8 W58 J8 N63=>pm f λ_ f=>?_
    have F7:=bw F4 F1
    refine cj (aV f ?_)
    cases sI F7
    exact⟨V8,mL,(N63.dropN 5),rfl⟩
   refine Y8 f N62 (OkX.ok (cm n _ hG.mo d0 _ d1 h1.mo d2 (.inr X17) l1)) λ_ V9 W59 J9 N64 nt _ f=>?_
   obtain⟨rJ,rfl,D18⟩:=nt
   obtain⟨Z19,P24,Z20,P25,Z21,P26,rfl,B12,B13,B14⟩:=TH0.opn D18
   refine ag rfl (ap 2 J9 N64 (ao rfl (λW60 N65=>?_) ?_))
   ·refine Z f (XO N65 0) λ_ f=>ag rfl (ap 2 J9 N65 (Y1 (v:=iL ((dt.length:Nat):Int)) rfl f rfl rfl (λ_ _=>by kernel_rfl) λ_ f=>ao rfl (λW61 N66=>?_) ?_))
    ·refine aE (k:=1) (c:=1) f N66 (.cells #[S [],iB 0,iB 0,S [],iL 0,S [],S [],Sn,iB 0,S [],iL 0,S [],S [],Sn,Sn] 61 (0,0)) kr (λ_=>by kernel_rfl) λQ10 W62 N67 _ f=>ag rfl (ap 3 J9 N67 (ao rfl (λW63 N68=>?_) ?_))
     ·refine dM (⟨([]:Bs),(0:Int),aQ,aQ,([]:List TH0)⟩:TH0) 0 f (N68.toRow 2 61 15 Z2 P2 D2.mo) D2.mo (TH0.shutx Sli.nil Sli.nil Sli.nil) O1 λZ22 P27 L15 W64 N69 D19 _ f=>ag rfl (ap 2 J9 N69 (Y1 (v:=Pa (⟨b3,1,none⟩)) rfl f rfl rfl (λ_ _=>by kernel_rfl) λ_ f=>ao rfl (λW65 N70=>?_) ?_))
      ·obtain⟨Q11,P28,H6,hcap_6⟩:=N70.rowAddr 0 rfl (bn l2)
       refine Z f (XIo H6 l2) λ_ f=>ag rfl (ap 2 J9 N70 (ao rfl (λW66 N71=>?_) ?_))
       ·refine Wr f N71 H6 D18.mo dH l2 D19 λL16 W67 N72 D20 hl_8 _ f=>?_
        try simp only[sL] at hl_8 N72
        rw[hl_8] at N72
        have f:=f.sv 15 Z22 P27 hl_8
        refine ag rfl (ap 2 J9 N72 (ao rfl (λW68 N73=>?_) ?_))
        ·refine Wt f N73 1 1 (sL Z22 ((dt++[(⟨([]:Bs),(0:Int),aQ,aQ,([]:List TH0)⟩:TH0)]).set ((dt.length:Nat):Int).toNat X17) P27) λW69 N74 _ f=>ag rfl (ap 2 J9 N74 (dy λW70 N75=>az ?_))
         exact⟨_,(sI F4).symm,_,J9,Z22,P27,L16,D20,f.kp,N75.kr⟩
        exact al
       refine ao rfl (λW71 N76=>?_) ?_
       ·refine Wt f N76 1 1 (sL Z22 (dt++[(⟨([]:Bs),(0:Int),aQ,aQ,([]:List TH0)⟩:TH0)]) P27) λW72 N77 _ f=>ag rfl (ap 2 J9 N77 (ao rfl (λW73 N78=>?_) ?_))
        ·refine Wr f N78 H6 D18.mo dH l2 D19 λL17 W74 N79 D21 hl_9 _ f=>?_
         try simp only[sL] at hl_9 N79
         rw[hl_9] at N79
         have f:=f.sv 15 Z22 P27 hl_9
         refine ag rfl (ap 2 J9 N79 (dy λW75 N80=>az ?_))
         exact⟨_,(sI F4).symm,_,J9,Z22,P27,L17,D21,f.kp,N80.kr⟩
        exact al
       exact al
      refine ao rfl (λW76 N81=>?_) ?_
      ·refine Wt f N81 1 1 (sL Z22 (dt++[(⟨([]:Bs),(0:Int),aQ,aQ,([]:List TH0)⟩:TH0)]) P27) λW77 N82 _ f=>ag rfl (ap 2 J9 N82 (ao rfl (λW78 N83=>?_) ?_))
       ·obtain⟨Q12,P29,H7,hcap_7⟩:=N83.rowAddr 0 rfl (bn l2)
        refine Z f (XIo H7 l2) λ_ f=>ag rfl (ap 2 J9 N83 (ao rfl (λW79 N84=>?_) ?_))
        ·refine Wr f N84 H7 D18.mo dH l2 D19 λL18 W80 N85 D22 qR _ f=>?_
         try simp only[sL] at qR N85
         rw[qR] at N85
         have f:=f.sv 15 Z22 P27 qR
         refine ag rfl (ap 2 J9 N85 (dy λW81 N86=>az ?_))
         exact⟨_,(sI F4).symm,_,J9,Z22,P27,L18,D22,f.kp,N86.kr⟩
        exact al
       exact al
      exact al
     exact al
    exact al
   refine ao rfl (λW82 N87=>?_) ?_
   ·refine aE (k:=1) (c:=1) f N87 (.cells #[S [],iB 0,iB 0,S [],iL 0,S [],S [],Sn,iB 0,S [],iL 0,S [],S [],Sn,Sn] 61 (0,0)) kr (λ_=>by kernel_rfl) λQ13 W83 N88 _ f=>ag rfl (ap 3 J9 N88 (ao rfl (λW84 N89=>?_) ?_))
    ·refine Z f (XO N89 1) λ_ f=>ag rfl (ap 3 J9 N89 (Y1 (v:=iL ((dt.length:Nat):Int)) rfl f rfl rfl (λ_ _=>by kernel_rfl) λ_ f=>ao rfl (λW85 N90=>?_) ?_))
     ·refine dM (⟨([]:Bs),(0:Int),aQ,aQ,([]:List TH0)⟩:TH0) 0 f (N90.toRow 2 61 15 Z2 P2 D2.mo) D2.mo (TH0.shutx Sli.nil Sli.nil Sli.nil) O1 λZ23 P30 L19 W86 N91 D23 _ f=>ag rfl (ap 2 J9 N91 (Y1 (v:=Pa (⟨b3,1,none⟩)) rfl f rfl rfl (λ_ _=>by kernel_rfl) λ_ f=>ao rfl (λW87 N92=>?_) ?_))
      ·obtain⟨Q14,P31,H8,hcap_8⟩:=N92.rowAddr 0 rfl (bn l2)
       refine Z f (XIo H8 l2) λ_ f=>ag rfl (ap 2 J9 N92 (ao rfl (λW88 N93=>?_) ?_))
       ·refine Wr f N93 H8 D18.mo dH l2 D23 λL20 W89 N94 D24 qS _ f=>?_
        try simp only[sL] at qS N94
        rw[qS] at N94
        have f:=f.sv 15 Z23 P30 qS
        refine ag rfl (ap 2 J9 N94 (ao rfl (λW90 N95=>?_) ?_))
        ·refine Wt f N95 1 1 (sL Z23 ((dt++[(⟨([]:Bs),(0:Int),aQ,aQ,([]:List TH0)⟩:TH0)]).set ((dt.length:Nat):Int).toNat X17) P30) λW91 N96 _ f=>ag rfl (ap 2 J9 N96 (dy λW92 N97=>az ?_))
         exact⟨_,(sI F4).symm,_,J9,Z23,P30,L20,D24,f.kp,N97.kr⟩
        exact al
       refine ao rfl (λW93 N98=>?_) ?_
       ·refine Wt f N98 1 1 (sL Z23 (dt++[(⟨([]:Bs),(0:Int),aQ,aQ,([]:List TH0)⟩:TH0)]) P30) λW94 N99 _ f=>ag rfl (ap 2 J9 N99 (ao rfl (λW95 N100=>?_) ?_))
        ·refine Wr f N100 H8 D18.mo dH l2 D23 λL21 W96 N101 D25 hl_12 _ f=>?_
         try simp only[sL] at hl_12 N101
         rw[hl_12] at N101
         have f:=f.sv 15 Z23 P30 hl_12
         refine ag rfl (ap 2 J9 N101 (dy λW97 N102=>az ?_))
         exact⟨_,(sI F4).symm,_,J9,Z23,P30,L21,D25,f.kp,N102.kr⟩
        exact al
       exact al
      refine ao rfl (λW98 N103=>?_) ?_
      ·refine Wt f N103 1 1 (sL Z23 (dt++[(⟨([]:Bs),(0:Int),aQ,aQ,([]:List TH0)⟩:TH0)]) P30) λW99 N104 _ f=>ag rfl (ap 2 J9 N104 (ao rfl (λW100 N105=>?_) ?_))
       ·obtain⟨Q15,P32,H9,hcap_9⟩:=N105.rowAddr 0 rfl (bn l2)
        refine Z f (XIo H9 l2) λ_ f=>ag rfl (ap 2 J9 N105 (ao rfl (λW101 N106=>?_) ?_))
        ·refine Wr f N106 H9 D18.mo dH l2 D23 λL22 W102 N107 D26 hl_13 _ f=>?_
         try simp only[sL] at hl_13 N107
         rw[hl_13] at N107
         have f:=f.sv 15 Z23 P30 hl_13
         refine ag rfl (ap 2 J9 N107 (dy λW103 N108=>az ?_))
         exact⟨_,(sI F4).symm,_,J9,Z23,P30,L22,D26,f.kp,N108.kr⟩
        exact al
       exact al
      exact al
     exact al
    exact al
   exact al
  refine ao rfl (λW104 N109=>?_) ?_
  ·refine aE (k:=1) (c:=1) f N109 (.cells #[S [],iB 0,iB 0,S [],iL 0,S [],S [],Sn,iB 0,S [],iL 0,S [],S [],Sn,Sn] 61 (0,0)) kr (λ_=>by kernel_rfl) λQ16 W105 N110 _ f=>ag rfl (ap 3 mL N110 (ao rfl (λW106 N111=>?_) ?_))
   ·refine Z f (XO N111 1) λ_ f=>ag rfl (ap 3 mL N111 (Y1 (v:=iL ((dt.length:Nat):Int)) rfl f rfl rfl (λ_ _=>by kernel_rfl) λ_ f=>ao rfl (λW107 N112=>?_) ?_))
    ·rcases X1 with X23|X24
     ·refine aN f N112 (cm n _ hG.mo d0 _ d1 h1.mo d2 (.inl X23) l1) kr (λ_=>by kernel_rfl) λV10 W108 J10 N113=>pm f λ_ f=>?_
      have F8:=bw F4 F1
      refine cj (aV f ?_)
      cases sI F8
      exact⟨V10,mL,(N113.dropN 6),rfl⟩
     refine Y8 f N112 (OkX.ok (cm n _ hG.mo d0 _ d1 h1.mo d2 (.inr X24) l1)) λ_ V11 W109 J11 N114 pg _ f=>?_
     obtain⟨c_5,rfl,D27⟩:=pg
     obtain⟨Z24,P33,Z25,P34,Z26,P35,rfl,B15,B16,B17⟩:=TH0.opn D27
     refine ag rfl (ap 3 J11 N114 (ao rfl (λW110 N115=>?_) ?_))
     ·refine dM (⟨([]:Bs),(0:Int),aQ,aQ,([]:List TH0)⟩:TH0) 0 f (N115.toRow 2 61 15 Z2 P2 D2.mo) D2.mo (TH0.shutx Sli.nil Sli.nil Sli.nil) O1 λZ27 P36 L23 W111 N116 D28 _ f=>ag rfl (ap 2 J11 N116 (Y1 (v:=Pa (⟨b3,1,none⟩)) rfl f rfl rfl (λ_ _=>by kernel_rfl) λ_ f=>ao rfl (λW112 N117=>?_) ?_))
      ·obtain⟨Q17,P37,H10,hcap_10⟩:=N117.rowAddr 0 rfl (bn l2)
       refine Z f (XIo H10 l2) λ_ f=>ag rfl (ap 2 J11 N117 (ao rfl (λW113 N118=>?_) ?_))
       ·refine Wr f N118 H10 D27.mo dH l2 D28 λL24 W114 N119 D29 hl_14 _ f=>?_
        try simp only[sL] at hl_14 N119
        rw[hl_14] at N119
        have f:=f.sv 15 Z27 P36 hl_14
        refine ag rfl (ap 2 J11 N119 (ao rfl (λW115 N120=>?_) ?_))
        ·refine Wt f N120 1 1 (sL Z27 ((dt++[(⟨([]:Bs),(0:Int),aQ,aQ,([]:List TH0)⟩:TH0)]).set ((dt.length:Nat):Int).toNat X24) P36) λW116 N121 _ f=>ag rfl (ap 2 J11 N121 (dy λW117 N122=>az ?_))
         exact⟨_,(sI F4).symm,_,J11,Z27,P36,L24,D29,f.kp,N122.kr⟩
        exact al
       refine ao rfl (λW118 N123=>?_) ?_
       ·refine Wt f N123 1 1 (sL Z27 (dt++[(⟨([]:Bs),(0:Int),aQ,aQ,([]:List TH0)⟩:TH0)]) P36) λW119 N124 _ f=>ag rfl (ap 2 J11 N124 (ao rfl (λW120 N125=>?_) ?_))
        ·refine Wr f N125 H10 D27.mo dH l2 D28 λL25 W121 N126 D30 hl_15 _ f=>?_
         try simp only[sL] at hl_15 N126
         rw[hl_15] at N126
         have f:=f.sv 15 Z27 P36 hl_15
         refine ag rfl (ap 2 J11 N126 (dy λW122 N127=>az ?_))
         exact⟨_,(sI F4).symm,_,J11,Z27,P36,L25,D30,f.kp,N127.kr⟩
        exact al
       exact al
      refine ao rfl (λW123 N128=>?_) ?_
      ·refine Wt f N128 1 1 (sL Z27 (dt++[(⟨([]:Bs),(0:Int),aQ,aQ,([]:List TH0)⟩:TH0)]) P36) λW124 N129 _ f=>ag rfl (ap 2 J11 N129 (ao rfl (λW125 N130=>?_) ?_))
       ·obtain⟨Q18,P38,H11,hcap_11⟩:=N130.rowAddr 0 rfl (bn l2)
        refine Z f (XIo H11 l2) λ_ f=>ag rfl (ap 2 J11 N130 (ao rfl (λW126 N131=>?_) ?_))
        ·refine Wr f N131 H11 D27.mo dH l2 D28 λL26 W127 N132 D31 hl_16 _ f=>?_
         try simp only[sL] at hl_16 N132
         rw[hl_16] at N132
         have f:=f.sv 15 Z27 P36 hl_16
         refine ag rfl (ap 2 J11 N132 (dy λW128 N133=>az ?_))
         exact⟨_,(sI F4).symm,_,J11,Z27,P36,L26,D31,f.kp,N133.kr⟩
        exact al
       exact al
      exact al
     exact al
    exact al
   refine ao rfl (λW129 N134=>?_) ?_
   ·rcases X1 with X28|X29
    ·refine aN f N134 (cm n _ hG.mo d0 _ d1 h1.mo d2 (.inl X28) l1) kr (λ_=>by kernel_rfl) λV12 W130 J12 N135=>pm f λ_ f=>?_
     have F9:=bw F4 F1
     refine cj (aV f ?_)
     cases sI F9
     exact⟨V12,mL,(N135.dropN 6),rfl⟩
    refine Y8 f N134 (OkX.ok (cm n _ hG.mo d0 _ d1 h1.mo d2 (.inr X29) l1)) λ_ V13 W131 J13 N136 so _ f=>?_
    obtain⟨c_6,rfl,D32⟩:=so
    obtain⟨Z28,P39,Z29,P40,Z30,P41,rfl,B18,B19,B20⟩:=TH0.opn D32
    refine ag rfl (ap 3 J13 N136 (ao rfl (λW132 N137=>?_) ?_))
    ·refine Z f (XO N137 1) λ_ f=>ag rfl (ap 3 J13 N137 (Y1 (v:=iL ((dt.length:Nat):Int)) rfl f rfl rfl (λ_ _=>by kernel_rfl) λ_ f=>ao rfl (λW133 N138=>?_) ?_))
     ·refine dM (⟨([]:Bs),(0:Int),aQ,aQ,([]:List TH0)⟩:TH0) 0 f (N138.toRow 2 61 15 Z2 P2 D2.mo) D2.mo (TH0.shutx Sli.nil Sli.nil Sli.nil) O1 λZ31 P42 L27 W134 N139 D33 _ f=>ag rfl (ap 2 J13 N139 (Y1 (v:=Pa (⟨b3,1,none⟩)) rfl f rfl rfl (λ_ _=>by kernel_rfl) λ_ f=>ao rfl (λW135 N140=>?_) ?_))
      ·obtain⟨Q19,P43,H12,hcap_12⟩:=N140.rowAddr 0 rfl (bn l2)
       refine Z f (XIo H12 l2) λ_ f=>ag rfl (ap 2 J13 N140 (ao rfl (λW136 N141=>?_) ?_))
       ·refine Wr f N141 H12 D32.mo dH l2 D33 λL28 W137 N142 D34 hl_17 _ f=>?_
        try simp only[sL] at hl_17 N142
        rw[hl_17] at N142
        have f:=f.sv 15 Z31 P42 hl_17
        refine ag rfl (ap 2 J13 N142 (ao rfl (λW138 N143=>?_) ?_))
        ·refine Wt f N143 1 1 (sL Z31 ((dt++[(⟨([]:Bs),(0:Int),aQ,aQ,([]:List TH0)⟩:TH0)]).set ((dt.length:Nat):Int).toNat X29) P42) λW139 N144 _ f=>ag rfl (ap 2 J13 N144 (dy λW140 N145=>az ?_))
         exact⟨_,(sI F4).symm,_,J13,Z31,P42,L28,D34,f.kp,N145.kr⟩
        exact al
       refine ao rfl (λW141 N146=>?_) ?_
       ·refine Wt f N146 1 1 (sL Z31 (dt++[(⟨([]:Bs),(0:Int),aQ,aQ,([]:List TH0)⟩:TH0)]) P42) λW142 N147 _ f=>ag rfl (ap 2 J13 N147 (ao rfl (λW143 N148=>?_) ?_))
        ·refine Wr f N148 H12 D32.mo dH l2 D33 λL29 W144 N149 D35 hl_18 _ f=>?_
         try simp only[sL] at hl_18 N149
         rw[hl_18] at N149
         have f:=f.sv 15 Z31 P42 hl_18
         refine ag rfl (ap 2 J13 N149 (dy λW145 N150=>az ?_))
         exact⟨_,(sI F4).symm,_,J13,Z31,P42,L29,D35,f.kp,N150.kr⟩
        exact al
       exact al
      refine ao rfl (λW146 N151=>?_) ?_
      ·refine Wt f N151 1 1 (sL Z31 (dt++[(⟨([]:Bs),(0:Int),aQ,aQ,([]:List TH0)⟩:TH0)]) P42) λW147 N152 _ f=>ag rfl (ap 2 J13 N152 (ao rfl (λW148 N153=>?_) ?_))
       ·obtain⟨Q20,P44,H13,hcap_13⟩:=N153.rowAddr 0 rfl (bn l2)
        refine Z f (XIo H13 l2) λ_ f=>ag rfl (ap 2 J13 N153 (ao rfl (λW149 N154=>?_) ?_))
        ·refine Wr f N154 H13 D32.mo dH l2 D33 λL30 W150 N155 D36 hl_19 _ f=>?_
         try simp only[sL] at hl_19 N155
         rw[hl_19] at N155
         have f:=f.sv 15 Z31 P42 hl_19
         refine ag rfl (ap 2 J13 N155 (dy λW151 N156=>az ?_))
         exact⟨_,(sI F4).symm,_,J13,Z31,P42,L30,D36,f.kp,N156.kr⟩
        exact al
       exact al
      exact al
     exact al
    exact al
   exact al
  exact al
 rintro a_104 W152 ⟨G1,rfl,V14,J14,Z32,P45,L31,D37,f,N157⟩
 dsimp only[Hp.en] at N157
 refine eN f rfl ?_
 cases sI F1
 have N162:=N157.pl [4,4,2,4,4]
 exact⟨_,rfl,_,_,mL,N162.kr,⟨Z1,P1,L1,Z32,P45,L31,Z3,P3,L3,Z4,P4,L4,rfl,rfl,D1.mo,D37,D3.mo,D4.mo⟩⟩
def ia (n:Nat) (X1:TE0×Bs×Bool) (X2:List aD) (K1:Int×List TD0×List TH0×List TA0×List TC0):Option (Lp (Int×List TD0×List TH0×List TA0×List TC0) (Sum (Int×Bs) (List TD0×List TH0×List TA0×List TC0))):=
    bif(decide (K1.1<((X2.length:Nat):Int))) then
     ((aB X2 K1.1).bind λX3=>
     (dz n X3.key).bind λX4=>
     (aT n X1.2.1 X3.key).bind λX5=>
     bif X4 then
      ((aT n X1.2.1 X3.key).bind λX6=>
      (dl n X3.key X3.v X6 K1.2.1 K1.2.2.1 K1.2.2.2.1 K1.2.2.2.2).bind λX7=>
      (match X7 with
      |.inl X8=>some (.br (.inl X8))
      |.inr X9=>aL (inR .i64 (K1.1+1))<|
       some (.nx (K1.1+1,X9.1,X9.2.1,X9.2.2.1,X9.2.2.2))))
     else
      some (.br (.inl ((120:Int),X5))))
    else
     some (.br (.inr (K1.2.1,K1.2.2.1,K1.2.2.2.1,K1.2.2.2.2)))
def gQ (n:Nat) (d0:Bs) (d1:Int) (cx:List TD0) (cy:List TH0) (cz:List TA0) (cA:List TC0) (d3_f_0:TE0) (d3_f_1:Bs):Option (Sum (Int×Bs) (List TD0×List TH0×List TA0×List TC0)):=
 (aX n d0 d3_f_0 d3_f_1).bind λX1=>
 bif !X1.2.2 then
  (some (.inr (cx,cy,cz,cA)))
 else
  bif(decide (X1.1.ab=5)) then
   (bif(decide (((X1.1.af.length:Nat):Int)≤d1)) then
    ((cW n X1.1).bind λX2=>
    (au (ia n X1 X2) n ((0:Int),cx,cy,cz,cA)).bind λQ2=>
    (match Q2 with
    |.inl G1=>some (.inl G1)
    |.inr G2=>some (.inr (G2.1,G2.2.1,G2.2.2.1,G2.2.2.2))))
   else
    some (.inl ((3:Int),X1.2.1)))
  else
   some (.inl ((120:Int),X1.2.1))
set_option maxRecDepth 20000 in
theorem kn (n:Nat) (M:Mem) (hG:GL M) (d0:Bs) (d1:Int) (lv:Nat) (cx:List TD0) (Z1:Oa) (P1:Nat) (L1:Lv) (D1:ae M (cx.map ba) L1) (cy:List TH0) (Z2:Oa) (P2:Nat) (L2:Lv) (D2:ae M (cy.map aH) L2) (cz:List TA0) (Z3:Oa) (P3:Nat) (L3:Lv) (D3:ae M (cz.map aY) L3) (cA:List TC0) (Z4:Oa) (P4:Nat) (L4:Lv) (D4:ae M (cA.map bc) L4) (ad3_f_0:Addr) (c3_f_0:Lv) (d3_f_0:TE0) (h3_f_0:Rep M (ai d3_f_0) c3_f_0) (q3_f_0: ∀j v,c3_f_0[j]? =some v→M.cell? (ad3_f_0.add j)=some v) (ad3_f_1:Addr) (c3_f_1:Lv) (d3_f_1:Bs) (h3_f_1:Rep M (Dat.str d3_f_1) c3_f_1) (q3_f_1: ∀j v,c3_f_1[j]? =some v→M.cell? (ad3_f_1.add j)=some v) (ad3:Addr) (q3: ∀j v,[(.func (.func 93) #[] #[Pa ad3_f_0,Pa ad3_f_1]:Value)][j]? =some v→M.cell? (ad3.add j)=some v) (r:Sum (Int×Bs) (List TD0×List TH0×List TA0×List TC0)) (hF:gQ n d0 d1 cx cy cz cA d3_f_0 d3_f_1=some r):OkXH Tryz.prog M [oC lv #[sL Z1 cx P1,sL Z2 cy P2,sL Z3 cz P3,sL Z4 cA P4] 41,rO 58 10 Z1 cx P1 L1,rO 61 15 Z2 cy P2 L2,rO 66 7 Z3 cz P3 L3,rO 68 8 Z4 cA P4 L4] 46 [S d0,iL d1,.func (.func 51) #[] #[pP lv],Pa ad3] 78 r (λr=>λM' E' v=>∃ (Z24:Oa) (P25:Nat) (L18:Lv) (Z25:Oa) (P26:Nat) (L19:Lv) (Z26:Oa) (P27:Nat) (L20:Lv) (Z27:Oa) (P28:Nat) (L21:Lv),v=.tuple #[]∧E'=[oC lv #[sL Z24 r.1 P25,sL Z25 r.2.1 P26,sL Z26 r.2.2.1 P27,sL Z27 r.t3 P28] 41,rO 58 10 Z24 r.1 P25 L18,rO 61 15 Z25 r.2.1 P26 L19,rO 66 7 Z26 r.2.2.1 P27 L20,rO 68 8 Z27 r.t3 P28 L21]∧ae M' (r.1.map ba) L18∧ae M' (r.2.1.map aH) L19∧ae M' (r.2.2.1.map aY) L20∧ae M' (r.t3.map bc) L21):=by
 unfold gQ at hF
 intro M1 hM0 w0 H w p0
 replace hG:=GL.mono hM0 hG
 replace D1:=ae.mono hM0 _ _ D1
 replace D2:=ae.mono hM0 _ _ D2
 replace D3:=ae.mono hM0 _ _ D3
 replace D4:=ae.mono hM0 _ _ D4
 replace h3_f_0:=Rep.mono hM0 _ _ h3_f_0
 replace q3_f_0:=λj v h=>hM0.cell (q3_f_0 j v h)
 replace h3_f_1:=Rep.mono hM0 _ _ h3_f_1
 replace q3_f_1:=λj v h=>hM0.cell (q3_f_1 j v h)
 replace q3:=λj v h=>hM0.cell (q3 j v h)
 obtain⟨Z5,P5,Z6,P6,rfl,B1,B2⟩:=TE0.opn h3_f_0
 obtain rfl:c3_f_1=[S d3_f_1]:=h3_f_1
 refine Re 59 Tryz.func46 rfl λa0 f0=>RR (Y7 f0 p0 q3 0 rfl λ_ f=>Y f 1 λ_ f=>?_)
 obtain⟨X1,l1,F1⟩:=bS hF
 refine Y8 f p0 (bf n _ hG d0 ad3_f_0 (lTE0 d3_f_0 Z5 P5 Z6 P6) d3_f_0 h3_f_0.mo (bF (q3_f_0) 0 rfl) ad3_f_1 [S d3_f_1] d3_f_1 (rfl) (bF (q3_f_1) 0 rfl) X1 l1) λ_ V1 W1 J1 N1 ef _ f=>?_
 obtain⟨dW,rfl,D5⟩:=ef
 obtain⟨Z7,P7,Z8,P8,rfl,B3,B4⟩:=TE0.opn D5
 refine Y f 4 λ_ f=>Y4 f N1 (.cells #[iB 0,bO false,iL 0,S [],Sn,Sn] 26 (0,0)) λQ1 W2 N2 _ f=>Wu f N2 0 0 (lTE0 X1.1 Z7 P7 Z8 P8) λW3 N3 _ f=>Ye f 2 λ_ f=>ah (RR (Ye f 2 λ_ f=>RcF f F1 (λB5 F2=>?_) λB5 F3=>?_))
 ·refine wp_ret (bl (oQ f rfl ?_))
  cases sI F2
  exact⟨_,rfl,_,_,J1,(N3.dropN 1).kr,⟨Z1,P1,L1,Z2,P2,L2,Z3,P3,L3,Z4,P4,L4,rfl,rfl,D1.mo,D2.mo,D3.mo,D4.mo⟩⟩
 refine St (RR (Y f 1 λ_ f=>Z f (XO N3 0) λ_ f=>Y f 2 λ_ f=>?_))
 rcases cE F3 with⟨B6,F4⟩|⟨B6,F19⟩
 ·have f:=f.st 23 (cB B6)
  refine Y9 f N3 (bA _ (120:Int) X1.2.1) λW4 N4 _ f=>eT (RR (Y f 1 λ_ f=>Z f (XO N4 0) λ_ f=>Y f 4 λ_ f=>?_))
  rcases cE F4 with⟨B7,F5⟩|⟨B7,F18⟩
  ·have f:=f.st 30 (cB B7)
   refine Y9 f N4 (bA _ (3:Int) X1.2.1) λW5 N5 _ f=>eT (RR (Z f (XO N5 0) λ_ f=>?_))
   obtain⟨X2,l2,F6⟩:=bS F5
   refine Ch f N5 (eM n _ hG.mo _ X1.1 D5.mo X2 l2) λ_ V2 mG W6 J2 N6 iK _ f=>?_
   obtain⟨Z9,P9,L5,rfl,rfl,D6⟩:=iK
   refine Ye f 2 λ_ f=>wp_block ?_
   have N13:=N6.pl [2,2,2,6,6,6,6]
   obtain⟨Q2,ce,F7⟩:=bS F6
   refine wp_mono (Q:=λe a w=>(∃G1,e=.panic (flawE 78 G1)∧Q2=.inl G1∧∃V7,V2.le V7∧Frm 59 [] a∧Hp w0 V7 (H) w)∨(e=.exit 0∧(∃G2,Q2=.inr G2∧∃V8,V2.le V8∧∃Z20 P21 L14 Z21 P22 L15 Z22 P23 L16 Z23 P24 L17,ae V8 (G2.1.map ba) L14∧ae V8 (G2.2.1.map aH) L15∧ae V8 (G2.2.2.1.map aY) L16∧ae V8 (G2.t3.map bc) L17∧Frm 59 [] a∧Hp w0 V8 ((rO 58 10 Z20 G2.1 P21 L14)::(rO 61 15 Z21 G2.2.1 P22 L15)::(rO 66 7 Z22 G2.2.2.1 P23 L16)::(rO 68 8 Z23 G2.t3 P24 L17)::setE (setE (setE (setE (N13.en.drop 4) 2 0 [sL Z20 G2.1 P21]) 2 1 [sL Z21 G2.2.1 P22]) 2 2 [sL Z22 G2.2.2.1 P23]) 2 3 [sL Z23 G2.t3 P24]) w))) (aZ (σ:=(Int×List TD0×List TH0×List TA0×List TC0)×Oa×Nat×Lv×Oa×Nat×Lv×Oa×Nat×Lv×Oa×Nat×Lv) (λx=>match x with|(I1,K1,Z10,P10,L6,Z11,P11,L7,Z12,P12,L8,Z13,P13,L9)=>(((36,iL K1.1)::kpL [2,8,34,35] f.fr),((rO 58 10 Z10 K1.2.1 P10 L6)::(rO 61 15 Z11 K1.2.2.1 P11 L7)::(rO 66 7 Z12 K1.t3.1 P12 L8)::(rO 68 8 Z13 K1.t4 P13 L9)::setE (setE (setE (setE (N13.en.drop 4) 2 0 [sL Z10 K1.2.1 P10]) 2 1 [sL Z11 K1.2.2.1 P11]) 2 2 [sL Z12 K1.t3.1 P12]) 2 3 [sL Z13 K1.t4 P13]),λMM=>au (ia n X1 X2) I1 K1=some Q2∧ae MM (K1.2.1.map ba) L6∧ae MM (K1.2.2.1.map aH) L7∧ae MM (K1.t3.1.map aY) L8∧ae MM (K1.t4.map bc) L9)) (n,((0:Int),cx,cy,cz,cA),Z1,P1,L1,Z2,P2,L2,Z3,P3,L3,Z4,P4,L4) (f.kp) N13.kr ⟨ce,D1.mo,D2.mo,D3.mo,D4.mo⟩ ?_) ?_
   ·rintro⟨I1,K1,Z10,P10,L6,Z11,P11,L7,Z12,P12,L8,Z13,P13,L9⟩ V3 _ W7 J3 gL f N14
    obtain⟨ci,D7,D8,D9,D10⟩:=gL
    dsimp only[Hp.en] at N14
    obtain⟨I2,lT,rfl,bg,T1⟩:=aK ci
    unfold ia at bg
    refine RR (Ye f 1 λ_ f=>ah (RcF f bg (λB8 F8=>?_) λB8 F17=>?_))
    ·refine St (ah (wp_block (RR ?_)))
     obtain⟨X3,l3,F9⟩:=bS F8
     obtain⟨Q3,P14,H1,mJ⟩:=N14.rowAddr 4 rfl (bn l3)
     refine Z f (XIo H1 l3) λ_ f=>?_
     obtain⟨ie,-,D11,R1⟩:=ae.get K1.1.toNat (dv em) (ae.mono J3 _ _ D6) (ig l3)
     obtain⟨Z14,P15,Z15,P16,rfl,B9,B10⟩:=aD.opn D11
     refine Z f (XR N14 4 H1 R1 0) λ_ f=>Y4 f N14 (.cells #[S [],iB 0,bO false,iL 0,S [],Sn,Sn] 99 (0,0)) λQ4 W8 N15 _ f=>Wu f N15 0 0 [S X3.key,iB X3.v.ab,bO X3.v.an,iL X3.v.ak,S X3.v.aa,sL Z14 X3.v.ac P15,sL Z15 X3.v.af P16] λW9 N16 _ f=>eT (ah (cu 0 [(0,true),(1,true),(2,true),(3,true),(4,true),(5,true),(6,true),(7,false)] N16 (Y0 default f 1 λ_ f=>bG f kr kr rfl rfl (λ_ pq=>XO pq 0) λ_ f=>?_)))
     obtain⟨X4,l4,F10⟩:=bS F9
     refine eR (v:=bO X4) f kr kr rfl rfl (λ_=>by kernel_rfl) (dK n _ X3.key X4 l4) λ_ f=>Y0 default f 2 λ_ f=>bG f kr kr rfl rfl (λ_ pq=>XO pq 0) λ_ f=>?_
     obtain⟨X5,l5,F11⟩:=bS F10
     refine eR (v:=S X5) f kr kr rfl rfl (λ_=>by kernel_rfl) (aR n _ hG.mo X1.2.1 X3.key X5 l5) λ_ f=>bI λW12 N19=>?_
     rcases cE F11 with⟨B11,F12⟩|⟨B11,F16⟩
     ·have f:=f.st 42 (cB B11)
      refine Y9 f N19 (bA _ (120:Int) X5) λW13 N20 _ f=>ag rfl (bL 0 mL N20 (dx rfl λW14 N21=>az ?_))
      have N29:=N21.pl [6,6,2,7,7,7,7,7]
      refine cu 5 [(0,true),(1,true),(2,true),(3,true),(4,true),(5,true),(6,true),(7,true),(8,true),(9,false)] N29 (Y0 default f 2 λ_ f=>bG f kr kr rfl rfl (λ_ pq=>XO pq 0) λ_ f=>Y0 default f 1 λ_ f=>bG f kr kr rfl rfl (λ_ pq=>XO pq 0) λ_ f=>Y0 default f 2 λ_ f=>bG f kr kr rfl rfl (λ_ pq=>XO pq 0) λ_ f=>?_)
      obtain⟨X6,l6,F13⟩:=bS F12
      refine eR (v:=S X6) f kr kr rfl rfl (λ_=>by kernel_rfl) (aR n _ hG.mo X1.2.1 X3.key X6 l6) λ_ f=>bI λW16 N31=>?_
      obtain⟨X7,l7,F14⟩:=bS F13
      rcases X7 with X8|X9
      ·have N37:=N31.pl [3,3,3,3,4]
       refine Cx f N37 (kX n _ hG.mo X3.key _ X3.v (TE0.shutx B9 B10) X6 lv K1.2.1 Z10 P10 L6 D7 K1.2.2.1 Z11 P11 L7 D8 K1.t3.1 Z12 P12 L8 D9 K1.t4 Z13 P13 L9 D10 (.inl X8) l7) λV4 W17 J4 N32=>pm f λ_ f=>oP (cj (cj ?_))
       cases sI F14
       exact .inl ⟨_,rfl,(sI T1).symm,_,mL,f.kp,(N32.dropN 3).kr⟩
      have N43:=N31.pl [3,3,3,3,4]
      refine Ch f N43 (OkXH.ok (kX n _ hG.mo X3.key _ X3.v (TE0.shutx B9 B10) X6 lv K1.2.1 Z10 P10 L6 D7 K1.2.2.1 Z11 P11 L7 D8 K1.t3.1 Z12 P12 L8 D9 K1.t4 Z13 P13 L9 D10 (.inr X9) l7)) λ_ V5 rB W18 J5 N38 mi _ f=>?_
      obtain⟨Z16,P17,L10,Z17,P18,L11,Z18,P19,L12,Z19,P20,L13,rfl,rfl,D12,D13,D14,D15⟩:=mi
      refine ag rfl (bL 5 J5 N38 (dx rfl λW19 N44=>ec (az (ay ?_))))
      obtain⟨O1,F15⟩:=nS F14
      refine Y f 1 λ_ f=>?_
      have f:=f.st 58 (iW O1)
      refine Y f 1 λ_ f=>ag rfl ?_
      have N54:=N44.pl [7,7,6,6,6,6,7]
      refine az ?_
      cases sI F15
      exact⟨⟨_,_,Z16,P17,L10,Z17,P18,L11,Z18,P19,L12,Z19,P20,L13⟩,Nat.lt_succ_self _,_,mL,⟨T1,D12,D13,D14,D15⟩,f.kp,(N54.dropN 1).kr⟩
     have f:=f.st 42 (cB B11)
     refine aN f N19 (bz _ (120:Int) X5) kr (λ_=>by kernel_rfl) λV6 W20 J6 N45=>pm f λ_ f=>cj (oP (cj (cj ?_)))
     cases sI F16
     exact .inl ⟨_,rfl,(sI T1).symm,_,mL,f.kp,(N45.dropN 8).kr⟩
    refine wp_exit (dJ (dJ ?_))
    cases sI F17
    exact .inr ⟨rfl,_,(sI T1).symm,_,J3,Z10,P10,L6,Z11,P11,L7,Z12,P12,L8,Z13,P13,L9,D7,D8,D9,D10,f.kp,N14.kr⟩
   rintro _ _ W23 (⟨G1,rfl,rfl,V7,J7,f,N46⟩|⟨rfl,G2,rfl,V8,J8,Z20,P21,L14,Z21,P22,L15,Z22,P23,L16,Z23,P24,L17,D16,D17,D18,D19,f,N47⟩)
   ·refine oP (aV f ?_)
    cases sI F7
    exact⟨V7,mL,N46,rfl⟩
   refine jV (eN f rfl ?_)
   cases sI F7
   have N61:=N47.pl [3,3,3,3,6,6,6]
   exact⟨_,rfl,_,_,mL,(N61.dropN 2).kr,⟨Z20,P21,L14,Z21,P22,L15,Z22,P23,L16,Z23,P24,L17,rfl,rfl,D16,D17,D18,D19⟩⟩
  have f:=f.st 30 (cB B7)
  refine aN f N4 (bz _ (3:Int) X1.2.1) kr (λ_=>by kernel_rfl) λV9 W24 J9 N62=>cj (aV f ?_)
  cases sI F18
  exact⟨V9,mL,(N62.dropN 6),rfl⟩
 have f:=f.st 23 (cB B6)
 refine aN f N3 (bz _ (120:Int) X1.2.1) kr (λ_=>by kernel_rfl) λV10 W25 J10 N63=>cj (aV f ?_)
 cases sI F19
 exact⟨V10,mL,(N63.dropN 6),rfl⟩
def eZ (n:Nat) (d0:TE0) (d1:Bs) (d2:Bool):Option (Sum (Int×Bs) Bs):=
 bif !d2 then
  (some (.inr d0.aa))
 else
  (eE n d0).bind λX1=>
  bif X1 then
   (some (.inr d0.aa))
  else
   some (.inl ((120:Int),d1))
theorem gz (n:Nat) (M:Mem) (hG:GL M) (c0:Lv) (d0:TE0) (h0:Rep M (ai d0) c0) (d1:Bs) (d2:Bool) (r:Sum (Int×Bs) Bs) (hF:eZ n d0 d1 d2=some r):OkX Tryz.prog M 99 [.agg c0.toArray,S d1,bO d2] 78 r (λr=>λ_ v=>v=S r):=by
 unfold eZ at hF
 intro M1 hM0 w0 H w p0
 replace hG:=GL.mono hM0 hG
 replace h0:=Rep.mono hM0 _ _ h0
 obtain⟨Z1,P1,Z2,P2,rfl,B1,B2⟩:=TE0.opn h0
 refine Re 17 Tryz.func99 rfl λa0 f0=>RR (Y5 (cs:=(aTE0 d0 Z1 P1 Z2 P2)) (T:=26) f0 p0 λQ1 V1 W1 J1 R1 N1 _ f=>?_)
 have R2:=aU R1
 refine Ye f 1 λ_ f=>RR (Y f 3 λ_ f=>?_)
 rcases cE hF with⟨B3,F1⟩|⟨B3,F2⟩
 ·have f:=f.st 9 (cB B3)
  refine Y f 4 λ_ f=>Y9 f N1 (bA _ (120:Int) d1) λW2 N2 _ f=>eT (RR (Y f 1 λ_ f=>Y7 f N2 R2 3 rfl λ_ f=>Ye f 1 λ_ f=>wp_ret (am f rfl (Lk 6 (S d0.aa)) ?_)))
  cases sI F1
  exact⟨_,rfl,_,J1,N2.kr,rfl⟩
 have f:=f.st 9 (cB B3)
 refine Z f (XK N1 R2 0) λ_ f=>?_
 obtain⟨X1,l1,F3⟩:=bS F2
 refine Y9 f N1 (gw n _ hG.mo _ d0 h0.mo X1 l1) λW3 N3 _ f=>Y f 2 λ_ f=>?_
 rcases cE F3 with⟨B4,F4⟩|⟨B4,F5⟩
 ·have f:=f.st 12 (cB B4)
  refine Y9 f N3 (bA _ (120:Int) d1) λW4 N4 _ f=>eT (RR (Y f 1 λ_ f=>Y7 f N4 R2 3 rfl λ_ f=>Ye f 1 λ_ f=>wp_ret (am f rfl (Lk 6 (S d0.aa)) ?_)))
  cases sI F4
  exact⟨_,rfl,_,J1,N4.kr,rfl⟩
 have f:=f.st 12 (cB B4)
 refine aN f N3 (bz _ (120:Int) d1) kr (λ_=>by kernel_rfl) λV2 W5 J2 N5=>cj (aV f ?_)
 cases sI F5
 exact⟨V2,mL,N5,rfl⟩
def eK (n:Nat) (d0:TE0) (d1:Bs) (K1:List Bs×Int):Option (Lp (List Bs×Int) (Sum (Int×Bs) (List Bs))):=
    bif(decide (K1.2<((d0.ac.length:Nat):Int))) then
     ((aB d0.ac K1.2).bind λX2=>
     (eE n X2).bind λX3=>
     (er n d1 K1.2).bind λX4=>
     bif X3 then
      ((cb n K1.1 X2.aa).bind λX5=>
      (er n d1 K1.2).bind λX6=>
      bif !X5 then
       (aL ((K1.1.length+1)*16≤140737488355328)<|
       aL (inR .i64 (K1.2+1))<|
       some (.nx (K1.1++[X2.aa],K1.2+1)))
      else
       some (.br (.inl ((41:Int),X6))))
     else
      some (.br (.inl ((120:Int),X4))))
    else
     some (.br (.inr K1.1))
def ji (n:Nat) (d0:TE0) (d1:Bs) (d2:Bool):Option (Sum (Int×Bs) (List Bs)):=
 bif !d2 then
  (some (.inr ([]:List Bs)))
 else
  (eE n d0).bind λX1=>
  bif X1 then
   (some (.inr ([d0.aa]:List Bs)))
  else
   bif(decide (d0.ab=4)) then
    (bif(decide (((d0.ac.length:Nat):Int)≤8)) then
     ((au (eK n d0 d1) n (([]:List Bs),(0:Int))).bind λQ3=>
     (match Q3 with
     |.inl G1=>some (.inl G1)
     |.inr G2=>some (.inr G2)))
    else
     some (.inl ((3:Int),d1)))
   else
    some (.inl ((120:Int),d1))
set_option maxRecDepth 20000 in
theorem mb (n:Nat) (M:Mem) (hG:GL M) (c0:Lv) (d0:TE0) (h0:Rep M (ai d0) c0) (d1:Bs) (d2:Bool) (r:Sum (Int×Bs) (List Bs)) (hF:ji n d0 d1 d2=some r):OkX Tryz.prog M 100 [.agg c0.toArray,S d1,bO d2] 78 r (λr=>λM' v=>∃ (A0:Oa) (k0:Nat),v=sL A0 r k0∧Sli M' 1 Dat.str A0 k0 r):=by
 unfold ji at hF
 intro M1 hM0 w0 H w p0
 replace hG:=GL.mono hM0 hG
 replace h0:=Rep.mono hM0 _ _ h0
 obtain⟨Z1,P1,Z2,P2,rfl,B1,B2⟩:=TE0.opn h0
 refine Re 59 Tryz.func100 rfl λa0 f0=>RR (Y5 (cs:=(aTE0 d0 Z1 P1 Z2 P2)) (T:=26) f0 p0 λQ1 V1 W1 J1 R1 N1 _ f=>?_)
 have R2:=aU R1
 refine Ye f 1 λ_ f=>ah (wp_block (RR (Ye f 3 λ_ f=>RcF f hF (λB3 F1=>?_) λB3 F2=>?_)))
 ·refine RR (Ye f 1 λ_ f=>wp_ret (eu (bl (am f rfl (Lk 6 Sn) ?_))))
  cases sI F1
  exact⟨_,rfl,_,J1,N1.kr,⟨none,0,rfl,Sli.nil⟩⟩
 refine RR (Z f (XK N1 R2 0) λ_ f=>?_)
 obtain⟨X1,l1,F3⟩:=bS F2
 refine Y9 f N1 (gw n _ hG.mo _ d0 h0.mo X1 l1) λW2 N2 _ f=>Ye f 1 λ_ f=>RcF f F3 (λB4 F4=>?_) λB4 F5=>?_
 ·refine RR (Y f 1 λ_ f=>Y7 f N2 R2 3 rfl λ_ f=>aE (k:=1) (c:=1) f N2 (.cells #[S d0.aa] 9 (0,0)) kr (λ_=>by kernel_rfl) λQ2 W3 N3 _ f=>Ye f 1 λ_ f=>wp_ret (eu (bl ?_)))
  obtain⟨Z3,P3,V2,H1,J2,N4,B5⟩:=N3.litS (f:=Dat.str) 1 bH (dD ([d0.aa]:List Bs))
  have f:=f.st 6 (H1)
  refine am f rfl (Lk 6 (sL Z3 ([d0.aa]:List Bs) P3)) ?_
  cases sI F4
  exact⟨_,rfl,_,mL,N4.kr,⟨Z3,P3,rfl,B5⟩⟩
 refine wp_skip (ec (az (RR (Y f 1 λ_ f=>Y7 f N2 R2 0 rfl λ_ f=>Y f 2 λ_ f=>?_))))
 rcases cE F5 with⟨B6,F6⟩|⟨B6,F23⟩
 ·have f:=f.st 20 (cB B6)
  refine Y9 f N2 (bA _ (120:Int) d1) λW4 N5 _ f=>eT (RR (Y f 1 λ_ f=>Y7 f N5 R2 4 rfl λ_ f=>Y f 3 λ_ f=>?_))
  rcases cE F6 with⟨B7,F7⟩|⟨B7,F22⟩
  ·have f:=f.st 26 (cB B7)
   refine Y9 f N5 (bA _ (3:Int) d1) λW5 N6 _ f=>eT (ah (RR (Y f 1 λ_ f=>Y7 f N6 R2 4 rfl λ_ f=>Ye f 2 λ_ f=>wp_block ?_)))
   obtain⟨Z4,P4,H2,N7⟩:=N6.nilD 9 1 Bs
   have f:=f.st 6 (H2)
   have D1:ae V1 (([]:List Bs).map Dat.str) []:=rfl
   obtain⟨Q3,ce,F8⟩:=bS F7
   refine wp_mono (Q:=λe a w=>(∃G1,e=.panic (flawE 78 G1)∧Q3=.inl G1∧∃V8,V1.le V8∧Frm 59 [] a∧Hp w0 V8 (H) w)∨(e=.exit 1∧(∃G2,Q3=.inr G2∧∃V9,V1.le V9∧∃Z10 P10 L3,ae V9 (G2.map Dat.str) L3∧Frm 59 [(6,sL Z10 G2 P10)] a∧Hp w0 V9 ((rO 9 1 Z10 G2 P10 L3)::H) w))) (aZ (σ:=(List Bs×Int)×Oa×Nat×Lv) (λx=>match x with|(I1,K1,Z5,P5,L1)=>(((6,sL Z5 K1.1 P5)::(32,iL K1.2)::kpL [1,30,31] f.fr),((rO 9 1 Z5 K1.1 P5 L1)::H),λMM=>au (eK n d0 d1) I1 K1=some Q3∧ae MM (K1.1.map Dat.str) L1)) (n,(([]:List Bs),(0:Int)),Z4,P4,[]) (f.kp) N7.kr ⟨ce,D1⟩ ?_) ?_
   ·rintro⟨I1,K1,Z5,P5,L1⟩ V3 _ W6 J3 gL f N8
    obtain⟨ci,D2⟩:=gL
    obtain⟨I2,lT,rfl,bg,T1⟩:=aK ci
    unfold eK at bg
    refine RR (Ye f 1 λ_ f=>ah (RcF f bg (λB8 F9=>?_) λB8 F21=>?_))
    ·refine St (ah (wp_block (RR (Y f 1 λ_ f=>?_))))
     obtain⟨X2,l2,F10⟩:=bS F9
     obtain⟨C1,dW,jC,D3,R3⟩:=N8.at_ B1 l2
     obtain⟨Z6,P6,Z7,P7,rfl,B9,B10⟩:=TE0.opn D3
     refine Z f (XI jC l2) λ_ f=>Z f (XK N8 R3 0) λ_ f=>Y4 f N8 (.cells #[iB 0,bO false,iL 0,S [],Sn,Sn] 26 (0,0)) λQ4 W7 N9 _ f=>Y f 1 λ_ f=>Wu f N9 0 0 (lTE0 X2 Z6 P6 Z7 P7) λW8 N10 _ f=>eT (RR (Z f (XO N10 0) λ_ f=>?_))
     obtain⟨X3,l3,F11⟩:=bS F10
     refine Y9 f N10 (gw n _ hG.mo _ X2 D3.mo X3 l3) λW9 N11 _ f=>Y f 2 λ_ f=>?_
     obtain⟨X4,l4,F12⟩:=bS F11
     refine Y9 f N11 (gA n _ hG.mo d1 K1.2 X4 l4) λW10 N12 _ f=>?_
     rcases cE F12 with⟨B11,F13⟩|⟨B11,F20⟩
     ·have f:=f.st 38 (cB B11)
      refine Y9 f N12 (bA _ (120:Int) X4) λW11 N13 _ f=>eT (RR (Y f 2 λ_ f=>Z f (XO N13 0) λ_ f=>?_))
      have N14:=N13.pl [1]
      obtain⟨V4,Z8,P8,J4,H3,N15,B12,kc⟩:=N14.lend (f:=Dat.str) (xs:=K1.1) bH D2
      have f:=f.st 6 (H3)
      have f:=f.st 43 (H3)
      obtain⟨X5,l5,F14⟩:=bS F13
      refine Y9 f N15 (gO n _ Z8 P8 K1.1 B12 X2.aa X5 l5) λW12 N16 _ f=>?_
      obtain⟨V5,J5,N17⟩:=kc _ _ _ (mR _) N16
      have f:=f.st 6 (H3.symm)
      have f:=f.st 43 (H3.symm)
      refine Y f 3 λ_ f=>?_
      obtain⟨X6,l6,F15⟩:=bS F14
      refine Y9 f N17 (gA n _ hG.mo d1 K1.2 X6 l6) λW13 N18 _ f=>?_
      rcases cE F15 with⟨B13,F16⟩|⟨B13,F19⟩
      ·have f:=f.st 47 (cB B13)
       refine Y9 f N18 (bA _ (41:Int) X6) λW14 N19 _ f=>eT (ay (Y f 2 λ_ f=>Z f (XO N19 1) λ_ f=>aE (k:=1) (c:=1) f N19 (.cells #[S X2.aa] 9 (0,0)) kr (λ_=>by kernel_rfl) λQ5 W15 N20 _ f=>?_))
       obtain⟨O1,F17⟩:=nS F16
       refine dM X2.aa 0 f (N20.toRow 1 9 1 Z5 P5 D2.mo) D2.mo rfl O1 λZ9 P9 L2 W16 N21 D4 _ f=>Y f 1 λ_ f=>ag rfl (ec (az (ay ?_)))
       obtain⟨O2,F18⟩:=nS F17
       refine Y f 1 λ_ f=>?_
       have f:=f.st 57 (iW O2)
       refine Y f 1 λ_ f=>ag rfl ?_
       have N26:=N21.pl [1]
       refine az ?_
       cases sI F18
       exact⟨⟨_,_,Z9,P9,L2⟩,Nat.lt_succ_self _,_,mL,⟨T1,D4⟩,f.kp,(N26.dropN 1).kr⟩
      have f:=f.st 47 (cB B13)
      refine aN f N18 (bz _ (41:Int) X6) kr (λ_=>by kernel_rfl) λV6 W17 J6 N22=>cj (oP (cj (cj ?_)))
      cases sI F19
      exact .inl ⟨_,rfl,(sI T1).symm,_,mL,f.kp,(N22.dropN 2).kr⟩
     have f:=f.st 38 (cB B11)
     refine aN f N12 (bz _ (120:Int) X4) kr (λ_=>by kernel_rfl) λV7 W18 J7 N23=>cj (oP (cj (cj ?_)))
     cases sI F20
     exact .inl ⟨_,rfl,(sI T1).symm,_,mL,f.kp,(N23.dropN 2).kr⟩
    refine wp_exit (dJ (dJ ?_))
    cases sI F21
    exact .inr ⟨rfl,_,(sI T1).symm,_,J3,Z5,P5,L1,D2,f.kp,N8.kr⟩
   rintro _ _ W21 (⟨G1,rfl,rfl,V8,J8,f,N24⟩|⟨rfl,G2,rfl,V9,J9,Z10,P10,L3,D5,f,N25⟩)
   ·refine oP (cj (aV f ?_))
    cases sI F8
    exact⟨V8,mL,N24,rfl⟩
   refine jV (az (RR (Ye f 2 λ_ f=>wp_ret ?_)))
   obtain⟨Z11,P11,V10,H4,J10,N27,B14⟩:=N25.rowSliK (f:=Dat.str) (xs:=G2) 0 9 Z10 P10 bH D5
   have f:=f.st 6 (H4)
   refine am f rfl (Lk 6 (sL Z11 G2 P11)) ?_
   cases sI F8
   exact⟨_,rfl,_,mL,N27.kr,⟨Z11,P11,rfl,B14⟩⟩
  have f:=f.st 26 (cB B7)
  refine aN f N5 (bz _ (3:Int) d1) kr (λ_=>by kernel_rfl) λV11 W22 J11 N28=>cj (aV f ?_)
  cases sI F22
  exact⟨V11,mL,N28,rfl⟩
 have f:=f.st 20 (cB B6)
 refine aN f N2 (bz _ (120:Int) d1) kr (λ_=>by kernel_rfl) λV12 W23 J12 N29=>cj (aV f ?_)
 cases sI F23
 exact⟨V12,mL,N29,rfl⟩
def gB (n:Nat) (d1:Bs) (X1:List aD) (K1:List TF0×Int):Option (Lp (List TF0×Int) (Sum (Int×Bs) (List TF0))):=
    bif(decide (K1.2<((X1.length:Nat):Int))) then
     ((aB X1 K1.2).bind λX2=>
     (aT n d1 X2.key).bind λX3=>
     (dz n X2.key).bind λX4=>
     bif X4 then
      ((jj n X2.v X3).bind λX5=>
      (match X5 with
      |.inl X6=>some (.br (.inl X6))
      |.inr X7=>aL ((K1.1.length+1)*104≤140737488355328)<|
       aL (inR .i64 (K1.2+1))<|
       some (.nx (K1.1++[(⟨X2.key,X7⟩:TF0)],K1.2+1))))
     else
      some (.br (.inl ((120:Int),X3))))
    else
     some (.br (.inr K1.1))
def jv (n:Nat) (d0:TE0) (d1:Bs):Option (Sum (Int×Bs) (List TF0)):=
 bif(decide (d0.ab=5)) then
  ((cW n d0).bind λX1=>
  (au (gB n d1 X1) n (([]:List TF0),(0:Int))).bind λQ2=>
  (match Q2 with
  |.inl G1=>some (.inl G1)
  |.inr G2=>some (.inr G2)))
 else
  some (.inl ((120:Int),d1))
end Go.Proofs.YtkopljikappieaaGreatDoor
end
